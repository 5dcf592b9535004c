import PyProof.Rows.All
import HandS.Exc
import Wide.All
import OpenK.AllK
import Wide.FinOn
import HandS.ForMost
import HandS.Walk
import HandS.Zip
import HandS.Flow
import HandS.IsInst
import HandS.Style
import HandS.TupAny
import HandS.TupMul
import HandS.Star
import PyProof.ListMulRoad
import PyProof.FactsAll.tuple_2
import PyProof.ReprRoads
import HandS.Zip0
import KE.GoesMore
import KE.GoesEnum
import HandS.Conv
import HandS.Dict
import HandS.RaiseMore
import HandS.Text
import HandS.SortInts
import HandS.SetFor
import PyProof.Rows.SetFrom
import HandS.Strs
import HandS.ExcOwn
import HandS.ExcInit
import HandS.ExcField
import HandS.ExcIs
import HandS.WordsExc
import KE.KExcIs
import HandS.StrMore
import PyProof.StrOps2
import PyProof.FactsAll.list_0
import PyProof.FactsAll.list_3
import HandS.TryOnly
import HandS.Property
import KE.KExcInit
import KE.KxField
import HandS.FStr
import PyProof.FString3
import KE.KCallOwn
import HandS.NoneIn
import HandS.Words
import PyProof.AutoIntOps
import HandS.TupSets
import KE.DataMinMax
import KE.SortData
import PyProof.RulesMatch
import KE.KStar
import HandS.Defaults
import PySem.Challenge.RW_darkdrawers_k53_whole_things_more_and_le
set_option Elab.async false
set_option linter.all false
set_option maxRecDepth 100000
set_option maxHeartbeats 4000000
namespace DD
open PySem PySem.Spec PyProof.Rows L2
abbrev D := PyData
/-- an error: its class, its fields -/
structure Exn where
  cls : Str
  fs : List (Str × D)
/-- what may change: an instance (its class's name, its fields), a list -/
inductive Cell where
  | ins (c : Str) (fs : List (Str × D))
  | lst (ds : List D)
/-- the world of a mirror: the number of draws (at most), the things that may change -/
structure Wd where
  n : Nat
  ob : List Cell
instance {n : Nat} : OfNat Wd n := ⟨⟨n, []⟩⟩
/-- a mirror's monad: what holds behind a run that begins at n -/
class Mo (m : Type → Type) extends Monad m where
  sat : {α : Type} → m α → Wd → (α → Wd → Prop) → (Exn → Wd → Prop) → Prop
  lift : {α : Type} → Option α → m α
  sat_pure : ∀ {α : Type} {a : α} {n : Wd} {φ : α → Wd → Prop} {ξ : Exn → Wd → Prop}, sat (pure a) n φ ξ → φ a n
  sat_bind : ∀ {α β : Type} {x : m α} {f : α → m β} {n : Wd} {φ : β → Wd → Prop} {ξ : Exn → Wd → Prop}, sat (x >>= f) n φ ξ → sat x n (fun a n' => sat (f a) n' φ ξ) ξ
  sat_lift : ∀ {α : Type} {o : Option α} {n : Wd} {φ : α → Wd → Prop} {ξ : Exn → Wd → Prop}, sat (lift o) n φ ξ → ∃ a, o = some a ∧ φ a n
instance : Mo Option where
  sat := fun o n φ _ => n.ob = [] ∧ ∃ a, o = some a ∧ φ a n
  lift := fun o => o
  sat_pure := fun h => by obtain ⟨_, a, e, q⟩ := h; cases e; exact q
  sat_bind := fun {α β x f n φ ξ} h => by
    obtain ⟨hn, b, e, q⟩ := h
    cases x with
    | none => cases e
    | some a => exact ⟨hn, a, rfl, hn, b, e, q⟩
  sat_lift := fun h => h.2
/-- the wishes themselves as a mirror (no error leaves; nothing else changes) -/
def W (α : Type) : Type := Nat → (α → Nat → Prop) → Prop
instance : Mo W where
  pure := fun a n φ => φ a n
  bind := fun x f n φ => x n (fun a n' => f a n' φ)
  sat := fun w s φ _ => s.ob = [] ∧ w s.n (fun a n' => φ a ⟨n', []⟩)
  lift := fun o n φ => ∃ a, o = some a ∧ φ a n
  sat_pure := fun {α a n φ ξ} h => by
    obtain ⟨h1, h2⟩ := h
    obtain ⟨k, ob⟩ := n
    cases h1
    exact h2
  sat_bind := fun {α β x f n φ ξ} h => by
    obtain ⟨h1, h2⟩ := h
    refine ⟨h1, ?_⟩
    have e : (fun a (n' : Nat) => (⟨n', []⟩ : Wd).ob = [] ∧ f a n' (fun b n' => φ b ⟨n', []⟩)) = fun a n' => f a n' (fun b n' => φ b ⟨n', []⟩) := by
      funext a n'
      exact propext ⟨fun h => h.2, fun h => ⟨rfl, h⟩⟩
    show x n.n (fun a (n' : Nat) => (⟨n', []⟩ : Wd).ob = [] ∧ f a n' (fun b n' => φ b ⟨n', []⟩))
    rw [e]
    exact h2
  sat_lift := fun {α o n φ ξ} h => by
    obtain ⟨h1, a, e, h2⟩ := h
    obtain ⟨k, ob⟩ := n
    cases h1
    exact ⟨a, e, h2⟩
/-- a mirror that sees no thing that may change, where there is none -/
class Plain (m : Type → Type) [Mo m] : Prop where
  plain : ∀ {α : Type} {x : m α} {n : Wd} {φ : α → Wd → Prop} {ξ : Exn → Wd → Prop}, Mo.sat x n φ ξ → n.ob = [] ∧ Mo.sat x n (fun a n' => n'.ob = [] ∧ φ a n') (fun e n' => n'.ob = [] ∧ ξ e n')
instance : Plain Option := ⟨fun ⟨h, a, e, q⟩ => ⟨h, h, a, e, h, q⟩⟩
instance : Plain W := ⟨fun {α x n φ ξ} h => by
  obtain ⟨h1, h2⟩ := h
  refine ⟨h1, h1, ?_⟩
  have e : (fun (a : α) (n' : Nat) => (⟨n', []⟩ : Wd).ob = [] ∧ φ a ⟨n', []⟩) = fun a n' => φ a ⟨n', []⟩ := by
    funext a n'
    exact propext ⟨fun h => h.2, fun h => ⟨rfl, h⟩⟩
  show x n.n (fun a (n' : Nat) => (⟨n', []⟩ : Wd).ob = [] ∧ φ a ⟨n', []⟩)
  rw [e]
  exact h2⟩
/-- no error comes out of it -/
class Calm (m : Type → Type) [Mo m] : Prop where
  calm : ∀ {α : Type} {x : m α} {n : Wd} {φ : α → Wd → Prop} {ξ ξ' : Exn → Wd → Prop}, Mo.sat x n φ ξ → Mo.sat x n φ ξ'
instance : Calm Option := ⟨fun h => h⟩
instance : Calm W := ⟨fun h => h⟩
/-! ### data in the heap -/
def keyD : Key → D
  | .inl i => .int i
  | .inr x => .str x
/-- a value that is no reference, as data -/
def flat : V → Bool
  | .non => true
  | .bl _ => true
  | .int _ => true
  | .str _ => true
  | _ => false
def flatD : V → D
  | .bl b => .bool b
  | .int i => .int i
  | .str x => .str x
  | _ => .none
/-- the class of the name c -/
structure ClsOk (K : PySem.W.Frag) (c : Str) (C : Addr) : Prop where
  nm : PySem.W.nsIn K mainGlobals c = some (some (.ref C))
  cl : Cls K C
  ha : PySem.W.findIn K (.ref C) "__class__" = some (some (.builtin "object.__class__"))
  hn : PySem.W.specialIn K (.builtin "object.__class__") "__get__" = some (some (.builtin "getset_descriptor.__get__"))
  ht : PySem.W.takesIn K (.builtin "object.__class__") = some true
  hm : PySem.W.mroIn K C (.type "object") = some true
  kit : (["NoneType", "bool", "int", "str", "list", "tuple", "dict"].all fun T => PySem.W.kitOne K (.ref C) (.type T) == some false) = true
/-- a thing that may change, as data: it can be neither shown nor compared -/
def bigI : Int := 2 ^ 2000
def refD (k : Nat) : D := .dict [(.none, .int (bigI + k))]
def refL (k : Nat) : D := .dict [(.bool false, .int (bigI + k))]
/-- an instance that does not change any more, as data: its class, its fields -/
def insD (c : Str) (fs : List (Str × D)) : D := .dict ((.bool true, .int bigI) :: (.none, .str c) :: fs.map fun p => (.str p.1, p.2))
mutual
inductive Da (K : PySem.W.Frag) (G : Hp) : V → D → Prop
  | non : Da K G .non .none
  | bl (b : Bool) : Da K G (.bl b) (.bool b)
  | int (i : Int) : Da K G (.int i) (.int i)
  | str (x : Str) : Da K G (.str x) (.str x)
  | lst {a : Addr} {xs : List V} {ds : List D} : G a = some (.lst xs) → DaAll K G xs ds → Da K G (.ref a) (.list ds)
  | tup {a : Addr} {xs : List V} {ds : List D} : SqT K G a xs → DaAll K G xs ds → Da K G (.ref a) (.tuple ds)
  | dct {a : Addr} {kvs : List (Key × V)} : G a = some (.dK kvs) → (∀ p ∈ kvs, flat p.2 = true) → Da K G (.ref a) (.dict (kvs.map fun p => (keyD p.1, flatD p.2)))
  | obj {a : Addr} {k : Nat} : G a = some (.own k) → Da K G (.ref a) (.dict [(.none, .int (bigI + k))])
  | cel {a : Addr} {k : Nat} : G a = some (.met k k) → Da K G (.ref a) (.dict [(.bool false, .int (bigI + k))])
  | fin {a C dx : Addr} {c : Str} {vs : List (Str × V)} {fs : List (Str × D)} : G a = some (.ins C dx vs) → ClsOk K c C → vs.map (·.1) = fs.map (·.1) → DaAll K G (vs.map (·.2)) (fs.map (·.2)) → Da K G (.ref a) (.dict ((.bool true, .int bigI) :: (.none, .str c) :: fs.map fun p => (.str p.1, p.2)))
inductive DaAll (K : PySem.W.Frag) (G : Hp) : List V → List D → Prop
  | nil : DaAll K G [] []
  | cons {v : V} {vs : List V} {d : D} {ds : List D} : Da K G v d → DaAll K G vs ds → DaAll K G (v :: vs) (d :: ds)
end
/-- marks of things that may change: an instance, a list -/
def mkOf : HO → Option Nat
  | .own k => some k
  | .met k _ => some k
  | _ => none
def isMk (o : HO) : Bool := (mkOf o).isSome
/-- the data stand in the heap; a mark of G stands for a thing that may change -/
structure SubM (G H : Hp) : Prop where
  h : ∀ a o, G a = some o → isMk o = false → H a = some o
  t : ∀ a, H a = none → G a = none
theorem SubM.sT {K : PySem.W.Frag} {H H' : Hp} {a : Addr} {xs : List V} (e : SubM H H') (h : SqT K H a xs) : SqT K H' a xs := by
  rcases h with (h | ⟨o, h⟩) | h
  · exact .inl (.inl (e.h _ _ h rfl))
  · exact .inl (.inr ⟨o, e.h _ _ h rfl⟩)
  · exact .inr h
theorem SubM.seq {K : PySem.W.Frag} {H H' : Hp} {a : Addr} {xs : List V} (e : SubM H H') (h : SqL K H a xs) : SqL K H' a xs := by
  rcases h with (h | ⟨o, h⟩) | h
  · exact .inl (.inl (e.h _ _ h rfl))
  · exact .inl (.inr ⟨o, e.h _ _ h rfl⟩)
  · exact .inr h
theorem SubM.trans {G H H' : Hp} (e : SubM G H) (s : Same H H') : SubM G H' := ⟨fun a o h m => s _ _ (e.h a o h m), fun a h => e.t a (s.free h)⟩
theorem _root_.L2.Same.subm {G G' H : Hp} (s : Same G G') (e : SubM G' H) : SubM G H := ⟨fun a o h m => e.h a o (s _ _ h) m, fun a h => s.free (e.t a h)⟩
theorem sameT' {K : PySem.W.Frag} {H H' : Hp} {a : Addr} {xs : List V} (e : Same H H') (h : SqT K H a xs) : SqT K H' a xs := by
  rcases h with (h | ⟨o, h⟩) | h
  · exact .inl (.inl (e _ _ h))
  · exact .inl (.inr ⟨o, e _ _ h⟩)
  · exact .inr h
theorem sameT {K : PySem.W.Frag} {H H' : Hp} {a : Addr} {xs : List V} (e : SubM H H') (h : SqT K H a xs) : SqT K H' a xs := e.sT h
section
variable {K : PySem.W.Frag} {G G' H H' : Hp}
mutual
theorem Da.mono (e : Same G G') : ∀ {d : D} {v : V}, Da K G v d → Da K G' v d
  | _, _, .non => .non
  | _, _, .bl b => .bl b
  | _, _, .int i => .int i
  | _, _, .str x => .str x
  | _, _, .lst h a => .lst (e _ _ h) (DaAll.mono e a)
  | _, _, .tup h a => .tup (sameT' e h) (DaAll.mono e a)
  | _, _, .dct h a => .dct (e _ _ h) a
  | _, _, .obj h => .obj (e _ _ h)
  | _, _, .cel h => .cel (e _ _ h)
  | _, _, .fin h k l a => .fin (e _ _ h) k l (DaAll.mono e a)
theorem DaAll.mono (e : Same G G') : ∀ {ds : List D} {vs : List V}, DaAll K G vs ds → DaAll K G' vs ds
  | _, _, .nil => .nil
  | _, _, .cons a b => .cons (Da.mono e a) (DaAll.mono e b)
end
theorem DaAll.length : ∀ {vs : List V} {ds : List D}, DaAll K G vs ds → vs.length = ds.length
  | _, _, .nil => rfl
  | _, _, .cons _ b => by simp [DaAll.length b]
theorem DaAll.get : ∀ {vs : List V} {ds : List D} {i : Nat} {d : D}, DaAll K G vs ds → ds[i]? = some d → ∃ v, vs[i]? = some v ∧ Da K G v d
  | _, _, _, _, .nil, e => by simp at e
  | _, _, 0, _, .cons a _, e => by simp at e; subst e; exact ⟨_, rfl, a⟩
  | _, _, i + 1, d, .cons _ b, e => by
    obtain ⟨v, h1, h2⟩ := DaAll.get (i := i) (d := d) b (by simpa using e)
    exact ⟨v, by simpa using h1, h2⟩
theorem DaAll.getV : ∀ {vs : List V} {ds : List D} {i : Nat} {v : V}, DaAll K G vs ds → vs[i]? = some v → ∃ d, ds[i]? = some d ∧ Da K G v d
  | _, _, _, _, .nil, e => by simp at e
  | _, _, 0, _, .cons a _, e => by simp at e; subst e; exact ⟨_, rfl, a⟩
  | _, _, i + 1, v, .cons _ b, e => by
    obtain ⟨d, h1, h2⟩ := DaAll.getV (i := i) (v := v) b (by simpa using e)
    exact ⟨d, by simpa using h1, h2⟩
theorem DaAll.append : ∀ {vs ws : List V} {ds es : List D}, DaAll K G vs ds → DaAll K G ws es → DaAll K G (vs ++ ws) (ds ++ es)
  | _, _, _, _, .nil, b => b
  | _, _, _, _, .cons a r, b => .cons a (DaAll.append r b)
theorem DaAll.one {v : V} {d : D} (h : Da K G v d) : DaAll K G [v] [d] := .cons h .nil
theorem DaAll.take : ∀ {vs : List V} {ds : List D} (n : Nat), DaAll K G vs ds → DaAll K G (vs.take n) (ds.take n)
  | _, _, 0, _ => .nil
  | _, _, _ + 1, .nil => .nil
  | _, _, n + 1, .cons a b => .cons a (DaAll.take n b)
theorem DaAll.drop : ∀ {vs : List V} {ds : List D} (n : Nat), DaAll K G vs ds → DaAll K G (vs.drop n) (ds.drop n)
  | _, _, 0, h => h
  | _, _, _ + 1, .nil => .nil
  | _, _, n + 1, .cons _ b => DaAll.drop n b
theorem DaAll.set {v : V} {d : D} (h : Da K G v d) : ∀ {vs : List V} {ds : List D} (n : Nat), DaAll K G vs ds → DaAll K G (vs.set n v) (ds.set n d)
  | _, _, _, .nil => .nil
  | _, _, 0, .cons _ b => .cons h b
  | _, _, n + 1, .cons a b => .cons a (DaAll.set h n b)
theorem DaAll.reverse : ∀ {vs : List V} {ds : List D}, DaAll K G vs ds → DaAll K G vs.reverse ds.reverse
  | _, _, .nil => .nil
  | _, _, .cons a b => by
    rw [List.reverse_cons, List.reverse_cons]
    exact (DaAll.reverse b).append (.one a)
theorem DaAll.replicate {v : V} {d : D} (h : Da K G v d) : ∀ n : Nat, DaAll K G (List.replicate n v) (List.replicate n d)
  | 0 => .nil
  | n + 1 => .cons h (DaAll.replicate h n)
theorem DaAll.flatReplicate {vs : List V} {ds : List D} (h : DaAll K G vs ds) : ∀ n : Nat, DaAll K G (List.replicate n vs).flatten (List.replicate n ds).flatten
  | 0 => .nil
  | n + 1 => by
    rw [List.replicate_succ, List.replicate_succ, List.flatten_cons, List.flatten_cons]
    exact h.append (DaAll.flatReplicate h n)
theorem DaAll.ints : ∀ {vs : List V} {ns : List Int}, DaAll K G vs (ns.map PyData.int) → vs = ns.map V.int
  | [], [], _ => rfl
  | _ :: _, n :: ns, .cons a b => by
    cases a
    rw [List.map_cons, DaAll.ints b]
end
/-! ### data without things that may change -/
mutual
def okD : D → Bool
  | .none => true
  | .bool _ => true
  | .int _ => true
  | .str _ => true
  | .list ds => okDs ds
  | .tuple ds => okDs ds
  | .dict kvs => okK kvs
def okDs : List D → Bool
  | [] => true
  | d :: ds => okD d && okDs ds
def okK : List (D × D) → Bool
  | (.none, _) :: _ => false
  | (.bool _, _) :: _ => false
  | _ => true
end
mutual
theorem ok_canLay : ∀ d : D, d.canLay0 = true → okD d = true
  | .none, _ => rfl
  | .bool _, _ => rfl
  | .int _, _ => rfl
  | .str _, _ => rfl
  | .list ds, h => ok_canLays ds (by simpa [PyData.canLay0] using h)
  | .tuple ds, h => ok_canLays ds (by simpa [PyData.canLay0] using h)
  | .dict _, h => by simp [PyData.canLay0] at h
theorem ok_canLays : ∀ ds : List D, PyData.canLayAll0 ds = true → okDs ds = true
  | [], _ => rfl
  | d :: ds, h => by
    simp only [PyData.canLayAll0, Bool.and_eq_true] at h
    simp only [okDs, Bool.and_eq_true]
    exact ⟨ok_canLay d h.1, ok_canLays ds h.2⟩
end
/-- the dict of sys.modules is none of ours -/
def Sys (X : Cx) : Prop := ∃ o es ep, X.base.get? sysModules = some o ∧ o.data = .dict es ep
section
variable {X : Cx} {pins : List (Addr × Obj)} {σ : L2.St} {H : Hp} {s : Shared}
theorem ne_sysL (hy : Sys X) (I : Inv X pins σ H s) {a : Addr} {xs : List V} (h : SqL X.K H a xs) : a ≠ sysModules := by
  rintro rfl
  obtain ⟨o, es, ep, e, d⟩ := hy
  obtain ⟨its, _, ⟨o', n, e', _, _, d'⟩, _⟩ := I.list h
  rw [(I.bs _ _ e).1] at e'
  cases e'
  rw [d] at d'
  cases d'
theorem flat_reads {v : V} {u : Value} (f : flat v = true) (r : RelV v u) : ∀ h : Heap, Reads h u (flatD v) [] := fun h => by
  cases v with
  | non => cases r; exact Reads.none
  | bl b => cases r; exact Reads.bool b
  | int i => obtain ⟨t, rfl⟩ := r; exact Reads.int i t
  | str x => obtain ⟨t, rfl⟩ := r; exact Reads.str x t
  | _ => cases f
theorem pairs_reads {h : Heap} : ∀ {es : List DictEntry} {vs : List (Key × Value)} {kvs : List (Key × V)}, Pairs (mixKind X.prog X.w) es vs → KV kvs vs → (∀ p ∈ kvs, flat p.2 = true) →
    ReadsAll h (es.map (·.key)) ((kvs.map fun p => (keyD p.1, flatD p.2)).map (·.1)) [] ∧ ReadsAll h (es.map (·.val)) ((kvs.map fun p => (keyD p.1, flatD p.2)).map (·.2)) []
  | _, _, _, .nil, .nil, _ => ⟨.nil, .nil⟩
  | _, _, _, .cons hk hv t, .cons r rr, f => by
    obtain ⟨h1, h2⟩ := pairs_reads (h := h) t rr fun p hp => f p (List.mem_cons_of_mem _ hp)
    obtain ⟨e1, r1⟩ := r
    refine ⟨ReadsAll.cons (as := []) (bs := []) ?_ h1, ReadsAll.cons (as := []) (bs := []) ?_ h2⟩
    · rcases keyIs_shape (show keyIs _ _ = true from hk) with ⟨i, t, ek, ev⟩ | ⟨x, t, ek, ev⟩
      · dsimp only
        rw [ev, e1, ek]
        exact Reads.int i t
      · dsimp only
        rw [ev, e1, ek]
        exact Reads.str x t
    · dsimp only
      rw [hv]
      exact flat_reads (f _ List.mem_cons_self) r1 h
mutual
theorem Da.reads (hy : Sys X) (I : Inv X pins σ H s) : ∀ (d : D) (v : V) (u : Value), Da X.K H v d → okD d = true → RelV v u → ∃ as, Reads s.heap u d as ∧ sysModules ∉ as
  | .none, _, _, h, _, r => by
    cases h
    cases r
    exact ⟨_, Reads.none, by simp⟩
  | .bool b, _, _, h, _, r => by
    cases h
    cases r
    exact ⟨_, Reads.bool b, by simp⟩
  | .int i, _, _, h, _, r => by
    cases h
    obtain ⟨t, rfl⟩ := r
    exact ⟨_, Reads.int i t, by simp⟩
  | .str x, _, _, h, _, r => by
    cases h
    obtain ⟨t, rfl⟩ := r
    exact ⟨_, Reads.str x t, by simp⟩
  | .list ds, _, _, h, ok, r => by
    cases h with
    | lst hs ha =>
      cases r
      obtain ⟨its, rv, ⟨o, n, ho, hc, _, hd⟩, _⟩ := I.list (SqL.of hs)
      obtain ⟨as, hr, hn⟩ := Da.readsAll hy I ds _ its ha ok rv
      refine ⟨_, Reads.list ho hc hd hr, fun hm => ?_⟩
      rcases List.mem_cons.mp hm with e | e
      · exact ne_sysL hy I (SqL.of hs) e.symm
      · exact hn e
  | .tuple ds, _, _, h, ok, r => by
    cases h with
    | tup hs ha =>
      cases r
      obtain ⟨its, rv, ⟨o, ho, hc, n, hd⟩, _⟩ := I.tuple hs
      obtain ⟨as, hr, hn⟩ := Da.readsAll hy I ds _ its ha ok rv
      exact ⟨_, Reads.tuple ho hc hd hr, hn⟩
  | .dict kvs, _, _, h, ok, r => by
    cases h with
    | dct hs hf =>
      cases r
      obtain ⟨z, y, vs, kv, o, es, ep, ho, hx, hd, _, hp, _⟩ := I.hok _ _ hs
      obtain ⟨h1, h2⟩ := pairs_reads (h := s.heap) hp kv hf
      refine ⟨_, Reads.dict ho hx.1 hd h1 h2, fun hm => ?_⟩
      rcases List.mem_cons.mp hm with e | e
      · rw [← e] at y
        exact absurd y (by decide)
      · simp at e
    | obj hs => cases ok
    | cel hs => cases ok
    | fin _ _ _ _ => cases ok
theorem Da.readsAll (hy : Sys X) (I : Inv X pins σ H s) : ∀ (ds : List D) (vs : List V) (us : List Value), DaAll X.K H vs ds → okDs ds = true → Vals vs us → ∃ as, ReadsAll s.heap us ds as ∧ sysModules ∉ as
  | [], _, _, h, _, r => by
    cases h
    cases r
    exact ⟨_, ReadsAll.nil, by simp⟩
  | d :: ds, _, _, h, ok, r => by
    cases h with
    | cons h1 h2 =>
      cases r with
      | cons r1 r2 =>
        simp only [okDs, Bool.and_eq_true] at ok
        obtain ⟨as, q1, n1⟩ := Da.reads hy I d _ _ h1 ok.1 r1
        obtain ⟨bs, q2, n2⟩ := Da.readsAll hy I ds _ _ h2 ok.2 r2
        exact ⟨_, ReadsAll.cons q1 q2, by simp [n1, n2]⟩
end
end
section
variable {K : PySem.W.Frag} {G H : Hp}
mutual
theorem Da.toH (e : SubM G H) : ∀ {d : D} {v : V}, Da K G v d → okD d = true → Da K H v d
  | _, _, .non, _ => .non
  | _, _, .bl b, _ => .bl b
  | _, _, .int i, _ => .int i
  | _, _, .str x, _ => .str x
  | _, _, .lst h a, ok => .lst (e.h _ _ h rfl) (DaAll.toH e a ok)
  | _, _, .tup h a, ok => .tup (sameT e h) (DaAll.toH e a ok)
  | _, _, .dct h a, _ => .dct (e.h _ _ h rfl) a
  | _, _, .obj h, ok => by cases ok
  | _, _, .cel h, ok => by cases ok
  | _, _, .fin _ _ _ _, ok => by cases ok
theorem DaAll.toH (e : SubM G H) : ∀ {ds : List D} {vs : List V}, DaAll K G vs ds → okDs ds = true → DaAll K H vs ds
  | _, _, .nil, _ => .nil
  | _, _, .cons a b, ok => by
    simp only [okDs, Bool.and_eq_true] at ok
    exact .cons (Da.toH e a ok.1) (DaAll.toH e b ok.2)
end
end
/-! ### the state: what a body knows -/
/-- a def's entry: the heap, what of it is data, the deck -/
structure Bs where
  H : Hp
  G : Hp
  dk : Option (Addr × Addr)
  tG : Hp
/-- what a def may change: the deck, the marked things -/
def Bs.fp (B : Bs) (a : Addr) : Prop := (∃ x y, B.dk = some (x, y) ∧ (a = x ∨ a = y)) ∨ ∃ u, B.G a = some u ∧ isMk u = true
def DeckAt (H : Hp) (a b : Addr) (n : Nat) : Prop := ∃ (cells : List Int) (c : Int), H a = some (.lst [.ref b, .int c]) ∧ H b = some (.lst (cells.map V.int)) ∧ a ≠ b ∧ 0 ≤ c ∧ c ≤ (n : Int) ∧ (∀ x ∈ cells, 0 ≤ x) ∧ cells.length ≤ 63
def CellAt (K : PySem.W.Frag) (G H : Hp) (a k : Addr) : Cell → Prop
  | .ins c fs => G a = some (.own k) ∧ ∃ C dx vs, ClsOk K c C ∧ H a = some (.ins C dx vs) ∧ vs.map (·.1) = fs.map (·.1) ∧ DaAll K G (vs.map (·.2)) (fs.map (·.2))
  | .lst ds => G a = some (.met k k) ∧ ∃ xs, H a = some (.lst xs) ∧ DaAll K G xs ds
theorem CellAt.there {K : PySem.W.Frag} {G H : Hp} {a k : Addr} : ∀ {c : Cell}, CellAt K G H a k c → H a ≠ none
  | .ins _ _, ⟨_, C, dx, vs, _, e, _⟩ => by rw [e]; simp
  | .lst _, ⟨_, xs, e, _⟩ => by rw [e]; simp
theorem CellAt.mark {K : PySem.W.Frag} {G H : Hp} {a k : Addr} : ∀ {c : Cell}, CellAt K G H a k c → ∃ u, G a = some u ∧ mkOf u = some k
  | .ins _ _, h => ⟨_, h.1, rfl⟩
  | .lst _, h => ⟨_, h.1, rfl⟩
theorem CellAt.mono {K : PySem.W.Frag} {G H G' H' : Hp} {a k : Addr} (s : Same G G') (e : ∀ o, H a = some o → H' a = some o) : ∀ {c : Cell}, CellAt K G H a k c → CellAt K G' H' a k c
  | .ins _ _, ⟨g, C, dx, vs, n, h, l, d⟩ => ⟨s _ _ g, C, dx, vs, n, e _ h, l, d.mono s⟩
  | .lst _, ⟨g, xs, h, d⟩ => ⟨s _ _ g, xs, e _ h, d.mono s⟩
/-- the marked things are those of the world -/
structure Obs (K : PySem.W.Frag) (H G : Hp) (n : Wd) : Prop where
  at_ : ∀ a u k, G a = some u → mkOf u = some k → ∃ c, n.ob[k]? = some c ∧ CellAt K G H a k c
  inj : ∀ a b u w k, G a = some u → G b = some w → mkOf u = some k → mkOf w = some k → a = b
  all : ∀ k c, n.ob[k]? = some c → ∃ a, CellAt K G H a k c
theorem Obs.grow {K : PySem.W.Frag} {H G H' G' : Hp} {n : Wd} (o : Obs K H G n) (s : Same H H') (sg : Same G G') (mk : ∀ a u, isMk u = true → G' a = some u → G a = some u) : Obs K H' G' n where
  at_ := fun a u k e m => by
    obtain ⟨c, h1, h2⟩ := o.at_ a u k (mk a u (by unfold isMk; rw [m]; rfl) e) m
    exact ⟨c, h1, h2.mono sg fun _ h => s _ _ h⟩
  inj := fun a b u w k e f m m' => o.inj a b u w k (mk a u (by unfold isMk; rw [m]; rfl) e) (mk b w (by unfold isMk; rw [m']; rfl) f) m m'
  all := fun k c e => by
    obtain ⟨a, h⟩ := o.all k c e
    exact ⟨a, h.mono sg fun _ h => s _ _ h⟩
structure Fm (K : PySem.W.Frag) (B : Bs) (H G : Hp) (n : Wd) : Prop where
  keep : ∀ a o, B.H a = some o → ¬ B.fp a → H a = some o
  sub : SubM G H
  old : Same B.G G
  obs : Obs K H G n
  bt : ∀ a, B.H a = none → B.G a = none
  tg : Same B.tG G
  new : ∀ a, B.H a ≠ none → B.G a = none → G a = none
  deck : ∀ a b, B.dk = some (a, b) → DeckAt H a b n.n ∧ B.H a ≠ none ∧ B.H b ≠ none ∧ B.G a = none ∧ B.G b = none
/-- what a slot holds: data, a list of its own (it may be changed), the deck, anything -/
inductive Sl where
  | val (d : D) | own (ds : List D) | deck | any | exn (a : Addr) (od : Option Addr) (fs : List (Str × D))
/-- the fields of an error that is held -/
def XdAt (K : PySem.W.Frag) (G : Hp) (od : Option Addr) (fs : List (Str × D)) : Prop := (fs = [] ∧ od = none) ∨ ∃ dx vs, od = some dx ∧ G dx = some (.xd vs) ∧ vs.map (·.1) = fs.map (·.1) ∧ DaAll K G (vs.map (·.2)) (fs.map (·.2))
theorem XdAt.mono {K : PySem.W.Frag} {G G' : Hp} {od : Option Addr} {fs : List (Str × D)} (s : Same G G') (h : XdAt K G od fs) : XdAt K G' od fs := by
  rcases h with h | ⟨dx, vs, h1, h2, h3, h4⟩
  · exact .inl h
  · exact .inr ⟨dx, vs, h1, s _ _ h2, h3, h4.mono s⟩
structure Ok (K : PySem.W.Frag) (B : Bs) (g : List Sl) (σ : L2.St) (H G : Hp) (n : Wd) : Prop where
  fm : Fm K B H G n
  len : g.length = σ.length
  val : ∀ (i : Nat) (d : D), g[i]? = some (Sl.val d) → ∃ v, σ[i]? = some (some v) ∧ Da K G v d
  own : ∃ f : Nat → Addr, (∀ (i j : Nat) (ds es : List D), g[i]? = some (Sl.own ds) → g[j]? = some (Sl.own es) → f i = f j → i = j) ∧
    ∀ (i : Nat) (ds : List D), g[i]? = some (Sl.own ds) → σ[i]? = some (some (V.ref (f i))) ∧ G (f i) = none ∧ B.H (f i) = none ∧ ∃ xs, H (f i) = some (.lst xs) ∧ DaAll K G xs ds
  dck : ∀ (i : Nat), g[i]? = some Sl.deck → ∃ a b, B.dk = some (a, b) ∧ σ[i]? = some (some (V.ref a))
  adr : ∀ (i : Nat) (a : Addr) (od : Option Addr) (fs : List (Str × D)), g[i]? = some (Sl.exn a od fs) → σ[i]? = some (some (V.ref a)) ∧ XdAt K G od fs
/-- an error as it lies behind the code -/
def ExA (K : PySem.W.Frag) (mg : Str → Option Value) (e : Exn) (G : Hp) (c : Value) (od : Option Addr) : Prop := ∃ C, mg e.cls = some (.ref C) ∧ c = .ref C ∧ XdAt K G od e.fs
abbrev ExAt (X : Cx) (e : Exn) (G : Hp) (_ : Hp) (c : Value) (od : Option Addr) : Prop := ExA X.K X.mg e G c od
/-- what is wished at an exception: w; the slots that are kept: g -/
structure XR where
  w : WX
  g : List Sl
def X0 : XR := ⟨fun _ _ _ _ => False, []⟩
def Xw (X : Cx) (B : Bs) (EX : XR) (ξ : Exn → Wd → Prop) : Prop := ∀ e n' σ' H' G' c od, ξ e n' → Ok X.K B EX.g σ' H' G' n' → ExAt X e G' H' c od → EX.w c od σ' H'
section
variable {K : PySem.W.Frag} {B : Bs} {g : List Sl} {σ : L2.St} {H G H' G' : Hp} {n : Wd}
/-- the heap grows: G grows with it, but not into what stood there -/
theorem Fm.there (f : Fm K B H G n) {a : Addr} {o : HO} (e : G a = some o) : H a ≠ none := fun h => by
  rw [f.sub.t a h] at e
  cases e
theorem Fm.fpThere (f : Fm K B H G n) {a : Addr} (h : B.fp a) : H a ≠ none := by
  rcases h with ⟨x, y, ed, hxy⟩ | ⟨k, e⟩
  · obtain ⟨⟨cs, c, h1, h2, _⟩, _⟩ := f.deck x y ed
    rcases hxy with rfl | rfl
    · rw [h1]; simp
    · rw [h2]; simp
  · exact f.there (f.old _ _ e.1)
theorem Fm.grow (f : Fm K B H G n) (s : Same H H') (sg : Same G G') (sb : SubM G' H') (nw : ∀ a, H a ≠ none → G a = none → G' a = none) (mk : ∀ a u, isMk u = true → G' a = some u → G a = some u) : Fm K B H' G' n where
  keep := fun a o e q => s _ _ (f.keep a o e q)
  sub := sb
  old := f.old.trans sg
  obs := f.obs.grow s sg mk
  bt := f.bt
  tg := f.tg.trans sg
  new := fun a e q => by
    by_cases h : H a = none
    · by_cases hp : B.fp a
      · exact absurd h (f.fpThere hp)
      · cases hb : B.H a with
        | none => exact absurd hb e
        | some o => rw [f.keep a o hb hp] at h; cases h
    · exact nw a h (f.new a e q)
  deck := fun a b e => by
    obtain ⟨⟨cs, c, h1, h2, h3⟩, r⟩ := f.deck a b e
    exact ⟨⟨cs, c, s _ _ h1, s _ _ h2, h3⟩, r⟩
theorem Ok.grow (o : Ok K B g σ H G n) (s : Same H H') (sg : Same G G') (sb : SubM G' H') (nw : ∀ a, H a ≠ none → G a = none → G' a = none) (mk : ∀ a u, isMk u = true → G' a = some u → G a = some u) : Ok K B g σ H' G' n where
  fm := o.fm.grow s sg sb nw mk
  len := o.len
  val := fun i d e => by
    obtain ⟨v, h1, h2⟩ := o.val i d e
    exact ⟨v, h1, h2.mono sg⟩
  own := by
    obtain ⟨f, h1, h2⟩ := o.own
    refine ⟨f, h1, fun i ds e => ?_⟩
    obtain ⟨a, b, c, xs, d, e⟩ := h2 i ds e
    exact ⟨a, nw _ (by rw [d]; simp) b, c, xs, s _ _ d, e.mono sg⟩
  dck := o.dck
  adr := fun i a od fs e => ⟨(o.adr i a od fs e).1, (o.adr i a od fs e).2.mono sg⟩
theorem same_upd {H : Hp} {p : Addr} {o : HO} (h : H p = none) : Same H (upd H p o) := fun b x e => by
  rw [upd_ne (ne_of_none e h)]
  exact e
/-- a new object that is data -/
theorem Ok.alloc (o : Ok K B g σ H G n) {p : Addr} {u : HO} (h : H p = none) (hu : isMk u = false := by rfl) : Ok K B g σ (upd H p u) (upd G p u) n ∧ Same G (upd G p u) := by
  have hg : G p = none := by
    cases e : G p with
    | none => rfl
    | some z => exact absurd h (o.fm.there e)
  refine ⟨o.grow (same_upd h) (same_upd hg) ⟨fun a z e m => ?_, fun a e => ?_⟩ (fun a e q => ?_) (fun a w m e => ?_), same_upd hg⟩
  · unfold upd at e ⊢
    split at e
    · rename_i ha; rw [if_pos ha]; exact e
    · rename_i ha; rw [if_neg ha]; exact o.fm.sub.h _ _ e m
  · unfold upd at e ⊢
    split at e
    · cases e
    · rename_i ha; rw [if_neg ha]; exact o.fm.sub.t a e
  · have : a ≠ p := by rintro rfl; exact e h
    rw [upd_ne this]; exact q
  · unfold upd at e
    split at e
    · cases e; rw [hu] at m; cases m
    · exact e
/-- a new object that is not data (yet) -/
theorem Ok.raw (o : Ok K B g σ H G n) {p : Addr} {u : HO} (h : H p = none) : Ok K B g σ (upd H p u) G n :=
  o.grow (same_upd h) (Same.refl _) (o.fm.sub.trans (same_upd h)) (fun _ _ q => q) fun _ _ _ q => q
theorem Ok.free (o : Ok K B g σ H G n) {p : Addr} (h : H p = none) : G p = none := by
  cases e : G p with
  | none => rfl
  | some z => exact absurd h (o.fm.there e)
end
/-! ### the judgements -/
section
variable {m : Type → Type} [Mo m]
/-- an expression that gives data -/
def teJ (X : Cx) (EX : XR) (g : List Sl) (x : m D) : TE := fun σ H Q => ∃ B G n φ ξ, Ok X.K B g σ H G n ∧ Mo.sat x n φ ξ ∧ (∀ v H' G' d n', Ok X.K B g σ H' G' n' → Same G G' → Da X.K G' v d → φ d n' → Q v H') ∧ Xw X B EX ξ
def EJ (X : Cx) (EX : XR) (e : Expr) (g : List Sl) (x : m D) : Prop := PE X e (teJ X EX g x)
/-- an expression that gives a new list, not data yet -/
def tlJ (X : Cx) (EX : XR) (g : List Sl) (x : m (List D)) : TE := fun σ H Q => ∃ B G n φ ξ, Ok X.K B g σ H G n ∧ Mo.sat x n φ ξ ∧
  (∀ p xs H' G' ds n', Ok X.K B g σ H' G' n' → Same G G' → B.H p = none → G' p = none → H' p = some (.lst xs) → (∀ (i : Nat) (es : List D) (f : Addr), g[i]? = some (Sl.own es) → σ[i]? = some (some (V.ref f)) → f ≠ p) → DaAll X.K G' xs ds → φ ds n' → Q (.ref p) H') ∧ Xw X B EX ξ
def LJ (X : Cx) (EX : XR) (e : Expr) (g : List Sl) (x : m (List D)) : Prop := PE X e (tlJ X EX g x)
def ttJ (X : Cx) (EX : XR) (g : List Sl) (x : m Bool) : TT := fun σ H Q => ∃ B G n φ ξ, Ok X.K B g σ H G n ∧ Mo.sat x n φ ξ ∧ (∀ b H' G' n', Ok X.K B g σ H' G' n' → Same G G' → φ b n' → Q b H') ∧ Xw X B EX ξ
def TJ (X : Cx) (EX : XR) (e : Expr) (g : List Sl) (x : m Bool) : Prop := PT X e (ttJ X EX g x)
/-- arguments: data, or the deck -/
def ArgOk (K : PySem.W.Frag) (B : Bs) (G : Hp) : V → Sl → Prop
  | v, .val d => Da K G v d
  | v, .deck => ∃ a b, B.dk = some (a, b) ∧ v = .ref a
  | _, _ => False
inductive ArgsOk (K : PySem.W.Frag) (B : Bs) (G : Hp) : List V → List Sl → Prop
  | nil : ArgsOk K B G [] []
  | cons {v : V} {vs : List V} {a : Sl} {as : List Sl} : ArgOk K B G v a → ArgsOk K B G vs as → ArgsOk K B G (v :: vs) (a :: as)
def taJ (X : Cx) (EX : XR) (g : List Sl) (x : m (List Sl)) : TA := fun σ H Q => ∃ B G n φ ξ, Ok X.K B g σ H G n ∧ Mo.sat x n φ ξ ∧ (∀ vs H' G' as n', Ok X.K B g σ H' G' n' → Same G G' → ArgsOk X.K B G' vs as → φ as n' → Q vs H') ∧ Xw X B EX ξ
def AJ (X : Cx) (EX : XR) (es : List Expr) (g : List Sl) (x : m (List Sl)) : Prop := PA X es (taJ X EX g x)
end
theorem _root_.L2.PE.weak {X : Cx} {e : Expr} {t t' : TE} (h : PE X e t) (w : ∀ σ H Q, t' σ H Q → t σ H Q) : PE X e t' := ⟨fun pins s σ H Q I q => h.run pins s σ H Q I (w _ _ _ q)⟩
theorem _root_.L2.PT.weak {X : Cx} {e : Expr} {t t' : TT} (h : PT X e t) (w : ∀ σ H Q, t' σ H Q → t σ H Q) : PT X e t' := ⟨fun pins s σ H Q I q => h.run pins s σ H Q I (w _ _ _ q)⟩
theorem _root_.L2.PA.weak {X : Cx} {es : List Expr} {t t' : TA} (h : PA X es t) (w : ∀ σ H Q, t' σ H Q → t σ H Q) : PA X es t' := ⟨fun pos pins s σ H Q I q => h.run pos pins s σ H Q I (w _ _ _ q)⟩
theorem _root_.L2.PSs.weak {X : Cx} {ss : List Stmt} {t t' : TS} (h : PSs X ss t) (w : ∀ D σ H, t' D σ H → t D σ H) : PSs X ss t' := ⟨fun pins s σ H D I q => h.run pins s σ H D I (w _ _ _ q)⟩
theorem _root_.L2.PS.weak {X : Cx} {ss : Stmt} {t t' : TS} (h : PS X ss t) (w : ∀ D σ H, t' D σ H → t D σ H) : PS X ss t' := ⟨fun pins s σ H D I q => h.run pins s σ H D I (w _ _ _ q)⟩
end DD
namespace DD
open PySem PySem.Spec PyProof.Rows L2
/-- the heap and its data grow -/
structure Gr (H G H' G' : Hp) : Prop where
  h : Same H H'
  g : Same G G'
  sub : SubM G' H'
  new : ∀ a, H a ≠ none → G a = none → G' a = none
  mks : ∀ a u, isMk u = true → G' a = some u → G a = some u
theorem Gr.refl {H G : Hp} (s : SubM G H) : Gr H G H G := ⟨Same.refl _, Same.refl _, s, fun _ _ q => q, fun _ _ _ q => q⟩
theorem Ok.gr {K : PySem.W.Frag} {B : Bs} {g : List Sl} {σ : L2.St} {H G H' G' : Hp} {n : Wd} (o : Ok K B g σ H G n) (r : Gr H G H' G') : Ok K B g σ H' G' n := o.grow r.h r.g r.sub r.new r.mks
theorem Gr.alloc {H G : Hp} {p : Addr} {u : HO} (s : SubM G H) (h : H p = none) (hu : isMk u = false := by rfl) : Gr H G (upd H p u) (upd G p u) := by
  have hg : G p = none := s.t p h
  refine ⟨same_upd h, same_upd hg, ⟨fun a z e m => ?_, fun a e => ?_⟩, fun a e q => ?_, fun a w m e => ?_⟩
  · unfold upd at e ⊢
    split at e
    · rename_i ha; rw [if_pos ha]; exact e
    · rename_i ha; rw [if_neg ha]; exact s.h _ _ e m
  · unfold upd at e ⊢
    split at e
    · cases e
    · rename_i ha; rw [if_neg ha]; exact s.t a e
  · have : a ≠ p := by rintro rfl; exact e h
    rw [upd_ne this]; exact q
  · unfold upd at e
    split at e
    · cases e; rw [hu] at m; cases m
    · exact e
theorem Gr.trans {H G H1 G1 H2 G2 : Hp} (a : Gr H G H1 G1) (b : Gr H1 G1 H2 G2) : Gr H G H2 G2 :=
  ⟨a.h.trans b.h, a.g.trans b.g, b.sub, fun x e q => b.new x (by
    cases h : H x with
    | none => exact absurd h e
    | some o => rw [a.h _ _ h]; simp) (a.new x e q), fun x u m e => a.mks x u m (b.mks x u m e)⟩
/-- operations on data behind operations on values -/
def RD (K : PySem.W.Frag) (r : R2) (f : D → D → Option D) : Prop := ∀ (x y : V) (dx dy z : D) (H G : Hp) (Q : VK), Da K G x dx → Da K G y dy → SubM G H → f dx dy = some z → (∀ v H' G', Gr H G H' G' → Da K G' v z → Q v H') → r x y H Q
def RU1 (K : PySem.W.Frag) (r : V → Hp → VK → Prop) (f : D → Option D) : Prop := ∀ (x : V) (dx z : D) (H G : Hp) (Q : VK), Da K G x dx → SubM G H → f dx = some z → (∀ v H' G', Gr H G H' G' → Da K G' v z → Q v H') → r x H Q
def RC1 (K : PySem.W.Frag) (r : List V → Hp → VK → Prop) (f : D → Option D) : Prop := ∀ (x : V) (dx z : D) (H G : Hp) (Q : VK), Da K G x dx → SubM G H → f dx = some z → (∀ v H' G', Gr H G H' G' → Da K G' v z → Q v H') → r [x] H Q
def RC2 (K : PySem.W.Frag) (r : List V → Hp → VK → Prop) (f : D → D → Option D) : Prop := ∀ (x y : V) (dx dy z : D) (H G : Hp) (Q : VK), Da K G x dx → Da K G y dy → SubM G H → f dx dy = some z → (∀ v H' G', Gr H G H' G' → Da K G' v z → Q v H') → r [x, y] H Q
section
variable {m : Type → Type} [Mo m] {X : Cx} {EX : XR} {g : List Sl}
/-! ### names, constants -/
theorem ej_var (i : Nat) {x : Str} {pos : Pos} {d : D} (hs : g[i]? = some (Sl.val d) := by rfl) (hN : X.N[i]? = some x := by rfl) (hv : Vis X.env.scope x := by first | exact Or.inl rfl | exact Or.inr (Or.inl rfl) | exact Or.inr (Or.inr rfl)) (hd : (x == ("__debug__" : Str)) = false := by decide)
    (hcd : (x == ("__classdict__" : Str)) = false := by decide) : EJ (m := m) X EX (.Name x pos) g (pure d) :=
  (pe_var hN hv hd hcd).weak fun σ H Q ⟨B, G, n, φ, ξ, o, s, q, _⟩ => by
    obtain ⟨v, h1, h2⟩ := o.val i d hs
    exact ⟨v, h1, q v H G d n o (Same.refl _) h2 (Mo.sat_pure s)⟩
theorem ej_c {e : Expr} {v : V} {d : D} (h : PE X e (tC v)) (hd : ∀ K G, Da K G v d) : EJ (m := m) X EX e g (pure d) :=
  h.weak fun σ H Q ⟨B, G, n, φ, ξ, o, s, q, _⟩ => q v H G d n o (Same.refl _) (hd _ _) (Mo.sat_pure s)
theorem ej_int {i : Int} {j pos} : EJ (m := m) X EX (.Constant (.int i) j pos) g (pure (.int i)) := ej_c pe_int fun _ _ => .int i
theorem ej_bl {b : Bool} {j pos} : EJ (m := m) X EX (.Constant (.bool b) j pos) g (pure (.bool b)) := ej_c pe_bl fun _ _ => .bl b
theorem ej_non {j pos} : EJ (m := m) X EX (.Constant .none j pos) g (pure .none) := ej_c pe_non fun _ _ => .non
theorem ej_str {x : Str} {j pos} : EJ (m := m) X EX (.Constant (.str x) j pos) g (pure (.str x)) := ej_c pe_str fun _ _ => .str x
theorem ej_gint {x : Str} {i : Int} {t : Tok} {pos : Pos} (hm : X.mg x = some (.int i t)) (hg : Gl X x := by rfl) (hd : (x == ("__debug__" : Str)) = false := by decide) : EJ (m := m) X EX (.Name x pos) g (pure (.int i)) :=
  ej_c (pe_glob (v := .int i) hg hm ⟨t, rfl⟩ hd) fun _ _ => .int i
/-! ### one and two operands -/
theorem te_one {α : Type} {x : m D} {f : D → m α} {n : Wd} {φ : α → Wd → Prop} {ξ : Exn → Wd → Prop} {B : Bs} {σ : L2.St} {H G : Hp} {Q : VK} (o : Ok X.K B g σ H G n) (s : Mo.sat (x >>= f) n φ ξ)
    (q : ∀ v H' G' d n', Ok X.K B g σ H' G' n' → Same G G' → Da X.K G' v d → Mo.sat (f d) n' φ ξ → Q v H') (xw : Xw X B EX ξ) : teJ X EX g x σ H Q :=
  ⟨B, G, n, _, ξ, o, Mo.sat_bind s, q, xw⟩
theorem ej_bin {a b : Expr} {op : Operator} {pos : Pos} {r : R2} {f : D → D → Option D} {x y : m D} (ho : OpR X (binaryOp op) r) (hr : RD X.K r f) (ha : EJ X EX a g x) (hb : EJ X EX b g y) :
    EJ X EX (.BinOp a op b pos) g (x >>= fun dx => y >>= fun dy => Mo.lift (f dx dy)) :=
  (pe_op ho ha hb).weak fun σ H Q ⟨B, G, n, φ, ξ, o, s, q, xw⟩ => te_one o s (fun v H1 G1 d n1 o1 g1 d1 s1 => te_one o1 s1 (fun w H2 G2 e n2 o2 g2 d2 s2 => by
    obtain ⟨z, ez, pz⟩ := Mo.sat_lift s2
    exact hr v w d e z H2 G2 Q (d1.mono g2) d2 o2.fm.sub ez fun u H3 G3 gr du => q u H3 G3 z n2 (o2.gr gr) ((g1.trans g2).trans gr.g) du pz) xw) xw
theorem ej_cmp {a b : Expr} {op : CmpOp} {pos : Pos} {r : R2} {f : D → D → Option D} {x y : m D} (ho : OpR X (compareOp op) r) (hr : RD X.K r f) (ha : EJ X EX a g x) (hb : EJ X EX b g y) (hn : behindInMarks op b = false := by first | exact nobehind _ (by decide) (by decide) | rfl) :
    EJ X EX (.Compare a [op] [b] pos) g (x >>= fun dx => y >>= fun dy => Mo.lift (f dx dy)) :=
  (pe_cmpR ho ha hb hn).weak fun σ H Q ⟨B, G, n, φ, ξ, o, s, q, xw⟩ => te_one o s (fun v H1 G1 d n1 o1 g1 d1 s1 => te_one o1 s1 (fun w H2 G2 e n2 o2 g2 d2 s2 => by
    obtain ⟨z, ez, pz⟩ := Mo.sat_lift s2
    exact hr v w d e z H2 G2 Q (d1.mono g2) d2 o2.fm.sub ez fun u H3 G3 gr du => q u H3 G3 z n2 (o2.gr gr) ((g1.trans g2).trans gr.g) du pz) xw) xw
theorem ej_ix {a b : Expr} {pos : Pos} {r : R2} {f : D → D → Option D} {x y : m D} (ho : IxR X r) (hr : RD X.K r f) (ha : EJ X EX a g x) (hb : EJ X EX b g y) (hs : PlainIx b) :
    EJ X EX (.Subscript a b pos) g (x >>= fun dx => y >>= fun dy => Mo.lift (f dx dy)) :=
  (pe_ix ho ha hb hs).weak fun σ H Q ⟨B, G, n, φ, ξ, o, s, q, xw⟩ => te_one o s (fun v H1 G1 d n1 o1 g1 d1 s1 => te_one o1 s1 (fun w H2 G2 e n2 o2 g2 d2 s2 => by
    obtain ⟨z, ez, pz⟩ := Mo.sat_lift s2
    exact hr v w d e z H2 G2 Q (d1.mono g2) d2 o2.fm.sub ez fun u H3 G3 gr du => q u H3 G3 z n2 (o2.gr gr) ((g1.trans g2).trans gr.g) du pz) xw) xw
theorem ej_un {a : Expr} {op : UnaryOp} {pos : Pos} {r : V → Hp → VK → Prop} {f : D → Option D} {x : m D} (ho : UnR X (unaryOp op) r) (hr : RU1 X.K r f) (ha : EJ X EX a g x) :
    EJ X EX (.UnaryOp op a pos) g (x >>= fun dx => Mo.lift (f dx)) :=
  (pe_un ho ha).weak fun σ H Q ⟨B, G, n, φ, ξ, o, s, q, xw⟩ => te_one o s (fun v H1 G1 d n1 o1 g1 d1 s1 => by
    obtain ⟨z, ez, pz⟩ := Mo.sat_lift s1
    exact hr v d z H1 G1 Q d1 o1.fm.sub ez fun u H3 G3 gr du => q u H3 G3 z n1 (o1.gr gr) (g1.trans gr.g) du pz) xw
theorem ej_call1 {fx : Str} {p pos : Pos} {a : Expr} {id : String} {r : List V → Hp → VK → Prop} {f : D → Option D} {x : m D} (hc : CallR X (.builtin id) r) (hr : RC1 X.K r f) (hm : X.mg fx = none) (ha : EJ X EX a g x) (hv : bootBuiltins fx = some (.builtin id) := by decide +kernel) (hg : Gl X fx := by rfl)
    (hn : fx ≠ "__name__" := by decide) (hdb : (fx == ("__debug__" : Str)) = false := by decide) (hs : starEach [a] X.env = (false, eval a X.env) :: starEach [] X.env := by rfl) :
    EJ X EX (.Call (.Name fx p) [a] [] pos) g (x >>= fun d => Mo.lift (f d)) :=
  (pe_callB hc hg hm hv (pa_cons ha pa_nil hs) hn hdb hs rfl).weak fun σ H Q ⟨B, G, n, φ, ξ, o, s, q, xw⟩ => te_one o s (fun v H1 G1 d n1 o1 g1 d1 s1 => by
    obtain ⟨z, ez, pz⟩ := Mo.sat_lift s1
    exact hr v d z H1 G1 Q d1 o1.fm.sub ez fun u H3 G3 gr du => q u H3 G3 z n1 (o1.gr gr) (g1.trans gr.g) du pz) xw
theorem ej_callT {fx : Str} {p pos : Pos} {a : Expr} {T : String} {r : List V → Hp → VK → Prop} {f : D → Option D} {x : m D} (hc : CallR X (.type T) r) (hr : RC1 X.K r f) (hm : X.mg fx = none) (ha : EJ X EX a g x) (hv : bootBuiltins fx = some (.type T) := by decide +kernel) (hg : Gl X fx := by rfl)
    (hn : fx ≠ "__name__" := by decide) (hdb : (fx == ("__debug__" : Str)) = false := by decide) (hs : starEach [a] X.env = (false, eval a X.env) :: starEach [] X.env := by rfl) :
    EJ X EX (.Call (.Name fx p) [a] [] pos) g (x >>= fun d => Mo.lift (f d)) :=
  (pe_callTy hc hg hm hv (pa_cons ha pa_nil hs) hn hdb hs rfl).weak fun σ H Q ⟨B, G, n, φ, ξ, o, s, q, xw⟩ => te_one o s (fun v H1 G1 d n1 o1 g1 d1 s1 => by
    obtain ⟨z, ez, pz⟩ := Mo.sat_lift s1
    exact hr v d z H1 G1 Q d1 o1.fm.sub ez fun u H3 G3 gr du => q u H3 G3 z n1 (o1.gr gr) (g1.trans gr.g) du pz) xw
theorem ej_call2 {fx : Str} {p pos : Pos} {a b : Expr} {id : String} {r : List V → Hp → VK → Prop} {f : D → D → Option D} {x y : m D} (hc : CallR X (.builtin id) r) (hr : RC2 X.K r f) (hm : X.mg fx = none) (ha : EJ X EX a g x) (hb : EJ X EX b g y) (hv : bootBuiltins fx = some (.builtin id) := by decide +kernel) (hg : Gl X fx := by rfl)
    (hn : fx ≠ "__name__" := by decide) (hdb : (fx == ("__debug__" : Str)) = false := by decide) (hs : starEach [a, b] X.env = (false, eval a X.env) :: starEach [b] X.env := by rfl) (hs2 : starEach [b] X.env = (false, eval b X.env) :: starEach [] X.env := by rfl) :
    EJ X EX (.Call (.Name fx p) [a, b] [] pos) g (x >>= fun d => y >>= fun e => Mo.lift (f d e)) :=
  (pe_callB hc hg hm hv (pa_cons ha (pa_cons hb pa_nil hs2) hs) hn hdb hs (by rw [hs2]; rfl)).weak fun σ H Q ⟨B, G, n, φ, ξ, o, s, q, xw⟩ => te_one o s (fun v H1 G1 d n1 o1 g1 d1 s1 => te_one o1 s1 (fun w H2 G2 e n2 o2 g2 d2 s2 => by
    obtain ⟨z, ez, pz⟩ := Mo.sat_lift s2
    exact hr v w d e z H2 G2 Q (d1.mono g2) d2 o2.fm.sub ez fun u H3 G3 gr du => q u H3 G3 z n2 (o2.gr gr) ((g1.trans g2).trans gr.g) du pz) xw) xw
/-! ### arguments, displays -/
theorem ArgsOk.mono {K : PySem.W.Frag} {B : Bs} {G G' : Hp} (s : Same G G') : ∀ {vs : List V} {as : List Sl}, ArgsOk K B G vs as → ArgsOk K B G' vs as
  | _, _, .nil => .nil
  | _, _, .cons (a := .val d) h r => .cons (show Da _ _ _ _ from Da.mono s h) (ArgsOk.mono s r)
  | _, _, .cons (a := .deck) h r => .cons h (ArgsOk.mono s r)
  | _, _, .cons (a := .own _) h _ => h.elim
  | _, _, .cons (a := .any) h _ => h.elim
  | _, _, .cons (a := .exn _ _ _) h _ => h.elim
theorem aj_nil : AJ (m := m) X EX [] g (pure []) := pa_nil.weak fun σ H Q ⟨B, G, n, φ, ξ, o, s, q, _⟩ => q [] H G [] n o (Same.refl _) .nil (Mo.sat_pure s)
theorem aj_cons {e : Expr} {es : List Expr} {x : m D} {y : m (List Sl)} (he : EJ X EX e g x) (hr : AJ X EX es g y) (hs : starEach (e :: es) X.env = (false, eval e X.env) :: starEach es X.env := by rfl) : AJ X EX (e :: es) g (x >>= fun d => y >>= fun as => pure (.val d :: as)) :=
  (pa_cons he hr hs).weak fun σ H Q ⟨B, G, n, φ, ξ, o, s, q, xw⟩ => te_one o s (fun v H1 G1 d n1 o1 g1 d1 s1 => ⟨B, G1, n1, _, ξ, o1, Mo.sat_bind s1, fun vs H2 G2 as n2 o2 g2 a2 s2 =>
    q (v :: vs) H2 G2 (.val d :: as) n2 o2 (g1.trans g2) (.cons (show Da _ _ _ _ from d1.mono g2) a2) (Mo.sat_pure s2), xw⟩) xw
theorem aj_deck (i : Nat) {x : Str} {pos : Pos} {es : List Expr} {y : m (List Sl)} (hr : AJ X EX es g y) (hg : g[i]? = some Sl.deck := by rfl) (hN : X.N[i]? = some x := by rfl) (hv : Vis X.env.scope x := by first | exact Or.inl rfl | exact Or.inr (Or.inl rfl) | exact Or.inr (Or.inr rfl))
    (hd : (x == ("__debug__" : Str)) = false := by decide) (hcd : (x == ("__classdict__" : Str)) = false := by decide) (hs : starEach (.Name x pos :: es) X.env = (false, eval (.Name x pos) X.env) :: starEach es X.env := by rfl) : AJ X EX (.Name x pos :: es) g (y >>= fun as => pure (.deck :: as)) :=
  (pa_cons (pe_var hN hv hd hcd) hr hs).weak fun σ H Q ⟨B, G, n, φ, ξ, o, s, q, xw⟩ => by
    obtain ⟨a, b, e1, e2⟩ := o.dck i hg
    exact ⟨.ref a, e2, B, G, n, _, ξ, o, Mo.sat_bind s, fun vs H2 G2 as n2 o2 g2 a2 s2 => q _ H2 G2 (.deck :: as) n2 o2 g2 (.cons ⟨a, b, e1, rfl⟩ a2) (Mo.sat_pure s2), xw⟩
end
end DD
namespace DD
open PySem PySem.Spec PyProof.Rows L2
def boolD : D → Option Bool
  | .bool b => some b
  | _ => none
section
variable {m : Type → Type} [Mo m] {X : Cx} {EX : XR} {g : List Sl}
theorem Da.bool {K : PySem.W.Frag} {G : Hp} {v : V} {d : D} {b : Bool} (h : Da K G v d) (e : boolD d = some b) : v = .bl b := by
  cases h <;> simp [boolD] at e
  rw [e]
/-! ### tests -/
theorem tt_one {α : Type} {x : m Bool} {f : Bool → m α} {n : Wd} {φ : α → Wd → Prop} {ξ : Exn → Wd → Prop} {B : Bs} {σ : L2.St} {H G : Hp} {Q : Bool → Hp → Prop} (o : Ok X.K B g σ H G n) (s : Mo.sat (x >>= f) n φ ξ)
    (q : ∀ b H' G' n', Ok X.K B g σ H' G' n' → Same G G' → Mo.sat (f b) n' φ ξ → Q b H') (xw : Xw X B EX ξ) : ttJ X EX g x σ H Q :=
  ⟨B, G, n, _, ξ, o, Mo.sat_bind s, q, xw⟩
theorem tj_val {e : Expr} {x : m D} (h : EJ X EX e g x) (he : ∀ whole, isTrue e X.env whole = (do let v ← whole; standAt e.pos; holding [v] (truthy v)) := by intro _; rfl) : TJ X EX e g (x >>= fun d => Mo.lift (boolD d)) :=
  (pt_val h he).weak fun σ H Q ⟨B, G, n, φ, ξ, o, s, q, xw⟩ => te_one o s (fun v H1 G1 d n1 o1 g1 d1 s1 => by
    obtain ⟨b, eb, pb⟩ := Mo.sat_lift s1
    exact ⟨b, d1.bool eb, q b H1 G1 n1 o1 g1 pb⟩) xw
theorem tj_cmp {a b : Expr} {op : CmpOp} {pos : Pos} {r : R2} {f : D → D → Option D} {x y : m D} (ho : OpR X (compareOp op) r) (hr : RD X.K r f) (ha : EJ X EX a g x) (hb : EJ X EX b g y) (hn : behindInMarks op b = false := by first | exact nobehind _ (by decide) (by decide) | rfl) :
    TJ X EX (.Compare a [op] [b] pos) g (x >>= fun dx => y >>= fun dy => Mo.lift ((f dx dy).bind boolD)) :=
  (pt_cmpR ho ha hb hn).weak fun σ H Q ⟨B, G, n, φ, ξ, o, s, q, xw⟩ => te_one o s (fun v H1 G1 d n1 o1 g1 d1 s1 => te_one o1 s1 (fun w H2 G2 e n2 o2 g2 d2 s2 => by
    obtain ⟨b, eb, pb⟩ := Mo.sat_lift s2
    obtain ⟨z, ez, eb⟩ := Option.bind_eq_some_iff.mp eb
    exact hr v w d e z H2 G2 _ (d1.mono g2) d2 o2.fm.sub ez fun u H3 G3 gr du => ⟨b, du.bool eb, q b H3 G3 n2 (o2.gr gr) ((g1.trans g2).trans gr.g) pb⟩) xw) xw
/-- a < b < c: the second comparison's answer as it is -/
theorem te_chain {op op' : CmpOp} {a b c : Expr} {pos : Pos} {r r' : R2} {f f' : D → D → Option D} {x y z : m D} (ho : OpR X (compareOp op) r) (hr : RD X.K r f) (ho' : OpR X (compareOp op') r') (hr' : RD X.K r' f') (ha : EJ X EX a g x) (hb : EJ X EX b g y) (hc : EJ X EX c g z) {Q : VK} {σ : L2.St} {H : Hp}
    (h : teJ X EX g (x >>= fun dx => y >>= fun dy => Mo.lift ((f dx dy).bind boolD) >>= fun k => if k = true then (z >>= fun dz => Mo.lift (f' dy dz)) else pure (.bool false)) σ H Q) : tChain r r' (teJ X EX g x) (teJ X EX g y) (teJ X EX g z) σ H Q := by
  obtain ⟨B, G, n, φ, ξ, o, s, q, xw⟩ := h
  refine te_one o s (fun v H1 G1 d n1 o1 g1 d1 s1 => te_one o1 s1 (fun w H2 G2 e n2 o2 g2 d2 s2 => ?_) xw) xw
  obtain ⟨k, ek, s3⟩ := Mo.sat_lift (Mo.sat_bind s2)
  obtain ⟨u, eu, ek⟩ := Option.bind_eq_some_iff.mp ek
  refine hr v w d e u H2 G2 _ (d1.mono g2) d2 o2.fm.sub eu fun u' H3 G3 gr du => ⟨k, du.bool ek, ?_⟩
  cases k with
  | true =>
    rw [if_pos rfl] at s3 ⊢
    refine te_one (o2.gr gr) s3 (fun v' H4 G4 d' n4 o4 g4 d4 s4 => ?_) xw
    obtain ⟨z', ez, pz⟩ := Mo.sat_lift s4
    exact hr' w v' e d' z' H4 G4 Q ((d2.mono gr.g).mono g4) d4 o4.fm.sub ez fun u2 H5 G5 gr5 du5 => q u2 H5 G5 z' n4 (o4.gr gr5) ((((g1.trans g2).trans gr.g).trans g4).trans gr5.g) du5 pz
  | false =>
    rw [if_neg Bool.false_ne_true] at s3 ⊢
    exact q _ H3 G3 _ n2 (o2.gr gr) ((g1.trans g2).trans gr.g) (.bl false) (Mo.sat_pure s3)
theorem ej_chain {op op' : CmpOp} {a b c : Expr} {pos : Pos} {r r' : R2} {f f' : D → D → Option D} {x y z : m D} (ho : OpR X (compareOp op) r) (hr : RD X.K r f) (ho' : OpR X (compareOp op') r') (hr' : RD X.K r' f') (ha : EJ X EX a g x) (hb : EJ X EX b g y) (hc : EJ X EX c g z)
    (hm : lastMarks [op, op'] [b, c] = false := by with_unfolding_all rfl) :
    EJ X EX (.Compare a [op, op'] [b, c] pos) g (x >>= fun dx => y >>= fun dy => Mo.lift ((f dx dy).bind boolD) >>= fun k => if k = true then (z >>= fun dz => Mo.lift (f' dy dz)) else pure (.bool false)) :=
  (pe_chain ho ho' ha hb hc hm).weak fun σ H Q h => te_chain (op := op) (op' := op') (pos := pos) ho hr ho' hr' ha hb hc h
theorem tj_chain {op op' : CmpOp} {a b c : Expr} {pos : Pos} {r r' : R2} {f f' : D → D → Option D} {x y z : m D} (ho : OpR X (compareOp op) r) (hr : RD X.K r f) (ho' : OpR X (compareOp op') r') (hr' : RD X.K r' f') (ha : EJ X EX a g x) (hb : EJ X EX b g y) (hc : EJ X EX c g z)
    (hm : lastMarks [op, op'] [b, c] = false := by with_unfolding_all rfl) :
    TJ X EX (.Compare a [op, op'] [b, c] pos) g ((x >>= fun dx => y >>= fun dy => Mo.lift ((f dx dy).bind boolD) >>= fun k => if k = true then (z >>= fun dz => Mo.lift (f' dy dz)) else pure (.bool false)) >>= fun d => Mo.lift (boolD d)) :=
  (pt_chain ho ho' ha hb hc hm).weak fun σ H Q ⟨B, G, n, φ, ξ, o, s, q, xw⟩ => te_chain (op := op) (op' := op') (pos := pos) ho hr ho' hr' ha hb hc (te_one o s (fun v H1 G1 d n1 o1 g1 d1 s1 => by
    obtain ⟨b, eb, pb⟩ := Mo.sat_lift s1
    exact ⟨b, d1.bool eb, q b H1 G1 n1 o1 g1 pb⟩) xw)
theorem tj_not {a : Expr} {pos : Pos} {x : m Bool} (ha : TJ X EX a g x) : TJ X EX (.UnaryOp .Not a pos) g (x >>= fun b => pure (!b)) :=
  (pt_not ha).weak fun σ H Q ⟨B, G, n, φ, ξ, o, s, q, xw⟩ => tt_one o s (fun b H1 G1 n1 o1 g1 s1 => q _ H1 G1 n1 o1 g1 (Mo.sat_pure s1)) xw
/-- and, or: the rest is a test of its own -/
def WJ (X : Cx) (EX : XR) (e : Expr) (g : List Sl) (x : m Bool) : Prop := PW X e (ttJ X EX g x)
theorem _root_.L2.PW.weak {X : Cx} {e : Expr} {t t' : TT} (h : PW X e t) (w : ∀ σ H Q, t' σ H Q → t σ H Q) : PW X e t' := ⟨fun wh pins s σ H Q I q => h.run wh pins s σ H Q I (w _ _ _ q)⟩
theorem tj_w {e : Expr} {x : m Bool} (h : WJ X EX e g x) : TJ X EX e g x := PW.pt h
theorem wj_and1 {a : Expr} {pos : Pos} {x : m Bool} (ha : TJ X EX a g x) : WJ X EX (.BoolOp .And [a] pos) g x := pw_and1 ha
theorem wj_or1 {a : Expr} {pos : Pos} {x : m Bool} (ha : TJ X EX a g x) : WJ X EX (.BoolOp .Or [a] pos) g x := pw_or1 ha
theorem wj_and {a b : Expr} {rest : List Expr} {pos : Pos} {x y : m Bool} (ha : TJ X EX a g x) (hb : WJ X EX (.BoolOp .And (b :: rest) pos) g y) : WJ X EX (.BoolOp .And (a :: b :: rest) pos) g (x >>= fun k => if k = true then y else pure false) :=
  (pw_and ha hb).weak fun σ H Q ⟨B, G, n, φ, ξ, o, s, q, xw⟩ => tt_one o s (fun b H1 G1 n1 o1 g1 s1 => by
    cases b with
    | true =>
      rw [if_pos rfl] at s1 ⊢
      exact ⟨B, G1, n1, φ, ξ, o1, s1, fun b H2 G2 n2 o2 g2 p2 => q b H2 G2 n2 o2 (g1.trans g2) p2, xw⟩
    | false =>
      rw [if_neg Bool.false_ne_true] at s1 ⊢
      exact q false H1 G1 n1 o1 g1 (Mo.sat_pure s1)) xw
theorem wj_or {a b : Expr} {rest : List Expr} {pos : Pos} {x y : m Bool} (ha : TJ X EX a g x) (hb : WJ X EX (.BoolOp .Or (b :: rest) pos) g y) : WJ X EX (.BoolOp .Or (a :: b :: rest) pos) g (x >>= fun k => if k = true then pure true else y) :=
  (pw_or ha hb).weak fun σ H Q ⟨B, G, n, φ, ξ, o, s, q, xw⟩ => tt_one o s (fun b H1 G1 n1 o1 g1 s1 => by
    cases b with
    | true =>
      rw [if_pos rfl] at s1 ⊢
      exact q true H1 G1 n1 o1 g1 (Mo.sat_pure s1)
    | false =>
      rw [if_neg Bool.false_ne_true] at s1 ⊢
      exact ⟨B, G1, n1, φ, ξ, o1, s1, fun b H2 G2 n2 o2 g2 p2 => q b H2 G2 n2 o2 (g1.trans g2) p2, xw⟩) xw
/-- .. as values -/
theorem ej_one {op} {a : Expr} {pos : Pos} {x : m D} (h : EJ X EX a g x) : EJ X EX (.BoolOp op [a] pos) g x := pe_one h
theorem ej_and {a b : Expr} {rest : List Expr} {pos : Pos} {x y : m D} (ha : EJ X EX a g x) (hb : EJ X EX (.BoolOp .And (b :: rest) pos) g y) : EJ X EX (.BoolOp .And (a :: b :: rest) pos) g (x >>= fun d => Mo.lift (boolD d) >>= fun k => if k = true then y else pure (.bool false)) :=
  (pe_and ha hb).weak fun σ H Q ⟨B, G, n, φ, ξ, o, s, q, xw⟩ => te_one o s (fun v H1 G1 d n1 o1 g1 d1 s1 => by
    obtain ⟨b, eb, s2⟩ := Mo.sat_lift (Mo.sat_bind s1)
    refine ⟨b, d1.bool eb, ?_⟩
    cases b with
    | true =>
      rw [if_pos rfl] at s2 ⊢
      exact ⟨B, G1, n1, φ, ξ, o1, s2, fun v H2 G2 e n2 o2 g2 d2 p2 => q v H2 G2 e n2 o2 (g1.trans g2) d2 p2, xw⟩
    | false =>
      rw [if_neg Bool.false_ne_true] at s2 ⊢
      exact q _ H1 G1 _ n1 o1 g1 (.bl false) (Mo.sat_pure s2)) xw
def notD : D → Option D
  | .bool b => some (.bool (!b))
  | _ => none
theorem ej_not {a : Expr} {pos : Pos} {x : m D} (ha : EJ X EX a g x) : EJ X EX (.UnaryOp .Not a pos) g (x >>= fun d => Mo.lift (notD d)) :=
  (pe_not ha).weak fun σ H Q ⟨B, G, n, φ, ξ, o, s, q, xw⟩ => te_one o s (fun v H1 G1 d n1 o1 g1 d1 s1 => by
    obtain ⟨z, ez, pz⟩ := Mo.sat_lift s1
    cases d with
    | bool b =>
      cases d1
      cases ez
      exact ⟨b, rfl, q _ H1 G1 _ n1 o1 g1 (.bl _) pz⟩
    | _ => cases ez) xw
theorem ej_if {c a b : Expr} {pos : Pos} {t : m Bool} {x y : m D} (hc : TJ X EX c g t) (ha : EJ X EX a g x) (hb : EJ X EX b g y) : EJ X EX (.IfExp c a b pos) g (t >>= fun k => if k = true then x else y) :=
  (pe_ifExp hc ha hb).weak fun σ H Q ⟨B, G, n, φ, ξ, o, s, q, xw⟩ => tt_one o s (fun b H1 G1 n1 o1 g1 s1 => by
    cases b with
    | true =>
      rw [if_pos rfl] at s1 ⊢
      exact ⟨B, G1, n1, φ, ξ, o1, s1, fun v H2 G2 e n2 o2 g2 d2 p2 => q v H2 G2 e n2 o2 (g1.trans g2) d2 p2, xw⟩
    | false =>
      rw [if_neg Bool.false_ne_true] at s1 ⊢
      exact ⟨B, G1, n1, φ, ξ, o1, s1, fun v H2 G2 e n2 o2 g2 d2 p2 => q v H2 G2 e n2 o2 (g1.trans g2) d2 p2, xw⟩) xw
/-! ### displays -/
def itemsD : D → Option (List D)
  | .list ds => some ds
  | .tuple ds => some ds
  | _ => none
theorem Da.seq {K : PySem.W.Frag} {G : Hp} {v : V} {d : D} {ds : List D} (h : Da K G v d) (e : itemsD d = some ds) : ∃ a xs, v = .ref a ∧ (SqT K G a xs ∨ SqL K G a xs) ∧ DaAll K G xs ds := by
  cases h with
  | lst h1 h2 => cases e; exact ⟨_, _, rfl, .inr (SqL.of h1), h2⟩
  | tup h1 h2 => cases e; exact ⟨_, _, rfl, .inl h1, h2⟩
  | _ => cases e
/-- written items: data alone; L their number, where no star stands among them -/
def tdJ (X : Cx) (EX : XR) (g : List Sl) (x : m (List D)) (L : Option Nat) : TA := fun σ H Q => ∃ B G n φ ξ, Ok X.K B g σ H G n ∧ Mo.sat x n φ ξ ∧ (∀ vs H' G' ds n', Ok X.K B g σ H' G' n' → Same G G' → DaAll X.K G' vs ds → (∀ k, L = some k → vs.length = k) → φ ds n' → Q vs H') ∧ Xw X B EX ξ
def DJ (X : Cx) (EX : XR) (es : List Expr) (g : List Sl) (x : m (List D)) (L : Option Nat) : Prop := PA X es (tdJ X EX g x L)
theorem dj_nil : DJ (m := m) X EX [] g (pure []) (some 0) := pa_nil.weak fun σ H Q ⟨B, G, n, φ, ξ, o, s, q, _⟩ => q [] H G [] n o (Same.refl _) .nil (fun k e => by cases e; rfl) (Mo.sat_pure s)
theorem dj_cons {e : Expr} {es : List Expr} {x : m D} {y : m (List D)} {L : Option Nat} (he : EJ X EX e g x) (hr : DJ X EX es g y L) (hs : starEach (e :: es) X.env = (false, eval e X.env) :: starEach es X.env := by rfl) : DJ X EX (e :: es) g (x >>= fun d => y >>= fun ds => pure (d :: ds)) (L.map (· + 1)) :=
  (pa_cons he hr hs).weak fun σ H Q ⟨B, G, n, φ, ξ, o, s, q, xw⟩ => te_one o s (fun v H1 G1 d n1 o1 g1 d1 s1 => ⟨B, G1, n1, _, ξ, o1, Mo.sat_bind s1, fun vs H2 G2 ds n2 o2 g2 a2 l2 s2 =>
    q (v :: vs) H2 G2 (d :: ds) n2 o2 (g1.trans g2) (.cons (d1.mono g2) a2) (fun k e => by
      obtain ⟨j, e1, rfl⟩ := Option.map_eq_some_iff.mp e
      rw [List.length_cons, l2 j e1]) (Mo.sat_pure s2), xw⟩) xw
theorem dj_star {e : Expr} {es : List Expr} {p : Pos} {x : m D} {y : m (List D)} {L : Option Nat} (he : EJ X EX e g x) (hr : DJ X EX es g y L) (hs : starEach (.Starred e p :: es) X.env = (true, eval e X.env) :: starEach es X.env := by rfl) : DJ X EX (.Starred e p :: es) g (x >>= fun d => Mo.lift (itemsD d) >>= fun as => y >>= fun ds => pure (as ++ ds)) none :=
  (StX.pa_star he hr hs).weak fun σ H Q ⟨B, G, n, φ, ξ, o, s, q, xw⟩ => te_one o s (fun v H1 G1 d n1 o1 g1 d1 s1 => by
    obtain ⟨as, ea, s2⟩ := Mo.sat_lift (Mo.sat_bind s1)
    obtain ⟨a, xs, ev, sq, da⟩ := d1.seq ea
    have sq' : SqT X.K H1 a xs ∨ SqL X.K H1 a xs := sq.elim (fun h => .inl (sameT o1.fm.sub h)) fun h => .inr (o1.fm.sub.seq h)
    exact ⟨a, xs, ev, sq', B, G1, n1, _, ξ, o1, Mo.sat_bind s2, fun vs H2 G2 ds n2 o2 g2 a2 _ s3 =>
      q (xs ++ vs) H2 G2 (as ++ ds) n2 o2 (g1.trans g2) ((da.mono g2).append a2) (fun k e => by cases e) (Mo.sat_pure s3), xw⟩) xw
/-- no display is longer than this -/
def small (ds : List D) : Option (List D) := if ds.length ≤ 1000000 then some ds else none
theorem small_eq {ds es : List D} (h : small ds = some es) : es = ds ∧ ds.length ≤ 1000000 := by
  unfold small at h
  split at h
  · rename_i hl; cases h; exact ⟨rfl, hl⟩
  · cases h
theorem le_line {k : Nat} (h : k ≤ 1000000) : k ≤ sizeLine := Nat.le_trans h (by decide)
theorem ej_tup {es : List Expr} {k : Nat} {pos : Pos} {j} {x : m (List D)} (h : DJ X EX es g x (some k)) (hk : k ≤ 1000000 := by decide) : EJ X EX (.Tuple es j pos) g (x >>= fun ds => pure (.tuple ds)) :=
  (pe_tup h).weak fun σ H Q ⟨B, G, n, φ, ξ, o, s, q, xw⟩ => ⟨B, G, n, _, ξ, o, Mo.sat_bind s, fun vs H1 G1 ds n1 o1 g1 a1 l1 s1 => ⟨by rw [l1 k rfl]; exact le_line hk, fun p hp => by
    obtain ⟨o2, g2⟩ := o1.alloc (u := .tup vs) hp
    exact q _ _ _ _ n1 o2 (g1.trans g2) (.tup (.inl (.inl upd_same)) (a1.mono g2)) (Mo.sat_pure s1)⟩, xw⟩
theorem ej_tupS {es : List Expr} {L : Option Nat} {pos : Pos} {j} {x : m (List D)} (h : DJ X EX es g x L) : EJ X EX (.Tuple es j pos) g (x >>= fun ds => Mo.lift (small ds) >>= fun ds => pure (.tuple ds)) :=
  (pe_tup h).weak fun σ H Q ⟨B, G, n, φ, ξ, o, s, q, xw⟩ => ⟨B, G, n, _, ξ, o, Mo.sat_bind s, fun vs H1 G1 ds n1 o1 g1 a1 l1 s1 => by
    obtain ⟨es', ee, s2⟩ := Mo.sat_lift (Mo.sat_bind s1)
    obtain ⟨rfl, hl⟩ := small_eq ee
    refine ⟨by rw [a1.length]; exact le_line hl, fun p hp => ?_⟩
    obtain ⟨o2, g2⟩ := o1.alloc (u := .tup vs) hp
    exact q _ _ _ _ n1 o2 (g1.trans g2) (.tup (.inl (.inl upd_same)) (a1.mono g2)) (Mo.sat_pure s2), xw⟩
/-- what stood in the heap is not new -/
theorem Ok.fresh {K : PySem.W.Frag} {B : Bs} {σ : L2.St} {H G : Hp} {n : Wd} {p : Addr} (o : Ok K B g σ H G n) (h : H p = none) : B.H p = none ∧ ∀ (i : Nat) (es : List D) (f : Addr), g[i]? = some (Sl.own es) → σ[i]? = some (some (V.ref f)) → f ≠ p := by
  constructor
  · cases e : B.H p with
    | none => rfl
    | some u =>
      by_cases hp : B.fp p
      · exact absurd h (o.fm.fpThere hp)
      · rw [o.fm.keep p u e hp] at h; cases h
  · rintro i es f e1 e2 rfl
    obtain ⟨fn, _, q⟩ := o.own
    obtain ⟨a, _, _, xs, b, _⟩ := q i es e1
    rw [a] at e2
    cases e2
    rw [b] at h; cases h
theorem lj_lst {es : List Expr} {k : Nat} {pos : Pos} {x : m (List D)} (h : DJ X EX es g x (some k)) (hk : k ≤ 1000000 := by decide) : LJ X EX (.List es pos) g x :=
  (pe_lst h).weak fun σ H Q ⟨B, G, n, φ, ξ, o, s, q, xw⟩ => ⟨B, G, n, _, ξ, o, s, fun vs H1 G1 ds n1 o1 g1 a1 l1 s1 => ⟨by rw [l1 k rfl]; exact le_line hk, fun p hp => by
    obtain ⟨f1, f2⟩ := o1.fresh hp
    exact q p vs _ G1 ds n1 (o1.raw hp) g1 f1 (o1.free hp) upd_same f2 a1 s1⟩, xw⟩
/-- a new list becomes data -/
theorem Ok.freeze {K : PySem.W.Frag} {B : Bs} {σ : L2.St} {H G : Hp} {n : Wd} {p : Addr} {u : HO} (o : Ok K B g σ H G n) (hb : B.H p = none) (hg : G p = none) (hh : H p = some u) (hf : ∀ (i : Nat) (es : List D) (f : Addr), g[i]? = some (Sl.own es) → σ[i]? = some (some (V.ref f)) → f ≠ p) (hu : isMk u = false := by rfl) :
    Ok K B g σ H (upd G p u) n ∧ Same G (upd G p u) := by
  refine ⟨⟨⟨o.fm.keep, ⟨fun a z e m => ?_, fun a e => ?_⟩, o.fm.old.trans (same_upd hg), o.fm.obs.grow (Same.refl _) (same_upd hg) (fun a w m e => ?_), o.fm.bt, o.fm.tg.trans (same_upd hg), fun a e q => ?_, o.fm.deck⟩, o.len, fun i d e => ?_, ?_, o.dck, fun i a od fs e => ⟨(o.adr i a od fs e).1, (o.adr i a od fs e).2.mono (same_upd hg)⟩⟩, same_upd hg⟩
  · unfold upd at e
    split at e
    · rename_i ha; subst ha; cases e; exact hh
    · exact o.fm.sub.h _ _ e m
  · have : a ≠ p := by rintro rfl; rw [hh] at e; cases e
    rw [upd_ne this]; exact o.fm.sub.t a e
  · unfold upd at e
    split at e
    · cases e; rw [hu] at m; cases m
    · exact e
  · have : a ≠ p := by rintro rfl; exact e hb
    rw [upd_ne this]; exact o.fm.new a e q
  · obtain ⟨v, h1, h2⟩ := o.val i d e
    exact ⟨v, h1, h2.mono (same_upd hg)⟩
  · obtain ⟨f, h1, h2⟩ := o.own
    refine ⟨f, h1, fun i ds e => ?_⟩
    obtain ⟨a, b, c, xs, d, da⟩ := h2 i ds e
    exact ⟨a, by rw [upd_ne (hf i ds _ e a)]; exact b, c, xs, d, da.mono (same_upd hg)⟩
theorem ej_l {e : Expr} {x : m (List D)} (h : LJ X EX e g x) : EJ X EX e g (x >>= fun ds => pure (.list ds)) :=
  PE.weak h fun σ H Q ⟨B, G, n, φ, ξ, o, s, q, xw⟩ => ⟨B, G, n, _, ξ, o, Mo.sat_bind s, fun p xs H1 G1 ds n1 o1 g1 hb hg hh hf a1 s1 => by
    obtain ⟨o2, g2⟩ := o1.freeze hb hg hh hf
    exact q _ H1 _ _ n1 o2 (g1.trans g2) (.lst upd_same (a1.mono g2)) (Mo.sat_pure s1), xw⟩
end
end DD
namespace DD
open PySem PySem.Spec PyProof.Rows L2
/-! ### what is walked -/
structure WalkD (K : PySem.W.Frag) (G : Hp) (J : It) (ds : List D) : Prop where
  goes : ∀ i H, i < ds.length → SubM G H → J.go i H
  stops : ∀ H, SubM G H → J.stop ds.length H
  yields : ∀ i H G1 x H', i < ds.length → Same G G1 → SubM G1 H → J.yld i H x H' → ∃ d G', ds[i]? = some d ∧ Gr H G1 H' G' ∧ Da K G' x d
theorem walkD_list {K : PySem.W.Frag} {G : Hp} {a : Addr} {xs : List V} {ds : List D} (h : SqL K G a xs) (da : DaAll K G xs ds) : WalkD K G (Itl K a) ds where
  goes := fun i H hi s => by
    rw [← da.length] at hi
    exact ⟨xs, xs[i], s.seq h, by simp [hi]⟩
  stops := fun H s => ⟨xs, s.seq h, by rw [da.length]; exact Nat.le_refl _⟩
  yields := fun i H G1 x H' hi s s1 y => by
    obtain ⟨e, y⟩ := y
    subst e
    obtain ⟨d, e1, e2⟩ := da.getV (y xs ((s.subm s1).seq h))
    exact ⟨d, G1, e1, Gr.refl s1, e2.mono s⟩
theorem walkD_tup {K : PySem.W.Frag} {G : Hp} {a : Addr} {xs : List V} {ds : List D} (h : SqT K G a xs) (da : DaAll K G xs ds) : WalkD K G (Itt K a) ds where
  goes := fun i H hi s => by
    rw [← da.length] at hi
    exact ⟨xs, xs[i], sameT s h, by simp [hi]⟩
  stops := fun H s => ⟨xs, sameT s h, by rw [da.length]; exact Nat.le_refl _⟩
  yields := fun i H G1 x H' hi s s1 y => by
    obtain ⟨e, y⟩ := y
    subst e
    obtain ⟨d, e1, e2⟩ := da.getV (y xs (sameT (s.subm s1) h))
    exact ⟨d, G1, e1, Gr.refl s1, e2.mono s⟩
def rangeL (lo : Int) (n : Nat) : List D := (List.range n).map fun i => .int (lo + (i : Nat))
theorem walkD_range {K : PySem.W.Frag} {G : Hp} {lo : Int} {n : Nat} : WalkD K G (Itr lo n) (rangeL lo n) where
  goes := fun i H hi _ => by
    show i < n
    simpa [rangeL] using hi
  stops := fun H _ => by show n ≤ (rangeL lo n).length; simp [rangeL]
  yields := fun i H G1 x H' hi s s1 y => by
    obtain ⟨e, y⟩ := y
    subst e y
    have hi' : i < n := by simpa [rangeL] using hi
    exact ⟨.int (lo + (i : Nat)), G1, by simp [rangeL, hi'], Gr.refl s1, .int _⟩
section
variable {m : Type → Type} [Mo m]
def tiJ (X : Cx) (EX : XR) (g : List Sl) (x : m (List D)) : TI := fun σ H R => ∃ B G n φ ξ, Ok X.K B g σ H G n ∧ Mo.sat x n φ ξ ∧ (∀ J H' G' ds n', Ok X.K B g σ H' G' n' → Same G G' → WalkD X.K G' J ds → φ ds n' → R J H') ∧ Xw X B EX ξ
def IJ (X : Cx) (EX : XR) (tg iter : Expr) (g : List Sl) (x : m (List D)) : Prop := PI X tg iter (tiJ X EX g x)
end
theorem _root_.L2.PI.weak {X : Cx} {tg e : Expr} {t t' : TI} (h : PI X tg e t) (w : ∀ σ H R, t' σ H R → t σ H R) : PI X tg e t' := ⟨fun pins s σ H R I q => h.run pins s σ H R I (w _ _ _ q)⟩
/-- a list or a tuple, whichever has come -/
def iSeq (K : PySem.W.Frag) (tl : TE) : TI := fun σ H R => tl σ H fun x H1 => ∃ a, x = .ref a ∧ (((∃ xs, SqL K H1 a xs) ∧ R (Itl K a) H1) ∨ ((∃ xs, SqT K H1 a xs) ∧ R (Itt K a) H1))
theorem pi_seq {X : Cx} {tg l : Expr} {tl : TE} (hl : PE X l tl) : PI X tg l (iSeq X.K tl) := by
  refine ⟨fun pins s σ H R I h => thn (hl.run pins s σ H _ I h) fun v s1 ⟨x, H1, I1, r1, a, e, q⟩ => ?_⟩
  subst e
  cases r1
  rcases q with ⟨⟨xs, hq⟩, q⟩ | ⟨⟨xs, hq⟩, q⟩
  · obtain ⟨its, rv, p, hz⟩ := I1.list hq
    exact wpAny_pyIter_list p.isList ⟨_, [s1.heap.objs.size], _, _, H1, rfl, I1.kept (t' := s1.toks) (fun b o e => Heap.get?_push_of_some _ e), turn_list a _, ⟨_, Heap.get?_push_size _ rfl, rfl, rfl⟩, (fun b hb => by
      rw [List.mem_singleton.mp hb]; exact I1.fpOk (Nat.le_refl _) (I1.hok.fresh (Nat.le_refl _))), q⟩
  · obtain ⟨its, rv, p, hz⟩ := I1.tuple hq
    exact wpAny_pyIter_tuple (show s1.heap.IsTuple a its.toArray from p) ⟨_, [s1.heap.objs.size], _, _, H1, rfl, I1.kept (t' := s1.toks) (fun b o e => Heap.get?_push_of_some _ e), turn_tuple a _, ⟨_, Heap.get?_push_size _ rfl, rfl, rfl⟩, (fun b hb => by
      rw [List.mem_singleton.mp hb]; exact I1.fpOk (Nat.le_refl _) (I1.hok.fresh (Nat.le_refl _))), q⟩
def rangeD1 : D → Option (List D)
  | .int j => if j.natAbs < 2 ^ 62 then some (rangeL 0 j.toNat) else none
  | _ => none
def rangeD2 : D → D → Option (List D)
  | .int i, .int j => if i.natAbs < 2 ^ 62 ∧ j.natAbs < 2 ^ 62 then some (rangeL i (j - i).toNat) else none
  | _, _ => none
section
variable {m : Type → Type} [Mo m] {X : Cx} {EX : XR} {g : List Sl} {tg : Expr}
theorem ij_seq {e : Expr} {x : m D} (h : EJ X EX e g x) : IJ X EX tg e g (x >>= fun d => Mo.lift (itemsD d)) :=
  (pi_seq h).weak fun σ H R ⟨B, G, n, φ, ξ, o, s, q, xw⟩ => te_one o s (fun v H1 G1 d n1 o1 g1 d1 s1 => by
    obtain ⟨ds, ed, pd⟩ := Mo.sat_lift s1
    obtain ⟨a, xs, ev, sq, da⟩ := d1.seq ed
    refine ⟨a, ev, ?_⟩
    rcases sq with sq | sq
    · exact .inr ⟨⟨xs, sameT o1.fm.sub sq⟩, q _ H1 G1 ds n1 o1 g1 (walkD_tup sq da) pd⟩
    · exact .inl ⟨⟨xs, o1.fm.sub.seq sq⟩, q _ H1 G1 ds n1 o1 g1 (walkD_list sq da) pd⟩) xw
/-- a list of one's own, walked while it stands -/
theorem ij_range1 {a : Expr} {p pos : Pos} {x : m D} (hm : X.mg "range" = none) (h : EJ X EX a g x) (hg : Gl X "range" := by rfl) (hs : starEach [a] X.env = [(false, eval a X.env)] := by rfl) (hs' : starEach [a] X.env = (false, eval a X.env) :: starEach [] X.env := by rfl) :
    IJ X EX tg (.Call (.Name "range" p) [a] [] pos) g (x >>= fun d => Mo.lift (rangeD1 d)) :=
  (pi_range1 hg hm (pa_cons h pa_nil hs') hs).weak fun σ H R ⟨B, G, n, φ, ξ, o, s, q, xw⟩ => te_one o s (fun v H1 G1 d n1 o1 g1 d1 s1 => by
    obtain ⟨ds, ed, pd⟩ := Mo.sat_lift s1
    cases d with
    | int j =>
      cases d1
      unfold rangeD1 at ed
      dsimp only at ed
      split at ed
      · rename_i hj
        cases ed
        exact ⟨j, rfl, by omega, by omega, q _ H1 G1 _ n1 o1 g1 walkD_range pd⟩
      · cases ed
    | _ => cases ed) xw
end
/-! ### slots -/
def wipeG (g : List Sl) (vs : List Nat) : List Sl := g.mapIdx fun i s => if vs.contains i then .any else s
def noOwn : List Sl → List Nat → Bool
  | g, vs => vs.all fun i => match g[i]? with
    | some (.own _) => false
    | _ => true
section
variable {K : PySem.W.Frag} {B : Bs} {g : List Sl} {σ : L2.St} {H G H' G' : Hp} {n n' : Wd} {vs : List Nat}
theorem wipeG_some {i : Nat} {s : Sl} (h : (wipeG g vs)[i]? = some s) (ne : s ≠ .any) : g[i]? = some s ∧ i ∉ vs := by
  unfold wipeG at h
  rw [List.getElem?_mapIdx] at h
  cases e : g[i]? with
  | none => rw [e] at h; cases h
  | some t =>
    rw [e] at h
    simp only [Option.map_some, Option.some.injEq] at h
    split at h
    · exact absurd h.symm ne
    · rename_i hc
      subst h
      exact ⟨rfl, by simpa using hc⟩
theorem wipeG_out {i : Nat} (h : i ∉ vs) : (wipeG g vs)[i]? = g[i]? := by
  unfold wipeG
  rw [List.getElem?_mapIdx]
  have : vs.contains i = false := by simpa using h
  cases g[i]? with
  | none => rfl
  | some t => simp [this, h]
theorem wipeG_length : (wipeG g vs).length = g.length := by simp [wipeG]
theorem wipe_length' : (wipe σ vs).length = σ.length := wipe_length σ vs
/-- the block's own slots are forgotten -/
theorem Ok.wipe (o : Ok K B g σ H G n) : Ok K B (wipeG g vs) (L2.wipe σ vs) H G n where
  fm := o.fm
  len := by rw [wipeG_length, wipe_length', o.len]
  val := fun i d e => by
    obtain ⟨e1, e2⟩ := wipeG_some e (by simp)
    obtain ⟨v, h1, h2⟩ := o.val i d e1
    exact ⟨v, by rw [wipe_out e2]; exact h1, h2⟩
  own := by
    obtain ⟨f, h1, h2⟩ := o.own
    refine ⟨f, fun i j ds es a b => h1 i j ds es (wipeG_some a (by simp)).1 (wipeG_some b (by simp)).1, fun i ds e => ?_⟩
    obtain ⟨e1, e2⟩ := wipeG_some e (by simp)
    obtain ⟨a, r⟩ := h2 i ds e1
    exact ⟨by rw [wipe_out e2]; exact a, r⟩
  dck := fun i e => by
    obtain ⟨e1, e2⟩ := wipeG_some e (by simp)
    obtain ⟨a, b, h1, h2⟩ := o.dck i e1
    exact ⟨a, b, h1, by rw [wipe_out e2]; exact h2⟩
  adr := fun i a od fs e => by
    obtain ⟨e1, e2⟩ := wipeG_some e (by simp)
    rw [wipe_out e2]
    exact o.adr i a od fs e1
theorem Ok.unwipe (o : Ok K B g σ H G n) (o' : Ok K B (wipeG g vs) (L2.wipe σ vs) H' G' n') (s : Same G G') (ho : noOwn g vs = true) : Ok K B g σ H' G' n' where
  fm := o'.fm
  len := o.len
  val := fun i d e => by
    obtain ⟨v, h1, h2⟩ := o.val i d e
    exact ⟨v, h1, h2.mono s⟩
  own := by
    obtain ⟨f, h1, h2⟩ := o'.own
    have out : ∀ (i : Nat) (ds : List D), g[i]? = some (Sl.own ds) → i ∉ vs := fun i ds e hm => by
      have := List.all_eq_true.mp ho i hm
      rw [e] at this
      cases this
    refine ⟨f, fun i j ds es a b => h1 i j ds es (by rw [wipeG_out (out i ds a)]; exact a) (by rw [wipeG_out (out j es b)]; exact b), fun i ds e => ?_⟩
    obtain ⟨a, r⟩ := h2 i ds (by rw [wipeG_out (out i ds e)]; exact e)
    exact ⟨by rw [wipe_out (out i ds e)] at a; exact a, r⟩
  dck := o.dck
  adr := fun i a od fs e => ⟨(o.adr i a od fs e).1, (o.adr i a od fs e).2.mono s⟩
/-- a slot is given data -/
theorem Ok.setV (o : Ok K B g σ H G n) {i : Nat} {v : V} {d : D} (h : Da K G v d) : Ok K B (g.set i (.val d)) (σ.set i (some v)) H G n where
  fm := o.fm
  len := by rw [List.length_set, List.length_set, o.len]
  val := fun j e he => by
    by_cases hj : j = i
    · subst hj
      by_cases hl : j < g.length
      · rw [List.getElem?_set_self hl] at he
        cases he
        exact ⟨v, by rw [List.getElem?_set_self (by rw [← o.len]; exact hl)], h⟩
      · rw [List.getElem?_eq_none (by rw [List.length_set]; omega)] at he
        cases he
    · rw [List.getElem?_set_ne (Ne.symm hj)] at he ⊢
      exact o.val j e he
  own := by
    obtain ⟨f, h1, h2⟩ := o.own
    have out : ∀ (j : Nat) (ds : List D), (g.set i (.val d))[j]? = some (Sl.own ds) → i ≠ j ∧ g[j]? = some (Sl.own ds) := fun j ds e => by
      by_cases hj : i = j
      · subst hj
        by_cases hl : i < g.length
        · rw [List.getElem?_set_self hl] at e
          cases e
        · rw [List.getElem?_eq_none (by rw [List.length_set]; omega)] at e
          cases e
      · rw [List.getElem?_set_ne hj] at e
        exact ⟨hj, e⟩
    refine ⟨f, fun j k ds es a b => h1 j k ds es (out j ds a).2 (out k es b).2, fun j ds e => ?_⟩
    obtain ⟨hj, e⟩ := out j ds e
    rw [List.getElem?_set_ne hj]
    exact h2 j ds e
  dck := fun j e => by
    by_cases hj : i = j
    · subst hj
      by_cases hl : i < g.length
      · rw [List.getElem?_set_self hl] at e
        cases e
      · rw [List.getElem?_eq_none (by rw [List.length_set]; omega)] at e
        cases e
    · rw [List.getElem?_set_ne hj] at e ⊢
      exact o.dck j e
  adr := fun j b od fs e => by
    by_cases hj : i = j
    · subst hj
      by_cases hl : i < g.length
      · rw [List.getElem?_set_self hl] at e
        cases e
      · rw [List.getElem?_eq_none (by rw [List.length_set]; omega)] at e
        cases e
    · rw [List.getElem?_set_ne hj] at e ⊢
      exact o.adr j b od fs e
/-- slots are forgotten -/
theorem Ok.sub {g' : List Sl} (o : Ok K B g σ H G n) (hl : g'.length = g.length) (h : ∀ (i : Nat) (s : Sl), g'[i]? = some s → s = .any ∨ g[i]? = some s) : Ok K B g' σ H G n where
  fm := o.fm
  len := hl.trans o.len
  val := fun i d e => by
    rcases h i _ e with z | z
    · cases z
    · exact o.val i d z
  own := by
    obtain ⟨f, h1, h2⟩ := o.own
    have out : ∀ (j : Nat) (ds : List D), g'[j]? = some (Sl.own ds) → g[j]? = some (Sl.own ds) := fun j ds e => by
      rcases h j _ e with z | z
      · cases z
      · exact z
    exact ⟨f, fun i j ds es a b => h1 i j ds es (out i ds a) (out j es b), fun i ds e => h2 i ds (out i ds e)⟩
  dck := fun i e => by
    rcases h i _ e with z | z
    · cases z
    · exact o.dck i z
  adr := fun i a od fs e => by
    rcases h i _ e with z | z
    · cases z
    · exact o.adr i a od fs z
theorem wipe_wipe : L2.wipe (L2.wipe σ vs) vs = L2.wipe σ vs := by
  apply List.ext_getElem?
  intro i
  by_cases h : i ∈ vs
  · have key : ∀ (τ : L2.St), (L2.wipe τ vs)[i]? = some none ∨ (L2.wipe τ vs)[i]? = none := fun τ => by
      cases e : (L2.wipe τ vs)[i]? with
      | none => exact .inr rfl
      | some x =>
        cases x with
        | none => exact .inl rfl
        | some v => exact absurd h (wipe_some e).2
    have l1 : (L2.wipe (L2.wipe σ vs) vs).length = (L2.wipe σ vs).length := wipe_length _ _
    rcases key (L2.wipe σ vs) with a | a <;> rcases key σ with b | b
    · rw [a, b]
    · rw [List.getElem?_eq_none_iff] at b
      have : (L2.wipe (L2.wipe σ vs) vs)[i]? = none := List.getElem?_eq_none (by omega)
      rw [this] at a; cases a
    · rw [List.getElem?_eq_none_iff] at a
      have : (L2.wipe σ vs)[i]? = none := List.getElem?_eq_none (by omega)
      rw [this] at b; cases b
    · rw [a, b]
  · rw [wipe_out h]
theorem wipe_set {i : Nat} {x : Option V} (h : i ∈ vs) : L2.wipe (σ.set i x) vs = L2.wipe σ vs := by
  apply List.ext_getElem?
  intro j
  by_cases hj : j ∈ vs
  · have key : ∀ (τ : L2.St), τ.length = σ.length → (L2.wipe τ vs)[j]? = if j < σ.length then some none else none := fun τ hl => by
      have l := wipe_length τ vs
      cases e : (L2.wipe τ vs)[j]? with
      | none =>
        rw [List.getElem?_eq_none_iff] at e
        rw [if_neg (by omega)]
      | some x =>
        obtain ⟨hlt, _⟩ := List.getElem?_eq_some_iff.mp e
        rw [if_pos (by omega)]
        cases x with
        | none => rfl
        | some v => exact absurd hj (wipe_some e).2
    rw [key _ (by simp), key _ rfl]
  · rw [wipe_out hj, wipe_out hj, List.getElem?_set_ne (by rintro rfl; exact hj h)]
theorem wipeG_set {i : Nat} {x : Sl} (h : i ∈ vs) : wipeG (g.set i x) vs = wipeG g vs := by
  apply List.ext_getElem?
  intro j
  unfold wipeG
  rw [List.getElem?_mapIdx, List.getElem?_mapIdx]
  by_cases hj : i = j
  · subst hj
    have : vs.contains i = true := by simpa using h
    by_cases hl : i < g.length
    · rw [List.getElem?_set_self hl, List.getElem?_eq_getElem hl]; simp [this, h]
    · rw [List.getElem?_eq_none (by rw [List.length_set]; omega), List.getElem?_eq_none (by omega)]
  · rw [List.getElem?_set_ne hj]
theorem wipeG_wipeG : wipeG (wipeG g vs) vs = wipeG g vs := by
  apply List.ext_getElem?
  intro j
  unfold wipeG
  rw [List.getElem?_mapIdx, List.getElem?_mapIdx]
  cases g[j]? with
  | none => rfl
  | some t =>
    simp only [Option.map_some]
    split <;> rfl
/-- an object of ours that is neither data nor any slot's -/
structure Side (B : Bs) (g : List Sl) (σ : L2.St) (G : Hp) (p : Addr) : Prop where
  b : B.H p = none
  bg : B.G p = none
  no : G p = none
  f : ∀ (i : Nat) (es : List D) (f : Addr), g[i]? = some (Sl.own es) → σ[i]? = some (some (V.ref f)) → f ≠ p
abbrev Bs.pin (B : Bs) (p : Addr) (u : HO) : Bs := { B with H := upd B.H p u }
theorem Fm.side {p : Addr} (o : Fm K B H G n) (b : B.H p = none) : ¬ B.fp p := by
  rintro (⟨x, y, ed, hxy⟩ | ⟨k, e, _⟩)
  · obtain ⟨_, h1, h2, _⟩ := o.deck x y ed
    rcases hxy with rfl | rfl
    · exact h1 b
    · exact h2 b
  · rw [o.bt p b] at e; cases e
theorem Ok.pin {p : Addr} {u : HO} (o : Ok K B g σ H G n) (s : Side B g σ G p) (h : H p = some u) : Ok K (B.pin p u) g σ H G n where
  fm := {
    keep := fun a x e q => by
      by_cases ha : a = p
      · subst ha
        rw [show (B.pin a u).H a = some u from upd_same] at e
        cases e; exact h
      · rw [show (B.pin p u).H a = B.H a from upd_ne ha] at e
        exact o.fm.keep a x e q
    sub := o.fm.sub
    old := o.fm.old
    obs := o.fm.obs
    bt := fun a e => by
      by_cases ha : a = p
      · subst ha; exact s.bg
      · rw [show (B.pin p u).H a = B.H a from upd_ne ha] at e
        exact o.fm.bt a e
    tg := o.fm.tg
    new := fun a e q => by
      by_cases ha : a = p
      · subst ha; exact s.no
      · rw [show (B.pin p u).H a = B.H a from upd_ne ha] at e
        exact o.fm.new a e q
    deck := fun a b e => by
      obtain ⟨d, h1, h2, h3⟩ := o.fm.deck a b e
      refine ⟨d, ?_, ?_, h3⟩
      · show upd B.H p u a ≠ none
        rw [upd_ne (by rintro rfl; exact h1 s.b)]; exact h1
      · show upd B.H p u b ≠ none
        rw [upd_ne (by rintro rfl; exact h2 s.b)]; exact h2 }
  len := o.len
  val := o.val
  own := by
    obtain ⟨f, h1, h2⟩ := o.own
    refine ⟨f, h1, fun i ds e => ?_⟩
    obtain ⟨a, b, c, r⟩ := h2 i ds e
    refine ⟨a, b, ?_, r⟩
    show upd B.H p u (f i) = none
    rw [upd_ne (s.f i ds _ e a)]; exact c
  dck := o.dck
  adr := o.adr
theorem Fm.unpin {H0 G0 : Hp} {n0 : Wd} {p : Addr} {u : HO} (o : Fm K (B.pin p u) H G n) (o0 : Fm K B H0 G0 n0) (b : B.H p = none) : Fm K B H G n where
  keep := fun a x e q => o.keep a x (by
    show upd B.H p u a = some x
    rw [upd_ne (by rintro rfl; rw [b] at e; cases e)]; exact e) q
  sub := o.sub
  old := o.old
  obs := o.obs
  bt := o0.bt
  tg := o.tg
  new := fun a e q => o.new a (by
    show upd B.H p u a ≠ none
    rw [upd_ne (by rintro rfl; exact e b)]; exact e) q
  deck := fun x y e => ⟨(o.deck x y e).1, (o0.deck x y e).2⟩
theorem Ok.unpin {H0 G0 : Hp} {n0 : Wd} {p : Addr} {u : HO} (o : Ok K (B.pin p u) g σ H G n) (o0 : Fm K B H0 G0 n0) (b : B.H p = none) : Ok K B g σ H G n where
  fm := o.fm.unpin o0 b
  len := o.len
  val := o.val
  own := by
    obtain ⟨f, h1, h2⟩ := o.own
    refine ⟨f, h1, fun i ds e => ?_⟩
    obtain ⟨a, c, d, r⟩ := h2 i ds e
    refine ⟨a, c, ?_, r⟩
    have d' : upd B.H p u (f i) = none := d
    by_cases ha : f i = p
    · rw [ha, upd_same] at d'; cases d'
    · rw [upd_ne ha] at d'; exact d'
  dck := o.dck
  adr := o.adr
/-- such an object may be changed -/
theorem Ok.poke {p : Addr} {u : HO} (o : Ok K B g σ H G n) (s : Side B g σ G p) : Ok K B g σ (upd H p u) G n where
  fm := {
    keep := fun a x e q => by
      rw [upd_ne (by rintro rfl; rw [s.b] at e; cases e)]
      exact o.fm.keep a x e q
    sub := ⟨fun a x e m => by
      rw [upd_ne (by rintro rfl; rw [s.no] at e; cases e)]
      exact o.fm.sub.h a x e m, fun a e => by
      by_cases ha : a = p
      · subst ha; exact s.no
      · rw [upd_ne ha] at e; exact o.fm.sub.t a e⟩
    obs := ⟨fun a k w e m => by
      obtain ⟨c, h1, h2⟩ := o.fm.obs.at_ a k w e m
      refine ⟨c, h1, h2.mono (Same.refl _) fun x hx => ?_⟩
      rw [upd_ne (by rintro rfl; rw [s.no] at e; cases e)]
      exact hx, o.fm.obs.inj, fun k c e => by
      obtain ⟨a, h2⟩ := o.fm.obs.all k c e
      obtain ⟨u, e, _⟩ := h2.mark
      refine ⟨a, h2.mono (Same.refl _) fun x hx => ?_⟩
      rw [upd_ne (by rintro rfl; rw [s.no] at e; cases e)]
      exact hx⟩
    bt := o.fm.bt
    tg := o.fm.tg
    old := o.fm.old
    new := o.fm.new
    deck := fun a b e => by
      obtain ⟨⟨cs, c, e1, e2, r⟩, h1, h2, h3⟩ := o.fm.deck a b e
      exact ⟨⟨cs, c, by rw [upd_ne (by rintro rfl; exact h1 s.b)]; exact e1, by rw [upd_ne (by rintro rfl; exact h2 s.b)]; exact e2, r⟩, h1, h2, h3⟩ }
  len := o.len
  val := o.val
  own := by
    obtain ⟨f, h1, h2⟩ := o.own
    refine ⟨f, h1, fun i ds e => ?_⟩
    obtain ⟨a, c, d, xs, hx, da⟩ := h2 i ds e
    exact ⟨a, c, d, xs, by rw [upd_ne (s.f i ds _ e a)]; exact hx, da⟩
  dck := o.dck
  adr := o.adr
theorem Side.grow {p : Addr} {u : HO} (s : Side B g σ G p) (o : Ok K (B.pin p u) g σ H G' n) : Side B g σ G' p :=
  ⟨s.b, s.bg, o.fm.new p (by show upd B.H p u p ≠ none; rw [upd_same]; simp) s.bg, s.f⟩
theorem Ok.side {p : Addr} (o : Ok K B g σ H G n) (h : H p = none) : Side B g σ G p := by
  obtain ⟨h1, h2⟩ := o.fresh h
  refine ⟨h1, ?_, o.free h, h2⟩
  cases e : B.G p with
  | none => rfl
  | some z => exact absurd h (o.fm.there (o.fm.old _ _ e))
/-! ### comprehensions -/
end
section
variable {m : Type → Type} [Mo m]
def lcA (f : D → m (Option D)) : List D → List D → m (List D)
  | [], acc => pure acc
  | d :: r, acc => f d >>= fun o => lcA f r (acc ++ o.toList)
/-- one turn of a block: target, tests, element -/
def CSem (K : PySem.W.Frag) (g : List Sl) (vs : List Nat) (f : D → m (Option D)) (gT : TG) (tt : TT) (te : TE) : Prop :=
  ∀ (B : Bs) (σ : L2.St) (H G : Hp) (n : Wd) (d : D) (v : V) (φ : Option D → Wd → Prop) (Qy : VK) (Qn : Hp → Prop), Ok K B (wipeG g vs) (L2.wipe σ vs) H G n → Da K G v d → Mo.sat (f d) n φ (fun _ _ => False) →
    (∀ H' G' n' y yv, Ok K B (wipeG g vs) (L2.wipe σ vs) H' G' n' → Same G G' → Da K G' yv y → φ (some y) n' → Qy yv H') →
    (∀ H' G' n', Ok K B (wipeG g vs) (L2.wipe σ vs) H' G' n' → Same G G' → φ none n' → Qn H') →
    gT v (L2.wipe σ vs) H fun σ2 H2 => L2.wipe σ2 vs = L2.wipe σ vs ∧ tt σ2 H2 fun b H3 => if b = true then te σ2 H3 Qy else Qn H3
variable [Calm m] {X : Cx} {EX : XR} {g : List Sl}
theorem tlc_of {gT : TG} {tt : TT} {te : TE} {x : m (List D)} {f : D → m (Option D)} {vs : List Nat} (hsem : CSem X.K g vs f gT tt te) (how : noOwn g vs = true) {σ : L2.St} {H : Hp} {Q : VK}
    (h : tlJ X EX g (x >>= fun ds => Mo.lift (small ds) >>= fun ds => lcA f ds []) σ H Q) : tLc (tiJ X EX g x) gT tt te vs σ H Q := by
  obtain ⟨B, G, n, φ, ξ, o, s, q, xw⟩ := h
  refine ⟨B, G, n, _, ξ, o, Mo.sat_bind s, fun J H1 G1 ds n1 o1 g1 wk s1 => ?_, xw⟩
  obtain ⟨es, ee, s1'⟩ := Mo.sat_lift (Mo.sat_bind s1)
  obtain ⟨rfl, hlen⟩ := small_eq ee
  intro D hD
  have sd := o1.side hD
  refine ⟨fun i k H' => k = es.length - i ∧ i ≤ es.length ∧ ∃ G' n' acc ac, Ok X.K B g σ H' G' n' ∧ Same G1 G' ∧ Side B g σ G' D ∧ H' D = some (.lst acc) ∧ DaAll X.K G' acc ac ∧ acc.length ≤ i ∧ Mo.sat (lcA f (es.drop i) ac) n' φ ξ, ⟨es.length, by omega, Nat.zero_le _, G1, n1, [], [], o1.raw hD, Same.refl _, sd, upd_same, .nil, Nat.zero_le _, s1'⟩, ?_⟩
  rintro i k H' ⟨rfl, hi, G', n', acc, ac, o', g', sd', hD', da, hal, s'⟩
  by_cases hlt : i < es.length
  · refine .inr ⟨wk.goes i H' hlt (g'.subm o'.fm.sub), fun H2 => ∃ G2 n2 acc2 ac2, Ok X.K B g σ H2 G2 n2 ∧ Same G1 G2 ∧ Side B g σ G2 D ∧ H2 D = some (.lst acc2) ∧ DaAll X.K G2 acc2 ac2 ∧ acc2.length ≤ i + 1 ∧ Mo.sat (lcA f (es.drop (i + 1)) ac2) n2 φ ξ,
      fun H2 ⟨G2, n2, acc2, ac2, r⟩ => ⟨es.length - (i + 1), by omega, rfl, hlt, G2, n2, acc2, ac2, r⟩, fun v H2 hy => ?_⟩
    obtain ⟨d, G2, ed, gr, dv⟩ := wk.yields i H' G' v H2 hlt g' o'.fm.sub hy
    have o2 := o'.gr gr
    have sd2 : Side B g σ G2 D := ⟨sd'.b, sd'.bg, gr.new D (by rw [hD']; simp) sd'.no, sd'.f⟩
    have hD2 : H2 D = some (.lst acc) := gr.h _ _ hD'
    have e0 : es.drop i = d :: es.drop (i + 1) := by
      rw [List.drop_eq_getElem_cons hlt]
      congr 1
      rw [List.getElem?_eq_getElem hlt] at ed
      exact Option.some.inj ed
    rw [e0] at s'
    have s2 := Calm.calm (ξ' := fun _ _ => False) (Mo.sat_bind s')
    have sdw : Side B (wipeG g vs) (L2.wipe σ vs) G2 D := ⟨sd2.b, sd2.bg, sd2.no, fun j es2 f2 e1 e2 => sd2.f j es2 f2 (wipeG_some e1 (by simp)).1 (wipe_some e2).1⟩
    refine hsem (B.pin D (.lst acc)) σ H2 G2 n' d v _ _ _ (o2.wipe.pin sdw hD2) dv s2 (fun H3 G3 n3 y yv o3 g3 dy s3 => ?_) (fun H3 G3 n3 o3 g3 s3 => ?_)
    · have o3' := o2.unwipe (o3.unpin o2.fm sd2.b) g3 how
      have sd3 : Side B g σ G3 D := ⟨sd2.b, sd2.bg, (sdw.grow o3).no, sd2.f⟩
      have h3 : H3 D = some (.lst acc) := o3.fm.keep D _ upd_same (o2.fm.side sd2.b)
      refine ⟨acc, h3, Nat.lt_of_le_of_lt hal (Nat.lt_of_lt_of_le hlt (le_line hlen)), G3, n3, _, ac ++ [y], o3'.poke sd3, (g'.trans gr.g).trans g3, sd3, upd_same, ((da.mono gr.g).mono g3).append (.one dy), ?_, s3⟩
      rw [List.length_append, List.length_singleton]
      omega
    · have o3' := o2.unwipe (o3.unpin o2.fm sd2.b) g3 how
      have sd3 : Side B g σ G3 D := ⟨sd2.b, sd2.bg, (sdw.grow o3).no, sd2.f⟩
      have h3 : H3 D = some (.lst acc) := o3.fm.keep D _ upd_same (o2.fm.side sd2.b)
      refine ⟨G3, n3, acc, ac, o3', (g'.trans gr.g).trans g3, sd3, h3, (da.mono gr.g).mono g3, by omega, ?_⟩
      have e9 : ac ++ (none : Option PyData).toList = ac := by simp
      have s4 : Mo.sat (lcA f (es.drop (i + 1)) (ac ++ (none : Option PyData).toList)) n3 φ ξ := s3
      rw [e9] at s4
      exact s4
  · have e : i = es.length := by omega
    subst e
    rw [List.drop_length] at s'
    have p := Mo.sat_pure s'
    exact .inl ⟨wk.stops H' (g'.subm o'.fm.sub), q D acc H' G' ac n' o' (g1.trans g') sd'.b sd'.no hD' sd'.f da p⟩
/-- a comprehension as a value, and as what a name is given on one line -/
structure LcP (X : Cx) (EX : XR) (e : Expr) (g : List Sl) (x : m (List D)) : Prop where
  expr : LJ X EX e g x
  stmt : ∀ {i : Nat} {y : Str} {py spos : Pos}, X.N.Nodup → X.N[i]? = some y → X.env.scope.names.lookup y = some .local → swapsWith e (some (.Name y py)) spos.line X.env = pure true → PS X (.Assign [.Name y py] e spos) (tAsg (tlJ X EX g x) (gName i))
theorem lj_lc {elt tg iter : Expr} {ifs : List Expr} {scope : Scope} {own : List (Str × Nat)} {pos : Pos} {gT : TG} {tt : TT} {te : TE} {x : m (List D)} {f : D → m (Option D)} (hc : X.calm = true) (hN : X.N.Nodup) (hi : IJ X EX tg iter g x) (ok : BlkOk X.N X.env.scope scope own)
    (hg : ∀ (s : Shared) (H : Hp) (C : Addr) (cl : List (Str × Addr)) (fp : List Addr), PG (X.blk s H scope (compEnvC scope cl C X.env) fp) tg gT) (ht : ∀ (s : Shared) (H : Hp) (C : Addr) (cl : List (Str × Addr)) (fp : List Addr), PTs (X.blk s H scope (compEnvC scope cl C X.env) fp) ifs tt)
    (he : ∀ (s : Shared) (H : Hp) (C : Addr) (cl : List (Str × Addr)) (fp : List Addr), PE (X.blk s H scope (compEnvC scope cl C X.env) fp) elt te) (hsem : CSem X.K g (own.map (·.2)) f gT tt te) (how : noOwn g (own.map (·.2)) = true) (hs : ∀ x, foldedSetIterable iter X.env x = pure x := by intro _; rfl) :
    LcP X EX (.ListComp elt [⟨tg, iter, ifs, 0⟩] scope pos) g (x >>= fun ds => Mo.lift (small ds) >>= fun ds => lcA f ds []) :=
  ⟨(pe_lc hc hN hi ok hg ht he hs).weak fun σ H Q h => tlc_of hsem how h, fun nd hy hl hsw => (ps_setLc hc nd hy hl hsw hi ok hg ht he hs).weak fun De σ H h => tlc_of hsem how h⟩
end
end DD
namespace DD
open PySem PySem.Spec PyProof.Rows L2
theorem pe_u {ι : Type} {X : Cx} {e : Expr} {F : ι → TE} (h : ∀ i, PE X e (F i)) : PE X e (fun σ H Q => ∃ i, F i σ H Q) := ⟨fun pins s σ H Q I ⟨i, q⟩ => (h i).run pins s σ H Q I q⟩
theorem pt_u {ι : Type} {X : Cx} {e : Expr} {F : ι → TT} (h : ∀ i, PT X e (F i)) : PT X e (fun σ H Q => ∃ i, F i σ H Q) := ⟨fun pins s σ H Q I ⟨i, q⟩ => (h i).run pins s σ H Q I q⟩
section
variable {K : PySem.W.Frag} {B : Bs} {g : List Sl} {σ : L2.St} {H G H' G' : Hp} {n n' : Wd} {vs : List Nat}
theorem Ok.rewipe {g' : List Sl} {σ' : L2.St} (o : Ok K B g' σ' H G n) (eg : wipeG g' vs = wipeG g vs) (es : L2.wipe σ' vs = L2.wipe σ vs) : Ok K B (wipeG g vs) (L2.wipe σ vs) H G n := by
  have := o.wipe (vs := vs)
  rw [eg, es] at this
  exact this
end
section
variable {m : Type → Type} [Mo m] [Calm m] {X : Cx} {EX : XR} {g : List Sl}
/-- the element alone -/
def someM (x : m D) : m (Option D) := x >>= fun y => pure (some y)
def ifM (t : m Bool) (x : m D) : m (Option D) := t >>= fun k => if k = true then someM x else pure none
theorem csem_end {vs : List Nat} {g' : List Sl} {σ σ' : L2.St} {B : Bs} {H G : Hp} {n : Wd} {x : m D} {φ : Option D → Wd → Prop} {Qy : VK} (eg : wipeG g' vs = wipeG g vs) (es : L2.wipe σ' vs = L2.wipe σ vs) (o : Ok X.K B g' σ' H G n) (s : Mo.sat (someM x) n φ (fun _ _ => False))
    (hy : ∀ H' G' n' y yv, Ok X.K B (wipeG g vs) (L2.wipe σ vs) H' G' n' → Same G G' → Da X.K G' yv y → φ (some y) n' → Qy yv H') : teJ X X0 g' x σ' H Qy :=
  ⟨B, G, n, _, _, o, Mo.sat_bind s, fun v H' G' d n' o' g' dv s' => hy H' G' n' d v (o'.rewipe eg es) g' dv (Mo.sat_pure s'), fun _ _ _ _ _ _ _ z => z.elim⟩
theorem csem1 {i : Nat} {vs : List Nat} {f : D → m D} (hin : i ∈ vs) : CSem X.K g vs (fun d => someM (f d)) (gName i) tYes (fun σ H Q => ∃ d : D, teJ X X0 ((wipeG g vs).set i (.val d)) (f d) σ H Q) := by
  intro B σ H G n d v φ Qy Qn o dv s hy hn
  have es : L2.wipe ((L2.wipe σ vs).set i (some v)) vs = L2.wipe σ vs := by rw [wipe_set hin, wipe_wipe]
  refine ⟨es, ?_⟩
  unfold tYes; dsimp only
  rw [if_pos rfl]
  exact ⟨d, csem_end (by rw [wipeG_set hin, wipeG_wipeG]) es (o.setV dv) s hy⟩
/-- two names -/
def pairM {α : Type} (d : D) (f : D → D → m α) : m α := match d with
  | .tuple [a, b] => f a b
  | _ => Mo.lift none
theorem pair_set {vs : List Nat} {i j : Nat} {φ : Option D → Wd → Prop} {B : Bs} {σ : L2.St} {H G : Hp} {n : Wd} {d : D} {v : V} {f : D → D → m (Option D)} {Q : L2.St → Hp → Prop} (hi : i ∈ vs) (hj : j ∈ vs) (o : Ok X.K B (wipeG g vs) (L2.wipe σ vs) H G n) (dv : Da X.K G v d) (s : Mo.sat (pairM d f) n φ (fun _ _ => False))
    (q : ∀ a b u w, L2.wipe (((L2.wipe σ vs).set i (some u)).set j (some w)) vs = L2.wipe σ vs → wipeG (((wipeG g vs).set i (.val a)).set j (.val b)) vs = wipeG g vs → Ok X.K B (((wipeG g vs).set i (.val a)).set j (.val b)) (((L2.wipe σ vs).set i (some u)).set j (some w)) H G n → Mo.sat (f a b) n φ (fun _ _ => False) → Q (((L2.wipe σ vs).set i (some u)).set j (some w)) H) :
    gTup X.K 2 (gCons (gName i) (gCons (gName j) gNil)) v (L2.wipe σ vs) H Q := by
  unfold pairM at s
  split at s
  · rename_i a b
    cases dv with
    | tup h da =>
      cases da with
      | cons d1 r =>
        cases r with
        | cons d2 r =>
          cases r
          refine ⟨_, _, rfl, sameT o.fm.sub h, rfl, _, _, rfl, _, _, rfl, rfl, q a b _ _ ?_ ?_ ((o.setV d1).setV d2) s⟩
          · rw [wipe_set hj, wipe_set hi, wipe_wipe]
          · rw [wipeG_set hj, wipeG_set hi, wipeG_wipeG]
  · obtain ⟨_, e, _⟩ := Mo.sat_lift s
    cases e
theorem csem2 {i j : Nat} {vs : List Nat} {f : D → D → m D} (hi : i ∈ vs) (hj : j ∈ vs) : CSem X.K g vs (fun d => pairM d fun a b => someM (f a b)) (gTup X.K 2 (gCons (gName i) (gCons (gName j) gNil))) tYes
    (fun σ H Q => ∃ d : D × D, teJ X X0 (((wipeG g vs).set i (.val d.1)).set j (.val d.2)) (f d.1 d.2) σ H Q) := by
  intro B σ H G n d v φ Qy Qn o dv s hy hn
  refine pair_set hi hj o dv s fun a b u w es eg o' s' => ⟨es, ?_⟩
  unfold tYes; dsimp only
  rw [if_pos rfl]
  exact ⟨(a, b), csem_end eg es o' s' hy⟩
theorem csem2i {i j : Nat} {vs : List Nat} {f : D → D → m D} {t : D → D → m Bool} (hi : i ∈ vs) (hj : j ∈ vs) : CSem X.K g vs (fun d => pairM d fun a b => ifM (t a b) (f a b)) (gTup X.K 2 (gCons (gName i) (gCons (gName j) gNil)))
    (fun σ H Q => ∃ d : D × D, ttJ X X0 (((wipeG g vs).set i (.val d.1)).set j (.val d.2)) (t d.1 d.2) σ H Q) (fun σ H Q => ∃ d : D × D, teJ X X0 (((wipeG g vs).set i (.val d.1)).set j (.val d.2)) (f d.1 d.2) σ H Q) := by
  intro B σ H G n d v φ Qy Qn o dv s hy hn
  refine pair_set hi hj o dv s fun a b u w es eg o' s' => ⟨es, (a, b), tt_one (EX := X0) o' s' (fun k H1 G1 n1 o1 g1 s1 => ?_) fun _ _ _ _ _ _ _ z => z.elim⟩
  cases k with
  | true =>
    rw [if_pos rfl] at s1 ⊢
    exact ⟨(a, b), csem_end eg es o1 s1 fun H' G' n' y yv o' g' => hy H' G' n' y yv o' (g1.trans g')⟩
  | false =>
    rw [if_neg Bool.false_ne_true] at s1 ⊢
    exact hn H1 G1 n1 (o1.rewipe eg es) g1 (Mo.sat_pure s1)
theorem ej_blk {s : Shared} {H : Hp} {scope : Scope} {env : Env} {fp : List Addr} {e : Expr} {x : m D} (h : EJ (X.blk s H scope env fp) X0 e g x) : PE (X.blk s H scope env fp) e (teJ X X0 g x) := h
theorem tj_blk {s : Shared} {H : Hp} {scope : Scope} {env : Env} {fp : List Addr} {e : Expr} {x : m Bool} (h : TJ (X.blk s H scope env fp) X0 e g x) : PT (X.blk s H scope env fp) e (ttJ X X0 g x) := h
/-- [e for x in it] -/
theorem lj_lc1 (own : List (Str × Nat)) (i : Nat) {elt tg iter : Expr} {scope : Scope} {pos : Pos} {x : m (List D)} {f : D → m D} (hN : X.N.Nodup) (hi : IJ X EX tg iter g x) (ok : BlkOk X.N X.env.scope scope own)
    (hg : ∀ (s : Shared) (H : Hp) (C : Addr) (cl : List (Str × Addr)) (fp : List Addr), PG (X.blk s H scope (compEnvC scope cl C X.env) fp) tg (gName i))
    (he : ∀ (s : Shared) (H : Hp) (C : Addr) (cl : List (Str × Addr)) (fp : List Addr) (d : D), EJ (X.blk s H scope (compEnvC scope cl C X.env) fp) X0 elt ((wipeG g (own.map (·.2))).set i (.val d)) (f d))
    (hin : i ∈ own.map (·.2) := by decide) (how : noOwn g (own.map (·.2)) = true := by rfl) (hc : X.calm = true := by rfl) (hs : ∀ x, foldedSetIterable iter X.env x = pure x := by intro _; rfl) :
    LcP X EX (.ListComp elt [⟨tg, iter, [], 0⟩] scope pos) g (x >>= fun ds => Mo.lift (small ds) >>= fun ds => lcA (fun d => someM (f d)) ds []) :=
  lj_lc hc hN hi ok hg (fun _ _ _ _ _ => pts_nil) (fun s H C cl fp => pe_u fun d => ej_blk (he s H C cl fp d)) (csem1 hin) how hs
/-- [e for x, y in it] -/
theorem lj_lc2 (own : List (Str × Nat)) (i j : Nat) {elt tg iter : Expr} {scope : Scope} {pos : Pos} {x : m (List D)} {f : D → D → m D} (hN : X.N.Nodup) (hi : IJ X EX tg iter g x) (ok : BlkOk X.N X.env.scope scope own)
    (hg : ∀ (s : Shared) (H : Hp) (C : Addr) (cl : List (Str × Addr)) (fp : List Addr), PG (X.blk s H scope (compEnvC scope cl C X.env) fp) tg (gTup X.K 2 (gCons (gName i) (gCons (gName j) gNil))))
    (he : ∀ (s : Shared) (H : Hp) (C : Addr) (cl : List (Str × Addr)) (fp : List Addr) (a b : D), EJ (X.blk s H scope (compEnvC scope cl C X.env) fp) X0 elt (((wipeG g (own.map (·.2))).set i (.val a)).set j (.val b)) (f a b))
    (hin : i ∈ own.map (·.2) := by decide) (hjn : j ∈ own.map (·.2) := by decide) (how : noOwn g (own.map (·.2)) = true := by rfl) (hc : X.calm = true := by rfl) (hs : ∀ x, foldedSetIterable iter X.env x = pure x := by intro _; rfl) :
    LcP X EX (.ListComp elt [⟨tg, iter, [], 0⟩] scope pos) g (x >>= fun ds => Mo.lift (small ds) >>= fun ds => lcA (fun d => pairM d fun a b => someM (f a b)) ds []) :=
  lj_lc hc hN hi ok hg (fun _ _ _ _ _ => pts_nil) (fun s H C cl fp => pe_u fun d => ej_blk (he s H C cl fp d.1 d.2)) (csem2 hin hjn) how hs
/-- [e for x, y in it if t] -/
theorem lj_lc2i (own : List (Str × Nat)) (i j : Nat) {elt tg iter c : Expr} {scope : Scope} {pos : Pos} {x : m (List D)} {f : D → D → m D} {t : D → D → m Bool} (hN : X.N.Nodup) (hi : IJ X EX tg iter g x) (ok : BlkOk X.N X.env.scope scope own)
    (hg : ∀ (s : Shared) (H : Hp) (C : Addr) (cl : List (Str × Addr)) (fp : List Addr), PG (X.blk s H scope (compEnvC scope cl C X.env) fp) tg (gTup X.K 2 (gCons (gName i) (gCons (gName j) gNil))))
    (ht : ∀ (s : Shared) (H : Hp) (C : Addr) (cl : List (Str × Addr)) (fp : List Addr) (a b : D), TJ (X.blk s H scope (compEnvC scope cl C X.env) fp) X0 c (((wipeG g (own.map (·.2))).set i (.val a)).set j (.val b)) (t a b))
    (he : ∀ (s : Shared) (H : Hp) (C : Addr) (cl : List (Str × Addr)) (fp : List Addr) (a b : D), EJ (X.blk s H scope (compEnvC scope cl C X.env) fp) X0 elt (((wipeG g (own.map (·.2))).set i (.val a)).set j (.val b)) (f a b))
    (hin : i ∈ own.map (·.2) := by decide) (hjn : j ∈ own.map (·.2) := by decide) (how : noOwn g (own.map (·.2)) = true := by rfl) (hc : X.calm = true := by rfl) (hs : ∀ x, foldedSetIterable iter X.env x = pure x := by intro _; rfl) :
    LcP X EX (.ListComp elt [⟨tg, iter, [c], 0⟩] scope pos) g (x >>= fun ds => Mo.lift (small ds) >>= fun ds => lcA (fun d => pairM d fun a b => ifM (t a b) (f a b)) ds []) :=
  lj_lc hc hN hi ok hg (fun s H C cl fp => pts_one (pt_u fun d => tj_blk (ht s H C cl fp d.1 d.2))) (fun s H C cl fp => pe_u fun d => ej_blk (he s H C cl fp d.1 d.2)) (csem2i hin hjn) how hs
end
end DD
namespace DD
open PySem PySem.Spec PyProof.Rows L2
/-! ### statements -/
inductive Fl (A : Type) where
  | nx (a : A) | rt (d : D)
section
variable {m : Type → Type} [Mo m] {A A' : Type}
def tsJ (X : Cx) (EX : XR) (g : List Sl) (x : m A) (P : A → List Sl) : TS := fun De σ H => ∃ B G n φ ξ, Ok X.K B g σ H G n ∧ Mo.sat x n φ ξ ∧ (∀ a σ' H' G' n', Ok X.K B (P a) σ' H' G' n' → Same G G' → φ a n' → De.nx σ' H') ∧ Xw X B EX ξ
/-- a plain statement: no return within -/
def SJ (X : Cx) (EX : XR) (s : Stmt) (g : List Sl) (x : m A) (P : A → List Sl) : Prop := PS X s (tsJ X EX g x P)
def tbJ (X : Cx) (EX : XR) (g : List Sl) (x : m (Fl A)) (P : A → List Sl) : TS := fun De σ H => ∃ B G n φ ξ, Ok X.K B g σ H G n ∧ Mo.sat x n φ ξ ∧ (∀ a σ' H' G' n', Ok X.K B (P a) σ' H' G' n' → Same G G' → φ (.nx a) n' → De.nx σ' H') ∧
  (∀ v H' G' d n', Fm X.K B H' G' n' → Da X.K G' v d → φ (.rt d) n' → De.rt v H') ∧ Xw X B EX ξ
/-- a block that may end or return -/
def BJ (X : Cx) (EX : XR) (ss : List Stmt) (g : List Sl) (x : m (Fl A)) (P : A → List Sl) : Prop := PSs X ss (tbJ X EX g x P)
def tfJ (X : Cx) (EX : XR) (fall : Bool) (g : List Sl) (x : m D) : TS := fun De σ H => ∃ B G n φ ξ, Ok X.K B g σ H G n ∧ Mo.sat x n φ ξ ∧ (∀ v H' G' d n', Fm X.K B H' G' n' → Da X.K G' v d → φ d n' → De.rt v H') ∧
  (fall = true → ∀ σ' H' G' n', Fm X.K B H' G' n' → φ .none n' → De.nx σ' H') ∧ Xw X B EX ξ
/-- the rest of a def's body (fall: it may come to its end, which hands back None) -/
def FJ (X : Cx) (EX : XR) (fall : Bool) (ss : List Stmt) (g : List Sl) (x : m D) : Prop := PSs X ss (tfJ X EX fall g x)
end
section
variable {m : Type → Type} [Mo m] {A A' : Type} {X : Cx} {EX : XR} {g : List Sl} {fall : Bool}
theorem fj_seq {s : Stmt} {rest : List Stmt} {x : m A} {P : A → List Sl} {y : A → m D} (h : SJ X EX s g x P) (hr : ∀ a, FJ X EX fall rest (P a) (y a)) : FJ X EX fall (s :: rest) g (x >>= y) :=
  (pss_cons h (u := fun De σ H => ∃ a, tfJ X EX fall (P a) (y a) De σ H) ⟨fun pins s σ H De I ⟨a, q⟩ => (hr a).run pins s σ H De I q⟩).weak fun De σ H ⟨B, G, n, φ, ξ, o, s, q1, q2, xw⟩ =>
    ⟨B, G, n, _, ξ, o, Mo.sat_bind s, fun a σ' H' G' n' o' g' s' => ⟨a, B, G', n', φ, ξ, o', s', q1, q2, xw⟩, xw⟩
theorem bj_seq {s : Stmt} {rest : List Stmt} {x : m A} {P : A → List Sl} {y : A → m (Fl A')} {P' : A' → List Sl} (h : SJ X EX s g x P) (hr : ∀ a, BJ X EX rest (P a) (y a) P') : BJ X EX (s :: rest) g (x >>= y) P' :=
  (pss_cons h (u := fun De σ H => ∃ a, tbJ X EX (P a) (y a) P' De σ H) ⟨fun pins s σ H De I ⟨a, q⟩ => (hr a).run pins s σ H De I q⟩).weak fun De σ H ⟨B, G, n, φ, ξ, o, s, q1, q2, xw⟩ =>
    ⟨B, G, n, _, ξ, o, Mo.sat_bind s, fun a σ' H' G' n' o' g' s' => ⟨a, B, G', n', φ, ξ, o', s', fun c τ K' L' k oc gc pc => q1 c τ K' L' k oc (g'.trans gc) pc, q2, xw⟩, xw⟩
/-- what a later block need not know is forgotten -/
def Sub : List Sl → List Sl → Prop
  | [], [] => True
  | s :: g, t :: h => (t = .any ∨ t = s) ∧ Sub g h
  | _, _ => False
theorem Sub.len : ∀ {g h : List Sl}, Sub g h → h.length = g.length
  | [], [], _ => rfl
  | _ :: _, _ :: _, q => by simp [Sub.len q.2]
  | [], _ :: _, q => q.elim
  | _ :: _, [], q => q.elim
theorem Sub.get : ∀ {g h : List Sl}, Sub g h → ∀ (i : Nat) (s : Sl), h[i]? = some s → s = .any ∨ g[i]? = some s
  | [], [], _, i, s, e => by simp at e
  | a :: g, b :: h, q, 0, s, e => by
    simp at e
    subst e
    rcases q.1 with z | z
    · exact .inl z
    · exact .inr (by simp [z])
  | a :: g, b :: h, q, i + 1, s, e => by
    simp only [List.getElem?_cons_succ] at e ⊢
    exact Sub.get q.2 i s e
  | [], _ :: _, q, _, _, _ => q.elim
  | _ :: _, [], q, _, _, _ => q.elim
theorem Ok.forget {K : PySem.W.Frag} {B : Bs} {σ : L2.St} {H G : Hp} {n : Wd} {g' : List Sl} (o : Ok K B g σ H G n) (h : Sub g g') : Ok K B g' σ H G n := o.sub h.len h.get
theorem fj_nil : FJ (m := m) X EX true [] g (pure .none) := pss_nil.weak fun De σ H ⟨B, G, n, φ, ξ, o, s, q1, q2, xw⟩ => q2 rfl σ H G n o.fm (Mo.sat_pure s)
theorem bj_nil {a : A} {P : A → List Sl} (h : Sub g (P a)) : BJ (m := m) X EX [] g (pure (.nx a)) P := pss_nil.weak fun De σ H ⟨B, G, n, φ, ξ, o, s, q1, q2, xw⟩ => q1 a σ H G n (o.forget h) (Same.refl _) (Mo.sat_pure s)
theorem pss_ret {e : Expr} {rest : List Stmt} {pos : Pos} {te : TE} (h : PE X e te) : PSs X (.Return (some e) pos :: rest) (fun De σ H => te σ H De.rt) := (pss_cons (ps_ret h) (u := tNever) ⟨fun _ _ _ _ _ _ h => h.elim⟩)
theorem fj_ret {e : Expr} {rest : List Stmt} {pos : Pos} {x : m D} (h : EJ X EX e g x) : FJ X EX fall (.Return (some e) pos :: rest) g x :=
  (pss_ret h).weak fun De σ H ⟨B, G, n, φ, ξ, o, s, q1, q2, xw⟩ => ⟨B, G, n, φ, ξ, o, s, fun v H' G' d n' o' g' d' p => q1 v H' G' d n' o'.fm d' p, xw⟩
/-! ### if -/
/-- if c: .. (it returns) -/
theorem fj_ifr {c : Expr} {thn rest : List Stmt} {pos : Pos} {t : m Bool} {x y : m D} (hc : TJ X EX c g t) (h1 : FJ X EX false thn g x) (h2 : FJ X EX fall rest g y) : FJ X EX fall (.If c thn [] pos :: rest) g (t >>= fun k => if k = true then x else y) :=
  (pss_cons (ps_if hc h1 pss_nil) h2).weak fun De σ H ⟨B, G, n, φ, ξ, o, s, q1, q2, xw⟩ => tt_one o s (fun b H1 G1 n1 o1 g1 s1 => by
    cases b with
    | true =>
      rw [if_pos rfl] at s1 ⊢
      exact ⟨B, G1, n1, φ, ξ, o1, s1, q1, (fun z => by cases z), xw⟩
    | false =>
      rw [if_neg Bool.false_ne_true] at s1 ⊢
      exact ⟨B, G1, n1, φ, ξ, o1, s1, q1, q2, xw⟩) xw
theorem bj_ifr {c : Expr} {thn rest : List Stmt} {pos : Pos} {t : m Bool} {x : m D} {y : m (Fl A)} {P : A → List Sl} (hc : TJ X EX c g t) (h1 : FJ X EX false thn g x) (h2 : BJ X EX rest g y P) : BJ X EX (.If c thn [] pos :: rest) g (t >>= fun k => if k = true then (x >>= fun d => pure (.rt d)) else y) P :=
  (pss_cons (ps_if hc h1 pss_nil) h2).weak fun De σ H ⟨B, G, n, φ, ξ, o, s, q1, q2, xw⟩ => tt_one o s (fun b H1 G1 n1 o1 g1 s1 => by
    cases b with
    | true =>
      rw [if_pos rfl] at s1 ⊢
      exact ⟨B, G1, n1, _, ξ, o1, Mo.sat_bind s1, (fun v H' G' d n' f' d' p => q2 v H' G' d n' f' d' (Mo.sat_pure p)), (fun z => by cases z), xw⟩
    | false =>
      rw [if_neg Bool.false_ne_true] at s1 ⊢
      exact ⟨B, G1, n1, φ, ξ, o1, s1, fun c τ K' L' k oc gc pc => q1 c τ K' L' k oc (g1.trans gc) pc, q2, xw⟩) xw
def thenM (f : Fl A) (y : A → m D) : m D := match f with
  | .nx a => y a
  | .rt d => pure d
def thenB (f : Fl A) (y : A → m (Fl A')) : m (Fl A') := match f with
  | .nx a => y a
  | .rt d => pure (.rt d)
theorem pss_any {ι : Type} {ss : List Stmt} {F : ι → TS} (h : ∀ i, PSs X ss (F i)) : PSs X ss (fun De σ H => ∃ i, F i De σ H) := ⟨fun pins s σ H De I ⟨i, q⟩ => (h i).run pins s σ H De I q⟩
theorem bj_if {c : Expr} {thn els rest : List Stmt} {pos : Pos} {t : m Bool} {x1 x2 : m (Fl A)} {P : A → List Sl} {y : A → m (Fl A')} {P' : A' → List Sl} (hc : TJ X EX c g t) (h1 : BJ X EX thn g x1 P) (h2 : BJ X EX els g x2 P) (hr : ∀ a, BJ X EX rest (P a) (y a) P') :
    BJ X EX (.If c thn els pos :: rest) g (t >>= fun k => (if k = true then x1 else x2) >>= fun f => thenB f y) P' :=
  (pss_cons (ps_if hc h1 h2) (pss_any hr)).weak fun De σ H ⟨B, G, n, φ, ξ, o, s, q1, q2, xw⟩ => tt_one o s (fun b H1 G1 n1 o1 g1 s1 => by
    cases b with
    | true =>
      rw [if_pos rfl] at s1 ⊢
      exact ⟨B, G1, n1, _, ξ, o1, Mo.sat_bind s1, (fun a σ' H' G' n' o' g' s' => ⟨a, B, G', n', φ, ξ, o', s', fun c τ K' L' k oc gc pc => q1 c τ K' L' k oc ((g1.trans g').trans gc) pc, q2, xw⟩), (fun v H' G' d n' f' d' p => q2 v H' G' d n' f' d' (Mo.sat_pure p)), xw⟩
    | false =>
      rw [if_neg Bool.false_ne_true] at s1 ⊢
      exact ⟨B, G1, n1, _, ξ, o1, Mo.sat_bind s1, (fun a σ' H' G' n' o' g' s' => ⟨a, B, G', n', φ, ξ, o', s', fun c τ K' L' k oc gc pc => q1 c τ K' L' k oc ((g1.trans g').trans gc) pc, q2, xw⟩), (fun v H' G' d n' f' d' p => q2 v H' G' d n' f' d' (Mo.sat_pure p)), xw⟩) xw
/-! ### for -/
def loopM (f : D → A → m (Fl A)) : List D → A → m (Fl A)
  | [], a => pure (.nx a)
  | d :: r, a => f d a >>= fun z => match z with
    | .nx a' => loopM f r a'
    | .rt v => pure (.rt v)
/-- the target's store at a turn: from the loop's slots P a and the item d to what the body finds -/
def GSem (K : PySem.W.Frag) (gT : TG) (P : A → List Sl) (b : D → A → m (Fl A)) (f : D → A → List Sl → m (Fl A) → Prop) : Prop :=
  ∀ (B : Bs) (σ : L2.St) (H G : Hp) (n : Wd) (d : D) (a : A) (v : V) (φ : Fl A → Wd → Prop) (ξ : Exn → Wd → Prop) (Q : L2.St → Hp → Prop), Ok K B (P a) σ H G n → Da K G v d → Mo.sat (b d a) n φ ξ → (∀ g' y σ', f d a g' y → Ok K B g' σ' H G n → Mo.sat y n φ ξ → Q σ' H) → gT v σ H Q
theorem for_core {tg iter : Expr} {body : List Stmt} {pos : Pos} {xi : m (List D)} {gT : TG} {P : A → List Sl} {a0 : A} {b : D → A → m (Fl A)} {F : D → A → List Sl → m (Fl A) → Prop} (hp : PassesOwn (model X.prog X.w) X.A X.env X.xe) (hc : X.calm = true) (hi : IJ X EX tg iter g xi) (hg : PG X tg gT)
    (hb : ∀ d a g' y, F d a g' y → BJ X EX body g' y P) (hsem : GSem X.K gT P b F) (h0 : Sub g (P a0)) (hs : ∀ x, foldedSetIterable iter X.env x = pure x := by intro _; rfl) :
    PS X (.For tg iter body [] pos) (tbJ X EX g (xi >>= fun ds => loopM b ds a0) P) := by
  have hbody : PSs X body (fun De σ H => ∃ t : { t : D × A × List Sl × m (Fl A) // F t.1 t.2.1 t.2.2.1 t.2.2.2 }, tbJ X EX t.1.2.2.1 t.1.2.2.2 P De σ H) := pss_any fun t => hb _ _ _ _ t.2
  refine (ps_for hp hc hi hg hbody hs).weak fun De σ H ⟨B, G, n, φ, ξ, o, s, q1, q2, xw⟩ => ⟨B, G, n, _, ξ, o, Mo.sat_bind s, fun J H1 G1 ds n1 o1 g1 wk s1 => ?_, xw⟩
  refine ⟨fun i k σ' H' => k = ds.length - i ∧ i ≤ ds.length ∧ ∃ G' n' a, Ok X.K B (P a) σ' H' G' n' ∧ Same G1 G' ∧ Mo.sat (loopM b (ds.drop i) a) n' φ ξ, ⟨ds.length, by omega, Nat.zero_le _, G1, n1, a0, o1.forget h0, Same.refl _, s1⟩, ?_⟩
  rintro i k σ' H' ⟨rfl, hi, G', n', a, o', g', s'⟩
  by_cases hlt : i < ds.length
  · refine .inr ⟨wk.goes i H' hlt (g'.subm o'.fm.sub), fun σ2 H2 => ∃ G2 n2 a2, Ok X.K B (P a2) σ2 H2 G2 n2 ∧ Same G1 G2 ∧ Mo.sat (loopM b (ds.drop (i + 1)) a2) n2 φ ξ, fun σ2 H2 ⟨G2, n2, a2, r⟩ => ⟨ds.length - (i + 1), by omega, rfl, hlt, G2, n2, a2, r⟩, fun v H2 hy => ?_⟩
    obtain ⟨d, G2, ed, gr, dv⟩ := wk.yields i H' G' v H2 hlt g' o'.fm.sub hy
    have e0 : ds.drop i = d :: ds.drop (i + 1) := by
      rw [List.drop_eq_getElem_cons hlt]
      congr 1
      rw [List.getElem?_eq_getElem hlt] at ed
      exact Option.some.inj ed
    rw [e0] at s'
    refine hsem B σ' H2 G2 n' d a v _ ξ _ (o'.gr gr) dv (Mo.sat_bind s') fun g2 y σ2 hF o2 s2 => ?_
    refine ⟨⟨(d, a, g2, y), hF⟩, B, G2, n', _, ξ, o2, s2, fun a3 σ3 H3 G3 n3 o3 g3 s3 => ⟨G3, n3, a3, o3, (g'.trans gr.g).trans g3, s3⟩, fun w H3 G3 e n3 f3 d3 s3 => q2 w H3 G3 e n3 f3 d3 (Mo.sat_pure s3), xw⟩
  · have e : i = ds.length := by omega
    subst e
    rw [List.drop_length] at s'
    exact .inl ⟨wk.stops H' (g'.subm o'.fm.sub), q1 a σ' H' G' n' o' (g1.trans g') (Mo.sat_pure s')⟩
end
end DD
namespace DD
open PySem PySem.Spec PyProof.Rows L2
section
variable {m : Type → Type} [Mo m] {A A' : Type} {X : Cx} {EX : XR} {g : List Sl} {fall : Bool}
/-! ### for, by its target -/
theorem gsem1 {i : Nat} {P : A → List Sl} {b : D → A → m (Fl A)} : GSem X.K (gName i) P b (fun d a g' y => g' = (P a).set i (.val d) ∧ y = b d a) := by
  intro B σ H G n d a v φ ξ Q o dv s q
  exact q _ _ _ ⟨rfl, rfl⟩ (o.setV dv) s
theorem gsem2 {i j : Nat} {P : A → List Sl} {b : D → D → A → m (Fl A)} : GSem X.K (gTup X.K 2 (gCons (gName i) (gCons (gName j) gNil))) P (fun d a => pairM d fun u w => b u w a) (fun d a g' y => ∃ u w, g' = ((P a).set i (.val u)).set j (.val w) ∧ y = b u w a) := by
  intro B σ H G n d a v φ ξ Q o dv s q
  unfold pairM at s
  dsimp only at s
  split at s
  · rename_i u w
    cases dv with
    | tup h da =>
      cases da with
      | cons d1 r =>
        cases r with
        | cons d2 r =>
          cases r
          exact ⟨_, _, rfl, sameT o.fm.sub h, rfl, _, _, rfl, _, _, rfl, rfl, q _ _ _ ⟨u, w, rfl, rfl⟩ ((o.setV d1).setV d2) s⟩
  · obtain ⟨_, e, _⟩ := Mo.sat_lift s
    cases e
theorem fj_of_for {s : Stmt} {rest : List Stmt} {x : m (Fl A)} {P : A → List Sl} {y : A → m D} (h : PS X s (tbJ X EX g x P)) (hr : ∀ a, FJ X EX fall rest (P a) (y a)) : FJ X EX fall (s :: rest) g (x >>= fun f => thenM f y) :=
  (pss_cons h (pss_any hr)).weak fun De σ H ⟨B, G, n, φ, ξ, o, s, q1, q2, xw⟩ =>
    ⟨B, G, n, _, ξ, o, Mo.sat_bind s, fun a σ' H' G' n' o' g' s' => ⟨a, B, G', n', φ, ξ, o', s', q1, q2, xw⟩, fun v H' G' d n' f' d' p => q1 v H' G' d n' f' d' (Mo.sat_pure p), xw⟩
theorem bj_of_for {s : Stmt} {rest : List Stmt} {x : m (Fl A)} {P : A → List Sl} {y : A → m (Fl A')} {P' : A' → List Sl} (h : PS X s (tbJ X EX g x P)) (hr : ∀ a, BJ X EX rest (P a) (y a) P') : BJ X EX (s :: rest) g (x >>= fun f => thenB f y) P' :=
  (pss_cons h (pss_any hr)).weak fun De σ H ⟨B, G, n, φ, ξ, o, s, q1, q2, xw⟩ =>
    ⟨B, G, n, _, ξ, o, Mo.sat_bind s, fun a σ' H' G' n' o' g' s' => ⟨a, B, G', n', φ, ξ, o', s', fun c τ K' L' k oc gc pc => q1 c τ K' L' k oc (g'.trans gc) pc, q2, xw⟩, fun v H' G' d n' f' d' p => q2 v H' G' d n' f' d' (Mo.sat_pure p), xw⟩
theorem for1 (i : Nat) {tg iter : Expr} {body : List Stmt} {pos : Pos} {xi : m (List D)} {P : A → List Sl} {a0 : A} {b : D → A → m (Fl A)} (hp : PassesOwn (model X.prog X.w) X.A X.env X.xe) (hi : IJ X EX tg iter g xi) (hg : PG X tg (gName i))
    (hb : ∀ d a, BJ X EX body ((P a).set i (.val d)) (b d a) P) (h0 : Sub g (P a0)) (hc : X.calm = true := by rfl) (hs : ∀ x, foldedSetIterable iter X.env x = pure x := by intro _; rfl) :
    PS X (.For tg iter body [] pos) (tbJ X EX g (xi >>= fun ds => loopM b ds a0) P) :=
  for_core hp hc hi hg (fun d a g' y ⟨e1, e2⟩ => by subst e1 e2; exact hb d a) gsem1 h0 hs
theorem for2 (i j : Nat) {tg iter : Expr} {body : List Stmt} {pos : Pos} {xi : m (List D)} {P : A → List Sl} {a0 : A} {b : D → D → A → m (Fl A)} (hp : PassesOwn (model X.prog X.w) X.A X.env X.xe) (hi : IJ X EX tg iter g xi) (hg : PG X tg (gTup X.K 2 (gCons (gName i) (gCons (gName j) gNil))))
    (hb : ∀ u w a, BJ X EX body (((P a).set i (.val u)).set j (.val w)) (b u w a) P) (h0 : Sub g (P a0)) (hc : X.calm = true := by rfl) (hs : ∀ x, foldedSetIterable iter X.env x = pure x := by intro _; rfl) :
    PS X (.For tg iter body [] pos) (tbJ X EX g (xi >>= fun ds => loopM (fun d a => pairM d fun u w => b u w a) ds a0) P) :=
  for_core hp hc hi hg (fun d a g' y ⟨u, w, e1, e2⟩ => by subst e1 e2; exact hb u w a) gsem2 h0 hs
/-! ### plain statements -/
theorem sj_set (i : Nat) {y : Str} {py pos : Pos} {e : Expr} {x : m D} (hN : X.N.Nodup) (h : EJ X EX e g x) (hi : X.N[i]? = some y := by rfl) (hx : Loc X.env.scope y := by first | exact Or.inl rfl | exact Or.inr rfl) (hs : swapsWith e (some (.Name y py)) pos.line X.env = pure false := by kernel_rfl)
    (hf : X.fn y = true ∨ X.env.scope.names.lookup y = some .local := by first | exact .inl rfl | exact .inr rfl) : SJ X EX (.Assign [.Name y py] e pos) g x (fun d => g.set i (.val d)) :=
  (ps_set hN hi hx h hs hf).weak fun De σ H ⟨B, G, n, φ, ξ, o, s, q, xw⟩ => ⟨B, G, n, φ, ξ, o, s, fun v H' G' d n' o' g' dv p => q d _ H' G' n' (o'.setV dv) g' p, xw⟩
theorem sj_expr {e : Expr} {pos : Pos} {x : m D} (h : EJ X EX e g x) (hs : swapsWith e none pos.line X.env = pure false := by kernel_rfl) : SJ X EX (.Expr e pos) g x (fun _ => g) :=
  (ps_expr h hs).weak fun De σ H ⟨B, G, n, φ, ξ, o, s, q, xw⟩ => ⟨B, G, n, φ, ξ, o, s, fun v H' G' d n' o' g' dv p => q d _ H' G' n' o' g' p, xw⟩
/-- a slot is given a list of its own -/
theorem Ok.setO {K : PySem.W.Frag} {B : Bs} {σ : L2.St} {H G : Hp} {n : Wd} {p : Addr} {xs : List V} {ds : List D} {i : Nat} (o : Ok K B g σ H G n) (hb : B.H p = none) (hg : G p = none) (hh : H p = some (.lst xs))
    (hf : ∀ (i : Nat) (es : List D) (f : Addr), g[i]? = some (Sl.own es) → σ[i]? = some (some (V.ref f)) → f ≠ p) (da : DaAll K G xs ds) : Ok K B (g.set i (.own ds)) (σ.set i (some (.ref p))) H G n where
  fm := o.fm
  len := by rw [List.length_set, List.length_set, o.len]
  val := fun j e he => by
    by_cases hj : i = j
    · subst hj
      by_cases hl : i < g.length
      · rw [List.getElem?_set_self hl] at he; cases he
      · rw [List.getElem?_eq_none (by rw [List.length_set]; omega)] at he; cases he
    · rw [List.getElem?_set_ne hj] at he ⊢
      exact o.val j e he
  own := by
    obtain ⟨f, h1, h2⟩ := o.own
    have out : ∀ (j : Nat) (es : List D), i ≠ j → (g.set i (.own ds))[j]? = some (Sl.own es) → g[j]? = some (Sl.own es) := fun j es hj e => by
      rw [List.getElem?_set_ne hj] at e; exact e
    refine ⟨fun j => if j = i then p else f j, fun j k es es' a b e => ?_, fun j es e => ?_⟩
    · dsimp only at e
      by_cases hj : j = i <;> by_cases hk : k = i
      · rw [hj, hk]
      · rw [if_pos hj, if_neg hk] at e
        have b' := out k es' (Ne.symm hk) b
        obtain ⟨q, _⟩ := h2 k es' b'
        exact absurd e.symm (hf k es' _ b' q)
      · rw [if_neg hj, if_pos hk] at e
        have a' := out j es (Ne.symm hj) a
        obtain ⟨q, _⟩ := h2 j es a'
        exact absurd e (hf j es _ a' q)
      · rw [if_neg hj, if_neg hk] at e
        exact h1 j k es es' (out j es (Ne.symm hj) a) (out k es' (Ne.symm hk) b) e
    · dsimp only
      by_cases hj : j = i
      · subst hj
        by_cases hl : j < g.length
        · rw [List.getElem?_set_self hl] at e
          cases e
          rw [if_pos rfl, List.getElem?_set_self (by rw [← o.len]; exact hl)]
          exact ⟨rfl, hg, hb, xs, hh, da⟩
        · rw [List.getElem?_eq_none (by rw [List.length_set]; omega)] at e; cases e
      · rw [if_neg hj, List.getElem?_set_ne (Ne.symm hj)]
        exact h2 j es (out j es (Ne.symm hj) e)
  dck := fun j e => by
    by_cases hj : i = j
    · subst hj
      by_cases hl : i < g.length
      · rw [List.getElem?_set_self hl] at e; cases e
      · rw [List.getElem?_eq_none (by rw [List.length_set]; omega)] at e; cases e
    · rw [List.getElem?_set_ne hj] at e ⊢
      exact o.dck j e
  adr := fun j b od fs e => by
    by_cases hj : i = j
    · subst hj
      by_cases hl : i < g.length
      · rw [List.getElem?_set_self hl] at e; cases e
      · rw [List.getElem?_eq_none (by rw [List.length_set]; omega)] at e; cases e
    · rw [List.getElem?_set_ne hj] at e ⊢
      exact o.adr j b od fs e
theorem sj_setO (i : Nat) {y : Str} {py pos : Pos} {e : Expr} {x : m (List D)} (hN : X.N.Nodup) (h : LJ X EX e g x) (hi : X.N[i]? = some y := by rfl) (hx : Loc X.env.scope y := by first | exact Or.inl rfl | exact Or.inr rfl) (hs : swapsWith e (some (.Name y py)) pos.line X.env = pure false := by kernel_rfl)
    (hf : X.fn y = true ∨ X.env.scope.names.lookup y = some .local := by first | exact .inl rfl | exact .inr rfl) : SJ X EX (.Assign [.Name y py] e pos) g x (fun ds => g.set i (.own ds)) :=
  (ps_set hN hi hx h hs hf).weak fun De σ H ⟨B, G, n, φ, ξ, o, s, q, xw⟩ => ⟨B, G, n, φ, ξ, o, s, fun p xs H' G' ds n' o' g' hb hg hh hf da pd => q ds _ H' G' n' (o'.setO hb hg hh hf da) g' pd, xw⟩
/-- y = [..] on one line, y a local -/
theorem sj_lcV (i : Nat) {y : Str} {py pos : Pos} {e : Expr} {x : m (List D)} (hN : X.N.Nodup) (h : LcP X EX e g x) (hw : swapsWith e (some (.Name y py)) pos.line X.env = pure true) (hi : X.N[i]? = some y := by rfl) (hl : X.env.scope.names.lookup y = some .local := by rfl) :
    SJ X EX (.Assign [.Name y py] e pos) g x (fun ds => g.set i (.val (.list ds))) :=
  (h.stmt hN hi hl hw).weak fun De σ H ⟨B, G, n, φ, ξ, o, s, q, xw⟩ => ⟨B, G, n, φ, ξ, o, s, fun p xs H' G' ds n' o' g' hb hg hh hf da pd => by
    obtain ⟨o2, g2⟩ := o'.freeze hb hg hh hf
    exact q ds _ H' _ n' (o2.setV (.lst upd_same (da.mono g2))) (g'.trans g2) pd, xw⟩
theorem sj_lcO (i : Nat) {y : Str} {py pos : Pos} {e : Expr} {x : m (List D)} (hN : X.N.Nodup) (h : LcP X EX e g x) (hw : swapsWith e (some (.Name y py)) pos.line X.env = pure true) (hi : X.N[i]? = some y := by rfl) (hl : X.env.scope.names.lookup y = some .local := by rfl) :
    SJ X EX (.Assign [.Name y py] e pos) g x (fun ds => g.set i (.own ds)) :=
  (h.stmt hN hi hl hw).weak fun De σ H ⟨B, G, n, φ, ξ, o, s, q, xw⟩ => ⟨B, G, n, φ, ξ, o, s, fun p xs H' G' ds n' o' g' hb hg hh hf da pd => q ds _ H' G' n' (o'.setO hb hg hh hf da) g' pd, xw⟩
/-- the list in slot i is changed -/
theorem Ok.write {K : PySem.W.Frag} {B : Bs} {σ : L2.St} {H G : Hp} {n : Wd} {a : Addr} {xs : List V} {ds es : List D} {i : Nat} (o : Ok K B g σ H G n) (hi : g[i]? = some (Sl.own es)) (ha : σ[i]? = some (some (V.ref a))) (da : DaAll K G xs ds) : Ok K B (g.set i (.own ds)) σ (upd H a (.lst xs)) G n := by
  obtain ⟨f, h1, h2⟩ := id o.own
  obtain ⟨e1, e2, e3, ys, e4, e5⟩ := h2 i es hi
  rw [ha] at e1
  obtain rfl : a = f i := by cases e1; rfl
  have hl : i < g.length := (List.getElem?_eq_some_iff.mp hi).1
  have sd : Side B (g.set i .any) σ G (f i) := by
    refine ⟨e3, ?_, e2, fun j es' q z y => ?_⟩
    · cases e : B.G (f i) with
      | none => rfl
      | some z => rw [o.fm.old _ _ e] at e2; cases e2
    · by_cases hj : i = j
      · subst hj
        rw [List.getElem?_set_self hl] at z; cases z
      · rw [List.getElem?_set_ne hj] at z
        rintro rfl
        obtain ⟨q1, _⟩ := h2 j es' z
        rw [q1] at y
        exact hj (h1 i j es es' hi z (V.ref.inj (Option.some.inj (Option.some.inj y))).symm)
  have o1 : Ok K B (g.set i .any) σ H G n := o.sub (by simp) fun j s e => by
    by_cases hj : i = j
    · subst hj
      rw [List.getElem?_set_self hl] at e
      cases e
      exact .inl rfl
    · rw [List.getElem?_set_ne hj] at e
      exact .inr e
  have o2 := (o1.poke (u := .lst xs) sd).setO (i := i) (p := f i) sd.b sd.no upd_same sd.f da
  rw [List.set_set] at o2
  have : σ.set i (some (V.ref (f i))) = σ := by
    apply List.ext_getElem?
    intro j
    by_cases hj : i = j
    · subst hj
      rw [List.getElem?_set_self (by rw [← o.len]; exact hl), ha]
    · rw [List.getElem?_set_ne hj]
  rw [this] at o2
  exact o2
end
end DD
namespace DD
open PySem PySem.Spec PyProof.Rows L2
section
variable {m : Type → Type} [Mo m] {A A' : Type} {X : Cx} {EX : XR} {g : List Sl} {fall : Bool}
theorem own_at {K : PySem.W.Frag} {B : Bs} {σ : L2.St} {H G : Hp} {n : Wd} {i : Nat} {ds : List D} (o : Ok K B g σ H G n) (hi : g[i]? = some (Sl.own ds)) : ∃ a xs, σ[i]? = some (some (V.ref a)) ∧ H a = some (.lst xs) ∧ DaAll K G xs ds := by
  obtain ⟨f, _, h2⟩ := o.own
  obtain ⟨e1, _, _, xs, e4, e5⟩ := h2 i ds hi
  exact ⟨f i, xs, e1, e4, e5⟩
def fits (k : Nat) : Option Unit := if k < 1000000 then some () else none
theorem fits_lt {k : Nat} {u : Unit} (h : fits k = some u) : k < sizeLine := by
  unfold fits at h
  split at h
  · rename_i hl; exact Nat.lt_trans hl (by decide)
  · cases h
/-- x.append(e), x a list of one's own -/
theorem sj_append (i : Nat) {ds : List D} {y : Str} {py apos cpos pos : Pos} {e : Expr} {x : m D} (h : EJ X EX e g x) (hg : g[i]? = some (Sl.own ds) := by rfl) (hN : X.N[i]? = some y := by rfl) (hv : Vis X.env.scope y := by first | exact Or.inl rfl | exact Or.inr (Or.inl rfl) | exact Or.inr (Or.inr rfl))
    (hd : (y == ("__debug__" : Str)) = false := by decide) (hcd : (y == ("__classdict__" : Str)) = false := by decide)
    (hbase : attributeBase (.Name y py) "append" X.env (eval (.Name y py) X.env) = eval (.Name y py) X.env := by rfl)
    (hfew : ((backTo cpos (starEach [e] X.env)).all (fun x => !x.1) && (backToKw cpos (keywordEach [] X.env)).all (fun x => x.1.isSome) && decide ([e].length + ([] : List Keyword).length + (if ([] : List Keyword).isEmpty then 0 else 1) < 30)) = true := by rfl)
    (hline : (apos.endLine == cpos.line) = true := by rfl) (hs : starEach [e] X.env = (false, eval e X.env) :: starEach [] X.env := by rfl) (hpl : (backTo cpos (starEach [] X.env)).any (·.1) = false := by rfl)
    (hw : swapsWith (.Call (.Attribute (.Name y py) "append" apos) [e] [] cpos) none pos.line X.env = pure false := by rfl) :
    SJ X EX (.Expr (.Call (.Attribute (.Name y py) "append" apos) [e] [] cpos) pos) g (x >>= fun d => Mo.lift (fits ds.length) >>= fun _ => pure d) (fun d => g.set i (.own (ds ++ [d]))) :=
  (ps_expr (pe_bm PySem.F.plainAttrs_list PySem.F.slot_list_append PySem.F.type_list_append mt_append (pe_var hN hv hd hcd) (pa_cons h pa_nil hs) hbase hfew hline hs hpl) hw).weak fun De σ H ⟨B, G, n, φ, ξ, o, s, q, xw⟩ => by
    obtain ⟨a, xs, e1, e2, e3⟩ := own_at o hg
    refine ⟨.ref a, e1, .inl ⟨rfl, xs, .inl (.inl e2)⟩, te_one o s (fun v H1 G1 d n1 o1 g1 d1 s1 => ?_) xw⟩
    obtain ⟨u, eu, s2⟩ := Mo.sat_lift (Mo.sat_bind s1)
    obtain ⟨a', xs', e1', e2', e3'⟩ := own_at o1 hg
    rw [e1] at e1'
    cases e1'
    refine ⟨a, xs', v, rfl, rfl, e2', by rw [e3'.length]; exact fits_lt eu, q d _ _ G1 n1 (o1.write hg e1 (e3'.append (.one d1))) g1 (Mo.sat_pure s2)⟩
def putD (ds : List D) (k : D) (d : D) : Option (List D) := match k with
  | .int j => (ixN ds.length j).map fun i => ds.set i d
  | _ => none
/-- x[k] = e, x a list of one's own -/
theorem sj_put (i : Nat) {ds : List D} {y : Str} {py p2 pos : Pos} {k e : Expr} {x z : m D} (h : EJ X EX e g x) (hk : EJ X EX k g z) (hg : g[i]? = some (Sl.own ds) := by rfl) (hN : X.N[i]? = some y := by rfl) (hv : Vis X.env.scope y := by first | exact Or.inl rfl | exact Or.inr (Or.inl rfl) | exact Or.inr (Or.inr rfl))
    (hd : (y == ("__debug__" : Str)) = false := by decide) (hcd : (y == ("__classdict__" : Str)) = false := by decide)
    (ha : ∀ v, assign (.Subscript (.Name y py) k p2) X.env v = (do
      let ov ← holding [v] (eval (.Name y py) X.env)
      let iv ← holding [v, ov] (eval k X.env)
      standAt p2
      holding [v, ov, iv] (setItem ov iv v)
      release [v, ov, iv] []) := by intro _; rfl)
    (hs : swapsWithSole [.Subscript (.Name y py) k p2] e pos.line X.env = pure false := by kernel_rfl) (hw : swappedStores [.Subscript (.Name y py) k p2] e X.env = pure none := by kernel_rfl)
    (h1 : (assignEach [.Subscript (.Name y py) k p2] X.env).map (·.2) = [assign (.Subscript (.Name y py) k p2) X.env] := by rfl) :
    SJ X EX (.Assign [.Subscript (.Name y py) k p2] e pos) g (x >>= fun d => z >>= fun j => Mo.lift (putD ds j d)) (fun es => g.set i (.own es)) :=
  (ps_asg h (pg_sub (pe_var hN hv hd hcd) hk set_list ha) hs hw h1).weak fun De σ H ⟨B, G, n, φ, ξ, o, s, q, xw⟩ => te_one o s (fun v H1 G1 d n1 o1 g1 d1 s1 => by
    obtain ⟨a, xs, e1, e2, e3⟩ := own_at o1 hg
    refine ⟨.ref a, e1, te_one o1 s1 (fun w H2 G2 j n2 o2 g2 d2 s2 => ?_) xw⟩
    obtain ⟨es, ee, pe⟩ := Mo.sat_lift s2
    obtain ⟨a', xs', e1', e2', e3'⟩ := own_at o2 hg
    rw [e1] at e1'
    cases e1'
    unfold putD at ee
    cases j with
    | int j =>
      obtain ⟨t, et, rfl⟩ := Option.map_eq_some_iff.mp ee
      cases d2
      exact ⟨a, xs', j, t, rfl, rfl, e2', by rw [e3'.length]; exact et, q _ _ _ G2 n2 (o2.write hg e1 (e3'.set (d1.mono g2) t)) (g1.trans g2) pe⟩
    | _ => cases ee) xw
/-- x op= e -/
theorem sj_aug (i : Nat) {d0 : D} {y : Str} {py pos : Pos} {op : Operator} {e : Expr} {x : m D} {r : R2} {f : D → D → Option D} (hn : X.N.Nodup) (ho : OpR X (inplaceOp op) r) (hr : RD X.K r f) (h : EJ X EX e g x) (hg : g[i]? = some (Sl.val d0) := by rfl) (hi : X.N[i]? = some y := by rfl) (hx : Loc X.env.scope y := by first | exact Or.inl rfl | exact Or.inr rfl)
    (hf : X.fn y = true ∨ X.env.scope.names.lookup y = some .local := by first | exact .inl rfl | exact .inr rfl) : SJ X EX (.AugAssign (.Name y py) op e pos) g (x >>= fun d => Mo.lift (f d0 d)) (fun d => g.set i (.val d)) :=
  (ps_aug hn hi hx h ho hf).weak fun De σ H ⟨B, G, n, φ, ξ, o, s, q, xw⟩ => by
    obtain ⟨v, h1, h2⟩ := o.val i d0 hg
    refine ⟨v, h1, te_one o s (fun w H1 G1 d n1 o1 g1 d1 s1 => ?_) xw⟩
    obtain ⟨z, ez, pz⟩ := Mo.sat_lift s1
    exact hr v w d0 d z H1 G1 _ (h2.mono g1) d1 o1.fm.sub ez fun u H3 G3 gr du => q z _ H3 G3 n1 ((o1.gr gr).setV du) (g1.trans gr.g) pz
/-- a, b = e1, e2 -/
theorem sj_par (i j : Nat) {y z : Str} {a b : Expr} {px py pt pos : Pos} {kt k2 pt2} {x1 x2 : m D} (hN : X.N.Nodup) (ha : EJ X EX a g x1) (hb : EJ X EX b g x2) (hij : i ≠ j := by decide) (hi : X.N[i]? = some y := by rfl) (hj : X.N[j]? = some z := by rfl) (hc : X.calm = true := by rfl)
    (hx : X.env.scope.names.lookup y = some .local := by rfl) (hy : X.env.scope.names.lookup z = some .local := by rfl)
    (hw : swappedStores [.Tuple [.Name y px, .Name z py] kt pt] (.Tuple [a, b] k2 pt2) X.env = pure (some [y, z]) := by kernel_rfl) (hs : swapsWithSole [.Tuple [.Name y px, .Name z py] kt pt] (.Tuple [a, b] k2 pt2) pos.line X.env = pure false := by kernel_rfl)
    (hs1 : starEach [a, b] X.env = (false, eval a X.env) :: starEach [b] X.env := by rfl) (hs2 : starEach [b] X.env = (false, eval b X.env) :: starEach [] X.env := by rfl) :
    SJ X EX (.Assign [.Tuple [.Name y px, .Name z py] kt pt] (.Tuple [a, b] k2 pt2) pos) g (x1 >>= fun d => x2 >>= fun e => pure (d, e)) (fun de => (g.set i (.val de.1)).set j (.val de.2)) :=
  (ps_par hc hN hi hj hij hx hy (pa_cons ha (pa_cons hb pa_nil hs2) hs1) hw hs).weak fun De σ H ⟨B, G, n, φ, ξ, o, s, q, xw⟩ => te_one o s (fun v H1 G1 d n1 o1 g1 d1 s1 => te_one o1 s1 (fun w H2 G2 e n2 o2 g2 d2 s2 =>
    ⟨v, w, rfl, q (d, e) _ H2 G2 n2 ((o2.setV (d1.mono g2)).setV d2) (g1.trans g2) (Mo.sat_pure s2)⟩) xw) xw
/-! ### a list of one's own, read -/
theorem Ok.freezeS {K : PySem.W.Frag} {B : Bs} {σ : L2.St} {H G : Hp} {n : Wd} {i : Nat} {ds : List D} (o : Ok K B g σ H G n) (hi : g[i]? = some (Sl.own ds)) : ∃ G', Ok K B (g.set i (.val (.list ds))) σ H G' n ∧ Same G G' := by
  obtain ⟨f, h1, h2⟩ := id o.own
  obtain ⟨e1, e2, e3, ys, e4, e5⟩ := h2 i ds hi
  have hl : i < g.length := (List.getElem?_eq_some_iff.mp hi).1
  have o1 : Ok K B (g.set i .any) σ H G n := o.sub (by simp) fun j s e => by
    by_cases hj : i = j
    · subst hj
      rw [List.getElem?_set_self hl] at e
      cases e
      exact .inl rfl
    · rw [List.getElem?_set_ne hj] at e
      exact .inr e
  obtain ⟨o2, g2⟩ := o1.freeze e3 e2 e4 fun j es' q z y => by
    by_cases hj : i = j
    · subst hj
      rw [List.getElem?_set_self hl] at z; cases z
    · rw [List.getElem?_set_ne hj] at z
      rintro rfl
      obtain ⟨q1, _⟩ := h2 j es' z
      rw [q1] at y
      exact hj (h1 i j ds es' hi z (V.ref.inj (Option.some.inj (Option.some.inj y))).symm)
  refine ⟨_, ?_, g2⟩
  have o3 := o2.setV (i := i) (v := .ref (f i)) (d := .list ds) (.lst upd_same (e5.mono g2))
  rw [List.set_set] at o3
  have : σ.set i (some (V.ref (f i))) = σ := by
    apply List.ext_getElem?
    intro j
    by_cases hj : i = j
    · subst hj
      rw [List.getElem?_set_self (by rw [← o.len]; exact hl), e1]
    · rw [List.getElem?_set_ne hj]
  rw [this] at o3
  exact o3
/-- from here on the list in slot i is data -/
theorem fj_fr (i : Nat) {ds : List D} {ss : List Stmt} {x : m D} (h : FJ X EX fall ss (g.set i (.val (.list ds))) x) (hi : g[i]? = some (Sl.own ds) := by rfl) : FJ X EX fall ss g x :=
  PSs.weak h fun De σ H ⟨B, G, n, φ, ξ, o, s, q1, q2, xw⟩ => by
    obtain ⟨G', o', g'⟩ := o.freezeS hi
    exact ⟨B, G', n, φ, ξ, o', s, q1, q2, xw⟩
end
end DD
namespace DD
open PySem PySem.Spec PyProof.Rows L2
/-! ### defs: as FnOk, where no repr runs around the call -/
structure FnG (P : Program) (w : World) (K : PySem.W.Frag) (mg : Str → Option Value) (base : Heap) (k : Nat) (f : Addr) (fd : FuncData) (ps : List Str) (sp : Sp) : Prop where
  len : ∀ vs H Q E, sp vs H Q E → vs.length = ps.length
  run : ∀ (A : Around) (outer : List Env) (s : Shared) (H : Hp) (args : Args) (us : List Value) (vs : List V) (Q : VK) (E : XK), Room k A → A.guards = some [] → Env0 P w K mg base A outer s H → BindsTo s fd args (ps.zip us) → Vals vs us → sp vs H Q E →
    codeAny (model P w) A (.call (.ref f) args) (CR CX0 outer P w H s Q E) s
theorem FnG.mono {P : Program} {w : World} {K : PySem.W.Frag} {mg : Str → Option Value} {base : Heap} {j k : Nat} {f : Addr} {fd : FuncData} {ps : List Str} {sp : Sp} (F : FnG P w K mg base j f fd ps sp) (h : j ≤ k) : FnG P w K mg base k f fd ps sp :=
  ⟨F.len, fun A outer s H args us vs Q E hr => F.run A outer s H args us vs Q E (hr.mono h)⟩
theorem fng_of {P : Program} {w : World} {K : PySem.W.Frag} {mg : Str → Option Value} {base : Heap} {k : Nat} {x qual : Str} {st : Stmt} {f : Addr} {fd : FuncData} {N ps : List Str} {sp : Sp} (F : Fun K x qual st f fd) (S : FnScope N ps (defScope st)) (len : ∀ vs H Q E, sp vs H Q E → vs.length = ps.length)
    (hb : ∀ (cdv : Value) (A : Around) (outer : List Env) (s : Shared) (H : Hp) (vs : List V) (Q : VK) (E : XK), Room k (A.deeper (envOfC qual (defScope st) s.heap.objs.size f cdv)) → A.guards = some [] → sp vs H Q E →
      ∃ t, PSs (cxOf CX0 P w K mg base N qual (defScope st) f cdv A outer s H E).nox (defBody st) t ∧ t { nx := fun _ H' => Q .non H', rt := Q } (start N vs) H) : FnG P w K mg base (k + 1) f fd ps sp := by
  obtain ⟨oc, od, kV, doc, pm, an, cdv, ct, osl, rfl, lk, hcd⟩ := F.ex
  refine ⟨len, fun A outer s H args us vs Q E room gu e0 bi rv hsp => ?_⟩
  have KH : K.In s.heap := e0.mod.kin.keeps fun b o z => (e0.bs b o z).1
  have kinds : ∀ y ∈ ps.zip us, (defScope st).names.lookup y.1 = some .local ∨ ((defScope st).names.lookup y.1 = some .cell ∧ ((cellsFrom (s.heap.objs.size + 1) (defScope st).names []).lookup y.1).isSome = true) := by
    rintro ⟨nm, _⟩ hy
    exact (S.par nm (List.of_mem_zip hy).1).imp id fun z => ⟨z, PySem.W.cellsFrom_some _ _ _ (.inl z)⟩
  refine codeAny_call_function room.depth (KH _ _ lk) rfl S.co S.gen rfl (PySem.W.codeRec_of KH hcd) (bi _ _ _ _ (wpAny_newFunctionEnv_cells S.kind kinds fun env he s1 nw => ?_))
  subst he
  refine ⟨(e0.mod.nolimit.keeps fun b o z => (e0.bs b o z).1).keeps nw.toInCall.keep, codeAny_func ?_⟩
  obtain ⟨t, ht, hq⟩ := hb cdv A outer s H vs Q E (room.deeper _) gu hsp
  refine wpAny_mono (ht.nox.run [] s1 (start N vs) H _ (inv_start S room.hd e0 (len _ _ _ _ hsp) rv nw) hq) (fun fl s' h => ?_) fun _ _ z => z
  cases fl with
  | ret u =>
    obtain ⟨v, _, H', J, r', q⟩ := h
    exact ⟨v, H', J.os, J.bare, J.base, J.hok, r', q⟩
  | next =>
    obtain ⟨_, H', J, q⟩ := h
    exact ⟨.non, H', J.os, J.bare, J.base, J.hok, rfl, q⟩
  | brk => obtain ⟨_, _, _, q⟩ := h; exact q.elim
  | cont => obtain ⟨_, _, _, q⟩ := h; exact q.elim
/-! ### promises by mirrors -/
section
variable {m : Type → Type} [Mo m]
def spJ (K : PySem.W.Frag) (F : List Sl → m D) : Sp := fun vs H Q _ => ∃ G n dk as φ, ArgsOk K ⟨H, G, dk, G⟩ G vs as ∧ Fm K ⟨H, G, dk, G⟩ H G n ∧ Mo.sat (F as) n φ (fun _ _ => False) ∧
  ∀ v H' G' d n', Fm K ⟨H, G, dk, G⟩ H' G' n' → Da K G' v d → φ d n' → Q v H'
theorem ArgsOk.length {K : PySem.W.Frag} {B : Bs} {G : Hp} : ∀ {vs : List V} {as : List Sl}, ArgsOk K B G vs as → vs.length = as.length
  | _, _, .nil => rfl
  | _, _, .cons _ r => by simp [ArgsOk.length r]
theorem ArgsOk.get {K : PySem.W.Frag} {B : Bs} {G : Hp} : ∀ {vs : List V} {as : List Sl}, ArgsOk K B G vs as → ∀ (i : Nat) (a : Sl), as[i]? = some a → ∃ v, vs[i]? = some v ∧ ArgOk K B G v a
  | _, _, .nil, _, _, e => by simp at e
  | _, _, .cons h _, 0, a, e => by simp at e; subst e; exact ⟨_, rfl, h⟩
  | _, _, .cons _ r, i + 1, a, e => by
    obtain ⟨v, h1, h2⟩ := r.get i a (by simpa using e)
    exact ⟨v, by simpa using h1, h2⟩
theorem ok_start {K : PySem.W.Frag} {B : Bs} {H G : Hp} {n : Wd} {N : List Str} {vs : List V} {as : List Sl} (a : ArgsOk K B G vs as) (f : Fm K B H G n) : Ok K B (as ++ List.replicate (N.length - as.length) .any) (start N vs) H G n := by
  have hl := a.length
  have pick : ∀ (i : Nat) (s : Sl), (as ++ List.replicate (N.length - as.length) Sl.any)[i]? = some s → s ≠ .any → ∃ v, (start N vs)[i]? = some (some v) ∧ ArgOk K B G v s := fun i s e ne => by
    by_cases hi : i < as.length
    · rw [List.getElem?_append_left hi] at e
      obtain ⟨v, h1, h2⟩ := a.get i s e
      refine ⟨v, ?_, h2⟩
      unfold L2.start
      rw [List.getElem?_append_left (by rw [List.length_map]; omega), List.getElem?_map, h1]
      rfl
    · rw [List.getElem?_append_right (by omega), List.getElem?_replicate] at e
      split at e
      · cases e; exact absurd rfl ne
      · cases e
  refine ⟨f, ?_, fun i d e => ?_, ⟨fun _ => 0, fun i j ds es e => ?_, fun i ds e => ?_⟩, fun i e => ?_, fun i a od fs e => ?_⟩
  · unfold L2.start
    simp only [List.length_append, List.length_map, List.length_replicate]
    omega
  · obtain ⟨v, h1, h2⟩ := pick i _ e (by simp)
    exact ⟨v, h1, h2⟩
  · obtain ⟨v, _, h2⟩ := pick i _ e (by simp)
    exact h2.elim
  · obtain ⟨v, _, h2⟩ := pick i _ e (by simp)
    exact h2.elim
  · obtain ⟨v, h1, a, b, h2, rfl⟩ := pick i _ e (by simp)
    exact ⟨a, b, h2, h1⟩
  · obtain ⟨v, _, h2⟩ := pick i _ e (by simp)
    exact h2.elim
/-- a def keeps its mirror's promise, by its body -/
theorem fn_j {P : Program} {w : World} {K : PySem.W.Frag} {mg : Str → Option Value} {base : Heap} {k : Nat} {x qual : Str} {st : Stmt} {f : Addr} {fd : FuncData} {N ps : List Str} {F : List Sl → m D} (Fu : Fun K x qual st f fd) (S : FnScope N ps (defScope st))
    (hb : ∀ (as : List Sl) (n : Wd) (φ : D → Wd → Prop), Mo.sat (F as) n φ (fun _ _ => False) → as.length = ps.length ∧ ∀ (cdv : Value) (A : Around) (outer : List Env) (s : Shared) (H : Hp) (E : XK), Room k (A.deeper (envOfC qual (defScope st) s.heap.objs.size f cdv)) → A.guards = some [] →
      FJ (cxOf CX0 P w K mg base N qual (defScope st) f cdv A outer s H E).nox X0 true (defBody st) (as ++ List.replicate (N.length - as.length) .any) (F as)) : FnG P w K mg base (k + 1) f fd ps (spJ K F) := by
  refine fng_of Fu S (fun vs H Q E ⟨G, n, dk, as, φ, a, _, s, _⟩ => a.length.trans (hb as n φ s).1) fun cdv A outer s H vs Q E hr gu ⟨G, n, dk, as, φ, a, fm, st, q⟩ => ⟨_, (hb as n φ st).2 cdv A outer s H E hr gu, ⟨H, G, dk, G⟩, G, n, φ, fun _ _ => False, ok_start a fm, st, q, fun _ σ' H' G' n' f' p => q .non H' G' .none n' f' .non p, fun _ _ _ _ _ _ _ z => z.elim⟩
/-! ### calls of such defs -/
variable {X : Cx} {EX : XR} {g : List Sl} {k : Nat} {f : Addr} {fd : FuncData} {ps : List Str}
theorem call_g {pins : List (Addr × Obj)} {σ : L2.St} {H : Hp} {s : Shared} {Q : VK} {us : List Value} {vs : List V} {sp : Sp} (F : FnG X.prog X.w X.K X.mg X.base k f fd ps sp) (hr : Room k X.A) (gu : X.A.guards = some []) (hb : Binds X.K fd ps [])
    (I : Inv X pins σ H s) (r : Vals vs us) (h : sp vs H Q E0) : wpAny (model X.prog X.w) X.A (call (.ref f) us) (EP X pins σ Q) X.xe s := by
  have hl : us.length = ps.length := by rw [← r.length]; exact F.len _ _ _ _ h
  have hb' := hb s us I.kIn (by rw [List.append_nil]; exact hl)
  rw [List.append_nil] at hb'
  refine wpAny_call (codeAny_mono (F.run X.A X.stack s H ⟨us, []⟩ us vs Q E0 hr gu I.env0 hb' r h) fun z s' hq => ?_)
  cases z with
  | error e => exact False.elim hq
  | ok fl =>
    cases fl with
    | ret u => exact I.after hq
    | next => exact False.elim hq
    | brk => exact False.elim hq
    | cont => exact False.elim hq
theorem pe_g {x : Str} {p pos : Pos} {e : Expr} {es : List Expr} {t : TA} {sp : Sp} (F : FnG X.prog X.w X.K X.mg X.base k f fd ps sp) (hr : Room k X.A) (gu : X.A.guards = some []) (hg : Gl X x) (hm : X.mg x = some (.ref f)) (hk : PySem.W.keepIn X.K (.ref f) = true) (hb : Binds X.K fd ps [])
    (ha : PA X (e :: es) t) (hd : (x == ("__debug__" : Str)) = false) (he : starEach (e :: es) X.env = (false, eval e X.env) :: starEach es X.env) (hpl : (backTo pos (starEach es X.env)).any (·.1) = false) : PE X (.Call (.Name x p) (e :: es) [] pos) (fun σ H Q => t σ H fun vs H1 => sp vs H1 Q E0) :=
  ⟨fun pins s σ H Q I h => wpAny_Call_Name_kw (ld_glob I hg hm (PySem.W.callWith_K (h₀ := X.base) I.ok.mod.kin hk (thn (ha.run pos pins s σ H _ I h) fun us s1 ⟨vs, H1, I1, r, q⟩ => ⟨I1.kIn, call_g F hr gu hb I1 r q⟩) he hpl) hd)⟩
/-- a deck that the callee does not see stays -/
theorem Fm.back {K : PySem.W.Frag} {B : Bs} {H G H' G' : Hp} {n n' : Wd} {dk : Option (Addr × Addr)} {σ : L2.St} (o : Ok K B g σ H G n) (hd : dk = none ∧ n'.n = n.n ∨ dk = B.dk) (f : Fm K ⟨H, G, dk, G⟩ H' G' n') : Ok K B g σ H' G' n' ∧ Same G G' := by
  have old : Same G G' := f.old
  have dkB : ∀ x y, dk = some (x, y) → B.dk = some (x, y) := fun x y e => by
    rcases hd with ⟨hd, _⟩ | hd
    · rw [hd] at e; cases e
    · exact hd.symm.trans e
  have hfp : ∀ a, B.H a ≠ none → (⟨H, G, dk, G⟩ : Bs).fp a → B.fp a := fun a ha hp => by
    rcases hp with ⟨x, y, e, r⟩ | ⟨k, e, m⟩
    · exact .inl ⟨x, y, dkB x y e, r⟩
    · cases eb : B.G a with
      | none =>
        have e' : G a = some k := e
        rw [o.fm.new a ha eb] at e'
        cases e'
      | some u =>
        have e' : G a = some k := e
        rw [o.fm.old _ _ eb] at e'
        cases e'
        exact .inr ⟨_, eb, m⟩
  have nfp : ∀ a, B.H a = none → G a = none → ¬ (⟨H, G, dk, G⟩ : Bs).fp a := fun a ha hg hp => by
    rcases hp with ⟨x, y, e, r⟩ | ⟨k, e, _⟩
    · exact o.fm.side ha (.inl ⟨x, y, dkB x y e, r⟩)
    · have e' : G a = some k := e
      rw [hg] at e'; cases e'
  have some_of : ∀ a, B.H a ≠ none → H a ≠ none := fun a ha => by
    by_cases hp : B.fp a
    · exact o.fm.fpThere hp
    · cases hb : B.H a with
      | none => exact absurd hb ha
      | some z => rw [o.fm.keep a z hb hp]; simp
  refine ⟨⟨⟨fun a z e q => f.keep a z (o.fm.keep a z e q) fun hp => q (hfp a (by rw [e]; simp) hp), f.sub, o.fm.old.trans old, f.obs, o.fm.bt, o.fm.tg.trans old, fun a e q => f.new a (some_of a e) (o.fm.new a e q), fun a b e => ?_⟩, o.len, fun i d e => ?_, ?_, o.dck, fun i a od fs e => ⟨(o.adr i a od fs e).1, (o.adr i a od fs e).2.mono old⟩⟩, old⟩
  · obtain ⟨d1, r⟩ := o.fm.deck a b e
    rcases hd with ⟨hd, hn⟩ | hd
    · obtain ⟨cs, c, h1, h2, h3⟩ := d1
      have nf : ∀ z, B.H z ≠ none → B.G z = none → ¬ (⟨H, G, dk, G⟩ : Bs).fp z := fun z hz hg hp => by
        rcases hp with ⟨x, y, e2, _⟩ | ⟨k, e2, _⟩
        · have e' : dk = some (x, y) := e2
          rw [hd] at e'; cases e'
        · have e' : G z = some k := e2
          rw [o.fm.new z hz hg] at e'; cases e'
      exact ⟨⟨cs, c, f.keep a _ h1 (nf a r.1 r.2.2.1), f.keep b _ h2 (nf b r.2.1 r.2.2.2), by rw [hn]; exact h3⟩, r⟩
    · exact ⟨(f.deck a b (by show dk = some (a, b); rw [hd]; exact e)).1, r⟩
  · obtain ⟨v, h1, h2⟩ := o.val i d e
    exact ⟨v, h1, h2.mono old⟩
  · obtain ⟨fn, h1, h2⟩ := o.own
    refine ⟨fn, h1, fun i ds e => ?_⟩
    obtain ⟨a, b, c, xs, d, da⟩ := h2 i ds e
    exact ⟨a, f.new _ (by show H (fn i) ≠ none; rw [d]; simp) b, c, xs, f.keep _ _ d (nfp _ c b), da.mono old⟩
theorem ArgsOk.base {K : PySem.W.Frag} {B B' : Bs} {G : Hp} (h : B'.dk = B.dk) : ∀ {vs : List V} {as : List Sl}, ArgsOk K B G vs as → ArgsOk K B' G vs as
  | _, _, .nil => .nil
  | _, _, .cons (a := .val d) q r => .cons (show Da _ _ _ _ from q) (r.base h)
  | _, _, .cons (a := .deck) ⟨a, b, e, ev⟩ r => .cons ⟨a, b, h.trans e, ev⟩ (r.base h)
  | _, _, .cons (a := .own _) q _ => q.elim
  | _, _, .cons (a := .any) q _ => q.elim
  | _, _, .cons (a := .exn _ _ _) q _ => q.elim
theorem Fm.at_call {K : PySem.W.Frag} {B : Bs} {H G : Hp} {n : Wd} (f : Fm K B H G n) : Fm K ⟨H, G, B.dk, G⟩ H G n where
  keep := fun a o e _ => e
  sub := f.sub
  old := Same.refl _
  obs := f.obs
  bt := f.sub.t
  tg := Same.refl _
  new := fun a _ q => q
  deck := fun a b e => by
    obtain ⟨d, h1, h2, h3, h4⟩ := f.deck a b e
    obtain ⟨cs, c, e1, e2, r⟩ := id d
    exact ⟨d, by show H a ≠ none; rw [e1]; simp, by show H b ≠ none; rw [e2]; simp, f.new a h1 h3, f.new b h2 h4⟩
/-- f(..) by its mirror -/
theorem ej_call {x : Str} {p pos : Pos} {e : Expr} {es : List Expr} {F : List Sl → m D} {y : m (List Sl)} [Calm m] (Fn : FnG X.prog X.w X.K X.mg X.base k f fd ps (spJ X.K F)) (hr : Room k X.A) (gu : X.A.guards = some []) (hm : X.mg x = some (.ref f)) (hk : PySem.W.keepIn X.K (.ref f) = true) (hb : Binds X.K fd ps [])
    (ha : AJ X EX (e :: es) g y) (hg : Gl X x := by rfl) (hd : (x == ("__debug__" : Str)) = false := by decide) (he : starEach (e :: es) X.env = (false, eval e X.env) :: starEach es X.env := by rfl) (hpl : (backTo pos (starEach es X.env)).any (·.1) = false := by rfl) :
    EJ X EX (.Call (.Name x p) (e :: es) [] pos) g (y >>= F) :=
  (pe_g Fn hr gu hg hm hk hb ha hd he hpl).weak fun σ H Q ⟨B, G, n, φ, ξ, o, s, q, xw⟩ => ⟨B, G, n, _, ξ, o, Mo.sat_bind s, fun vs H1 G1 as n1 o1 g1 a1 s1 =>
    ⟨G1, n1, B.dk, as, φ, ArgsOk.base (B := B) (B' := ⟨H1, G1, B.dk, G1⟩) rfl a1, o1.fm.at_call, Calm.calm s1, fun v H' G' d n' f' dv p => by
      obtain ⟨o2, g2⟩ := Fm.back o1 (.inr rfl) f'
      exact q v H' G' d n' o2 (g1.trans g2) dv p⟩, xw⟩
/-- .. a mirror without the deck, lifted -/
class Up (m' m : Type → Type) [Mo m'] [Mo m] where
  up : {α : Type} → m' α → m α
  sat_up : ∀ {α : Type} {x : m' α} {n : Wd} {φ : α → Wd → Prop} {ξ : Exn → Wd → Prop}, Mo.sat (up x) n φ ξ → Mo.sat x n φ ξ
instance : Up Option W where
  up := Mo.lift
  sat_up := fun {α x n φ ξ} h => by
    obtain ⟨h1, a, e, h2⟩ := h
    obtain ⟨k, ob⟩ := n
    cases h1
    exact ⟨rfl, a, e, h2⟩
instance : Up Option Option where
  up := fun o => o
  sat_up := fun h => h
end
end DD
namespace DD
open PySem PySem.Spec PyProof.Rows L2
def orR (r q : R2) : R2 := fun x y H Q => r x y H Q ∨ q x y H Q
theorem op_or {X : Cx} {f : Value → Value → Sem Value} {r q : R2} (a : OpR X f r) (b : OpR X f q) : OpR X f (orR r q) := by
  intro pins s σ H x y v u Q I rx ry h
  rcases h with h | h
  · exact a pins s σ H x y v u Q I rx ry h
  · exact b pins s σ H x y v u Q I rx ry h
section
variable {X : Cx} {K : PySem.W.Frag}
theorem Da.toI {G : Hp} {v : V} {i : Int} (h : Da K G v (.int i)) : v = .int i := by cases h; rfl
theorem Da.toS {G : Hp} {v : V} {i : Str} (h : Da K G v (.str i)) : v = .str i := by cases h; rfl
theorem Da.toT {G : Hp} {v : V} {ds : List D} (h : Da K G v (.tuple ds)) : ∃ a xs, v = .ref a ∧ SqT K G a xs ∧ DaAll K G xs ds := by cases h with | tup a b => exact ⟨_, _, rfl, a, b⟩
theorem Da.toL {G : Hp} {v : V} {ds : List D} (h : Da K G v (.list ds)) : ∃ a xs, v = .ref a ∧ G a = some (.lst xs) ∧ DaAll K G xs ds := by cases h with | lst a b => exact ⟨_, _, rfl, a, b⟩
/-! ### + -/
def addD : D → D → Option D
  | .int i, .int j => some (.int (i + j))
  | .tuple a, .tuple b => (small (a ++ b)).map .tuple
  | .list a, .list b => (small (a ++ b)).map .list
  | .str a, .str b => if a.length + b.length ≤ 1000000 then some (.str (a ++ b)) else none
  | _, _ => none
abbrev rAddD (K : PySem.W.Frag) : R2 := orR (rI0 fun i j => .int (i + j)) (orR (rCatA K) (orR rCat (fun x y H Q => ∃ a b, x = .str a ∧ y = .str b ∧ a.length + b.length ≤ sizeLine ∧ Q (.str (a ++ b)) H)))
theorem op_addD : OpR X (binaryOp .Add) (rAddD X.K) := op_or op_add (op_or op_catA (op_or op_cat op_add_str))
theorem rd_add : RD K (rAddD K) addD := by
  intro x y dx dy z H G Q hx hy hs e q
  unfold addD at e
  split at e
  · cases e
    exact .inl ⟨_, _, hx.toI, hy.toI, q _ H G (Gr.refl hs) (.int _)⟩
  · rename_i as bs
    obtain ⟨es, ee, rfl⟩ := Option.map_eq_some_iff.mp e
    obtain ⟨rfl, hl⟩ := small_eq ee
    obtain ⟨a, xs, rfl, ha, da⟩ := hx.toT
    obtain ⟨b, ys, rfl, hb, db⟩ := hy.toT
    rw [List.length_append] at hl
    refine .inr (.inl ⟨a, b, xs, ys, rfl, rfl, sameT hs ha, sameT hs hb, by rw [da.length, db.length]; exact le_line hl, fun e => ?_, fun n e => ?_, fun n k p hp => ?_⟩)
    · subst e
      cases da
      exact q _ H G (Gr.refl hs) (.tup hb db)
    · subst e
      cases db
      rw [List.append_nil] at q
      exact q _ H G (Gr.refl hs) (.tup ha da)
    · have gr := Gr.alloc (u := .tup (xs ++ ys)) hs hp
      exact q _ _ _ gr (.tup (.inl (.inl upd_same)) ((da.append db).mono gr.g))
  · rename_i as bs
    obtain ⟨es, ee, rfl⟩ := Option.map_eq_some_iff.mp e
    obtain ⟨rfl, hl⟩ := small_eq ee
    obtain ⟨a, xs, rfl, ha, da⟩ := hx.toL
    obtain ⟨b, ys, rfl, hb, db⟩ := hy.toL
    rw [List.length_append] at hl
    refine .inr (.inr (.inl ⟨a, b, xs, ys, rfl, rfl, hs.h _ _ ha rfl, hs.h _ _ hb rfl, by rw [da.length, db.length]; exact le_line hl, fun p hp => ?_⟩))
    have gr := Gr.alloc (u := .lst (xs ++ ys)) hs hp
    exact q _ _ _ gr (.lst upd_same ((da.append db).mono gr.g))
  · split at e
    · rename_i hl
      cases e
      exact .inr (.inr (.inr ⟨_, _, hx.toS, hy.toS, le_line hl, q _ H G (Gr.refl hs) (.str _)⟩))
    · cases e
  · cases e
/-! ### ints -/
def intD2 (f : Int → Int → Option D) : D → D → Option D
  | .int i, .int j => f i j
  | _, _ => none
theorem rd_int {C : Int → Int → Prop} {h : Int → Int → V} {f : Int → Int → Option D} (hf : ∀ i j z, f i j = some z → C i j ∧ ∀ K G, Da K G (h i j) z) : RD K (rI C h) (intD2 f) := by
  intro x y dx dy z H G Q hx hy hs e q
  unfold intD2 at e
  split at e
  · obtain ⟨c, d⟩ := hf _ _ _ e
    exact ⟨_, _, hx.toI, hy.toI, c, q _ H G (Gr.refl hs) (d _ _)⟩
  · cases e
theorem rd_int0 {h : Int → Int → V} {f : Int → Int → Option D} (hf : ∀ i j z, f i j = some z → ∀ K G, Da K G (h i j) z) : RD K (rI0 h) (intD2 f) := by
  intro x y dx dy z H G Q hx hy hs e q
  unfold intD2 at e
  split at e
  · exact ⟨_, _, hx.toI, hy.toI, q _ H G (Gr.refl hs) (hf _ _ _ e _ _)⟩
  · cases e
def subD : D → D → Option D := intD2 fun i j => some (.int (i - j))
theorem rd_sub : RD K (rI0 fun i j => .int (i - j)) subD := rd_int0 fun i j z e _ _ => by cases e; exact .int _
def modD : D → D → Option D := intD2 fun i j => if 0 < j then some (.int (i % j)) else none
theorem rd_mod : RD K (rI (fun _ j => 0 < j) fun i j => .int (i % j)) modD := rd_int fun i j z e => by
  split at e
  · rename_i h; cases e; exact ⟨h, fun _ _ => .int _⟩
  · cases e
def ltD : D → D → Option D := intD2 fun i j => some (.bool (decide (i < j)))
def leD : D → D → Option D := intD2 fun i j => some (.bool (decide (i ≤ j)))
def gtD : D → D → Option D := intD2 fun i j => some (.bool (decide (j < i)))
def geD : D → D → Option D := intD2 fun i j => some (.bool (decide (j ≤ i)))
theorem rd_lt : RD K (rI0 fun i j => .bl (decide (i < j))) ltD := rd_int0 fun i j z e _ _ => by cases e; exact .bl _
theorem rd_le : RD K (rI0 fun i j => .bl (decide (i ≤ j))) leD := rd_int0 fun i j z e _ _ => by cases e; exact .bl _
theorem rd_gt : RD K (rI0 fun i j => .bl (decide (j < i))) gtD := rd_int0 fun i j z e _ _ => by cases e; exact .bl _
theorem rd_ge : RD K (rI0 fun i j => .bl (decide (j ≤ i))) geD := rd_int0 fun i j z e _ _ => by cases e; exact .bl _
def negD : D → Option D
  | .int i => some (.int (-i))
  | _ => none
theorem ru_neg : RU1 K (rU fun i => .int (-i)) negD := by
  intro x dx z H G Q hx hs e q
  unfold negD at e
  split at e
  · cases e; exact ⟨_, hx.toI, q _ H G (Gr.refl hs) (.int _)⟩
  · cases e
/-! ### == != of data -/
/-- == of what is told apart (or alike) without a look at the items: lists of unlike lengths, a tuple and the empty one -/
def lensD : D → D → Option Bool
  | .list xs, .list ys => if xs.length = ys.length then none else some false
  | .tuple xs, .tuple ys => if xs.length = 0 ∨ ys.length = 0 then some (decide (xs.length = ys.length)) else none
  | _, _ => none
def eqD : D → D → Option D
  | .str a, .str b => some (.bool (decide (a = b)))
  | a, b => if SeqAt.shaped a = true ∧ SeqAt.shaped b = true then some (.bool (PyData.eqv a b)) else (lensD a b).map fun k => .bool k
def neD : D → D → Option D
  | .str a, .str b => some (.bool (!decide (a = b)))
  | a, b => if SeqAt.shaped a = true ∧ SeqAt.shaped b = true then some (.bool (!PyData.eqv a b)) else (lensD a b).map fun k => .bool (!k)
def rEqS (K : PySem.W.Frag) : R2 := fun x y H Q => ∃ d e, Da K H x d ∧ Da K H y e ∧ SeqAt.shaped d = true ∧ SeqAt.shaped e = true ∧ Q (.bl (PyData.eqv d e)) H
def rNeS (K : PySem.W.Frag) : R2 := fun x y H Q => ∃ d e, Da K H x d ∧ Da K H y e ∧ SeqAt.shaped d = true ∧ SeqAt.shaped e = true ∧ Q (.bl (!PyData.eqv d e)) H
def LenAt (K : PySem.W.Frag) (H : Hp) (x y : V) (k : Bool) : Prop := (∃ a b xs ys, x = .ref a ∧ y = .ref b ∧ SqL K H a xs ∧ SqL K H b ys ∧ xs.length ≠ ys.length ∧ k = false) ∨
  (∃ a b xs ys, x = .ref a ∧ y = .ref b ∧ SqT K H a xs ∧ SqT K H b ys ∧ (xs.length = 0 ∨ ys.length = 0) ∧ k = decide (xs.length = ys.length))
def rEqL (K : PySem.W.Frag) : R2 := fun x y H Q => ∃ k, LenAt K H x y k ∧ Q (.bl k) H
def rNeL (K : PySem.W.Frag) : R2 := fun x y H Q => ∃ k, LenAt K H x y k ∧ Q (.bl (!k)) H
abbrev rEqA (K : PySem.W.Frag) : R2 := orR (rEqS K) (orR (rEqL K) rEq)
abbrev rNeA (K : PySem.W.Frag) : R2 := orR (rNeS K) (orR (rNeL K) rNe)
theorem op_eqS (hy : Sys X) (hu : X.A.units + 64 < cLine) : OpR X (compareOp .Eq) (rEqS X.K) := by
  intro pins s σ H x y v u Q I rx ry ⟨d, e, hd, he, sd, se, q⟩
  obtain ⟨as, r1, _⟩ := Da.reads hy I d x v hd (ok_canLay d (SeqAt.canLay_of_shaped sd)) rx
  obtain ⟨bs, r2, _⟩ := Da.reads hy I e y u he (ok_canLay e (SeqAt.canLay_of_shaped se)) ry
  exact SeqAt.compareEq_shaped r1 r2 sd se hu ⟨.bl _, H, I, rfl, q⟩
theorem op_neS (hy : Sys X) (hu : X.A.units + 64 < cLine) : OpR X (compareOp .NotEq) (rNeS X.K) := by
  intro pins s σ H x y v u Q I rx ry ⟨d, e, hd, he, sd, se, q⟩
  obtain ⟨as, r1, _⟩ := Da.reads hy I d x v hd (ok_canLay d (SeqAt.canLay_of_shaped sd)) rx
  obtain ⟨bs, r2, _⟩ := Da.reads hy I e y u he (ok_canLay e (SeqAt.canLay_of_shaped se)) ry
  exact SeqAt.compareNe_shaped r1 r2 sd se hu ⟨.bl _, H, I, rfl, q⟩
theorem lens_at {pins : List (Addr × Obj)} {σ : L2.St} {H : Hp} {s : Shared} {A : Around} {x y : V} {k : Bool} {v u : Value} (I : Inv X pins σ H s) (rx : RelV x v) (ry : RelV y u) (hk : LenAt X.K H x y k) (hu : A.units < cLine) : SeqAt.RcAt A s v u k ∧ SeqAt.RcNeAt A s v u (!k) := by
  rcases hk with ⟨a, b, xs, ys, rfl, rfl, ha, hb, hne, rfl⟩ | ⟨a, b, xs, ys, rfl, rfl, ha, hb, hz, rfl⟩
  · cases rx
    cases ry
    obtain ⟨its, rv, ⟨o, n, h1, h2, _, h3⟩, _⟩ := I.list ha
    obtain ⟨jts, rw, ⟨p, m, k1, k2, _, k3⟩, _⟩ := I.list hb
    have n1 := rv.length
    have n2 := rw.length
    exact ⟨SeqAt.RcAt.lists_lengths ⟨_, h1, h2, _, h3⟩ ⟨_, k1, k2, _, k3⟩ (by simp at n1 n2 ⊢; omega) hu, SeqAt.RcNeAt.lists_lengths ⟨_, h1, h2, _, h3⟩ ⟨_, k1, k2, _, k3⟩ (by simp at n1 n2 ⊢; omega) hu⟩
  · cases rx
    cases ry
    obtain ⟨its, rv, ⟨o, h1, h2, n, h3⟩, _⟩ := I.tuple ha
    obtain ⟨jts, rw, ⟨p, k1, k2, m, k3⟩, _⟩ := I.tuple hb
    have n1 : its.toArray.size = xs.length := by simpa using rv.length.symm
    have n2 : jts.toArray.size = ys.length := by simpa using rw.length.symm
    have e0 : ((List.range (min its.toArray.size jts.toArray.size)).all (fun _ => true) && its.toArray.size == jts.toArray.size) = decide (xs.length = ys.length) := by
      rw [n1, n2]
      rw [Bool.eq_iff_iff]; simp
    have q1 := SeqAt.RcAt.tuples (A := A) (e := fun _ => true) (s := s) (l := a) (b := b) (items := its.toArray) (items2 := jts.toArray) ⟨_, h1, h2, _, h3⟩ ⟨_, k1, k2, _, k3⟩ hu (fun j j1 j2 => by omega)
    have q2 := SeqAt.RcNeAt.tuples (A := A) (e := fun _ => true) (s := s) (l := a) (b := b) (items := its.toArray) (items2 := jts.toArray) ⟨_, h1, h2, _, h3⟩ ⟨_, k1, k2, _, k3⟩ hu (fun j j1 j2 => by omega)
    rw [e0] at q1 q2
    exact ⟨q1, q2⟩
theorem op_eqL (hu : X.A.units + 64 < cLine) : OpR X (compareOp .Eq) (rEqL X.K) := by
  intro pins s σ H x y v u Q I rx ry ⟨k, hk, q⟩
  exact (lens_at I rx ry hk (by omega)).1 X.prog X.w X.xe _ ⟨.bl _, H, I, rfl, q⟩
theorem op_neL (hu : X.A.units + 64 < cLine) : OpR X (compareOp .NotEq) (rNeL X.K) := by
  intro pins s σ H x y v u Q I rx ry ⟨k, hk, q⟩
  exact (lens_at I rx ry hk (by omega)).2 X.prog X.w X.xe _ ⟨.bl _, H, I, rfl, q⟩
theorem lens_da {x y : V} {dx dy : D} {k : Bool} {G H : Hp} (hx : Da K G x dx) (hy : Da K G y dy) (hs : SubM G H) (hk : lensD dx dy = some k) : LenAt K H x y k := by
  unfold lensD at hk
  split at hk
  · split at hk
    · cases hk
    · rename_i hne
      cases hk
      obtain ⟨a, xs, rfl, ha, da⟩ := hx.toL
      obtain ⟨b, ys, rfl, hb, db⟩ := hy.toL
      exact .inl ⟨a, b, xs, ys, rfl, rfl, .of (hs.h _ _ ha rfl), .of (hs.h _ _ hb rfl), by rw [da.length, db.length]; exact hne, rfl⟩
  · split at hk
    · rename_i hz
      cases hk
      obtain ⟨a, xs, rfl, ha, da⟩ := hx.toT
      obtain ⟨b, ys, rfl, hb, db⟩ := hy.toT
      exact .inr ⟨a, b, xs, ys, rfl, rfl, sameT hs ha, sameT hs hb, by rw [da.length, db.length]; exact hz, by rw [da.length, db.length]⟩
    · cases hk
  · cases hk
theorem op_eqA (hy : Sys X) (hu : X.A.units + 64 < cLine) : OpR X (compareOp .Eq) (rEqA X.K) := op_or (op_eqS hy hu) (op_or (op_eqL hu) op_eq)
theorem op_neA (hy : Sys X) (hu : X.A.units + 64 < cLine) : OpR X (compareOp .NotEq) (rNeA X.K) := op_or (op_neS hy hu) (op_or (op_neL hu) op_ne)
theorem str_eqV (a b : Str) : decide (V.str a = V.str b) = decide (a = b) := by
  by_cases h : a = b
  · rw [decide_eq_true h, decide_eq_true (by rw [h])]
  · rw [decide_eq_false h, decide_eq_false (fun e => h (V.str.inj e))]
theorem rd_eq : RD K (rEqA K) eqD := by
  intro x y dx dy z H G Q hx hy hs e q
  unfold eqD at e
  split at e
  · rename_i a b
    cases e
    cases hx
    cases hy
    exact .inr (.inr ⟨rfl, by rw [str_eqV]; exact q _ H G (Gr.refl hs) (.bl _)⟩)
  · split at e
    · rename_i h
      cases e
      exact .inl ⟨dx, dy, hx.toH hs (ok_canLay _ (SeqAt.canLay_of_shaped h.1)), hy.toH hs (ok_canLay _ (SeqAt.canLay_of_shaped h.2)), h.1, h.2, q _ H G (Gr.refl hs) (.bl _)⟩
    · obtain ⟨k, hk, rfl⟩ := Option.map_eq_some_iff.mp e
      exact .inr (.inl ⟨k, lens_da hx hy hs hk, q _ H G (Gr.refl hs) (.bl _)⟩)
theorem rd_ne : RD K (rNeA K) neD := by
  intro x y dx dy z H G Q hx hy hs e q
  unfold neD at e
  split at e
  · rename_i a b
    cases e
    cases hx
    cases hy
    exact .inr (.inr ⟨rfl, by rw [str_eqV]; exact q _ H G (Gr.refl hs) (.bl _)⟩)
  · split at e
    · rename_i h
      cases e
      exact .inl ⟨dx, dy, hx.toH hs (ok_canLay _ (SeqAt.canLay_of_shaped h.1)), hy.toH hs (ok_canLay _ (SeqAt.canLay_of_shaped h.2)), h.1, h.2, q _ H G (Gr.refl hs) (.bl _)⟩
    · obtain ⟨k, hk, rfl⟩ := Option.map_eq_some_iff.mp e
      exact .inr (.inl ⟨k, lens_da hx hy hs hk, q _ H G (Gr.refl hs) (.bl _)⟩)
/-! ### is None -/
def isNone : D → Bool
  | .none => true
  | _ => false
def isD (a b : D) : Option D := if isNone b then some (.bool (isNone a)) else none
def isnD (a b : D) : Option D := if isNone b then some (.bool (!isNone a)) else none
theorem Da.isN {G : Hp} {v : V} {d : D} (h : Da K G v d) : decide (v = .non) = isNone d := by
  cases h <;> simp [isNone]
theorem Da.eqN {G : Hp} {v : V} {d : D} (h : Da K G v d) (e : isNone d = true) : v = .non := by
  rw [← h.isN] at e
  exact of_decide_eq_true e
theorem rd_is : RD K (fun x y H Q => y = .non ∧ Q (.bl (decide (x = .non))) H) isD := by
  intro x y dx dy z H G Q hx hy hs e q
  unfold isD at e
  split at e
  · rename_i h
    cases e
    refine ⟨hy.eqN h, ?_⟩
    rw [hx.isN]
    exact q _ H G (Gr.refl hs) (.bl _)
  · cases e
theorem rd_isn : RD K (fun x y H Q => y = .non ∧ Q (.bl (!decide (x = .non))) H) isnD := by
  intro x y dx dy z H G Q hx hy hs e q
  unfold isnD at e
  split at e
  · rename_i h
    cases e
    refine ⟨hy.eqN h, ?_⟩
    rw [hx.isN]
    exact q _ H G (Gr.refl hs) (.bl _)
  · cases e
/-! ### subscripts -/
theorem DaAll.atI {G : Hp} {vs : List V} {ds : List D} {i : Int} {d : D} (h : DaAll K G vs ds) (e : L2.atI ds i = some d) : ∃ v, L2.atI vs i = some v ∧ Da K G v d := by
  unfold L2.atI at e ⊢
  rw [h.length]
  cases hk : ixN ds.length i with
  | none => rw [hk] at e; cases e
  | some j =>
    rw [hk] at e
    obtain ⟨v, h1, h2⟩ := h.get (i := j) (d := d) e
    exact ⟨v, h1, h2⟩
def getD : D → D → Option D
  | .list ds, .int i => L2.atI ds i
  | .tuple ds, .int i => L2.atI ds i
  | .str z, .int i => if z.length ≤ 1000000 then (L2.atI z.cps.toList i).map fun c => .str ⟨#[c]⟩ else none
  | _, _ => none
theorem rd_ix : RD K (rIx K) getD := by
  intro x y dx dy z H G Q hx hy hs e q
  unfold getD at e
  split at e
  · obtain ⟨a, xs, rfl, ha, da⟩ := hx.toL
    obtain ⟨v, h1, h2⟩ := da.atI e
    exact .inl ⟨a, xs, _, v, rfl, hy.toI, .of (hs.h _ _ ha rfl), h1, q v H G (Gr.refl hs) h2⟩
  · obtain ⟨a, xs, rfl, ha, da⟩ := hx.toT
    obtain ⟨v, h1, h2⟩ := da.atI e
    exact .inr (.inl ⟨a, xs, _, v, rfl, hy.toI, sameT hs ha, h1, q v H G (Gr.refl hs) h2⟩)
  · split at e
    · rename_i hl
      obtain ⟨c, hc, rfl⟩ := Option.map_eq_some_iff.mp e
      exact .inr (.inr ⟨_, _, c, hx.toS, hy.toI, le_line hl, hc, q _ H G (Gr.refl hs) (.str _)⟩)
    · cases e
  · cases e
end
end DD
namespace DD
open PySem PySem.Spec PyProof.Rows L2
/-! ### * -/
theorem tuple_mul1 (l : Addr) (items : Array Value) (n : Nat) (dd : Option Addr) (sl : Array (Option Value)) (u : Tok) :
    Meets (Builtin.«tuple.__mul__» ⟨[.ref l, .int 1 u], []⟩) (fun _ R s => s.heap.get? l = some { cls := .type "tuple", dict := dd, data := .seq items n, slots := sl } ∧ R (.ok (.ret (Value.ref l))) s) :=
  .of_wp fun prog w A R s h => by
    obtain ⟨hp, g, d, tk, os⟩ := s
    obtain ⟨hl, h⟩ := h
    have f1 := AutoSeq1.idx_int
    have c1 : (items.isEmpty || (1 : Int) == 1) = true := by simp
    wp_walk using wpAny_loadPart' hl
    exact ⟨_, rfl, h⟩
def rMul1 (K : PySem.W.Frag) : R2 := fun x y H Q => ∃ l xs, x = .ref l ∧ y = .int 1 ∧ SqT K H l xs ∧ Q (.ref l) H
section
variable {X : Cx} {K : PySem.W.Frag}
theorem op_mul1 : OpR X (binaryOp .Mult) (rMul1 X.K) := by
  intro pins s σ H x y v u Q I rx ry ⟨l, xs, ex, ey, hT, q⟩
  subst ex ey
  cases rx
  obtain ⟨t, rfl⟩ := ry
  obtain ⟨its, r, ⟨⟨cls, dd, data, sl⟩, ho, hc, n, hd⟩, hs⟩ := I.tuple hT
  simp only at hc hd
  subst hc hd
  exact wpAny_binaryOp_repeat_ref (T := "tuple") (U := "int") (by decide) ⟨_, ho, rfl⟩ (fun s' => typeIs_int s' 1 t) noFill_tuple_mul F.fills_int_mul F.slot_int_rmul repeat_tuple F.slot_int_index.lookup
    (call_meets F.slot_int_rmul (typeIs_int s 1 t) F.entry_int_rmul (F.args_int_rmul_2 _ _) (int_rmul_tuple 1 t l its.toArray n dd sl)
      ⟨ho, rfl, ⟨_, ho, rfl⟩, call_meets F.slot_tuple_mul ⟨_, ho, rfl⟩ F.entry_tuple_mul (F.args_tuple_mul_2 _ _) (tuple_mul1 l its.toArray n dd sl t) ⟨ho, ⟨.ref l, H, I, rfl, q⟩⟩⟩)
theorem tuple_mul0 (l : Addr) (items : Array Value) (n : Nat) (dd : Option Addr) (sl : Array (Option Value)) (u : Tok) (c1 : (items.isEmpty || (0 : Int) == 1) = false) :
    Meets (Builtin.«tuple.__mul__» ⟨[.ref l, .int 0 u], []⟩) (fun _ R s => s.heap.get? l = some { cls := .type "tuple", dict := dd, data := .seq items n, slots := sl } ∧ R (.ok (.ret (Value.ref s.heap.objs.size))) { s with heap := s.heap.push { cls := Value.type "tuple", data := Data.seq #[] }, toks := s.toks }) :=
  .of_wp fun prog w A R s h => by
    obtain ⟨hp, g, d, tk, os⟩ := s
    obtain ⟨hl, h⟩ := h
    have f1 := AutoSeq1.idx_int
    wp_walk using wpAny_loadPart' hl
    refine wpAny_ite_false (decide_eq_false (by rw [c1]; exact Bool.false_ne_true)) ?_
    wp_walk using wpAny_loadPart' hl
    exact ⟨_, rfl, h⟩
def rMul0 (K : PySem.W.Frag) : R2 := fun x y H Q => ∃ l xs, x = .ref l ∧ y = .int 0 ∧ SqT K H l xs ∧ xs ≠ [] ∧ ∀ p, H p = none → Q (.ref p) (upd H p (.tup []))
theorem op_mul0 : OpR X (binaryOp .Mult) (rMul0 X.K) := by
  intro pins s σ H x y v u Q I rx ry ⟨l, xs, ex, ey, hT, hne, q⟩
  subst ex ey
  cases rx
  obtain ⟨t, rfl⟩ := ry
  obtain ⟨its, r, ⟨⟨cls, dd, data, sl⟩, ho, hc, n, hd⟩, hs⟩ := I.tuple hT
  simp only at hc hd
  subst hc hd
  have c1 : (its.toArray.isEmpty || (0 : Int) == 1) = false := by
    cases its with
    | nil => cases r; exact absurd rfl hne
    | cons a b => rfl
  exact wpAny_binaryOp_repeat_ref (T := "tuple") (U := "int") (by decide) ⟨_, ho, rfl⟩ (fun s' => typeIs_int s' 0 t) noFill_tuple_mul F.fills_int_mul F.slot_int_rmul repeat_tuple F.slot_int_index.lookup
    (call_meets F.slot_int_rmul (typeIs_int s 0 t) F.entry_int_rmul (F.args_int_rmul_2 _ _) (int_rmul_tuple 0 t l its.toArray n dd sl)
      ⟨ho, rfl, ⟨_, ho, rfl⟩, call_meets F.slot_tuple_mul ⟨_, ho, rfl⟩ F.entry_tuple_mul (F.args_tuple_mul_2 _ _) (tuple_mul0 l its.toArray n dd sl t c1) ⟨ho, ⟨.ref _, _, I.laid (t' := s.toks) (o := .tup []) (fun b ob q => Heap.get?_push_of_some _ q) (Nat.le_refl _) ⟨Nat.zero_le _, [], .nil, IsTup.new _ _⟩, rfl, q _ (I.hok.fresh (Nat.le_refl _))⟩⟩⟩)
abbrev rMulD (K : PySem.W.Frag) : R2 := orR (rI CMul fun i j => .int (i * j)) (orR (rRepT K) (orR (rMul1 K) (orR (rMul0 K) rRep)))
theorem op_mulD : OpR X (binaryOp .Mult) (rMulD X.K) := op_or op_mul (op_or op_repT (op_or op_mul1 (op_or op_mul0 op_rep)))
def mulD : D → D → Option D
  | .int i, .int j => if i.natAbs < 2 ^ 64 ∨ j.natAbs < 2 ^ 64 then some (.int (i * j)) else none
  | .tuple a, .int k => if k = 1 then some (.tuple a) else if a ≠ [] ∧ 2 ≤ k ∧ k ≤ 1000 ∧ a.length ≤ 1000 then some (.tuple (List.replicate k.toNat a).flatten) else if a ≠ [] ∧ k = 0 then some (.tuple []) else none
  | .list a, .int k => if 0 ≤ k ∧ k ≤ 1000 ∧ a.length ≤ 1000 then some (.list (List.replicate k.toNat a).flatten) else none
  | _, _ => none
theorem rd_mul : RD K (rMulD K) mulD := by
  intro x y dx dy z H G Q hx hy hs e q
  unfold mulD at e
  split at e
  · split at e
    · rename_i h
      cases e
      exact .inl ⟨_, _, hx.toI, hy.toI, (show (-(2 ^ 64) < _ ∧ _ < 2 ^ 64) ∨ (-(2 ^ 64) < _ ∧ _ < 2 ^ 64) by omega), q _ H G (Gr.refl hs) (.int _)⟩
    · cases e
  · obtain ⟨a, xs, rfl, ha, da⟩ := hx.toT
    rename_i as k
    split at e
    · rename_i h
      subst h
      cases e
      exact .inr (.inr (.inl ⟨a, xs, rfl, hy.toI, sameT hs ha, q _ H G (Gr.refl hs) (.tup ha da)⟩))
    · split at e
      · rename_i h
        cases e
        refine .inr (.inl ⟨a, _, xs, rfl, hy.toI, sameT hs ha, fun z => h.1 (by subst z; cases da; rfl), h.2.1, h.2.2.1, by rw [da.length]; exact h.2.2.2, fun p hp => ?_⟩)
        have gr := Gr.alloc (u := .tup (List.replicate k.toNat xs).flatten) hs hp
        exact q _ _ _ gr (.tup (.inl (.inl upd_same)) ((da.flatReplicate _).mono gr.g))
      · split at e
        · rename_i h
          obtain ⟨h1, h2⟩ := h
          subst h2
          cases e
          refine .inr (.inr (.inr (.inl ⟨a, xs, rfl, hy.toI, sameT hs ha, fun z => h1 (by subst z; cases da; rfl), fun p hp => ?_⟩)))
          have gr := Gr.alloc (u := .tup []) hs hp
          exact q _ _ _ gr (.tup (.inl (.inl upd_same)) .nil)
        · cases e
  · obtain ⟨a, xs, rfl, ha, da⟩ := hx.toL
    rename_i as k
    split at e
    · rename_i h
      cases e
      refine .inr (.inr (.inr (.inr ⟨a, _, xs, rfl, hy.toI, hs.h _ _ ha rfl, by omega, by omega, ?_, fun p hp => ?_⟩)))
      · have h1 : xs.length * k.toNat ≤ 1000 * 1000 := Nat.mul_le_mul (by rw [da.length]; exact h.2.2) (by omega)
        exact le_line h1
      · have gr := Gr.alloc (u := .lst (List.replicate k.toNat xs).flatten) hs hp
        exact q _ _ _ gr (.lst upd_same ((da.flatReplicate _).mono gr.g))
    · cases e
  · cases e
/-! ### built-ins -/
def callOr (r q : List V → Hp → VK → Prop) : List V → Hp → VK → Prop := fun xs H Q => r xs H Q ∨ q xs H Q
theorem call_or {f : Value} {r q : List V → Hp → VK → Prop} (a : CallR X f r) (b : CallR X f q) : CallR X f (callOr r q) := by
  intro pins s σ H xs us Q I rx h
  rcases h with h | h
  · exact a pins s σ H xs us Q I rx h
  · exact b pins s σ H xs us Q I rx h
def lenD : D → Option D
  | .list ds => some (.int ds.length)
  | .tuple ds => some (.int ds.length)
  | .str z => if z.length ≤ 1000000 then some (.int z.length) else none
  | _ => none
abbrev rLenD (K : PySem.W.Frag) := callOr (fun xs H Q => ∃ p ys, xs = [V.ref p] ∧ (SqL K H p ys ∨ SqT K H p ys) ∧ Q (.int ys.length) H) (fun xs H Q => ∃ z : Str, xs = [V.str z] ∧ z.length ≤ sizeLine ∧ Q (.int z.length) H)
theorem call_lenD' : CallR X (.builtin "len") (rLenD X.K) := call_or call_len_seq call_len_str
theorem rc_len : RC1 K (rLenD K) lenD := by
  intro x dx z H G Q hx hs e q
  unfold lenD at e
  split at e
  · cases e
    obtain ⟨a, xs, rfl, ha, da⟩ := hx.toL
    rw [← da.length] at q
    exact .inl ⟨a, xs, rfl, .inl (.of (hs.h _ _ ha rfl)), q _ H G (Gr.refl hs) (.int _)⟩
  · cases e
    obtain ⟨a, xs, rfl, ha, da⟩ := hx.toT
    rw [← da.length] at q
    exact .inl ⟨a, xs, rfl, .inr (sameT hs ha), q _ H G (Gr.refl hs) (.int _)⟩
  · split at e
    · rename_i h
      cases e
      cases hx
      exact .inr ⟨_, rfl, le_line h, q _ H G (Gr.refl hs) (.int _)⟩
    · cases e
  · cases e
def intD : D → Option D
  | .int i => some (.int i)
  | .bool b => some (.int (if b then 1 else 0))
  | _ => none
def tupleD : D → Option D
  | .list ds => some (.tuple ds)
  | .tuple ds => some (.tuple ds)
  | _ => none
theorem rc_tuple : RC1 K (fun xs H Q => ∃ p ys, xs = [V.ref p] ∧ ((SqL K H p ys ∧ ∀ l, H l = none → Q (.ref l) (upd H l (.tup ys))) ∨ (SqT K H p ys ∧ Q (.ref p) H))) tupleD := by
  intro x dx z H G Q hx hs e q
  unfold tupleD at e
  split at e
  · cases e
    obtain ⟨a, xs, rfl, ha, da⟩ := hx.toL
    refine ⟨a, xs, rfl, .inl ⟨.of (hs.h _ _ ha rfl), fun l hl => ?_⟩⟩
    have gr := Gr.alloc (u := .tup xs) hs hl
    exact q _ _ _ gr (.tup (.inl (.inl upd_same)) (da.mono gr.g))
  · cases e
    obtain ⟨a, xs, rfl, ha, da⟩ := hx.toT
    exact ⟨a, xs, rfl, .inr ⟨sameT hs ha, q _ H G (Gr.refl hs) (.tup ha da)⟩⟩
  · cases e
def bools : List D → Option (List Bool)
  | [] => some []
  | .bool b :: r => (bools r).map (b :: ·)
  | _ :: _ => none
theorem DaAll.bools {G : Hp} : ∀ {ds : List D} {vs : List V} {bs : List Bool}, DaAll K G vs ds → bools ds = some bs → vs = bs.map V.bl
  | [], _, _, .nil, e => by cases e; rfl
  | .bool b :: r, _, _, .cons h t, e => by
    obtain ⟨cs, ec, rfl⟩ := Option.map_eq_some_iff.mp e
    cases h
    rw [t.bools ec]
    rfl
  | .none :: _, _, _, _, e => by cases e
  | .int _ :: _, _, _, _, e => by cases e
  | .str _ :: _, _, _, _, e => by cases e
  | .list _ :: _, _, _, _, e => by cases e
  | .tuple _ :: _, _, _, _, e => by cases e
  | .dict _ :: _, _, _, _, e => by cases e
def allD : D → Option D
  | .list ds => (bools ds).map fun bs => .bool (bs.all id)
  | _ => none
def anyD : D → Option D
  | .list ds => (bools ds).map fun bs => .bool (bs.any id)
  | _ => none
theorem rc_all : RC1 K (rAll K) allD := by
  intro x dx z H G Q hx hs e q
  unfold allD at e
  split at e
  · obtain ⟨bs, eb, rfl⟩ := Option.map_eq_some_iff.mp e
    obtain ⟨a, xs, rfl, ha, da⟩ := hx.toL
    have := da.bools eb
    subst this
    exact ⟨a, bs, rfl, .of (hs.h _ _ ha rfl), q _ H G (Gr.refl hs) (.bl _)⟩
  · cases e
def intsD : List D → Option (List Int)
  | [] => some []
  | .int b :: r => (intsD r).map (b :: ·)
  | _ :: _ => none
theorem ints_map : ∀ {ds : List D} {ns : List Int}, intsD ds = some ns → ds = ns.map .int
  | [], _, e => by cases e; rfl
  | .int b :: r, _, e => by
    obtain ⟨cs, ec, rfl⟩ := Option.map_eq_some_iff.mp e
    rw [ints_map ec]
    rfl
  | .none :: _, _, e => by cases e
  | .bool _ :: _, _, e => by cases e
  | .str _ :: _, _, e => by cases e
  | .list _ :: _, _, e => by cases e
  | .tuple _ :: _, _, e => by cases e
  | .dict _ :: _, _, e => by cases e
/-! ### sum, max, min of lists and tuples of ints -/
section
variable {prog : Program} {w : World} {A : Around} {E : Value → Shared → Prop} {s : Shared} {l : Addr} {its : List Value} {ns : List Int} {Q : Value → Shared → Prop}
theorem iter_tup {items : Array Value} (hl : s.heap.IsTuple l items)
    (h : ∀ s2 : Shared, s2 = { s with heap := s.heap.push { cls := .type "tuple_iterator", data := .fields #[.ref l, .int 0 0] } } → (s2.heap.IsTupleIter s.heap.objs.size l 0 ∧ s2.heap.IsTuple l items) → (∀ b ∈ [s.heap.objs.size, l], b < s2.heap.objs.size) → l ≠ s.heap.objs.size → Q (.ref s.heap.objs.size) s2) :
    wpAny (model prog w) A (pyIter (.ref l)) Q E s := by
  have hlt : l < s.heap.objs.size := by obtain ⟨_, e, _⟩ := hl; exact Heap.lt_size e
  refine wpAny_pyIter_tuple hl (h _ rfl ⟨⟨_, Heap.get?_push_size _ rfl, rfl, rfl⟩, hl.push _⟩ (fun b hb => ?_) (Nat.ne_of_lt hlt))
  show b < (s.heap.push _).objs.size
  rw [Heap.size_push]
  have hb' : b = s.heap.objs.size ∨ b = l := by simpa using hb
  rcases hb' with rfl | rfl
  · exact Nat.lt_succ_self _
  · exact Nat.lt_succ_of_lt hlt
theorem kept_tup {h' : Heap} (hk : ∀ b o, b ∉ [s.heap.objs.size] → (s.heap.push { cls := .type "tuple_iterator", data := .fields #[.ref l, .int 0 0] }).get? b = some o → h'.get? b = some o) : ∀ b o, s.heap.get? b = some o → h'.get? b = some o := fun b o e =>
  hk b o (fun hm => by rw [List.mem_singleton.mp hm] at e; exact absurd (Heap.lt_size e) (Nat.lt_irrefl _)) (Heap.get?_push_of_some _ e)
theorem sum_tup (hh : A.handled = none) (hl : s.heap.IsTuple l its.toArray) (hi : IntsAre its ns)
    (h : ∀ h' tk t', (∀ b o, s.heap.get? b = some o → h'.get? b = some o) → Q (.int ns.sum t') { s with heap := h', toks := tk }) : wpAny (model prog w) A (call (.builtin "sum") [.ref l]) Q E s := by
  obtain ⟨xs, e⟩ := hi.allInts.items
  have hn : numsOf (intItems xs).toList = ns := by rw [← e]; exact hi.numsOf
  rw [nums_intItems] at hn
  rw [e] at hl
  refine call_sum_walkG (iter_tup hl fun s2 e2 st hfp hne => ?_)
  subst e2
  refine ⟨_, _, _, _, _, _, numAt xs, rfl, Walks.tuple (A := A.in1) hh _ l hne (intItems xs), st, hfp, (fun _ _ => intItems_at), fun h' tk t' hk => ?_⟩
  have q := h h' tk t' (kept_tup hk)
  rw [preSum_eq, List.take_of_length_le (by simp [intItems]), hn]
  exact q
theorem max_tup (hh : A.handled = none) (hl : s.heap.IsTuple l its.toArray) (hi : IntsAre its ns) (hne : 0 < ns.length)
    (h : ∀ h' tk M t', (∀ b o, s.heap.get? b = some o → h'.get? b = some o) → M ∈ ns → (∀ a, a ∈ ns → a ≤ M) → Q (.int M t') { s with heap := h', toks := tk }) : wpAny (model prog w) A (call (.builtin "max") [.ref l]) Q E s := by
  obtain ⟨xs, e⟩ := hi.allInts.items
  have hn : numsOf (intItems xs).toList = ns := by rw [← e]; exact hi.numsOf
  rw [nums_intItems] at hn
  subst hn
  rw [e] at hl
  have hsz : 0 < xs.size := by simpa using hne
  refine call_max_walk (iter_tup hl fun s2 e2 st hfp hn2 => ?_)
  subst e2
  refine ⟨_, _, _, _, _, _, _, rfl, Walks.tuple (A := A.in1) hh _ l hn2 (intItems xs), st, hfp, by simpa [intItems] using hsz, CmpOf.ints_gt (numAt xs) (fun _ _ => intItems_at), fun v h' tk hP hk => ?_⟩
  have hP' : (intItems xs)[argBest (fun i j => decide (numAt xs i > numAt xs j)) (xs.size - 1)]? = some v := by simpa [intItems] using hP
  obtain ⟨t, rfl⟩ := intItems_at hP'
  obtain ⟨h1, h2⟩ := argBest_gt (numAt xs) (xs.size - 1)
  refine h h' tk _ t (kept_tup hk) ?_ fun a ha => ?_
  · rw [numAt_eq]; exact PySem.getD_mem (by rw [List.length_map, Array.length_toList]; omega)
  · obtain ⟨j, hj, rfl⟩ := mem_getD ha
    rw [List.length_map, Array.length_toList] at hj
    rw [← numAt_eq]; exact h2 j (by omega)
end
end
end DD
namespace DD
open PySem PySem.Spec PyProof.Rows L2
section
variable {X : Cx} {K : PySem.W.Frag}
def rSumT (K : PySem.W.Frag) : List V → Hp → VK → Prop := fun vs H Q => ∃ (a : Addr) (ns : List Int), vs = [V.ref a] ∧ SqT K H a (ns.map V.int) ∧ Q (.int ns.sum) H
def rMaxT (K : PySem.W.Frag) : List V → Hp → VK → Prop := fun vs H Q => ∃ (a : Addr) (ns : List Int), vs = [V.ref a] ∧ SqT K H a (ns.map V.int) ∧ 0 < ns.length ∧ ∀ m, m ∈ ns → (∀ y, y ∈ ns → y ≤ m) → Q (.int m) H
theorem cr_sumT (hc : X.calm = true) : CallR X (.builtin "sum") (rSumT X.K) := by
  intro pins s σ H vs us Q I r ⟨a, ns, e, hs, q⟩
  subst e
  obtain ⟨its, rv, hl, _⟩ := I.tuple hs
  rw [Vals.ref1 r]
  exact sum_tup (I.ok.hd hc) hl rv.ints fun h' tk t' hk => ⟨.int _, H, I.kept hk, ⟨_, rfl⟩, q⟩
theorem cr_maxT (hc : X.calm = true) : CallR X (.builtin "max") (rMaxT X.K) := by
  intro pins s σ H vs us Q I r ⟨a, ns, e, hs, hne, q⟩
  subst e
  obtain ⟨its, rv, hl, _⟩ := I.tuple hs
  rw [Vals.ref1 r]
  exact max_tup (I.ok.hd hc) hl rv.ints hne fun h' tk m t' hk h1 h2 => ⟨.int _, H, I.kept hk, ⟨_, rfl⟩, q m h1 h2⟩
def sumD : D → Option D
  | .list ds => (intsD ds).map fun ns => .int ns.sum
  | .tuple ds => (intsD ds).map fun ns => .int ns.sum
  | _ => none
def maxD : D → Option D
  | .list ds => (intsD ds).bind fun ns => ns.max?.map .int
  | .tuple ds => (intsD ds).bind fun ns => ns.max?.map .int
  | _ => none
abbrev rSumD (K : PySem.W.Frag) := callOr (rSum K) (rSumT K)
abbrev rMaxD (K : PySem.W.Frag) := callOr (rMax K) (rMaxT K)
theorem call_sumD (hc : X.calm = true) : CallR X (.builtin "sum") (rSumD X.K) := call_or (cr_sum hc) (cr_sumT hc)
theorem call_maxD (hc : X.calm = true) : CallR X (.builtin "max") (rMaxD X.K) := call_or (cr_max hc) (cr_maxT hc)
theorem rc_sum : RC1 K (rSumD K) sumD := by
  intro x dx z H G Q hx hs e q
  unfold sumD at e
  split at e
  · obtain ⟨ns, en, rfl⟩ := Option.map_eq_some_iff.mp e
    have := ints_map en
    subst this
    obtain ⟨a, xs, rfl, ha, da⟩ := hx.toL
    have := da.ints
    subst this
    exact .inl ⟨a, ns, rfl, .of (hs.h _ _ ha rfl), q _ H G (Gr.refl hs) (.int _)⟩
  · obtain ⟨ns, en, rfl⟩ := Option.map_eq_some_iff.mp e
    have := ints_map en
    subst this
    obtain ⟨a, xs, rfl, ha, da⟩ := hx.toT
    have := da.ints
    subst this
    exact .inr ⟨a, ns, rfl, sameT hs ha, q _ H G (Gr.refl hs) (.int _)⟩
  · cases e
theorem max_is {ns : List Int} {m k : Int} (h1 : m ∈ ns) (h2 : ∀ y, y ∈ ns → y ≤ m) (e : ns.max? = some k) : m = k := by
  obtain ⟨a, b⟩ := List.max?_eq_some_iff.mp e
  have := b m h1
  have := h2 k a
  omega
theorem max_ne {ns : List Int} {k : Int} (e : ns.max? = some k) : 0 < ns.length := by
  cases ns with
  | nil => cases e
  | cons a b => simp
theorem rc_max : RC1 K (rMaxD K) maxD := by
  intro x dx z H G Q hx hs e q
  unfold maxD at e
  split at e
  · obtain ⟨ns, en, e⟩ := Option.bind_eq_some_iff.mp e
    obtain ⟨k, ek, rfl⟩ := Option.map_eq_some_iff.mp e
    have := ints_map en
    subst this
    obtain ⟨a, xs, rfl, ha, da⟩ := hx.toL
    have := da.ints
    subst this
    exact .inl ⟨a, ns, rfl, .of (hs.h _ _ ha rfl), max_ne ek, fun m h1 h2 => by rw [max_is h1 h2 ek]; exact q _ H G (Gr.refl hs) (.int _)⟩
  · obtain ⟨ns, en, e⟩ := Option.bind_eq_some_iff.mp e
    obtain ⟨k, ek, rfl⟩ := Option.map_eq_some_iff.mp e
    have := ints_map en
    subst this
    obtain ⟨a, xs, rfl, ha, da⟩ := hx.toT
    have := da.ints
    subst this
    exact .inr ⟨a, ns, rfl, sameT hs ha, max_ne ek, fun m h1 h2 => by rw [max_is h1 h2 ek]; exact q _ H G (Gr.refl hs) (.int _)⟩
  · cases e
def max2D : D → D → Option D := intD2 fun i j => some (.int (if j > i then j else i))
def min2D : D → D → Option D := intD2 fun i j => some (.int (if j < i then j else i))
theorem rc_max2 : RC2 K (fun xs H Q => ∃ i j, xs = [V.int i, V.int j] ∧ Q (.int (if j > i then j else i)) H) max2D := by
  intro x y dx dy z H G Q hx hy hs e q
  unfold max2D intD2 at e
  split at e
  · cases e; cases hx; cases hy; exact ⟨_, _, rfl, q _ H G (Gr.refl hs) (.int _)⟩
  · cases e
theorem rc_min2 : RC2 K (fun xs H Q => ∃ i j, xs = [V.int i, V.int j] ∧ Q (.int (if j < i then j else i)) H) min2D := by
  intro x y dx dy z H G Q hx hy hs e q
  unfold min2D intD2 at e
  split at e
  · cases e; cases hx; cases hy; exact ⟨_, _, rfl, q _ H G (Gr.refl hs) (.int _)⟩
  · cases e
/-! ### repr -/
/-! ### isinstance of a built-in class -/
def typeN : D → String
  | .none => "NoneType"
  | .bool _ => "bool"
  | .int _ => "int"
  | .str _ => "str"
  | .list _ => "list"
  | .tuple _ => "tuple"
  | .dict _ => "dict"
def isiB (T : String) (d : D) : Bool := typeN d == T || (typeN d == "bool" && T == "int")
theorem typeN_mem (d : D) : typeN d ∈ ["NoneType", "bool", "int", "str", "list", "tuple", "dict"] := by cases d <;> simp [typeN]
def isRf : D → Bool
  | .dict ((.none, _) :: _) => true
  | .dict ((.bool _, _) :: _) => true
  | _ => false
def isRl : D → Bool
  | .dict ((.bool false, _) :: _) => true
  | _ => false
theorem Da.ty {B : Bs} {H G : Hp} {n : Wd} {v : V} {d : D} (fm : Fm K B H G n) (h : Da K G v d) : (TyX K H v (.type (typeN d)) ∧ isRf d = false) ∨ (isRl d = true ∧ typeN d = "dict" ∧ TyX K H v (.type "list")) ∨ (isRl d = false ∧ typeN d = "dict" ∧ ∃ c C, ClsOk K c C ∧ TyX K H v (.ref C)) := by
  cases h with
  | non => exact .inl ⟨.base .non, rfl⟩
  | bl b => exact .inl ⟨.base (.bl b), rfl⟩
  | int i => exact .inl ⟨.base (.int i), rfl⟩
  | str x => exact .inl ⟨.base (.str x), rfl⟩
  | lst e _ => exact .inl ⟨.base (.lst (fm.sub.h _ _ e rfl)), rfl⟩
  | tup e _ =>
    refine .inl ⟨?_, rfl⟩
    rcases sameT fm.sub e with (e | ⟨o, e⟩) | ⟨o, its, n, hk, hc, _⟩
    · exact .base (.tup e)
    · exact .fTuple e
    · exact .kTuple hk hc
  | @dct a kvs e _ =>
    refine .inl ⟨.base (.dK (fm.sub.h _ _ e rfl)), ?_⟩
    cases kvs with
    | nil => rfl
    | cons p r =>
      obtain ⟨k, v⟩ := p
      cases k <;> rfl
  | obj e =>
    obtain ⟨c, _, h⟩ := fm.obs.at_ _ _ _ e rfl
    cases c with
    | ins c fs =>
      obtain ⟨_, C, dx, vs, ck, h, _⟩ := h
      exact .inr (.inr ⟨rfl, rfl, c, C, ck, .base (.ins h ck.cl ck.ha ck.hn ck.ht ck.hm)⟩)
    | lst ds =>
      have := h.1
      rw [e] at this
      cases this
  | cel e =>
    obtain ⟨c, _, h⟩ := fm.obs.at_ _ _ _ e rfl
    cases c with
    | ins c fs =>
      have := h.1
      rw [e] at this
      cases this
    | lst ds =>
      obtain ⟨_, xs, h, _⟩ := h
      exact .inr (.inl ⟨rfl, rfl, .base (.lst h)⟩)
  | fin e ck _ _ => exact .inr (.inr ⟨rfl, rfl, _, _, ck, .base (.ins (fm.sub.h _ _ e rfl) ck.cl ck.ha ck.hn ck.ht ck.hm)⟩)
theorem ClsOk.kitF {c : Str} {C : Addr} (h : ClsOk K c C) {T : String} (hT : T ∈ ["NoneType", "bool", "int", "str", "list", "tuple", "dict"]) : PySem.W.kitOne K (.ref C) (.type T) = some false := eq_of_beq (List.all_eq_true.mp h.kit _ hT)
variable {m : Type → Type} [Mo m] {EX : XR} {g : List Sl}
theorem isi_core (T : String) {tn : Str} {a : Expr} {p p2 pos : Pos} {x : m D} (ha : EJ X EX a g x) (hm : X.mg "isinstance" = none) (hmt : X.mg tn = none) (hT : (["NoneType", "bool", "int", "str", "list", "tuple", "dict"].all fun t => kitB t T == some (t == T || (t == "bool" && T == "int"))) = true)
    (hvt : bootBuiltins tn = some (.type T)) (hgt : Gl X tn) (hg : Gl X "isinstance") (hnt : tn ≠ "__name__") (hdt : (tn == ("__debug__" : Str)) = false)
    (hs : starEach [a, .Name tn p2] X.env = (false, eval a X.env) :: starEach [.Name tn p2] X.env) (hs2 : starEach [.Name tn p2] X.env = (false, eval (.Name tn p2) X.env) :: starEach [] X.env) (hTm : T ∈ ["NoneType", "bool", "int", "str", "list", "tuple"]) {f : D → m D} (hf : ∀ (d : D) (n : Wd) (φ : D → Wd → Prop) (ξ : Exn → Wd → Prop), Mo.sat (f d) n φ ξ → ¬ (isRl d = true ∧ T = "list") ∧ φ (.bool (isiB T d)) n) :
    EJ X EX (.Call (.Name "isinstance" p) [a, .Name tn p2] [] pos) g (x >>= f) :=
  (pe_callB call_isi hg hm (by decide +kernel) (pa_cons ha (pa_cons (pe_bltn (v := .ty T) hgt hmt hvt rfl hnt hdt) pa_nil hs2) hs) (by decide) (by decide) hs (by rw [hs2]; rfl)).weak fun σ H Q ⟨B, G, n, φ, ξ, o, s, q, xw⟩ => te_one o s (fun v H1 G1 d n1 o1 g1 d1 s1 => by
    obtain ⟨hn, s2⟩ := hf _ _ _ _ s1
    have fin := q _ H1 G1 _ n1 o1 g1 (.bl (isiB T d)) s2
    have hT' : T ∈ ["NoneType", "bool", "int", "str", "list", "tuple", "dict"] := by
      simp only [List.mem_cons, List.not_mem_nil, or_false] at hTm ⊢
      rcases hTm with h | h | h | h | h | h <;> simp [h]
    rcases d1.ty o1.fm with ⟨t1, _⟩ | ⟨t0, t1, t2⟩ | ⟨_, t1, c, C, ck, t2⟩
    · exact ⟨v, .ty T, .type (typeN d), .type T, isiB T d, rfl, .ty T, t1, kit_ty (eq_of_beq (List.all_eq_true.mp hT _ (typeN_mem d))), fin⟩
    · have hl : T ≠ "list" := fun e => hn ⟨t0, e⟩
      refine ⟨v, .ty T, .type "list", .type T, isiB T d, rfl, .ty T, t2, ?_, fin⟩
      have e1 := eq_of_beq (List.all_eq_true.mp hT "list" (by decide))
      rw [kit_ty e1]
      have e2 : isiB T d = false := by
        unfold isiB
        rw [t1]
        simp only [List.mem_cons, List.not_mem_nil, or_false] at hTm
        rcases hTm with h | h | h | h | h | h <;> subst h <;> first | rfl | exact absurd rfl hl
      rw [e2]
      simp only [List.mem_cons, List.not_mem_nil, or_false] at hTm
      rcases hTm with h | h | h | h | h | h <;> subst h <;> first | rfl | exact absurd rfl hl
    · refine ⟨v, .ty T, .ref C, .type T, isiB T d, rfl, .ty T, t2, ?_, fin⟩
      rw [ck.kitF hT']
      have e2 : isiB T d = false := by
        unfold isiB
        rw [t1]
        simp only [List.mem_cons, List.not_mem_nil, or_false] at hTm
        rcases hTm with h | h | h | h | h | h <;> subst h <;> rfl
      rw [e2]) xw
theorem ej_isi (T : String) {tn : Str} {a : Expr} {p p2 pos : Pos} {x : m D} (ha : EJ X EX a g x) (hm : X.mg "isinstance" = none) (hmt : X.mg tn = none) (hT : (["NoneType", "bool", "int", "str", "list", "tuple", "dict"].all fun t => kitB t T == some (t == T || (t == "bool" && T == "int"))) = true := by decide +kernel)
    (hvt : bootBuiltins tn = some (.type T) := by decide +kernel) (hgt : Gl X tn := by rfl) (hg : Gl X "isinstance" := by rfl) (hnt : tn ≠ "__name__" := by decide) (hdt : (tn == ("__debug__" : Str)) = false := by decide)
    (hs : starEach [a, .Name tn p2] X.env = (false, eval a X.env) :: starEach [.Name tn p2] X.env := by rfl) (hs2 : starEach [.Name tn p2] X.env = (false, eval (.Name tn p2) X.env) :: starEach [] X.env := by rfl) (hTm : T ∈ ["NoneType", "bool", "int", "str", "list", "tuple"] := by decide) (hL : (T == "list") = false := by decide) :
    EJ X EX (.Call (.Name "isinstance" p) [a, .Name tn p2] [] pos) g (x >>= fun d => pure (.bool (isiB T d))) :=
  isi_core T ha hm hmt hT hvt hgt hg hnt hdt hs hs2 hTm fun d n φ ξ h => ⟨fun z => (by rw [z.2] at hL; exact absurd hL (by decide)), Mo.sat_pure h⟩
/-! ### slices -/
def cutD (ds : List D) (lo hi : Option Int) : List D := (ds.drop (HT.sIx ds.length 0 lo)).take (HT.sIx ds.length ds.length hi - HT.sIx ds.length 0 lo)
theorem DaAll.cut {G : Hp} {vs : List V} {ds : List D} (h : DaAll K G vs ds) (lo hi : Option Int) : DaAll K G (cutV vs lo hi) (cutD ds lo hi) := by
  unfold cutV cutD
  rw [h.length]
  exact (h.drop _).take _
def sliceD (d : D) (lo hi : Option Int) : Option D := match d with
  | .list ds => some (.list (cutD ds lo hi))
  | .tuple ds => some (.tuple (cutD ds lo hi))
  | _ => none
def oint : D → Option (Option Int)
  | .int i => some (some i)
  | _ => none
theorem sl_or {r q : V → Option Int → Option Int → Hp → VK → Prop} (a : SlR X r) (b : SlR X q) : SlR X (fun x l u H Q => r x l u H Q ∨ q x l u H Q) := by
  intro pins s σ H x v vl vu l u sl Q I rx hs pl pu h
  rcases h with h | h
  · exact a pins s σ H x v vl vu l u sl Q I rx hs pl pu h
  · exact b pins s σ H x v vl vu l u sl Q I rx hs pl pu h
theorem whole_cut {α : Type} {xs : List α} {lo hi : Option Int} (h : HT.sIx xs.length 0 lo = 0 ∧ HT.sIx xs.length xs.length hi = xs.length) : (xs.drop (HT.sIx xs.length 0 lo)).take (HT.sIx xs.length xs.length hi - HT.sIx xs.length 0 lo) = xs := by
  rw [h.1, h.2]
  simp
theorem sl_data {x : V} {d z : D} {H G : Hp} {lo hi : Option Int} {Q : VK} (hx : Da K G x d) (hs : SubM G H) (e : sliceD d lo hi = some z) (q : ∀ v H' G', Gr H G H' G' → Da K G' v z → Q v H') : rSlL K x lo hi H Q ∨ rSlA K x lo hi H Q := by
  unfold sliceD at e
  split at e
  · cases e
    obtain ⟨a, xs, rfl, ha, da⟩ := hx.toL
    refine .inl ⟨a, xs, rfl, .of (hs.h _ _ ha rfl), fun p hp => ?_⟩
    have gr := Gr.alloc (u := .lst (cutV xs lo hi)) hs hp
    exact q _ _ _ gr (.lst upd_same ((da.cut lo hi).mono gr.g))
  · cases e
    obtain ⟨a, xs, rfl, ha, da⟩ := hx.toT
    refine .inr ⟨a, xs, rfl, sameT hs ha, fun hw => ?_, fun hw p hp => ?_⟩
    · rw [da.length] at hw
      have : cutD _ lo hi = _ := whole_cut hw
      rw [this] at q
      exact q _ H G (Gr.refl hs) (.tup ha da)
    · have gr := Gr.alloc (u := .tup (cutV xs lo hi)) hs hp
      exact q _ _ _ gr (.tup (.inl (.inl upd_same)) ((da.cut lo hi).mono gr.g))
  · cases e
def toJ (X : Cx) (EX : XR) (g : List Sl) (x : m (Option Int)) : TO := fun σ H Q => ∃ B G n φ ξ, Ok X.K B g σ H G n ∧ Mo.sat x n φ ξ ∧ (∀ d H' G' n', Ok X.K B g σ H' G' n' → Same G G' → φ d n' → Q d H') ∧ Xw X B EX ξ
/-- a part of a slice -/
def OJ (X : Cx) (EX : XR) (e : Option Expr) (g : List Sl) (x : m (Option Int)) : Prop := PO X e (toJ X EX g x)
theorem _root_.L2.PO.weak {X : Cx} {e : Option Expr} {t t' : TO} (h : PO X e t) (w : ∀ σ H Q, t' σ H Q → t σ H Q) : PO X e t' := ⟨fun pins s σ H Q I q => h.run pins s σ H Q I (w _ _ _ q)⟩
theorem oj_none : OJ (m := m) X EX none g (pure none) := po_none.weak fun σ H Q ⟨B, G, n, φ, ξ, o, s, q, _⟩ => q none H G n o (Same.refl _) (Mo.sat_pure s)
theorem oj_some {e : Expr} {x : m D} (h : EJ X EX e g x) : OJ X EX (some e) g (x >>= fun d => Mo.lift (oint d)) :=
  (po_some h).weak fun σ H Q ⟨B, G, n, φ, ξ, o, s, q, xw⟩ => te_one o s (fun v H1 G1 d n1 o1 g1 d1 s1 => by
    obtain ⟨w, ew, pw⟩ := Mo.sat_lift s1
    cases d with
    | int i => cases ew; exact ⟨i, d1.toI, q _ H1 G1 n1 o1 g1 pw⟩
    | _ => cases ew) xw
theorem ej_slice {a : Expr} {lo hi : Option Expr} {pos p2 : Pos} {x : m D} {y z : m (Option Int)} (ha : EJ X EX a g x) (hb : OJ X EX lo g y) (hc : OJ X EX hi g z) : EJ X EX (.Subscript a (.Slice lo hi none p2) pos) g (x >>= fun d => y >>= fun l => z >>= fun h => Mo.lift (sliceD d l h)) :=
  (pe_slice (sl_or sl_list sl_tupA) ha hb hc).weak fun σ H Q ⟨B, G, n, φ, ξ, o, s, q, xw⟩ => te_one o s (fun v H1 G1 d n1 o1 g1 d1 s1 => ⟨B, G1, n1, _, ξ, o1, Mo.sat_bind s1, fun l H2 G2 n2 o2 g2 s2 => ⟨B, G2, n2, _, ξ, o2, Mo.sat_bind s2, fun h H3 G3 n3 o3 g3 s3 => by
    obtain ⟨w, ew, pw⟩ := Mo.sat_lift s3
    exact sl_data ((d1.mono g2).mono g3) o3.fm.sub ew fun u H4 G4 gr du => q u H4 G4 w n3 (o3.gr gr) (((g1.trans g2).trans g3).trans gr.g) du pw, xw⟩, xw⟩) xw
end
end DD
namespace DD
open PySem PySem.Spec PyProof.Rows
theorem forIn_wp {α β : Type} {M : Model} {A : Around} {E : Value → Shared → Prop} {Q : β → Shared → Prop} {b : α → β → Sem (ForInStep β)} (P : Nat → β → Shared → Prop) : ∀ (l : List α) (j : Nat) (r : β) (s : Shared), P j r s →
    (∀ i x r s, l[i]? = some x → P (j + i) r s → wpAny M A (b x r) (fun st s' => ∃ r', st = .yield r' ∧ P (j + i + 1) r' s') E s) → (∀ r s, P (j + l.length) r s → Q r s) → wpAny M A (forIn l r b) Q E s
  | [], j, r, s, h, _, hq => by
    simp only [List.forIn_nil]
    exact wpAny_pure (hq r s h)
  | x :: l, j, r, s, h, hs, hq => by
    simp only [List.forIn_cons]
    refine wpAny_bind (wpAny_mono (hs 0 x r s rfl h) (fun st s' ⟨r', e, p⟩ => ?_) fun _ _ z => z)
    subst e
    refine forIn_wp P l (j + 1) r' s' p (fun i y r2 s2 e p2 => ?_) fun r2 s2 p2 => hq r2 s2 (by rw [List.length_cons, show j + (l.length + 1) = j + 1 + l.length by omega]; exact p2)
    have := hs (i + 1) y r2 s2 (by simpa using e) (by rw [show j + (i + 1) = j + 1 + i by omega]; exact p2)
    rw [show j + (i + 1) + 1 = j + 1 + i + 1 by omega] at this
    exact this
/-! a list or a tuple, by its kind -/
def SqOf (k : Bool) (h : Heap) (l : Addr) (items : Array Value) : Prop := if k = true then h.IsList l items else h.IsTuple l items
def SqIter (k : Bool) (h : Heap) (a l : Addr) (i : Nat) : Prop := if k = true then h.IsListIter a l i else h.IsTupleIter a l i
section
variable {k : Bool} {h h' : Heap} {a l b : Addr} {i : Nat} {items : Array Value}
theorem SqOf.at (x : SqOf k h l items) (e : ∀ o, h.get? l = some o → h'.get? l = some o) : SqOf k h' l items := by
  cases k
  · obtain ⟨o, ho, r⟩ := (show h.IsTuple l items from x)
    exact (show h'.IsTuple l items from ⟨o, e o ho, r⟩)
  · obtain ⟨o, ho, r⟩ := (show h.IsList l items from x)
    exact (show h'.IsList l items from ⟨o, e o ho, r⟩)
theorem SqIter.at (x : SqIter k h a l i) (e : ∀ o, h.get? a = some o → h'.get? a = some o) : SqIter k h' a l i := by
  cases k
  · obtain ⟨o, ho, r⟩ := (show h.IsTupleIter a l i from x)
    exact (show h'.IsTupleIter a l i from ⟨o, e o ho, r⟩)
  · obtain ⟨o, ho, r⟩ := (show h.IsListIter a l i from x)
    exact (show h'.IsListIter a l i from ⟨o, e o ho, r⟩)
theorem SqOf.extBut (x : SqOf k h l items) (hs : Heap.ExtBut b h h') (hb : l ≠ b) : SqOf k h' l items := x.at fun o e => hs l o hb e
theorem SqIter.extBut (x : SqIter k h a l i) (hs : Heap.ExtBut b h h') (hb : a ≠ b) : SqIter k h' a l i := x.at fun o e => hs a o hb e
theorem SqIter.ex (x : SqIter k h a l i) : ∃ o, h.get? a = some o ∧ True ∧ o.data = .fields #[.ref l, .int i 0] := by
  cases k
  · obtain ⟨o, ho, _, r⟩ := (show h.IsTupleIter a l i from x)
    exact ⟨o, ho, trivial, r⟩
  · obtain ⟨o, ho, _, r⟩ := (show h.IsListIter a l i from x)
    exact ⟨o, ho, trivial, r⟩
end
section
variable {prog : Program} {w : World} {A : Around} {E : Value → Shared → Prop} {s : Shared} {k : Bool}
theorem sq_item {it l : Addr} {i : Nat} {items} {x : Value} {Q : Value → Shared → Prop} (hit : SqIter k s.heap it l i) (hl : SqOf k s.heap l items) (hx : items[i]? = some x) (hQ : ∀ h', SqIter k h' it l (i + 1) → Heap.SameBut it s.heap h' → Q x { s with heap := h' }) : wpAny (model prog w) A (Builtin.SmallTypes.nextOf (.ref it)) Q E s := by
  cases k
  · exact RZ.nextOf_tuple_item hit hl hx hQ
  · exact wpAny_nextOf_list_item hit hl hx hQ
theorem sq_end {it l : Addr} {i : Nat} {items} {Q : Value → Shared → Prop} (hh : A.handled = none) (hit : SqIter k s.heap it l i) (hl : SqOf k s.heap l items) (hx : items[i]? = none) (hE : ∀ h' e, Heap.ExtBut it s.heap h' → (∃ o, h'.get? e = some o ∧ o.cls = .type "StopIteration") → E (.ref e) { s with heap := h' }) : wpAny (model prog w) A (Builtin.SmallTypes.nextOf (.ref it)) Q E s := by
  cases k
  · exact RZ.nextOf_tuple_end hh hit hl hx hE
  · exact wpAny_nextOf_list_end hh hit hl hx hE
theorem sq_pyIter {l : Addr} {items} {Q : Value → Shared → Prop} (hl : SqOf k s.heap l items) (hQ : ∀ o : Obj, SqIter k (s.heap.push o) s.heap.objs.size l 0 → Q (.ref s.heap.objs.size) { s with heap := s.heap.push o }) : wpAny (model prog w) A (pyIter (.ref l)) Q E s := by
  cases k
  · exact wpAny_pyIter_tuple hl (hQ _ ⟨_, Heap.get?_push_size _ rfl, rfl, rfl⟩)
  · exact wpAny_pyIter_list hl (hQ _ ⟨_, Heap.get?_push_size _ rfl, rfl, rfl⟩)
end
def ZObj (f0 f1 : Value) (TI TO : Addr) : Obj := { cls := .type "zip", dict := none, data := .fields #[f0, f1, .bool false, .ref TI, .ref TO], slots := #[] }
/-- the zip at z, its iterators its over the tuples ls, each at turn i -/
structure ZSt (kd : Nat → Bool) (h : Heap) (z TI TO : Addr) (its ls : List Addr) (i : Nat) : Prop where
  zo : ∃ f0 f1, h.get? z = some (ZObj f0 f1 TI TO) ∧ (f0 = .none ∨ ∃ a : Int, f0 = rawInt a)
  ti : h.get? TI = some { cls := .type "tuple", data := .seq (its.map Value.ref).toArray }
  to : ∃ kept k, h.get? TO = some { cls := .type "tuple", data := .seq kept k } ∧ kept.size = its.length
  it : ∀ (t : Nat) (a l : Addr), its[t]? = some a → ls[t]? = some l → SqIter (kd t) h a l i
structure ZAp (z TI TO : Addr) (its ls : List Addr) : Prop where
  ne : its ≠ []
  len : ls.length = its.length
  few : its.length ≤ 1000
  nd : (z :: TI :: TO :: its).Nodup
  old : ∀ l ∈ ls, l ∉ z :: TI :: TO :: its
section
variable {prog : Program} {w : World} {A : Around} {E : Value → Shared → Prop} {s : Shared} {kd : Nat → Bool}
theorem ZAp.TIz {z TI TO : Addr} {its ls : List Addr} (D : ZAp z TI TO its ls) : TI ≠ z := fun e => by
  have := D.nd; subst e; simp at this
theorem ZAp.TOz {z TI TO : Addr} {its ls : List Addr} (D : ZAp z TI TO its ls) : TO ≠ z := fun e => by
  have := D.nd; subst e; simp at this
theorem ZAp.TITO {z TI TO : Addr} {its ls : List Addr} (D : ZAp z TI TO its ls) : TI ≠ TO := fun e => by
  have := D.nd; subst e; simp at this
theorem ZAp.itz {z TI TO a : Addr} {its ls : List Addr} (D : ZAp z TI TO its ls) (h : a ∈ its) : a ≠ z ∧ a ≠ TI ∧ a ≠ TO := by
  have := D.nd
  refine ⟨?_, ?_, ?_⟩ <;> (rintro rfl; simp_all)
theorem ZAp.inj {z TI TO a : Addr} {its ls : List Addr} {t u : Nat} (D : ZAp z TI TO its ls) (h : its[t]? = some a) (h' : its[u]? = some a) : t = u := by
  have nd : its.Nodup := ((D.nd.sublist (List.sublist_cons_self ..)).sublist (List.sublist_cons_self ..)).sublist (List.sublist_cons_self ..)
  exact L2.nd_ix nd h h'
theorem wpAny_alive {M : Model} {a : Addr} {Q : Option Obj → Shared → Prop} (h : Q (s.heap.get? a) s) : wpAny M A (loadIfAlive a) Q E s := fun Γ p _ => by
  unfold loadIfAlive
  rw [Sem.wp_loadIfAlive]
  exact (wpAny_pure (M := M) (A := A) (E := E) h) Γ p (by assumption)
theorem zipN_free {z TI TO : Addr} {its ls : List Addr} {i : Nat} {f1 : Value} {xs : List Value} {Q : Value → Shared → Prop} (D : ZAp z TI TO its ls) {f0 : Value} (hz : s.heap.get? z = some (ZObj f0 f1 TI TO)) (hf0 : f0 = .none ∨ ∃ a : Int, f0 = rawInt a ∧ s.heap.get? a.toNat = none) (S : ZSt kd s.heap z TI TO its ls i)
    (hl : xs.length = its.length) (hx : ∀ (t : Nat) (l : Addr) (x : Value), ls[t]? = some l → xs[t]? = some x → ∃ items, SqOf (kd t) s.heap l items ∧ items[i]? = some x)
    (hQ : ∀ h', ZSt kd h' z TI TO its ls (i + 1) → (h'.get? z = some (ZObj (rawInt s.heap.objs.size) (.bool false) TI TO)) → h'.get? s.heap.objs.size = some { cls := .type "tuple", data := .seq xs.toArray } → h'.objs.size = s.heap.objs.size + 1 →
      (∀ c o, c ∉ z :: TO :: its → s.heap.get? c = some o → h'.get? c = some o) → Q (.ref s.heap.objs.size) { s with heap := h' }) :
    wpAny (model prog w) A (Builtin.«zip.__next__» ⟨[.ref z], []⟩) (fun fin s' => ∃ v, fin = .done (.ret v) ∧ Q v s') E s := by
  obtain ⟨kept, k0, hTO, hks⟩ := S.to
  have hTI := S.ti
  show wpAny _ _ (field (.ref z) 2 >>= _) _ _ _
  refine wpAny_bind (wpAny_field hz rfl (x := .bool false) rfl ?_)
  show wpAny _ _ (field (.ref z) 3 >>= _) _ _ _
  refine wpAny_bind (wpAny_field hz rfl (x := .ref TI) rfl ?_)
  refine wpAny_bind (wpAny_seqItems hTI rfl ?_)
  have he : (its.map Value.ref).toArray.isEmpty = false := by have := D.ne; cases its <;> simp_all
  simp only [he]
  refine wpAny_bind ?_
  have isfree : ∀ {R : Bool → Shared → Prop}, R true s → wpAny (model prog w) A (Builtin.SmallTypes.ownedTupleIsFree (.ref z)) R E s := fun {R} hR => by
    unfold Builtin.SmallTypes.ownedTupleIsFree
    refine wpAny_bind (wpAny_field hz rfl (x := f0) rfl ?_)
    rcases hf0 with rfl | ⟨a, rfl, ha⟩
    · exact wpAny_pure hR
    · refine wpAny_bind (wpAny_alive ?_)
      rw [ha]
      exact wpAny_pure hR
  refine isfree ?_
  simp only [if_true]
  refine wpAny_bind (wpAny_rule ?_)
  refine wpAny_bind (wpAny_field hz rfl (x := .ref TO) rfl ?_)
  refine wpAny_bind (wpAny_setField_rec hz (by simp) fun h₁ hz₁ hs₁ => ?_)
  replace hz₁ : h₁.get? z = some (ZObj .ellipsis f1 TI TO) := hz₁
  have up1 : ∀ c o, c ≠ z → s.heap.get? c = some o → h₁.get? c = some o := fun c o hc e => (hs₁.2 c hc).trans e
  refine wpAny_bind (forIn_wp (fun j r s' => r = (none, ()) ∧ ∃ h kj kk, s' = { s with heap := h } ∧ h.get? z = some (ZObj .ellipsis f1 TI TO) ∧ h.get? TO = some { cls := .type "tuple", data := .seq kj kk } ∧ kj.size = its.length ∧ (∀ t : Nat, t < j → kj[t]? = xs[t]?) ∧
      (∀ (t : Nat) (a l : Addr), its[t]? = some a → ls[t]? = some l → SqIter (kd t) h a l (if t < j then i + 1 else i)) ∧ h.objs.size = s.heap.objs.size ∧ (∀ c o, c ∉ z :: TO :: its → s.heap.get? c = some o → h.get? c = some o)) _ 0 _ _
    ⟨rfl, h₁, kept, k0, rfl, hz₁, up1 _ _ D.TOz hTO, hks, fun t ht => absurd ht (Nat.not_lt_zero _), fun t a l e1 e2 => (S.it t a l e1 e2).extBut hs₁.extBut (D.itz (List.mem_of_getElem? e1)).1, hs₁.1, fun c o hc e => up1 c o (fun z => hc (by simp [z])) e⟩ (fun j p r s' e hp => ?_) fun r s' hp => ?_)
  · obtain ⟨rfl, h, kj, kk, rfl, hz2, hTO2, hk2, hpre, hit, hsz, hold⟩ := hp
    rw [Nat.zero_add] at *
    obtain ⟨a, ea⟩ : ∃ a, its[j]? = some a ∧ p = (Value.ref a, j) := by
      rw [List.getElem?_zipIdx, List.getElem?_map] at e
      cases hj : its[j]? with
      | none => rw [hj] at e; cases e
      | some a => rw [hj] at e; cases e; exact ⟨a, rfl, by simp⟩
    obtain ⟨ea, rfl⟩ := ea
    have hjl : j < its.length := (List.getElem?_eq_some_iff.mp ea).1
    obtain ⟨l, el⟩ : ∃ l, ls[j]? = some l := ⟨ls[j]'(by rw [D.len]; exact hjl), by simp [D.len, hjl]⟩
    obtain ⟨x, ex⟩ : ∃ x, xs[j]? = some x := ⟨xs[j]'(by rw [hl]; exact hjl), by simp [hl, hjl]⟩
    obtain ⟨items, ht, hix⟩ := hx j l x el ex
    have hlo : l ∉ z :: TI :: TO :: its := D.old l (List.mem_of_getElem? el)
    have ht2 : SqOf (kd j) h l items := ht.at fun o e => hold l o (fun hm => hlo (by
      simp only [List.mem_cons] at hm ⊢
      rcases hm with h | h | h
      · exact .inl h
      · exact .inr (.inr (.inl h))
      · exact .inr (.inr (.inr h)))) e
    have hi2 := hit j a l ea el
    rw [if_neg (Nat.lt_irrefl _)] at hi2
    have am := D.itz (List.mem_of_getElem? ea)
    refine wpAny_bind (wpAny_onRaise ?_)
    show wpAny _ _ (Builtin.SmallTypes.nextOf (.ref a) >>= _) _ _ _
    refine wpAny_bind (sq_item hi2 ht2 hix fun h₂ hi3 hs₂ => wpAny_pure ?_)
    have hTO3 : h₂.get? TO = some { cls := .type "tuple", data := .seq kj kk } := (hs₂.2 TO (Ne.symm am.2.2)).trans hTO2
    refine wpAny_bind (wpAny_seqItems hTO3 rfl ?_)
    have hfew := D.few
    have line : (1000 : Nat) ≤ sizeLine := by decide
    refine wpAny_bind (wpAny_updateSeq hTO3 rfl ?_ (by rw [hk2]; omega) (by rw [Array.size_setIfInBounds, hk2]; omega))
    refine wpAny_bind (wpAny_letGo (wpAny_pure ⟨_, rfl, rfl, _, _, _, rfl, ?_, Heap.get?_update_self _ hTO3 rfl, ?_, ?_, ?_, ?_, ?_⟩))
    · rw [Heap.get?_update_other _ _ D.TOz, hs₂.2 z am.1.symm]; exact hz2
    · simp [hk2]
    · intro t ht
      show (kj.setIfInBounds j x)[t]? = _
      by_cases htj : t = j
      · subst htj
        rw [Array.getElem?_setIfInBounds_self_of_lt (by rw [hk2]; exact hjl)]
        exact ex.symm
      · rw [Array.getElem?_setIfInBounds_ne (Ne.symm htj)]
        exact hpre t (by omega)
    · intro t a' l' e1 e2
      have am' := D.itz (List.mem_of_getElem? e1)
      by_cases htj : t = j
      · subst htj
        rw [ea] at e1; cases e1
        rw [el] at e2; cases e2
        rw [if_pos (Nat.lt_succ_self _)]
        exact hi3.at fun o e => (Heap.get?_update_other _ _ am'.2.2.symm).trans e
      · have hne : a' ≠ a := fun z => htj (D.inj e1 (z ▸ ea))
        have := hit t a' l' e1 e2
        have ei : (if t < j + 1 then i + 1 else i) = (if t < j then i + 1 else i) := by split <;> split <;> omega
        rw [ei]
        exact this.at fun o e => (Heap.get?_update_other _ _ am'.2.2.symm).trans ((hs₂.2 a' hne).trans e)
    · rw [show ∀ hh : Heap, (hh.update TO (Obj.mapSeq fun b => b.setIfInBounds j x)).objs.size = hh.objs.size from fun _ => by simp [Heap.update], hs₂.1]; exact hsz
    · intro c o hc e
      have h1 : c ≠ TO := fun z => hc (by simp [z])
      have h2 : c ≠ a := fun z => hc (by subst z; exact List.mem_cons_of_mem _ (List.mem_cons_of_mem _ (List.mem_of_getElem? ea)))
      exact (Heap.get?_update_other _ _ h1.symm).trans ((hs₂.2 c h2).trans (hold c o hc e))
  · obtain ⟨rfl, h, kj, kk, rfl, hz2, hTO2, hk2, hpre, hit, hsz, hold⟩ := hp
    rw [Nat.zero_add, List.length_zipIdx, List.length_map] at hpre
    have hkx : kj = xs.toArray := by
      apply Array.ext_getElem?
      intro t
      by_cases ht : t < its.length
      · rw [hpre t ht]; simp
      · rw [Array.getElem?_eq_none (by omega), Array.getElem?_eq_none (by simp; omega)]
    subst hkx
    refine wpAny_bind (wpAny_seqItems hTO2 rfl ?_)
    refine wpAny_bind (wpAny_newTuple ?_ (by have := D.few; have line : (1000 : Nat) ≤ sizeLine := (by decide); simp at hk2 ⊢; omega))
    have hit' : ∀ (t : Nat) (a l : Addr), its[t]? = some a → ls[t]? = some l → SqIter (kd t) h a l (i + 1) := fun t a l e1 e2 => by
      have := hit t a l e1 e2
      rw [if_pos (by rw [Nat.zero_add, List.length_zipIdx, List.length_map]; exact (List.getElem?_eq_some_iff.mp e1).1)] at this
      exact this
    have zlt : z < h.objs.size := Heap.lt_size hz2
    refine wpAny_bind ?_
    unfold Builtin.SmallTypes.ownedTupleHandOut
    have hz3 : (h.push { cls := .type "tuple", data := .seq xs.toArray }).get? z = some (ZObj .ellipsis f1 TI TO) := Heap.get?_push_of_some _ hz2
    refine wpAny_bind (wpAny_setField_rec hz3 (by simp) fun h₇ hz₇ hs₇ => ?_)
    replace hz₇ : h₇.get? z = some (ZObj (rawInt h.objs.size) f1 TI TO) := hz₇
    refine wpAny_setField_rec hz₇ (by simp) fun h₈ hz₈ hs₈ => ?_
    replace hz₈ : h₈.get? z = some (ZObj (rawInt h.objs.size) (.bool false) TI TO) := hz₈
    have up : ∀ c o, c ≠ z → h.get? c = some o → h₈.get? c = some o := fun c o c1 e => (hs₈.2 c c1).trans ((hs₇.2 c c1).trans (Heap.get?_push_of_some _ e))
    have hT : h₈.get? h.objs.size = some { cls := .type "tuple", data := .seq xs.toArray } := (hs₈.2 _ (Nat.ne_of_gt zlt)).trans ((hs₇.2 _ (Nat.ne_of_gt zlt)).trans (Heap.get?_push_size _ rfl))
    have hz8 : h₈.objs.size = h.objs.size + 1 := by rw [hs₈.1, hs₇.1, Heap.size_push]
    have hTI2 : h.get? TI = _ := hold TI _ (fun hm => by
      rcases List.mem_cons.mp hm with q | hm
      · exact D.TIz q
      rcases List.mem_cons.mp hm with q | hm
      · exact D.TITO q
      · exact (D.itz hm).2.1 rfl) hTI
    have st : ZSt kd h₈ z TI TO its ls (i + 1) := ⟨⟨_, _, hz₈, .inr ⟨_, rfl⟩⟩, up _ _ D.TIz hTI2, ⟨_, _, up _ _ D.TOz hTO2, hk2⟩, fun t a l e1 e2 => (hit' t a l e1 e2).at fun o e => up _ o (D.itz (List.mem_of_getElem? e1)).1 e⟩
    rw [hsz] at hz₈ hT hz8
    refine wpAny_pure ⟨_, rfl, ?_⟩
    show Q (.ref h.objs.size) _
    rw [hsz]
    exact hQ h₈ st hz₈ hT hz8 fun c o hc e => up c o (fun q => hc (by simp [q])) (hold c o hc e)
theorem zipN_busy {z TI TO : Addr} {its ls : List Addr} {i : Nat} {a0 : Int} {f1 : Value} {xs : List Value} {Q : Value → Shared → Prop} (D : ZAp z TI TO its ls) (hz : s.heap.get? z = some (ZObj (rawInt a0) f1 TI TO)) {oa : Obj} (ha : s.heap.get? a0.toNat = some oa) (S : ZSt kd s.heap z TI TO its ls i)
    (hl : xs.length = its.length) (hx : ∀ (t : Nat) (l : Addr) (x : Value), ls[t]? = some l → xs[t]? = some x → ∃ items, SqOf (kd t) s.heap l items ∧ items[i]? = some x)
    (hQ : ∀ h', ZSt kd h' z TI TO its ls (i + 1) → h'.get? s.heap.objs.size = some { cls := .type "tuple", data := .seq xs.toArray } → h'.objs.size = s.heap.objs.size + 1 →
      (∀ c o, c ∉ z :: TO :: its → s.heap.get? c = some o → h'.get? c = some o) → Q (.ref s.heap.objs.size) { s with heap := h' }) :
    wpAny (model prog w) A (Builtin.«zip.__next__» ⟨[.ref z], []⟩) (fun fin s' => ∃ v, fin = .done (.ret v) ∧ Q v s') E s := by
  obtain ⟨kept, k0, hTO, hks⟩ := S.to
  have hTI := S.ti
  show wpAny _ _ (field (.ref z) 2 >>= _) _ _ _
  refine wpAny_bind (wpAny_field hz rfl (x := .bool false) rfl ?_)
  show wpAny _ _ (field (.ref z) 3 >>= _) _ _ _
  refine wpAny_bind (wpAny_field hz rfl (x := .ref TI) rfl ?_)
  refine wpAny_bind (wpAny_seqItems hTI rfl ?_)
  have he : (its.map Value.ref).toArray.isEmpty = false := by have := D.ne; cases its <;> simp_all
  simp only [he]
  refine wpAny_bind ?_
  have isbusy : ∀ {R : Bool → Shared → Prop}, (∀ h f1', h.get? z = some (ZObj (rawInt a0) f1' TI TO) → Heap.SameBut z s.heap h → R false { s with heap := h }) → wpAny (model prog w) A (Builtin.SmallTypes.ownedTupleIsFree (.ref z)) R E s := fun {R} hR => by
    unfold Builtin.SmallTypes.ownedTupleIsFree
    refine wpAny_bind (wpAny_field hz rfl (x := rawInt a0) rfl ?_)
    refine wpAny_bind (wpAny_alive ?_)
    rw [ha]
    refine wpAny_bind (wpAny_field hz rfl (x := f1) rfl ?_)
    by_cases hf : (f1 != Value.bool true) = true
    · simp only [hf, if_true]
      exact wpAny_bind (wpAny_setField_rec hz (by simp) fun h1 hz1 hs1 => wpAny_pure (hR h1 _ hz1 hs1))
    · simp only [hf]
      exact wpAny_pure (hR s.heap f1 hz (Heap.SameBut.refl _ _))
  refine isbusy fun h₁ f2 hz₁ hs₁ => ?_
  simp only [Bool.false_eq_true, if_false, List.forIn_toArray]
  have up1 : ∀ c o, c ≠ z → s.heap.get? c = some o → h₁.get? c = some o := fun c o hc e => (hs₁.2 c hc).trans e
  refine wpAny_bind (forIn_wp (fun j r s' => r = (none, (xs.take j).toArray) ∧ ∃ h, s' = { s with heap := h } ∧ h.get? z = some (ZObj (rawInt a0) f2 TI TO) ∧
      (∀ (t : Nat) (a l : Addr), its[t]? = some a → ls[t]? = some l → SqIter (kd t) h a l (if t < j then i + 1 else i)) ∧ h.objs.size = s.heap.objs.size ∧ (∀ c o, c ∉ z :: its → s.heap.get? c = some o → h.get? c = some o)) _ 0 _ _
    ⟨by simp, h₁, rfl, hz₁, fun t a l e1 e2 => (S.it t a l e1 e2).extBut hs₁.extBut (D.itz (List.mem_of_getElem? e1)).1, hs₁.1, fun c o hc e => up1 c o (fun z => hc (by simp [z])) e⟩ (fun j p r s' e hp => ?_) fun r s' hp => ?_)
  · obtain ⟨rfl, h, rfl, hz2, hit, hsz, hold⟩ := hp
    rw [Nat.zero_add] at *
    obtain ⟨a, ea, rfl⟩ : ∃ a, its[j]? = some a ∧ p = Value.ref a := by
      rw [List.getElem?_map] at e
      cases hj : its[j]? with
      | none => rw [hj] at e; cases e
      | some a => rw [hj] at e; cases e; exact ⟨a, rfl, rfl⟩
    have hjl : j < its.length := (List.getElem?_eq_some_iff.mp ea).1
    obtain ⟨l, el⟩ : ∃ l, ls[j]? = some l := ⟨ls[j]'(by rw [D.len]; exact hjl), by simp [D.len, hjl]⟩
    obtain ⟨x, ex⟩ : ∃ x, xs[j]? = some x := ⟨xs[j]'(by rw [hl]; exact hjl), by simp [hl, hjl]⟩
    obtain ⟨items, ht, hix⟩ := hx j l x el ex
    have hlo : l ∉ z :: TI :: TO :: its := D.old l (List.mem_of_getElem? el)
    have ht2 : SqOf (kd j) h l items := ht.at fun o e => hold l o (fun hm => hlo (by
      simp only [List.mem_cons] at hm ⊢
      rcases hm with h | h
      · exact .inl h
      · exact .inr (.inr (.inr h)))) e
    have hi2 := hit j a l ea el
    rw [if_neg (Nat.lt_irrefl _)] at hi2
    refine wpAny_bind (wpAny_holding ?_)
    show wpAny _ _ (Builtin.SmallTypes.nextOf (.ref a) >>= _) _ _ _
    refine wpAny_bind (sq_item hi2 ht2 hix fun h₂ hi3 hs₂ => wpAny_pure ?_)
    refine wpAny_pure ⟨_, rfl, ?_, h₂, rfl, ?_, ?_, ?_, ?_⟩
    · show (none, (xs.take j).toArray.push x) = _
      rw [List.take_add_one, ex]
      simp
    · rw [hs₂.2 z (D.itz (List.mem_of_getElem? ea)).1.symm]; exact hz2
    · intro t a' l' e1 e2
      by_cases htj : t = j
      · subst htj
        rw [ea] at e1; cases e1
        rw [el] at e2; cases e2
        rw [if_pos (Nat.lt_succ_self _)]
        exact hi3
      · have hne : a' ≠ a := fun z => htj (D.inj e1 (z ▸ ea))
        have := hit t a' l' e1 e2
        have ei : (if t < j + 1 then i + 1 else i) = (if t < j then i + 1 else i) := by split <;> split <;> omega
        rw [ei]
        exact this.at fun o e => (hs₂.2 a' hne).trans e
    · rw [hs₂.1]; exact hsz
    · intro c o hc e
      exact (hs₂.2 c (fun z => hc (by subst z; exact List.mem_cons_of_mem _ (List.mem_of_getElem? ea)))).trans (hold c o hc e)
  · obtain ⟨rfl, h, rfl, hz2, hit, hsz, hold⟩ := hp
    have hlen : 0 + (its.map Value.ref).length = xs.length := by rw [Nat.zero_add, List.length_map, hl]
    rw [hlen, List.take_length]
    have few := D.few
    have line : (1000 : Nat) ≤ sizeLine := by decide
    refine wpAny_bind (wpAny_newTuple ?_ (by simp; omega))
    have hit' : ∀ (t : Nat) (a l : Addr), its[t]? = some a → ls[t]? = some l → SqIter (kd t) h a l (i + 1) := fun t a l e1 e2 => by
      have := hit t a l e1 e2
      rw [if_pos (by rw [hlen, hl]; exact (List.getElem?_eq_some_iff.mp e1).1)] at this
      exact this
    have notin : ∀ c, (c = TI ∨ c = TO) → c ∉ z :: its := fun c hc hm => by
      rcases List.mem_cons.mp hm with q | hm
      · rcases hc with rfl | rfl
        · exact D.TIz q
        · exact D.TOz q
      · rcases hc with rfl | rfl
        · exact (D.itz hm).2.1 rfl
        · exact (D.itz hm).2.2 rfl
    have st : ZSt kd (h.push { cls := .type "tuple", data := .seq xs.toArray }) z TI TO its ls (i + 1) := ⟨⟨_, _, Heap.get?_push_of_some _ hz2, .inr ⟨_, rfl⟩⟩, Heap.get?_push_of_some _ (hold _ _ (notin TI (.inl rfl)) hTI), ⟨_, _, Heap.get?_push_of_some _ (hold _ _ (notin TO (.inr rfl)) hTO), hks⟩,
      fun t a l e1 e2 => (hit' t a l e1 e2).at fun o e => Heap.get?_push_of_some _ e⟩
    refine wpAny_pure ⟨_, rfl, ?_⟩
    show Q (.ref h.objs.size) _
    have hT := Heap.get?_push_size h (o := { cls := .type "tuple", data := .seq xs.toArray }) rfl
    have hz8 : (h.push { cls := .type "tuple", data := .seq xs.toArray }).objs.size = h.objs.size + 1 := Heap.size_push ..
    rw [hsz] at hT hz8 ⊢
    exact hQ _ st hT hz8 fun c o hc e => Heap.get?_push_of_some _ (hold c o (fun hm => hc (by
      rcases List.mem_cons.mp hm with q | hm
      · simp [q]
      · exact List.mem_cons_of_mem _ (List.mem_cons_of_mem _ hm))) e)
/-- one item more: the tuple of the i-th items -/
theorem zipN_item {z TI TO : Addr} {its ls : List Addr} {i : Nat} {xs : List Value} {Q : Option Value → Shared → Prop} (D : ZAp z TI TO its ls) (S : ZSt kd s.heap z TI TO its ls i)
    (hl : xs.length = its.length) (hx : ∀ (t : Nat) (l : Addr) (x : Value), ls[t]? = some l → xs[t]? = some x → ∃ items, SqOf (kd t) s.heap l items ∧ items[i]? = some x)
    (hQ : ∀ h', ZSt kd h' z TI TO its ls (i + 1) → h'.get? s.heap.objs.size = some { cls := .type "tuple", data := .seq xs.toArray } → h'.objs.size = s.heap.objs.size + 1 →
      (∀ c o, c ∉ z :: TO :: its → s.heap.get? c = some o → h'.get? c = some o) → Q (some (.ref s.heap.objs.size)) { s with heap := h' }) :
    wpAny (model prog w) A (pyNext (.ref z)) Q E s := by
  obtain ⟨f0, f1, hz, hf⟩ := id S.zo
  have hT : s.TypeIs (.ref z) "zip" := ⟨_, hz, rfl⟩
  unfold pyNext
  refine wpAny_bind (wpAny_attempt (wpAny_callSpecial?_slot (name := Str.ofString "__next__") hT F.slot_zip_next (wpAny_call_entry F.slot_zip_next hT F.entry_zip_next ?_ (F.args_zip_next_1 _))))
  rcases hf with rfl | ⟨a, rfl⟩
  · exact zipN_free D hz (.inl rfl) S hl hx fun h' a1 _ a3 a4 a5 => wpAny_pure (hQ h' a1 a3 a4 a5)
  · cases ea : s.heap.get? a.toNat with
    | none => exact zipN_free D hz (.inr ⟨a, rfl, ea⟩) S hl hx fun h' a1 _ a3 a4 a5 => wpAny_pure (hQ h' a1 a3 a4 a5)
    | some oa => exact zipN_busy D hz ea S hl hx fun h' a1 a3 a4 a5 => wpAny_pure (hQ h' a1 a3 a4 a5)
/-- a turn of the walk over the parts that ends in an error -/
theorem forIn_stop {α β : Type} {M : Model} {Q : β → Shared → Prop} {b : α → β → Sem (ForInStep β)} (P : Nat → β → Shared → Prop) : ∀ (t : Nat) (l : List α) (j : Nat) (r : β) (s : Shared) (x : α), l[t]? = some x → P j r s →
    (∀ i x r s, i < t → l[i]? = some x → P (j + i) r s → wpAny M A (b x r) (fun st s' => ∃ r', st = .yield r' ∧ P (j + i + 1) r' s') E s) → (∀ r s, P (j + t) r s → wpAny M A (b x r) (fun _ _ => False) E s) → wpAny M A (forIn l r b) Q E s
  | _, [], j, r, s, x, hx, _, _, _ => by simp at hx
  | 0, y :: l, j, r, s, x, hx, h, _, hq => by
    simp only [List.forIn_cons]
    obtain rfl : y = x := by simpa using hx
    exact wpAny_bind (wpAny_mono (hq r s h) (fun _ _ z => z.elim) fun _ _ z => z)
  | t + 1, y :: l, j, r, s, x, hx, h, hs, hq => by
    simp only [List.forIn_cons]
    refine wpAny_bind (wpAny_mono (hs 0 y r s (Nat.succ_pos _) rfl h) (fun st s' ⟨r', e, p⟩ => ?_) fun _ _ z => z)
    subst e
    refine forIn_stop P t l (j + 1) r' s' x (by simpa using hx) p (fun i y r2 s2 hi e p2 => ?_) fun r2 s2 p2 => hq r2 s2 (by rw [show j + (t + 1) = j + 1 + t by omega]; exact p2)
    have := hs (i + 1) y r2 s2 (by omega) (by simpa using e) (by rw [show j + (i + 1) = j + 1 + i by omega]; exact p2)
    rw [show j + (i + 1) + 1 = j + 1 + i + 1 by omega] at this
    exact this
/-- the part at place t is at its end, the ones ahead are not -/
theorem zipN_stop {z TI TO a l : Addr} {its ls : List Addr} {i t : Nat} {items : Array Value} {Q : Fin → Shared → Prop} (hh : A.handled = none) (D : ZAp z TI TO its ls) (S : ZSt kd s.heap z TI TO its ls i) (hta : its[t]? = some a) (htl : ls[t]? = some l) (ht : SqOf (kd t) s.heap l items) (hend : items[i]? = none)
    (hx : ∀ (u : Nat) (l : Addr), u < t → ls[u]? = some l → ∃ items x, SqOf (kd u) s.heap l items ∧ items[i]? = some x)
    (hE : ∀ h' e, (∀ c o, c ∉ z :: TO :: its → s.heap.get? c = some o → h'.get? c = some o) → (∃ o, h'.get? e = some o ∧ o.cls = .type "StopIteration") → E (.ref e) { s with heap := h' }) :
    wpAny (model prog w) A (Builtin.«zip.__next__» ⟨[.ref z], []⟩) Q E s := by
  obtain ⟨kept, k0, hTO, hks⟩ := S.to
  obtain ⟨f0, f1, hz, hf⟩ := id S.zo
  have hTI := S.ti
  have am := D.itz (List.mem_of_getElem? hta)
  have notin : ∀ {u : Nat} {l : Addr}, ls[u]? = some l → l ∉ z :: TO :: its := fun {u l} el hm => D.old l (List.mem_of_getElem? el) (by
    simp only [List.mem_cons] at hm ⊢
    rcases hm with h | h | h
    · exact .inl h
    · exact .inr (.inr (.inl h))
    · exact .inr (.inr (.inr h)))
  show wpAny _ _ (field (.ref z) 2 >>= _) _ _ _
  refine wpAny_bind (wpAny_field hz rfl (x := .bool false) rfl ?_)
  show wpAny _ _ (field (.ref z) 3 >>= _) _ _ _
  refine wpAny_bind (wpAny_field hz rfl (x := .ref TI) rfl ?_)
  refine wpAny_bind (wpAny_seqItems hTI rfl ?_)
  have he : (its.map Value.ref).toArray.isEmpty = false := by have := D.ne; cases its <;> simp_all
  simp only [he]
  refine wpAny_bind ?_
  have freeGo : wpAny (model prog w) A (Builtin.SmallTypes.ownedTupleIsFree (.ref z)) (fun b s' => s' = s ∧ b = true ∨ b = false ∧ ∃ h, s' = { s with heap := h } ∧ Heap.SameBut z s.heap h) E s := by
    unfold Builtin.SmallTypes.ownedTupleIsFree
    refine wpAny_bind (wpAny_field hz rfl (x := f0) rfl ?_)
    rcases hf with rfl | ⟨a9, rfl⟩
    · exact wpAny_pure (.inl ⟨rfl, rfl⟩)
    · refine wpAny_bind (wpAny_alive ?_)
      cases ea : s.heap.get? a9.toNat with
      | none => exact wpAny_pure (.inl ⟨rfl, rfl⟩)
      | some oa =>
        refine wpAny_bind (wpAny_field hz rfl (x := f1) rfl ?_)
        by_cases hf : (f1 != Value.bool true) = true
        · simp only [hf, if_true]
          exact wpAny_bind (wpAny_setField_rec hz (by simp) fun h1 hz1 hs1 => wpAny_pure (.inr ⟨rfl, h1, rfl, hs1⟩))
        · simp only [hf]
          exact wpAny_pure (.inr ⟨rfl, s.heap, rfl, Heap.SameBut.refl _ _⟩)
  refine wpAny_mono freeGo (fun b s' hb => ?_) fun _ _ z => z
  have itAt : ∀ {u : Nat} {p : Value × Nat}, (its.map Value.ref).zipIdx[u]? = some p → ∃ a, its[u]? = some a ∧ p = (Value.ref a, u) := fun {u p} e => by
    rw [List.getElem?_zipIdx, List.getElem?_map] at e
    cases hj : its[u]? with
    | none => rw [hj] at e; cases e
    | some a => rw [hj] at e; cases e; exact ⟨a, rfl, by simp⟩
  rcases hb with ⟨rfl, rfl⟩ | ⟨rfl, h₁, rfl, hs₁⟩
  · simp only [if_true]
    refine wpAny_bind (wpAny_rule ?_)
    refine wpAny_bind (wpAny_field hz rfl (x := .ref TO) rfl ?_)
    refine wpAny_bind (wpAny_setField_rec hz (by simp) fun h₁ hz₁ hs₁ => ?_)
    replace hz₁ : h₁.get? z = some (ZObj .ellipsis f1 TI TO) := hz₁
    have up1 : ∀ c o, c ≠ z → s'.heap.get? c = some o → h₁.get? c = some o := fun c o hc e => (hs₁.2 c hc).trans e
    refine wpAny_bind (forIn_stop (fun j r s2 => r = (none, ()) ∧ ∃ h kj kk, s2 = { s' with heap := h } ∧ h.get? z = some (ZObj .ellipsis f1 TI TO) ∧ h.get? TO = some { cls := .type "tuple", data := .seq kj kk } ∧ kj.size = its.length ∧
        (∀ (u : Nat) (a l : Addr), its[u]? = some a → ls[u]? = some l → SqIter (kd u) h a l (if u < j then i + 1 else i)) ∧ (∀ c o, c ∉ z :: TO :: its → s'.heap.get? c = some o → h.get? c = some o)) t _ 0 _ _ (Value.ref a, t)
      (by rw [List.getElem?_zipIdx, List.getElem?_map, hta]; simp) ⟨rfl, h₁, kept, k0, rfl, hz₁, up1 _ _ D.TOz hTO, hks, fun u a l e1 e2 => (S.it u a l e1 e2).extBut hs₁.extBut (D.itz (List.mem_of_getElem? e1)).1, fun c o hc e => up1 c o (fun z => hc (by simp [z])) e⟩ (fun j p r s2 hj e hp => ?_) fun r s2 hp => ?_)
    · obtain ⟨rfl, h, kj, kk, rfl, hz2, hTO2, hk2, hit, hold⟩ := hp
      rw [Nat.zero_add] at *
      obtain ⟨a, ea, rfl⟩ := itAt e
      have hjl : j < its.length := (List.getElem?_eq_some_iff.mp ea).1
      obtain ⟨l, el⟩ : ∃ l, ls[j]? = some l := ⟨ls[j]'(by rw [D.len]; exact hjl), by simp [D.len, hjl]⟩
      obtain ⟨items, x, ht, hix⟩ := hx j l hj el
      have ht2 : SqOf (kd j) h l items := ht.at fun o e => hold l o (notin el) e
      have hi2 := hit j a l ea el
      rw [if_neg (Nat.lt_irrefl _)] at hi2
      have am := D.itz (List.mem_of_getElem? ea)
      refine wpAny_bind (wpAny_onRaise ?_)
      show wpAny _ _ (Builtin.SmallTypes.nextOf (.ref a) >>= _) _ _ _
      refine wpAny_bind (sq_item hi2 ht2 hix fun h₂ hi3 hs₂ => wpAny_pure ?_)
      have hTO3 : h₂.get? TO = some { cls := .type "tuple", data := .seq kj kk } := (hs₂.2 TO (Ne.symm am.2.2)).trans hTO2
      refine wpAny_bind (wpAny_seqItems hTO3 rfl ?_)
      have hfew := D.few
      have line : (1000 : Nat) ≤ sizeLine := by decide
      refine wpAny_bind (wpAny_updateSeq hTO3 rfl ?_ (by rw [hk2]; omega) (by rw [Array.size_setIfInBounds, hk2]; omega))
      refine wpAny_bind (wpAny_letGo (wpAny_pure ⟨_, rfl, rfl, _, _, _, rfl, ?_, Heap.get?_update_self _ hTO3 rfl, ?_, ?_, ?_⟩))
      · rw [Heap.get?_update_other _ _ D.TOz, hs₂.2 z am.1.symm]; exact hz2
      · simp [hk2]
      · intro u a' l' e1 e2
        have am' := D.itz (List.mem_of_getElem? e1)
        by_cases htj : u = j
        · subst htj
          rw [ea] at e1; cases e1
          rw [el] at e2; cases e2
          rw [if_pos (Nat.lt_succ_self _)]
          exact hi3.at fun o e => (Heap.get?_update_other _ _ am'.2.2.symm).trans e
        · have hne : a' ≠ a := fun z => htj (D.inj e1 (z ▸ ea))
          have := hit u a' l' e1 e2
          have ei : (if u < j + 1 then i + 1 else i) = (if u < j then i + 1 else i) := by split <;> split <;> omega
          rw [ei]
          exact this.at fun o e => (Heap.get?_update_other _ _ am'.2.2.symm).trans ((hs₂.2 a' hne).trans e)
      · intro c o hc e
        have h1 : c ≠ TO := fun z => hc (by simp [z])
        have h2 : c ≠ a := fun z => hc (by subst z; exact List.mem_cons_of_mem _ (List.mem_cons_of_mem _ (List.mem_of_getElem? ea)))
        exact (Heap.get?_update_other _ _ h1.symm).trans ((hs₂.2 c h2).trans (hold c o hc e))
    · obtain ⟨rfl, h, kj, kk, rfl, hz2, hTO2, hk2, hit, hold⟩ := hp
      rw [Nat.zero_add] at *
      have hi2 := hit t a l hta htl
      rw [if_neg (Nat.lt_irrefl _)] at hi2
      refine wpAny_bind (wpAny_onRaise ?_)
      show wpAny _ _ (Builtin.SmallTypes.nextOf (.ref a) >>= _) _ _ _
      refine wpAny_bind (sq_end hh hi2 (ht.at fun o e => hold l o (notin htl) e) hend fun h₂ e hs₂ he => ?_)
      obtain ⟨oe, hoe, hce⟩ := he
      have hz₂ : h₂.get? z = some (ZObj .ellipsis f1 TI TO) := hs₂ _ _ am.1.symm hz2
      have hez : e ≠ z := fun x => by subst x; rw [hz₂] at hoe; cases hoe; simp [ZObj] at hce
      refine wpAny_setField_rec hz₂ (by simp) fun h₃ _ hs₃ => hE h₃ e (fun c o hc x => hs₃.extBut _ _ (fun q => hc (by simp [q])) (hs₂ _ _ (fun q => hc (by subst q; exact List.mem_cons_of_mem _ (List.mem_cons_of_mem _ (List.mem_of_getElem? hta)))) (hold c o hc x))) ⟨oe, hs₃.extBut _ _ hez hoe, hce⟩
  · simp only [Bool.false_eq_true, if_false, List.forIn_toArray]
    have up1 : ∀ c o, c ≠ z → s.heap.get? c = some o → h₁.get? c = some o := fun c o hc e => (hs₁.2 c hc).trans e
    refine wpAny_bind (forIn_stop (fun j r s2 => r.1 = none ∧ ∃ h, s2 = { s with heap := h } ∧
        (∀ (u : Nat) (a l : Addr), its[u]? = some a → ls[u]? = some l → SqIter (kd u) h a l (if u < j then i + 1 else i)) ∧ (∀ c o, c ∉ z :: TO :: its → s.heap.get? c = some o → h.get? c = some o)) t _ 0 _ _ (Value.ref a)
      (by rw [List.getElem?_map, hta]; rfl) ⟨rfl, h₁, rfl, fun u a l e1 e2 => (S.it u a l e1 e2).extBut hs₁.extBut (D.itz (List.mem_of_getElem? e1)).1, fun c o hc e => up1 c o (fun z => hc (by simp [z])) e⟩ (fun j p r s2 hj e hp => ?_) fun r s2 hp => ?_)
    · obtain ⟨r1, r2⟩ := r
      obtain ⟨rfl, h, rfl, hit, hold⟩ := hp
      rw [Nat.zero_add] at *
      obtain ⟨a, ea, rfl⟩ : ∃ a, its[j]? = some a ∧ p = Value.ref a := by
        rw [List.getElem?_map] at e
        cases hj : its[j]? with
        | none => rw [hj] at e; cases e
        | some a => rw [hj] at e; cases e; exact ⟨a, rfl, rfl⟩
      have hjl : j < its.length := (List.getElem?_eq_some_iff.mp ea).1
      obtain ⟨l, el⟩ : ∃ l, ls[j]? = some l := ⟨ls[j]'(by rw [D.len]; exact hjl), by simp [D.len, hjl]⟩
      obtain ⟨items, x, ht, hix⟩ := hx j l hj el
      have ht2 : SqOf (kd j) h l items := ht.at fun o e => hold l o (notin el) e
      have hi2 := hit j a l ea el
      rw [if_neg (Nat.lt_irrefl _)] at hi2
      refine wpAny_bind (wpAny_holding ?_)
      show wpAny _ _ (Builtin.SmallTypes.nextOf (.ref a) >>= _) _ _ _
      refine wpAny_bind (sq_item hi2 ht2 hix fun h₂ hi3 hs₂ => wpAny_pure ?_)
      refine wpAny_pure ⟨_, rfl, rfl, h₂, rfl, ?_, ?_⟩
      · intro u a' l' e1 e2
        by_cases htj : u = j
        · subst htj
          rw [ea] at e1; cases e1
          rw [el] at e2; cases e2
          rw [if_pos (Nat.lt_succ_self _)]
          exact hi3
        · have hne : a' ≠ a := fun z => htj (D.inj e1 (z ▸ ea))
          have := hit u a' l' e1 e2
          have ei : (if u < j + 1 then i + 1 else i) = (if u < j then i + 1 else i) := by split <;> split <;> omega
          rw [ei]
          exact this.at fun o e => (hs₂.2 a' hne).trans e
      · intro c o hc e
        exact (hs₂.2 c (fun z => hc (by subst z; exact List.mem_cons_of_mem _ (List.mem_cons_of_mem _ (List.mem_of_getElem? ea))))).trans (hold c o hc e)
    · obtain ⟨r1, r2⟩ := r
      obtain ⟨rfl, h, rfl, hit, hold⟩ := hp
      rw [Nat.zero_add] at *
      have hi2 := hit t a l hta htl
      rw [if_neg (Nat.lt_irrefl _)] at hi2
      refine wpAny_bind (wpAny_holding ?_)
      show wpAny _ _ (Builtin.SmallTypes.nextOf (.ref a) >>= _) _ _ _
      refine wpAny_bind (sq_end hh hi2 (ht.at fun o e => hold l o (notin htl) e) hend fun h₂ e hs₂ he => ?_)
      exact hE h₂ e (fun c o hc x => hs₂ _ _ (fun q => hc (by subst q; exact List.mem_cons_of_mem _ (List.mem_cons_of_mem _ (List.mem_of_getElem? hta)))) (hold c o hc x)) he
theorem zipN_end {z TI TO a l : Addr} {its ls : List Addr} {i t : Nat} {items : Array Value} {Q : Option Value → Shared → Prop} (hh : A.handled = none) (D : ZAp z TI TO its ls) (S : ZSt kd s.heap z TI TO its ls i) (hta : its[t]? = some a) (htl : ls[t]? = some l) (ht : SqOf (kd t) s.heap l items) (hend : items[i]? = none)
    (hx : ∀ (u : Nat) (l : Addr), u < t → ls[u]? = some l → ∃ items x, SqOf (kd u) s.heap l items ∧ items[i]? = some x)
    (hQ : ∀ h', (∀ c o, c ∉ z :: TO :: its → s.heap.get? c = some o → h'.get? c = some o) → Q none { s with heap := h' }) : wpAny (model prog w) A (pyNext (.ref z)) Q E s := by
  obtain ⟨f0, f1, hz, hf⟩ := id S.zo
  have hT : s.TypeIs (.ref z) "zip" := ⟨_, hz, rfl⟩
  unfold pyNext
  refine wpAny_bind (wpAny_attempt (wpAny_callSpecial?_slot (name := Str.ofString "__next__") hT F.slot_zip_next (wpAny_call_entry F.slot_zip_next hT F.entry_zip_next (zipN_stop hh D S hta htl ht hend hx fun h' e hk he => ?_) (F.args_zip_next_1 _))))
  obtain ⟨o, ho, hc⟩ := he
  exact wpAny_bind (wpAny_isInstance (T := "StopIteration") (b := true) ⟨o, ho, hc⟩ isSubtype_stop (wpAny_pure (hQ _ hk)))
theorem zip_self {z TI TO : Addr} {f0 f1 : Value} {Q : Value → Shared → Prop} (hz : s.heap.get? z = some (ZObj f0 f1 TI TO)) (h : Q (.ref z) s) : wpAny (model prog w) A (pyIter (.ref z)) Q E s := by
  have hT : s.TypeIs (.ref z) "zip" := ⟨_, hz, rfl⟩
  refine wpAny_pyIter_slot hT F.slot_zip_iter (wpAny_call_entry F.slot_zip_iter hT F.entry_zip_iter ?_ (F.args_zip_iter_1 _))
  show wpAny _ _ (ret (.ref z)) _ _ s
  exact wpAny_pure ⟨_, rfl, "zip", _, hT, F.slot_zip_next.lookup, h⟩
/-- zip(..) of tuples -/
theorem meets_zipN (ls : List Addr) (hl : ls.length ≤ 1000) : Meets (Builtin.«zip.__new__» ⟨.type "zip" :: ls.map Value.ref, []⟩) (fun _ R s => (∀ (t : Nat) (l : Addr), ls[t]? = some l → ∃ items, SqOf (kd t) s.heap l items) ∧
    ∀ h' its, ZSt kd h' (s.heap.objs.size + ls.length + 2) (s.heap.objs.size + ls.length) (s.heap.objs.size + ls.length + 1) its ls 0 → its = (List.range ls.length).map (s.heap.objs.size + ·) → (∀ c o, s.heap.get? c = some o → h'.get? c = some o) → R (.ok (.ret (.ref (s.heap.objs.size + ls.length + 2)))) { s with heap := h' }) :=
  .of_wp fun prog w A R s ⟨ht, h⟩ => by
    have hsub := sub_zip
    obtain ⟨hp, g, d, tk, os⟩ := s
    wp_walk
    show wpAny (model prog w) A.in1 (forIn (ls.map Value.ref) (#[] : Array Value) (fun x its => do let v ← holding its.toList (pyIter x); pure (ForInStep.yield (its.push v)))) _ _ _
    refine forIn_wp (fun j r s' => r = ((List.range j).map fun t => Value.ref (hp.objs.size + t)).toArray ∧ ∃ hh, s' = ⟨hh, g, d, tk, os⟩ ∧ hh.objs.size = hp.objs.size + j ∧ (∀ (t : Nat) (l : Addr), t < j → ls[t]? = some l → SqIter (kd t) hh (hp.objs.size + t) l 0) ∧ ∀ c o, hp.get? c = some o → hh.get? c = some o) _ 0 _ _
      ⟨rfl, hp, rfl, rfl, fun t l ht => absurd ht (Nat.not_lt_zero _), fun _ _ e => e⟩ (fun j x r s' e hq => ?_) fun r s' hq => ?_
    · obtain ⟨rfl, hh, rfl, hsz, hit, hold⟩ := hq
      rw [Nat.zero_add] at *
      obtain ⟨l, el, rfl⟩ : ∃ l, ls[j]? = some l ∧ x = Value.ref l := by
        rw [List.getElem?_map] at e
        cases hj : ls[j]? with
        | none => rw [hj] at e; cases e
        | some a => rw [hj] at e; cases e; exact ⟨a, rfl, rfl⟩
      obtain ⟨items, htl⟩ := ht j l el
      have htl' : SqOf (kd j) hp l items := htl
      refine wpAny_bind (wpAny_holding (sq_pyIter (s := ⟨hh, g, d, tk, os⟩) (htl'.at fun o e => hold l o e) fun ob hob => wpAny_pure ⟨_, rfl, ?_, _, rfl, ?_, ?_, ?_⟩))
      · rw [List.range_succ, List.map_append]
        show Array.push _ (Value.ref hh.objs.size) = _
        rw [hsz]
        simp
      · rw [Heap.size_push, hsz]; omega
      · intro t l' ht' el'
        by_cases htj : t = j
        · subst htj
          rw [el] at el'; cases el'
          rw [← hsz]
          exact hob
        · exact (hit t l' (by omega) el').at fun o e => Heap.get?_push_of_some _ e
      · exact fun c o e => Heap.get?_push_of_some _ (hold c o e)
    · obtain ⟨rfl, hh, rfl, hsz, hit, hold⟩ := hq
      rw [Nat.zero_add, List.length_map] at *
      have line : (1000 : Nat) ≤ sizeLine := (by decide)
      refine wpAny_pure ?_
      refine wpAny_bind (wpAny_newTuple ?_ (by simp; omega))
      refine wpAny_bind (wpAny_newTuple ?_ (by simp; omega))
      show wpAny _ _ (newObj (.type "zip") (.fields #[.none, .bool false, .bool false, _, _]) >>= _) _ _ _
      refine wpAny_bind (wpAny_newObj_type ?_)
      have e1 : ((List.range ls.length).map fun t => Value.ref (hp.objs.size + t)).toArray.toList = ((List.range ls.length).map (hp.objs.size + ·)).map Value.ref := by simp
      have s1 : (hh.push { cls := .type "tuple", data := .seq (((List.range ls.length).map fun t => Value.ref (hp.objs.size + t)).toArray.toList).toArray }).objs.size = hp.objs.size + ls.length + 1 := by rw [Heap.size_push, hsz]
      refine wpAny_pure ⟨_, rfl, ?_⟩
      have hgo := h
      simp only at hgo
      rw [e1] at s1 ⊢
      generalize hits : (List.range ls.length).map (hp.objs.size + ·) = its at *
      have lits : its.length = ls.length := by rw [← hits]; simp
      generalize hA : hh.push { cls := .type "tuple", data := .seq (its.map Value.ref).toArray } = h1 at *
      have zA : h1.objs.size = hp.objs.size + ls.length + 1 := s1
      generalize hB : h1.push { cls := .type "tuple", data := .seq ((its.map Value.ref).map fun _ => Value.none).toArray } = h2 at *
      have zB : h2.objs.size = hp.objs.size + ls.length + 2 := by rw [← hB, Heap.size_push, zA]
      have up : ∀ c o, hh.get? c = some o → h2.get? c = some o := fun c o e => by rw [← hB, ← hA]; exact Heap.get?_push_of_some _ (Heap.get?_push_of_some _ e)
      have gI : h2.get? (hp.objs.size + ls.length) = some { cls := .type "tuple", data := .seq (its.map Value.ref).toArray } := by
        rw [← hB]
        refine Heap.get?_push_of_some _ ?_
        rw [← hA, ← hsz]
        exact Heap.get?_push_size _ rfl
      have gO : h2.get? (hp.objs.size + ls.length + 1) = some { cls := .type "tuple", data := .seq ((its.map Value.ref).map fun _ => Value.none).toArray } := by
        rw [← hB, ← zA]
        exact Heap.get?_push_size _ rfl
      show R (.ok (.ret (.ref h2.objs.size))) ⟨h2.push { cls := .type "zip", data := .fields #[.none, .bool false, .bool false, .ref hh.objs.size, .ref h1.objs.size] }, g, d, tk, os⟩
      rw [hsz, zA]
      have gZ := Heap.get?_push_size h2 (o := { cls := .type "zip", data := .fields #[.none, .bool false, .bool false, .ref (hp.objs.size + ls.length), .ref (hp.objs.size + ls.length + 1)] }) rfl
      rw [zB] at gZ ⊢
      refine hgo _ its ⟨⟨_, _, gZ, .inl rfl⟩, Heap.get?_push_of_some _ gI, ⟨_, _, Heap.get?_push_of_some _ gO, by simp⟩, fun t a l e2 e3 => ?_⟩ rfl fun c o e => Heap.get?_push_of_some _ (up c o (hold c o e))
      have ht3 : t < ls.length := (List.getElem?_eq_some_iff.mp e3).1
      have ea : a = hp.objs.size + t := by
        rw [← hits, List.getElem?_map, List.getElem?_range ht3] at e2
        cases e2; rfl
      subst ea
      exact (hit t l ht3 e3).at fun o e => Heap.get?_push_of_some _ (up _ o e)
end
end DD
namespace DD
open PySem PySem.Spec PyProof.Rows L2
theorem typeCall_zip1 (a : Value) : checkTypeCall "zip" ⟨[a], []⟩ = pure () := by kernel_rfl
theorem typeCall_zip3 (a b c : Value) : checkTypeCall "zip" ⟨[a, b, c], []⟩ = pure () := by kernel_rfl
theorem typeCall_zip4 (a b c d : Value) : checkTypeCall "zip" ⟨[a, b, c, d], []⟩ = pure () := by kernel_rfl
theorem newCall_zip1 (a : Value) : checkBuiltinCall "zip.__new__" ⟨[.type "zip", a], []⟩ = pure () := by kernel_rfl
theorem newCall_zip3 (a b c : Value) : checkBuiltinCall "zip.__new__" ⟨[.type "zip", a, b, c], []⟩ = pure () := by kernel_rfl
theorem newCall_zip4 (a b c d : Value) : checkBuiltinCall "zip.__new__" ⟨[.type "zip", a, b, c, d], []⟩ = pure () := by kernel_rfl
theorem initOk4 (a b c d : Value) : argsOk "object.__init__" ⟨[a, b, c, d], []⟩ := by
  unfold argsOk
  rw [signature?_of (id := "object.__init__") (n := ['_', '_', 't', 'i', 'n', 'i', '_', '_']) (o := ['t', 'c', 'e', 'j', 'b', 'o']) (by kernel_rfl) F.owner_object]
  kernel_rfl
theorem initOk5 (a b c d e : Value) : argsOk "object.__init__" ⟨[a, b, c, d, e], []⟩ := by
  unfold argsOk
  rw [signature?_of (id := "object.__init__") (n := ['_', '_', 't', 'i', 'n', 'i', '_', '_']) (o := ['t', 'c', 'e', 'j', 'b', 'o']) (by kernel_rfl) F.owner_object]
  kernel_rfl
section
variable {prog : Program} {w : World} {A : Around} {E : Value → Shared → Prop} {s : Shared} {kd : Nat → Bool}
theorem call_zipN {ls : List Addr} {Q : Value → Shared → Prop} (h0 : ls ≠ []) (h4 : ls.length ≤ 4) (ht : ∀ (t : Nat) (l : Addr), ls[t]? = some l → ∃ items, SqOf (kd t) s.heap l items)
    (h : ∀ h' its, ZSt kd h' (s.heap.objs.size + ls.length + 2) (s.heap.objs.size + ls.length) (s.heap.objs.size + ls.length + 1) its ls 0 → its = (List.range ls.length).map (s.heap.objs.size + ·) → (∀ c o, s.heap.get? c = some o → h'.get? c = some o) → Q (.ref (s.heap.objs.size + ls.length + 2)) { s with heap := h' }) :
    wpAny (model prog w) A (call (.type "zip") (ls.map Value.ref)) Q E s := by
  have hct : checkTypeCall "zip" ⟨ls.map Value.ref, []⟩ = pure () := by
    match ls, h0, h4 with
    | [a], _, _ => exact typeCall_zip1 _
    | [a, b], _, _ => exact F.typeCall_zip_2 _ _
    | [a, b, c], _, _ => exact typeCall_zip3 _ _ _
    | [a, b, c, d], _, _ => exact typeCall_zip4 _ _ _ _
    | _ :: _ :: _ :: _ :: _ :: _, _, h => simp at h
  have hcn : checkBuiltinCall "zip.__new__" ⟨.type "zip" :: ls.map Value.ref, []⟩ = pure () := by
    match ls, h0, h4 with
    | [a], _, _ => exact newCall_zip1 _
    | [a, b], _, _ => exact F.newCall_zip_2 _ _
    | [a, b, c], _, _ => exact newCall_zip3 _ _ _
    | [a, b, c, d], _, _ => exact newCall_zip4 _ _ _ _
    | _ :: _ :: _ :: _ :: _ :: _, _, h => simp at h
  have hok : ∀ obj, argsOk "object.__init__" ⟨obj :: ls.map Value.ref, []⟩ := fun obj => by
    match ls, h0, h4 with
    | [a], _, _ => exact F.args_object_init_2 _ _
    | [a, b], _, _ => exact F.args_object_init_3 _ _ _
    | [a, b, c], _, _ => exact initOk4 _ _ _ _
    | [a, b, c, d], _, _ => exact initOk5 _ _ _ _ _
    | _ :: _ :: _ :: _ :: _ :: _, _, h => simp at h
  have h5 : ls.length ≤ 1000 := by omega
  refine callType_new F.called_zip (by decide) hct hcn hok F.entry_zip_new (meets_zipN (kd := kd) ls h5) ?_
  refine ⟨ht, fun h' its hz he hk => ?_⟩
  obtain ⟨f0, f1, hzo, _⟩ := hz.zo
  exact ⟨⟨_, hzo, rfl⟩, h h' its hz he hk⟩
end
/-- a list or a tuple, by its kind -/
def SqK (k : Bool) (K : PySem.W.Frag) (H : Hp) (a : Addr) (row : List V) : Prop := if k = true then SqL K H a row else SqT K H a row
theorem SqK.mono {k : Bool} {K : PySem.W.Frag} {H H' : Hp} {a : Addr} {row : List V} (e : SubM H H') (h : SqK k K H a row) : SqK k K H' a row := by
  cases k
  · exact sameT e h
  · exact e.seq h
theorem sqk_inv {X : Cx} {pins : List (Addr × Obj)} {σ : L2.St} {H : Hp} {s : Shared} (I : Inv X pins σ H s) {k : Bool} {a : Addr} {row : List V} (h : SqK k X.K H a row) : ∃ its : List Value, Vals row its ∧ SqOf k s.heap a its.toArray ∧ row.length ≤ sizeLine := by
  cases k
  · obtain ⟨its, r, p, z⟩ := I.tuple h
    exact ⟨its, r, p, z⟩
  · obtain ⟨its, r, p, z⟩ := I.list h
    exact ⟨its, r, p.isList, z⟩
theorem sqk_inj {X : Cx} {pins : List (Addr × Obj)} {σ : L2.St} {H : Hp} {s : Shared} (I : Inv X pins σ H s) {k : Bool} {a : Addr} {row row' : List V} (h : SqK k X.K H a row) (h' : SqK k X.K H a row') : row = row' := by
  cases k
  · exact I.tuple_inj h h'
  · exact I.list_inj h h'
/-- the sequences at as, turn by turn: new tuples of their items -/
def Itn (K : PySem.W.Frag) (kd : Nat → Bool) (as : List Addr) : It :=
  ⟨fun i H => ∀ (t : Nat) (a : Addr), as[t]? = some a → ∃ row x, SqK (kd t) K H a row ∧ row[i]? = some x,
    fun i H v H' => ∃ T xs, v = .ref T ∧ H T = none ∧ H' = upd H T (.tup xs) ∧ xs.length = as.length ∧ ∀ (t : Nat) (a : Addr) (row : List V), as[t]? = some a → SqK (kd t) K H a row → ∃ x, xs[t]? = some x ∧ row[i]? = some x,
    fun i H => ∃ t a row, as[t]? = some a ∧ SqK (kd t) K H a row ∧ row.length ≤ i ∧ ∀ (u : Nat) (b : Addr), u < t → as[u]? = some b → ∃ row x, SqK (kd u) K H b row ∧ row[i]? = some x⟩
theorem zip_go {prog : Program} {w : World} {A : Around} {E : Value → Shared → Prop} {s : Shared} {tg : Expr} {z TI TO T : Addr} {its as : List Addr} {i : Nat} {kd : Nat → Bool} {R : Unit → Shared → Prop} (D : ZAp z TI TO its as) (st : ZSt kd s.heap z TI TO its as i)
    (hR : ∀ h2, ZSt kd h2 z TI TO its as i → (∀ c o, c ≠ z → s.heap.get? c = some o → h2.get? c = some o) → R () { s with heap := h2 }) : wpAny (model prog w) A (letOwnedTupleGo tg (.ref z) (.ref T)) R E s := by
  have plain : wpAny (model prog w) A (pure ()) R E s := wpAny_pure (hR s.heap st fun _ _ _ e => e)
  obtain ⟨f0, f1, hz, hf0⟩ := id st.zo
  have hit : ∀ {R' : Unit → Shared → Prop}, (∀ s', R () s' → R' () s') → wpAny (model prog w) A (setField (.ref z) 0 .none) R' E s := fun {R'} hw => by
    refine wpAny_setField_rec hz (by simp) fun h2 hz2 hs2 => hw _ (hR h2 ?_ fun c o hc e => (hs2.2 c hc).trans e)
    obtain ⟨kp, k0, hTO, hks⟩ := st.to
    exact ⟨⟨.none, f1, hz2, .inl rfl⟩, (hs2.2 _ D.TIz).trans st.ti, ⟨kp, k0, (hs2.2 _ D.TOz).trans hTO, hks⟩, fun t a l e1 e2 => (st.it t a l e1 e2).at fun o e => (hs2.2 a (D.itz (List.mem_of_getElem? e1)).1).trans e⟩
  unfold letOwnedTupleGo
  split
  · refine wpAny_bind (wpAny_load hz ?_)
    simp only [ZObj]
    split
    · exact wpAny_bind (wpAny_rule (hit fun _ h => h))
    · exact plain
  · refine wpAny_bind (wpAny_load hz ?_)
    simp only [ZObj]
    split
    · exact wpAny_bind (wpAny_rule (hit fun _ h => h))
    · exact plain
  · exact plain
theorem turn_zipN {P : Program} {w : World} {K : PySem.W.Frag} {tg : Expr} {z TI TO : Addr} {its as : List Addr} {kd : Nat → Bool} (D : ZAp z TI TO its as) : Turn P w K tg (Itn K kd as) (z :: TI :: TO :: its) z (fun i h => ZSt kd h z TI TO its as i) where
  mem := by simp
  obj := fun i h st c hc => by
    obtain ⟨f0, f1, hz, _⟩ := st.zo
    obtain ⟨kp, k0, hTO, _⟩ := st.to
    simp only [List.mem_cons] at hc
    rcases hc with rfl | rfl | rfl | hc
    · exact ⟨_, hz, fun v q => nomatch q⟩
    · exact ⟨_, st.ti, fun v q => nomatch q⟩
    · exact ⟨_, hTO, fun v q => nomatch q⟩
    · obtain ⟨t, ht⟩ := List.getElem?_of_mem hc
      have hl : t < as.length := by rw [D.len]; exact (List.getElem?_eq_some_iff.mp ht).1
      obtain ⟨o, ho, _, hd⟩ := (st.it t c as[t] ht (List.getElem?_eq_getElem hl)).ex
      exact ⟨o, ho, fun v q => by rw [hd] at q; cases q⟩
  keep := fun i h h' st k => by
    obtain ⟨f0, f1, hz, hf⟩ := st.zo
    obtain ⟨kp, k0, hTO, hs⟩ := st.to
    exact ⟨⟨f0, f1, k z (by simp) _ hz, hf⟩, k TI (by simp) _ st.ti, ⟨kp, k0, k TO (by simp) _ hTO, hs⟩, fun t a l e1 e2 => (st.it t a l e1 e2).at fun o q => k a (by simp [List.mem_of_getElem? e1]) o q⟩
  item := by
    intro X hP hw hK hc i pins s σ H E I hf st hg
    subst hP hw hK
    have hg' : ∀ (t : Nat) (a : Addr), as[t]? = some a → ∃ row x, SqK (kd t) X.K H a row ∧ row[i]? = some x := hg
    -- the values, one a tuple
    have vals : ∀ (bs : List Addr) (off : Nat), (∀ (t : Nat) (a : Addr), bs[t]? = some a → ∃ row x, SqK (kd (off + t)) X.K H a row ∧ row[i]? = some x) → ∃ (xs : List V) (us : List Value), Vals xs us ∧ xs.length = bs.length ∧ ∀ (t : Nat) (a : Addr), bs[t]? = some a → ∃ x u row items, xs[t]? = some x ∧ us[t]? = some u ∧ SqK (kd (off + t)) X.K H a row ∧ row[i]? = some x ∧ SqOf (kd (off + t)) s.heap a items ∧ items[i]? = some u := by
      intro bs
      induction bs with
      | nil => intro _ _; exact ⟨[], [], .nil, rfl, fun t a e => by simp at e⟩
      | cons b bs ih =>
        intro off hb
        obtain ⟨xs, us, r, hl, q⟩ := ih (off + 1) fun t a e => by
          have := hb (t + 1) a (by simpa using e)
          rwa [show off + (t + 1) = off + 1 + t by omega] at this
        obtain ⟨row, x, sq, hx⟩ := hb 0 b rfl
        obtain ⟨its', rv, p, _⟩ := sqk_inv I sq
        obtain ⟨u, hu, ru⟩ := rv.get hx
        refine ⟨x :: xs, u :: us, .cons ru r, by simp [hl], fun t a e => ?_⟩
        cases t with
        | zero =>
          simp at e
          subst e
          exact ⟨x, u, row, _, rfl, rfl, sq, hx, p, by simpa using hu⟩
        | succ t =>
          have := q t a (by simpa using e)
          rw [show off + 1 + t = off + (t + 1) by omega] at this
          simpa using this
    obtain ⟨xs, us, rv, hlx, q⟩ := vals as 0 fun t a e => by rw [Nat.zero_add]; exact hg' t a e
    simp only [Nat.zero_add] at q
    obtain ⟨f0', f1', hz0, _⟩ := id st.zo
    have hzl : ∀ c ∈ z :: TI :: TO :: its, c < s.heap.objs.size := fun c hc => by
      obtain ⟨kp, k0, hTO, _⟩ := st.to
      simp only [List.mem_cons] at hc
      rcases hc with rfl | rfl | rfl | hc
      · exact Heap.lt_size hz0
      · exact Heap.lt_size st.ti
      · exact Heap.lt_size hTO
      · obtain ⟨t, ht⟩ := List.getElem?_of_mem hc
        have hl : t < as.length := by rw [D.len]; exact (List.getElem?_eq_some_iff.mp ht).1
        obtain ⟨o, ho, _, hd⟩ := (st.it t c as[t] ht (List.getElem?_eq_getElem hl)).ex
        exact Heap.lt_size ho
    have hus : us.length = its.length := by rw [← rv.length, hlx, D.len]
    have hux : ∀ (t : Nat) (l : Addr) (x : Value), as[t]? = some l → us[t]? = some x → ∃ items, SqOf (kd t) s.heap l items ∧ items[i]? = some x := fun t l x e1 e2 => by
      obtain ⟨x', u, row, items, _, e4, _, _, e5, e6⟩ := q t l e1
      rw [e2] at e4
      cases e4
      exact ⟨items, e5, e6⟩
    apply zipN_item D st hus hux
    intro h' st' hT hsz hk
    refine ⟨_, rfl, ?_⟩
    refine zip_go (s := { s with heap := h' }) D st' fun h2 st2 hk2 => ?_
    have hT2 : h2.get? s.heap.objs.size = some { cls := .type "tuple", data := .seq us.toArray } := hk2 _ _ (Nat.ne_of_gt (hzl z (by simp))) hT
    have few := D.few
    have line : (1000 : Nat) ≤ sizeLine := by decide
    have new : ObjOk X.prog X.w (upd H s.heap.objs.size (.tup xs)) h2 s.heap.objs.size (.tup xs) := ⟨by rw [hlx, D.len]; omega, us, rv, ⟨_, hT2, rfl, _, rfl⟩⟩
    have I1 : Inv X pins σ (upd H s.heap.objs.size (.tup xs)) { s with heap := h2 } :=
      I.turnedNew (t' := s.toks) (ch := z :: TI :: TO :: its) (fun c o hb e => hk2 c o (fun q => hb (by simp [q])) (hk c o (fun hm => hb (by
        simp only [List.mem_cons] at hm ⊢
        rcases hm with h | h | h
        · exact .inl h
        · exact .inr (.inr (.inl h))
        · exact .inr (.inr (.inr h)))) e)) hf (Nat.le_refl _) new
    have hy : (Itn X.K kd as).yld i H (.ref s.heap.objs.size) (upd H s.heap.objs.size (.tup xs)) := by
      refine ⟨s.heap.objs.size, xs, rfl, I.hok.fresh (Nat.le_refl _), rfl, hlx, fun t a row e1 e2 => ?_⟩
      obtain ⟨x', u, row', items, h1, _, h3, h4, _⟩ := q t a e1
      rw [sqk_inj I h3 e2] at h4
      exact ⟨x', h1, h4⟩
    have hfree : ∀ b ∈ z :: TI :: TO :: its, (upd H s.heap.objs.size (.tup xs)) b = none := fun c hcm => by
      rw [upd_ne (Nat.ne_of_lt (hzl c hcm))]
      exact (hf c hcm).1
    exact ⟨.ref s.heap.objs.size, upd H s.heap.objs.size (.tup xs), I1, rfl, hy, st2, hfree⟩
  done := by
    intro X hP hw hK hc i pins s σ H E I hf st hg
    subst hP hw hK
    obtain ⟨t, a, row, ha, sq, hlen, hpre⟩ := hg
    obtain ⟨its', rv, p, _⟩ := sqk_inv I sq
    have htl : t < its.length := by rw [← D.len]; exact (List.getElem?_eq_some_iff.mp ha).1
    refine zipN_end (I.ok.hd hc) D st (List.getElem?_eq_getElem htl) ha p (by rw [List.getElem?_toArray, ← List.getElem?_eq_none_iff.mpr (show its'.length ≤ i by rw [← rv.length]; exact hlen)]) (fun u l hu el => by
      obtain ⟨row', x, sq', hx'⟩ := hpre u l hu el
      obtain ⟨its2, rv2, p2, _⟩ := sqk_inv I sq'
      obtain ⟨v, hv, _⟩ := rv2.get hx'
      exact ⟨_, v, p2, by simpa using hv⟩) fun h' hk => ⟨rfl, I.turnedL (t' := s.toks) (ch := z :: TI :: TO :: its) (fun c o hb e => hk c o (fun hm => hb (by
        simp only [List.mem_cons] at hm ⊢
        rcases hm with h | h | h
        · exact .inl h
        · exact .inr (.inr (.inl h))
        · exact .inr (.inr (.inr h)))) e) hf⟩
  self := fun A i s Q E st h => let ⟨_, _, hz, _⟩ := st.zo; zip_self hz h
end DD
namespace DD
open PySem PySem.Spec PyProof.Rows L2
def iZipN (K : PySem.W.Frag) (ta : TA) : TI := fun σ H R => ta σ H fun vs H1 => ∃ (kd : Nat → Bool) (as : List Addr), vs = as.map V.ref ∧ as ≠ [] ∧ as.length ≤ 4 ∧ (∀ (t : Nat) (a : Addr), as[t]? = some a → ∃ row, SqK (kd t) K H1 a row) ∧ R (Itn K kd as) H1
theorem vals_refs : ∀ {as : List Addr} {us : List Value}, Vals (as.map V.ref) us → us = as.map Value.ref
  | [], _, .nil => rfl
  | a :: as, _, .cons r rs => by
    rw [vals_refs rs]
    cases r
    rfl
section
variable {X : Cx} {tg : Expr}
theorem zip_come {pins : List (Addr × Obj)} {s : Shared} {σ : L2.St} {H : Hp} {R : It → Hp → Prop} {as : List Addr} {kd : Nat → Bool} (I : Inv X pins σ H s) (h0 : as ≠ []) (h4 : as.length ≤ 4) (ht : ∀ (t : Nat) (a : Addr), as[t]? = some a → ∃ row, SqK (kd t) X.K H a row) (hR : R (Itn X.K kd as) H) :
    wpAny (model X.prog X.w) X.A (call (.type "zip") (as.map Value.ref)) (fun v s1 => wpAny (model X.prog X.w) X.A (pyIter v) (PIE X pins σ tg R) X.xe s1) X.xe s := by
  have htl : ∀ a : Nat, a ∈ as → a < s.heap.objs.size := fun a ha => by
    obtain ⟨t, hta⟩ := List.getElem?_of_mem ha
    obtain ⟨row, sq⟩ := ht t a hta
    obtain ⟨its, _, p, _⟩ := sqk_inv I sq
    generalize kd t = k at p
    cases k
    · obtain ⟨o, ho, _⟩ := (show s.heap.IsTuple a _ from p)
      exact Heap.lt_size ho
    · obtain ⟨o, ho, _⟩ := (show s.heap.IsList a _ from p)
      exact Heap.lt_size ho
  refine call_zipN (kd := kd) h0 h4 (fun t l hl => by obtain ⟨row, sq⟩ := ht t l hl; obtain ⟨its, _, p, _⟩ := sqk_inv I sq; exact ⟨_, p⟩) fun h' its hz he hk => ?_
  obtain ⟨f0, f1, hzo, _⟩ := id hz.zo
  refine zip_self hzo ?_
  have I2 : Inv X pins σ H { s with heap := h' } := I.kept (t' := s.toks) hk
  have hle : ∀ c : Nat, c ∈ (s.heap.objs.size + as.length + 2) :: (s.heap.objs.size + as.length) :: (s.heap.objs.size + as.length + 1) :: its → s.heap.objs.size ≤ c := fun c hc => by
    simp only [List.mem_cons] at hc
    rcases hc with rfl | rfl | rfl | hc
    · omega
    · omega
    · omega
    · rw [he] at hc
      obtain ⟨t, _, rfl⟩ := List.mem_map.mp hc
      omega
  have D : ZAp (s.heap.objs.size + as.length + 2) (s.heap.objs.size + as.length) (s.heap.objs.size + as.length + 1) its as := by
    have hi : ∀ c : Nat, c ∈ its → c < s.heap.objs.size + as.length := fun c hc => by
      rw [he] at hc
      obtain ⟨t, ht, rfl⟩ := List.mem_map.mp hc
      have := List.mem_range.mp ht
      omega
    refine ⟨?_, by rw [he]; simp, by rw [he]; simp; omega, ?_, fun l hl hm => ?_⟩
    · rw [he]
      intro e
      have : as.length = 0 := by simpa using congrArg List.length e
      exact h0 (List.eq_nil_of_length_eq_zero this)
    · refine List.nodup_cons.mpr ⟨fun hm => ?_, List.nodup_cons.mpr ⟨fun hm => ?_, List.nodup_cons.mpr ⟨fun hm => ?_, ?_⟩⟩⟩
      · simp only [List.mem_cons] at hm
        rcases hm with e | e | e
        · exact absurd (show (_ : Nat) = _ from e) (by omega)
        · exact absurd (show (_ : Nat) = _ from e) (by omega)
        · have := hi _ e; omega
      · simp only [List.mem_cons] at hm
        rcases hm with e | e
        · exact absurd (show (_ : Nat) = _ from e) (by omega)
        · have := hi _ e; omega
      · have := hi _ hm; omega
      · rw [he]
        exact (List.pairwise_map.mpr (List.nodup_range.imp (fun {a b} h e => h (Nat.add_left_cancel e))))
    · have := hle l hm
      have := htl l hl
      omega
  exact ⟨_, _, _, _, H, rfl, I2, turn_zipN D, hz, fun b hb => I.fpOk (hle b hb) (I.hok.fresh (hle b hb)), hR⟩
theorem callWith_typeS {M : Model} {A : Around} {E : Value → Shared → Prop} {s : Shared} {env : Env} {pos p : Pos} {T : String} {e : Expr} {Q : Value → Shared → Prop}
    (h : wpAny M A (eval e env) (fun v s₁ => PySem.W.StarOf M A E v (fun vs s₂ => wpAny M A (call (.type T) vs) Q E s₂) s₁) E s)
    (he : starEach [.Starred e p] env = [(true, eval e env)] := by rfl) :
    wpAny M A (callWith pos (.type T) [] (backTo pos (starEach [.Starred e p] env)) []) Q E s := by
  rw [he]
  refine PySem.W.ks_call (P := fun _ => True) rfl (fun h _ => ⟨.machine, .inr (.inl rfl), PySem.W.Looks.now⟩) (PySem.W.ks_lone (wpAny_mono h (fun v s1 h1 => ?_) fun _ _ x => x))
  unfold PySem.W.StarOf at h1 ⊢
  exact wpAny_mono h1 (fun b s2 h2 => ⟨h2.1, wpAny_mono h2.2 (fun vs s3 h3 => ⟨trivial, h3⟩) fun _ _ x => x⟩) fun _ _ x => x
/-- zip(*e) -/
def iZipS (K : PySem.W.Frag) (te : TE) : TI := fun σ H R => te σ H fun x H1 => ∃ (kd : Nat → Bool) (p : Addr) (as : List Addr), x = V.ref p ∧ (SqT K H1 p (as.map V.ref) ∨ SqL K H1 p (as.map V.ref)) ∧ as ≠ [] ∧ as.length ≤ 4 ∧ (∀ (t : Nat) (a : Addr), as[t]? = some a → ∃ row, SqK (kd t) K H1 a row) ∧ R (Itn K kd as) H1
theorem pi_zipS {e : Expr} {te : TE} {p sp pos : Pos} (hg : Gl X "zip") (hm : X.mg "zip" = none) (he : PE X e te) (hs : starEach [.Starred e sp] X.env = [(true, eval e X.env)] := by rfl) :
    PI X tg (.Call (.Name "zip" p) [.Starred e sp] [] pos) (iZipS X.K te) := by
  refine ⟨fun pins s σ H R I h => ?_⟩
  refine Call_ (ld_blt I hg hm PyProof.Rows.boot_zip (callWith_typeS (thn (he.run pins s σ H _ I h) fun v s1 ⟨x, H1, I1, r1, q1⟩ => ?_) hs))
  obtain ⟨kd, a, as, ex, hx, h0, h4, ht, q⟩ := q1
  subst ex
  obtain rfl : v = Value.ref a := r1
  refine StX.star_any I1 hx fun us s2 I2 rv => ?_
  rw [vals_refs rv]
  exact zip_come I2 h0 h4 ht q
theorem pi_zipN {e : Expr} {es : List Expr} {ta : TA} {p pos : Pos} (hg : Gl X "zip") (hm : X.mg "zip" = none) (ha : PA X (e :: es) ta)
    (hs : starEach (e :: es) X.env = (false, eval e X.env) :: starEach es X.env := by rfl) (hpl : (backTo pos (starEach es X.env)).any (·.1) = false := by rfl) :
    PI X tg (.Call (.Name "zip" p) (e :: es) [] pos) (iZipN X.K ta) := by
  refine ⟨fun pins s σ H R I h => ?_⟩
  refine Call_ (ld_blt I hg hm PyProof.Rows.boot_zip (PyProof.Rows.callWith_type1 (thn (ha.run pos pins s σ H _ I h) fun us s1 ⟨vs, H1, I1, r1, q1⟩ => ?_) hs hpl))
  obtain ⟨kd, as, ex, h0, h4, ht, q⟩ := q1
  subst ex
  rw [vals_refs r1]
  exact zip_come I1 h0 h4 ht q
end
/-- the rows of a table: tuples or lists -/
def rowsD : List D → Option (List (List D))
  | [] => some []
  | .tuple r :: ds => (rowsD ds).map (r :: ·)
  | .list r :: ds => (rowsD ds).map (r :: ·)
  | _ :: _ => none
def kindsD : List D → List Bool
  | [] => []
  | .list _ :: ds => true :: kindsD ds
  | _ :: ds => false :: kindsD ds
/-- the least length -/
def leastL : Nat → List (List D) → Nat
  | n, [] => n
  | n, r :: rs => leastL (min n r.length) rs
theorem leastL_le : ∀ (n : Nat) (rs : List (List D)), leastL n rs ≤ n
  | n, [] => Nat.le_refl _
  | n, r :: rs => Nat.le_trans (leastL_le _ rs) (Nat.min_le_left ..)
theorem leastL_mem : ∀ (n : Nat) (rs : List (List D)) (r : List D), r ∈ rs → leastL n rs ≤ r.length
  | n, r' :: rs, r, h => by
    rcases List.mem_cons.mp h with rfl | h
    · exact Nat.le_trans (leastL_le _ rs) (Nat.min_le_right ..)
    · exact leastL_mem _ rs r h
theorem leastL_eq : ∀ (n : Nat) (rs : List (List D)), (∀ r ∈ rs, n ≤ r.length) → leastL n rs = n
  | n, [], _ => rfl
  | n, r :: rs, h => by
    unfold leastL
    rw [Nat.min_eq_left (h r List.mem_cons_self)]
    exact leastL_eq n rs fun x hx => h x (List.mem_cons_of_mem _ hx)
/-- the first that is that short -/
theorem leastL_at : ∀ (r : List D) (rs : List (List D)), ∃ (t : Nat) (x : List D), (r :: rs)[t]? = some x ∧ x.length = leastL r.length rs ∧ ∀ (u : Nat) (y : List D), u < t → (r :: rs)[u]? = some y → leastL r.length rs < y.length := by
  intro r rs
  have ex : ∃ (t : Nat) (x : List D), (r :: rs)[t]? = some x ∧ x.length = leastL r.length rs := by
    have gen : ∀ (n : Nat) (rs : List (List D)), leastL n rs = n ∨ ∃ x ∈ rs, x.length = leastL n rs := by
      intro n rs
      induction rs generalizing n with
      | nil => exact .inl rfl
      | cons a rs ih =>
        unfold leastL
        rcases ih (min n a.length) with h | ⟨x, hx, e⟩
        · rcases Nat.le_total n a.length with h2 | h2
          · left; rw [h, Nat.min_eq_left h2]
          · right; exact ⟨a, List.mem_cons_self, by rw [h, Nat.min_eq_right h2]⟩
        · exact .inr ⟨x, List.mem_cons_of_mem _ hx, e⟩
    rcases gen r.length rs with h | ⟨x, hx, e⟩
    · exact ⟨0, r, rfl, h.symm⟩
    · obtain ⟨t, ht⟩ := List.getElem?_of_mem hx
      exact ⟨t + 1, x, by simpa using ht, e⟩
  obtain ⟨t, x, h1, h2⟩ := ex
  induction t using Nat.strongRecOn generalizing x with
  | ind t ih =>
    by_cases hc : ∃ (u : Nat) (y : List D), u < t ∧ (r :: rs)[u]? = some y ∧ y.length = leastL r.length rs
    · obtain ⟨u, y, hu, e1, e2⟩ := hc
      exact ih u hu y e1 e2
    · refine ⟨t, x, h1, h2, fun u y hu e => ?_⟩
      have hle : leastL r.length rs ≤ y.length := by
        cases u with
        | zero => simp at e; subst e; exact leastL_le _ _
        | succ u => exact leastL_mem _ _ _ (List.mem_of_getElem? (by simpa using e))
      rcases Nat.lt_or_eq_of_le hle with h | h
      · exact h
      · exact absurd ⟨u, y, hu, e, h.symm⟩ hc
def zipD (ds : List D) : Option (List D) :=
  match rowsD ds with
  | some (r :: rs) => if rs.length ≤ 3 then some ((List.range (leastL r.length rs)).map fun i => .tuple ((r :: rs).map fun x => x.getD i .none)) else none
  | _ => none
theorem zipD_old {ds : List D} {r : List D} {rs : List (List D)} (h : rowsD ds = some (r :: rs)) (h3 : rs.length ≤ 3) (hl : ∀ x ∈ rs, r.length ≤ x.length) : zipD ds = some ((List.range r.length).map fun i => .tuple ((r :: rs).map fun x => x.getD i .none)) := by
  unfold zipD
  rw [h]
  simp only
  rw [if_pos h3, leastL_eq _ _ hl]
theorem rows_da {K : PySem.W.Frag} {G : Hp} : ∀ {ds : List D} {rs : List (List D)} {xs : List V}, DaAll K G xs ds → rowsD ds = some rs → ∃ as : List Addr, xs = as.map V.ref ∧ as.length = rs.length ∧ ∀ (t : Nat) (a : Addr), as[t]? = some a → ∃ row r, SqK ((kindsD ds).getD t false) K G a row ∧ rs[t]? = some r ∧ DaAll K G row r
  | [], rs, _, .nil, e => by cases e; exact ⟨[], rfl, rfl, fun t a h => by simp at h⟩
  | .tuple r :: ds, rs, _, .cons h hs, e => by
    unfold rowsD at e
    obtain ⟨rs', e', rfl⟩ := Option.map_eq_some_iff.mp e
    obtain ⟨as, ex, el, q⟩ := rows_da hs e'
    obtain ⟨a, xs, rfl, sq, da⟩ := h.toT
    refine ⟨a :: as, by rw [ex]; rfl, by simp [el], fun t b hb => ?_⟩
    cases t with
    | zero => simp at hb; subst hb; exact ⟨xs, r, sq, rfl, da⟩
    | succ t => exact q t b (by simpa using hb)
  | .list r :: ds, rs, _, .cons h hs, e => by
    unfold rowsD at e
    obtain ⟨rs', e', rfl⟩ := Option.map_eq_some_iff.mp e
    obtain ⟨as, ex, el, q⟩ := rows_da hs e'
    cases h with
    | lst hl da =>
      rename_i a xs
      refine ⟨a :: as, by rw [ex]; rfl, by simp [el], fun t b hb => ?_⟩
      cases t with
      | zero => simp at hb; subst hb; exact ⟨xs, r, SqL.of hl, rfl, da⟩
      | succ t => exact q t b (by simpa using hb)
  | .none :: _, _, _, .cons _ _, e => by cases e
  | .bool _ :: _, _, _, .cons _ _, e => by cases e
  | .int _ :: _, _, _, .cons _ _, e => by cases e
  | .str _ :: _, _, _, .cons _ _, e => by cases e
  | .dict _ :: _, _, _, .cons _ _, e => by cases e
theorem zipD_w {K : PySem.W.Frag} {G : Hp} {ds out : List D} {xs : List V} (da : DaAll K G xs ds) (e : zipD ds = some out) : ∃ (kd : Nat → Bool) (as : List Addr), xs = as.map V.ref ∧ as ≠ [] ∧ as.length ≤ 4 ∧ (∀ (t : Nat) (a : Addr), as[t]? = some a → ∃ row, SqK (kd t) K G a row) ∧ WalkD K G (Itn K kd as) out := by
  unfold zipD at e
  split at e
  · rename_i r rs er
    split at e
    · rename_i h3
      cases e
      obtain ⟨as, rfl, el, q⟩ := rows_da da er
      have hlen : ∀ (t : Nat) (x : List D), (r :: rs)[t]? = some x → leastL r.length rs ≤ x.length := fun t x hx => by
        cases t with
        | zero => simp at hx; subst hx; exact leastL_le _ _
        | succ t => exact leastL_mem _ _ x (List.mem_of_getElem? (by simpa using hx))
      refine ⟨fun t => (kindsD ds).getD t false, as, rfl, fun e => by subst e; simp at el, by simp at el; omega, fun t a ht => ?_, ?_, ?_, ?_⟩
      · obtain ⟨row, _, sq, _⟩ := q t a ht
        exact ⟨row, sq⟩
      · intro i H hi sm t a ht
        obtain ⟨row, x, sq, hx, dr⟩ := q t a ht
        have h1 := hlen t x hx
        have h2 := dr.length
        have h3 : i < row.length := by simp at hi; omega
        exact ⟨row, row[i], sq.mono sm, by simp [h3]⟩
      · intro H sm
        obtain ⟨t, x, hx, hxl, hpre⟩ := leastL_at r rs
        have ht : t < as.length := by rw [el]; exact (List.getElem?_eq_some_iff.mp hx).1
        obtain ⟨row, x', sq, hx', dr⟩ := q t as[t] (List.getElem?_eq_getElem ht)
        rw [hx] at hx'
        cases hx'
        refine ⟨t, as[t], row, List.getElem?_eq_getElem ht, sq.mono sm, by rw [dr.length, hxl]; simp, fun u b hu hb => ?_⟩
        obtain ⟨row', y, sq', hy, dr'⟩ := q u b hb
        have h1 := hpre u y hu hy
        have h2 := dr'.length
        have h3 : leastL r.length rs < row'.length := by omega
        exact ⟨row', row'[leastL r.length rs], sq'.mono sm, by simp [h3]⟩
      · intro i H G1 x H' hi sm s1 y
        obtain ⟨T, ys, rfl, hT, rfl, hyl, hy⟩ := y
        have hi' : i < leastL r.length rs := by simpa using hi
        refine ⟨.tuple ((r :: rs).map fun x => x.getD i .none), upd G1 T (.tup ys), by simp [hi'], Gr.alloc s1 hT, ?_⟩
        have gr := Gr.alloc (u := .tup ys) s1 hT
        refine .tup (.inl (.inl upd_same)) ?_
        have all : ∀ (bs : List Addr) (zs : List V) (rr : List (List D)), zs.length = bs.length → bs.length = rr.length → (∀ (t : Nat) (a : Addr), bs[t]? = some a → ∃ x row r', zs[t]? = some x ∧ row[i]? = some x ∧ rr[t]? = some r' ∧ DaAll K G row r') → DaAll K (upd G1 T (.tup ys)) zs (rr.map fun x => x.getD i .none) := by
          intro bs
          induction bs with
          | nil =>
            intro zs rr e1 e2 _
            obtain rfl := List.eq_nil_of_length_eq_zero (by simpa using e1)
            obtain rfl := List.eq_nil_of_length_eq_zero (by simpa using e2.symm)
            exact .nil
          | cons b bs ih =>
            intro zs rr e1 e2 hq
            cases zs with
            | nil => simp at e1
            | cons z zs =>
              cases rr with
              | nil => simp at e2
              | cons r1 rr =>
                refine .cons ?_ (ih zs rr (by simpa using e1) (by simpa using e2) fun t a ha => by
                  have := hq (t + 1) a (by simpa using ha)
                  simpa using this)
                obtain ⟨x, row, r', z1, z2, z3, z4⟩ := hq 0 b rfl
                simp at z1 z3
                subst z1 z3
                obtain ⟨d, z5, z6⟩ := z4.getV z2
                have : r1.getD i .none = d := by simp [List.getD, z5]
                show Da K _ z (r1.getD i .none)
                rw [this]
                exact z6.mono (sm.trans gr.g)
        refine all as ys (r :: rs) (by omega) el fun t a ha => ?_
        obtain ⟨row, x, sq, hx, dr⟩ := q t a ha
        obtain ⟨z, z1, z2⟩ := hy t a row ha (sq.mono (sm.subm s1))
        exact ⟨z, row, x, z1, z2, hx, dr⟩
    · cases e
  · cases e
section
variable {m : Type → Type} [Mo m] {X : Cx} {EX : XR} {g : List Sl} {tg : Expr}
theorem ij_zipS {e : Expr} {p sp pos : Pos} {x : m D} (hm : X.mg "zip" = none) (h : EJ X EX e g x) (hg : Gl X "zip" := by rfl) (hs : starEach [.Starred e sp] X.env = [(true, eval e X.env)] := by rfl) :
    IJ X EX tg (.Call (.Name "zip" p) [.Starred e sp] [] pos) g (x >>= fun d => Mo.lift ((itemsD d).bind zipD)) :=
  (pi_zipS hg hm h hs).weak fun σ H R ⟨B, G, n, φ, ξ, o, s, q, xw⟩ => te_one o s (fun v H1 G1 d n1 o1 g1 d1 s1 => by
    obtain ⟨out, ed, pd⟩ := Mo.sat_lift s1
    obtain ⟨ds, e1, e2⟩ := Option.bind_eq_some_iff.mp ed
    obtain ⟨a, xs, ev, sq, da⟩ := d1.seq e1
    obtain ⟨kd, as, rfl, h0, h4, ht, wk⟩ := zipD_w da e2
    refine ⟨kd, a, as, ev, ?_, h0, h4, fun t b hb => by obtain ⟨row, z⟩ := ht t b hb; exact ⟨row, z.mono o1.fm.sub⟩, q _ H1 G1 out n1 o1 g1 wk pd⟩
    rcases sq with sq | sq
    · exact .inl (sameT o1.fm.sub sq)
    · exact .inr (o1.fm.sub.seq sq)) xw
/-- zip(a, b), tuples -/
theorem ij_zip2 {a b : Expr} {p pos : Pos} {x y : m D} (hm : X.mg "zip" = none) (h : EJ X EX a g x) (h2 : EJ X EX b g y) (hg : Gl X "zip" := by rfl)
    (hs' : starEach [a, b] X.env = (false, eval a X.env) :: starEach [b] X.env := by rfl) (hs2' : starEach [b] X.env = (false, eval b X.env) :: starEach [] X.env := by rfl) (hpl : (backTo pos (starEach [b] X.env)).any (·.1) = false := by rfl) :
    IJ X EX tg (.Call (.Name "zip" p) [a, b] [] pos) g (x >>= fun d => y >>= fun e => Mo.lift (zipD [d, e])) :=
  (pi_zipN hg hm (pa_cons h (pa_cons h2 pa_nil hs2') hs') hs' hpl).weak fun σ H R ⟨B, G, n, φ, ξ, o, s, q, xw⟩ => te_one o s (fun v H1 G1 d n1 o1 g1 d1 s1 => te_one o1 s1 (fun w H2 G2 e n2 o2 g2 d2 s2 => by
    obtain ⟨out, ed, pd⟩ := Mo.sat_lift s2
    obtain ⟨kd, as, ex, h0, h4, ht, wk⟩ := zipD_w (.cons (d1.mono g2) (.cons d2 .nil)) ed
    exact ⟨kd, as, ex, h0, h4, fun t b hb => by obtain ⟨row, z⟩ := ht t b hb; exact ⟨row, z.mono o2.fm.sub⟩, q _ H2 G2 out n2 o2 (g1.trans g2) wk pd⟩) xw) xw
end
end DD
namespace DD
open PySem PySem.Spec PyProof.Rows L2
/-! ### the law's call, where no repr runs around it -/
abbrev SysAt (h : Heap) : Prop := ∃ o es ep, h.get? sysModules = some o ∧ o.data = .dict es ep
def scrO (vs : List Value) : Obj := { cls := .type "list", data := .seq vs.toArray }
def scrH (K : PySem.W.Frag) (a : Addr) (vs : List Value) (ns : List Int) : Hp := fun b => if b = a ∧ K.lookup a = none then some (.frz (scrO vs) (.lst (ns.map V.int))) else none
theorem scr_at {K : PySem.W.Frag} {a b : Addr} {vs : List Value} {ns : List Int} {u : HO} (h : scrH K a vs ns b = some u) : b = a ∧ K.lookup a = none ∧ u = .frz (scrO vs) (.lst (ns.map V.int)) := by
  unfold scrH at h
  split at h
  · rename_i e
    cases h
    exact ⟨e.1, e.2, rfl⟩
  · cases h
theorem scr_seq {K : PySem.W.Frag} {h : Heap} {a : Addr} {vs : List Value} {ns : List Int} (KX : K.In h) (ha : h.get? a = some (scrO vs)) (hi : IntsAre vs ns) (hl : ns.length ≤ sizeLine) : SqL K (scrH K a vs ns) a (ns.map V.int) := by
  cases hk : K.lookup a with
  | none => exact .inl (.inr ⟨scrO vs, by unfold scrH; rw [if_pos ⟨rfl, hk⟩]⟩)
  | some o =>
    have e := (KX a o hk).symm.trans ha
    cases e
    exact .inr ⟨_, vs.toArray, _, hk, rfl, rfl, rfl, by rw [List.size_toArray, hi.length]; exact hl, by simpa using vals_ints hi⟩
theorem call_lawG {P : Program} {w : World} {K : PySem.W.Frag} {mg mb : Str → Option Value} {k : Nat} {fa a : Addr} {fd : FuncData} {x : Str} {sp : Sp} {s : Shared} {vs : List Value} {ns : List Int}
    (KX : K.In s.heap) (hns : s.heap.Ns mainGlobals mg) (hb : s.heap.Ns builtinsNs mb) (hbb : ∀ y : Str, y ≠ "__name__" → mb y = bootBuiltins y) (hlim : s.heap.NoLimit) (hy : SysAt s.heap) (hg : s.gens = #[])
    (ha : s.heap.get? a = some (scrO vs)) (hi : IntsAre vs ns) (hl : ns.length ≤ sizeLine) (hr : Room k callerA)
    (F : ∀ base : Heap, K.In base → base.Ns mainGlobals mg → SysAt base → FnG P w K mg base k fa fd [x] sp) (hbind : ∀ (s : Shared) (u : Value), BindsTo s fd ⟨[u], []⟩ [(x, u)])
    (hsp : ∀ H : Hp, SqL K H a (ns.map V.int) → sp [.ref a] H (fun v _ => v = .bl true) E0) :
    codeAny (model P w) callerA (.call (.ref fa) ⟨[.ref a], []⟩) (fun r s' => r = .ok (.ret (.bool true)) ∧ OldK s.heap s'.heap ∧ s'.os = s.os ∧ AllBare s'.gens) s := by
  have hok : HOk P w (scrH K a vs ns) s.heap := fun b u z => by
    obtain ⟨rfl, _, rfl⟩ := scr_at z
    exact ⟨ha, by rw [List.length_map]; exact hl, vs, _, vals_ints hi, ha⟩
  have noA : ∀ {b : Addr} {o : Obj} {es : Array DictEntry} {ep : Nat}, s.heap.get? b = some o → o.data = .dict es ep → scrH K a vs ns b = none := fun {b o es ep} e d => by
    cases q : scrH K a vs ns b with
    | none => rfl
    | some u =>
      obtain ⟨rfl, _, _⟩ := scr_at q
      rw [ha] at e
      cases e
      exact absurd (show Data.seq vs.toArray _ = Data.dict es ep from d) (by simp)
  have nsK : ∀ {b : Addr} {m : Str → Option Value}, s.heap.Ns b m → (hidT s.heap (scrH K a vs ns)).Ns b m := fun ⟨o, es, ep, e, d, r⟩ => ⟨o, es, ep, hidT_get e (noA e d), d, r⟩
  have hKb : K.In (hidT s.heap (scrH K a vs ns)) := fun b o e => hidT_get (KX b o e) (by
    cases q : scrH K a vs ns b with
    | none => rfl
    | some u =>
      obtain ⟨rfl, hn, _⟩ := scr_at q
      rw [hn] at e
      cases e)
  have hyb : SysAt (hidT s.heap (scrH K a vs ns)) := let ⟨o, es, ep, e, d⟩ := hy; ⟨o, es, ep, hidT_get e (noA e d), d⟩
  have hM : Mod K mg (hidT s.heap (scrH K a vs ns)) := ⟨hKb, nsK hns, ⟨mb, nsK hb, hbb⟩, let ⟨mc, h1, h2⟩ := hlim; ⟨mc, nsK h1, h2⟩⟩
  have nil : ∀ b : Addr, ¬ b ∈ frs ([] : List Env) := fun b h => by simp [frs] at h
  have e0 : Env0 P w K mg (hidT s.heap (scrH K a vs ns)) callerA [] s (scrH K a vs ns) := ⟨rfl, hM, fun b o e => of_hidT e, Nat.le_of_eq (hidT_size _ _), trivial, fun b h => absurd h (nil b), hok, .of_eq hg⟩
  refine codeAny_mono ((F _ hKb (nsK hns) hyb).run callerA [] s _ ⟨[.ref a], []⟩ [.ref a] [.ref a] _ _ hr rfl e0 (hbind s (.ref a)) (.cons rfl .nil) (hsp _ (scr_seq KX ha hi hl))) fun r s' h => ?_
  match r, h with
  | .error _, h => exact False.elim h
  | .ok (.ret u), ⟨v, H', os, bare, un, hok', r', q⟩ =>
    have q' : v = .bl true := q
    subst q'
    obtain rfl : u = Value.bool true := r'
    refine ⟨rfl, OldK.of_keep fun b o e => ?_, os, bare⟩
    cases q : scrH K a vs ns b with
    | none => exact un.keep b o e q (nil b) (by simp)
    | some z =>
      obtain ⟨rfl, _, rfl⟩ := scr_at q
      rw [ha] at e
      cases e
      exact (hok' _ _ (un.frzs _ _ _ q)).1
theorem walk_g {l : PySem.W.OpenLaw} {n k : Nat} {q : Program} {loose : List Str} {XP : (Str → Option Value) → Heap → Prop} {YP : World → Heap → Prop} {d : DefRec} {K : Params → PySem.W.Frag} {sp : World → Sp} {x : Str}
    (hn : l.most = some n) (hn2 : n ≤ sizeLine) (hdf : d.params.defaults = []) (hr : Room k callerA) (himp : importsNone q = true) (hY : ∀ (w : World) (h : Heap), YP w h → (K w.params).In h)
    (F : ∀ (w : World) (mg : Str → Option Value) (fa : Addr) (h : Heap), (K w.params).In h → h.Ns mainGlobals mg → mg d.name = some (.ref fa) →
      ∃ fd : FuncData, (∀ (s : Shared) (u : Value), BindsTo s fd ⟨[u], []⟩ [(x, u)]) ∧ ∀ base : Heap, (K w.params).In base → base.Ns mainGlobals mg → SysAt base → FnG l.prog w (K w.params) mg base k fa fd [x] (sp w))
    (hsp : ∀ (w : World) (H : Hp) (a : Addr) (ns : List Int), ns.length ≤ n → SqL (K w.params) H a (ns.map V.int) → sp w [.ref a] H (fun v _ => v = .bl true) E0) :
    PySem.W.WalkO q loose XP YP l.row.toRowW d [] (fun f vs => PySem.call f vs) := by
  refine Att.attach_call hn hdf fun w s0 s1 mg mb fa o pm cd doc a vs ns G Y ho hd hcd hmg hobj hints hlen hg => ?_
  obtain ⟨fd, hb, hF⟩ := F w mg fa _ (hY w _ Y) G.T.g hmg
  have hy : SysAt s1.heap := let ⟨_, ⟨o, es, ep, e, d, _⟩, _⟩ := (G.T.seer himp).mods; ⟨o, es, ep, e, d⟩
  exact call_lawG (hY w _ Y) G.T.g G.T.b G.T.builtins G.T.nolimit hy hg hobj hints (Nat.le_trans hlen hn2) hr hF hb fun H hS => hsp w H a ns hlen hS
end DD
namespace DD
open PySem PySem.Spec PyProof.Rows L2
/-! ### the deck: made, drawn from -/
def drawW (as : List Sl) : W D := fun n φ => ∃ many : Int, as = [.deck, .val (.int many)] ∧ 0 < many ∧ many < 1073741824 ∧ n < 2 ^ 40 ∧ ∀ r : Int, 0 ≤ r → r < many → φ (.int r) (n + 1)
def spDraw : Sp := fun vs H Q _ => ∃ (a b : Addr) (n : Nat) (many : Int), vs = [.ref a, .int many] ∧ DeckAt H a b n ∧ 0 < many ∧ many < 1073741824 ∧ n < 2 ^ 40 ∧
  ∀ (r : Int) (H' : Hp), 0 ≤ r → r < many → DeckAt H' a b (n + 1) → (∀ c o, c ≠ a → c ≠ b → H c = some o → H' c = some o) → Q (.int r) H'
def spDeck (K : PySem.W.Frag) : Sp := fun vs H Q _ => ∃ (a : Addr) (ns : List Int), vs = [.ref a] ∧ SqL K H a (ns.map V.int) ∧
  ∀ (x y : Addr) (H' : Hp), Same H H' → DeckAt H' x y 0 → Q (.ref x) H'
def spLaw (K : PySem.W.Frag) : Sp := fun vs H Q _ => ∃ (a : Addr) (ns : List Int), vs = [.ref a] ∧ SqL K H a (ns.map V.int) ∧ ∀ H', Q (.bl true) H'
theorem FnG.weak {P : Program} {w : World} {K : PySem.W.Frag} {mg : Str → Option Value} {base : Heap} {k : Nat} {f : Addr} {fd : FuncData} {ps : List Str} {sp sp' : Sp} (F : FnG P w K mg base k f fd ps sp) (h : ∀ vs H Q E, sp' vs H Q E → sp vs H Q E) : FnG P w K mg base k f fd ps sp' :=
  ⟨fun vs H Q E q => F.len vs H Q E (h _ _ _ _ q), fun A outer s H args us vs Q E r gu e b v q => F.run A outer s H args us vs Q E r gu e b v (h _ _ _ _ q)⟩
theorem drawn {P : Program} {w : World} {K : PySem.W.Frag} {mg : Str → Option Value} {base : Heap} {k : Nat} {f : Addr} {fd : FuncData} {ps : List Str} (F : FnG P w K mg base k f fd ps spDraw) : FnG P w K mg base k f fd ps (spJ K drawW) :=
  F.weak fun vs H Q E ⟨G, n, dk, as, φ, a, fm, st, q⟩ => by
    obtain ⟨nn, ob⟩ := n
    obtain ⟨hn0, many, rfl, h0, h1, h2, hr⟩ := (show ob = [] ∧ drawW as nn (fun a n' => φ a ⟨n', []⟩) from st)
    subst hn0
    cases a with
    | cons x1 r =>
      cases r with
      | cons x2 r =>
        cases r
        obtain ⟨a, b, hd, rfl⟩ := x1
        have hd' : dk = some (a, b) := hd
        subst hd'
        cases (show Da K G _ (.int many) from x2)
        obtain ⟨dkA, n1, n2, g1, g2⟩ := fm.deck a b rfl
        refine ⟨a, b, nn, many, rfl, dkA, h0, h1, h2, fun r H' r0 r1 dk' hk => ?_⟩
        have ne : ∀ {c : Addr} {o : HO}, G c = some o → c ≠ a ∧ c ≠ b := fun {c o} e => ⟨fun z => absurd ((z ▸ e).symm.trans (show G a = none from g1)) (by simp), fun z => absurd ((z ▸ e).symm.trans (show G b = none from g2)) (by simp)⟩
        have hobs : Obs K H' G ⟨nn + 1, []⟩ := ⟨fun c u k e m => by
            obtain ⟨x, y1, y2⟩ := fm.obs.at_ c u k e m
            exact ⟨x, y1, y2.mono (Same.refl _) fun o z => hk c o (ne e).1 (ne e).2 z⟩, fm.obs.inj, fun k x e => by
            obtain ⟨c, y⟩ := fm.obs.all k x e
            obtain ⟨u, e2, _⟩ := y.mark
            exact ⟨c, y.mono (Same.refl _) fun o z => hk c o (ne e2).1 (ne e2).2 z⟩⟩
        refine q (.int r) H' G (.int r) ⟨nn + 1, []⟩ ⟨fun c o e nf => ?_, ⟨fun c o e m => ?_, fun c e => ?_⟩, fm.old, hobs, fm.bt, fm.tg, fun c e z => fm.new c e z, fun a' b' e => ?_⟩ (.int r) (hr r r0 r1)
        · exact hk c o (fun z => nf (.inl ⟨a, b, rfl, .inl z⟩)) (fun z => nf (.inl ⟨a, b, rfl, .inr z⟩)) e
        · exact hk c o (ne e).1 (ne e).2 (fm.sub.h c o e m)
        · cases eg : G c with
          | none => rfl
          | some u =>
            have := fm.there eg
            cases eh : H c with
            | none => exact absurd eh this
            | some o => rw [hk c o (ne eg).1 (ne eg).2 eh] at e; cases e
        · cases e
          exact ⟨dk', n1, n2, g1, g2⟩
/-- the law: its first statement makes the deck, the rest runs by a mirror -/
theorem law_j {P : Program} {w : World} {K : PySem.W.Frag} {mg : Str → Option Value} {base : Heap} {k : Nat} {x qual y z : Str} {st : Stmt} {f fk : Addr} {fd fkd : FuncData} {N : List Str} {px pn pc ps : Pos} {rest : List Stmt} {dx : Str} {pks : List Str} {m : Type → Type} [Mo m] {M : m D} (Fu : Fun K x qual st f fd) (S : FnScope N [y] (defScope st)) (Fk : FnG P w K mg base k fk fkd pks (spDeck K)) (bk : Binds K fkd pks []) (mk : mg dx = some (.ref fk))
    (hbody : defBody st = .Assign [.Name z px] (.Call (.Name dx pn) [.Name y pc] [] ps) pos :: rest) (hN0 : N[0]? = some y) (hN1 : N[1]? = some z)
    (hset : ∀ (cdv : Value) (A : Around) (outer : List Env) (s : Shared) (H : Hp) (E : XK), Room k (A.deeper (envOfC qual (defScope st) s.heap.objs.size f cdv)) → A.guards = some [] →
      PS (cxOf CX0 P w K mg base N qual (defScope st) f cdv A outer s H E).nox (.Assign [.Name z px] (.Call (.Name dx pn) [.Name y pc] [] ps) pos) (tAsg (fun σ H Q => tCons (tVar 0) tNil σ H fun vs H1 => spDeck K vs H1 Q E0) (gName 1)))
    (hrest : ∀ (cdv : Value) (A : Around) (outer : List Env) (s : Shared) (H : Hp) (E : XK), Room k (A.deeper (envOfC qual (defScope st) s.heap.objs.size f cdv)) → A.guards = some [] →
      FJ (cxOf CX0 P w K mg base N qual (defScope st) f cdv A outer s H E).nox X0 true rest (.any :: .deck :: List.replicate (N.length - 2) .any) M)
    (hM : Mo.sat M 0 (fun d _ => d = .bool true) (fun _ _ => False)) : FnG P w K mg base (k + 1) f fd [y] (spLaw K) := by
  refine fng_of Fu S (fun vs H Q E ⟨a, ns, e, _⟩ => by rw [e]; rfl) fun cdv A outer s H vs Q E hr gu ⟨a, ns, e, hS, hQ⟩ => ?_
  subst e
  rw [hbody]
  refine ⟨_, pss_cons (hset cdv A outer s H E hr gu) (hrest cdv A outer s H E hr gu), ?_⟩
  refine ⟨.ref a, ?_, a, ns, rfl, hS, fun x1 y1 H' sm dk => ?_⟩
  · unfold L2.start
    cases N with
    | nil => cases hN0
    | cons _ _ => rfl
  · have hx : H' x1 ≠ none ∧ H' y1 ≠ none := by
      obtain ⟨cs, c, h1, h2, _⟩ := dk
      exact ⟨by rw [h1]; simp, by rw [h2]; simp⟩
    refine ⟨⟨H', fun _ => none, some (x1, y1), fun _ => none⟩, fun _ => none, 0, _, _, ⟨⟨fun c o e _ => e, ⟨fun c o e => (nomatch e), fun _ _ => rfl⟩, fun c o e => (nomatch e), ⟨fun _ _ _ e => (nomatch e), fun _ _ _ _ _ e => (nomatch e), fun _ _ e => (nomatch e)⟩, fun _ _ => rfl, (fun c o e => nomatch e), fun c _ _ => rfl, fun a' b' e => ?_⟩, ?_, fun i d e => ?_, ⟨fun _ => 0, fun i j ds es e => ?_, fun i ds e => ?_⟩, fun i e => ?_, fun i _ _ _ e2 => ?_⟩, hM, fun v H2 G2 d n2 _ dv p => ?_, fun _ σ2 H2 G2 n2 _ p => ?_, fun _ _ _ _ _ _ _ z => z.elim⟩
    · cases e
      exact ⟨dk, hx.1, hx.2, rfl, rfl⟩
    · match N, hN1 with
      | n0 :: n1 :: N', _ => simp [L2.start]
    · match i with
      | 0 => cases e
      | 1 => cases e
      | i + 2 =>
        simp only [List.getElem?_cons_succ] at e
        rw [List.getElem?_replicate] at e
        split at e <;> cases e
    · match i with
      | 0 => cases e
      | 1 => cases e
      | i + 2 =>
        simp only [List.getElem?_cons_succ] at e
        rw [List.getElem?_replicate] at e
        split at e <;> cases e
    · match i with
      | 0 => cases e
      | 1 => cases e
      | i + 2 =>
        simp only [List.getElem?_cons_succ] at e
        rw [List.getElem?_replicate] at e
        split at e <;> cases e
    · match i with
      | 0 => cases e
      | 1 =>
        refine ⟨x1, y1, rfl, ?_⟩
        match N, hN1 with
        | n0 :: n1 :: N', _ => simp [L2.start]
      | i + 2 =>
        simp only [List.getElem?_cons_succ] at e
        rw [List.getElem?_replicate] at e
        split at e <;> cases e
    · match i with
      | 0 => cases e2
      | 1 => cases e2
      | i + 2 =>
        simp only [List.getElem?_cons_succ] at e2
        rw [List.getElem?_replicate] at e2
        split at e2 <;> cases e2
    · subst p
      cases dv
      exact hQ H2
    · cases p
end DD
namespace DD
open PySem PySem.Spec PyProof.Rows L2
/-! ### the deck's own code: what it means -/
def rAbs : List V → Hp → VK → Prop := fun xs H Q => ∃ i, xs = [.int i] ∧ Q (.int (if i < 0 then -i else i)) H
def deckT (K : PySem.W.Frag) (c : Int) : TS := tRet (tLst (tCons (tLc (iList K (tSl (rSlL K) (tVar 0) tNoPart (tPart (tC (.int c))))) (gName 1) tYes (tCB rAbs (tCons (tVar 1) tNil)) [1]) (tCons (tC (.int 0)) tNil)))
theorem cut_map (ns : List Int) (lo hi : Option Int) : ∃ ms : List Int, cutV (ns.map V.int) lo hi = ms.map V.int := by
  refine ⟨(ns.drop (HT.sIx (ns.map V.int).length 0 lo)).take (HT.sIx (ns.map V.int).length (ns.map V.int).length hi - HT.sIx (ns.map V.int).length 0 lo), ?_⟩
  unfold cutV
  rw [List.map_take, List.map_drop]
theorem cut63 (xs : List V) {c : Int} (h0 : 0 ≤ c) (h1 : c ≤ 63) : (cutV xs none (some c)).length ≤ 63 := by
  unfold cutV
  rw [List.length_take, List.length_drop]
  have : HT.sIx xs.length xs.length (some c) ≤ 63 := by
    unfold HT.sIx
    simp only
    rw [if_neg (by omega)]
    omega
  omega
theorem same_new {H : Hp} {p : Addr} (h : H p = none) (o : HO) : Same H (upd H p o) := same_upd h
theorem line63 {n : Nat} (h : n ≤ 1000) : n ≤ sizeLine := Nat.le_trans h (by decide)
theorem deck_ok {K : PySem.W.Frag} {c : Int} (h0 : 0 ≤ c) (h1 : c ≤ 63) {De : Ends} {σ : L2.St} {H : Hp} {a : Addr} {ns : List Int} (hl : 1 < σ.length) (hσ : σ[0]? = some (some (.ref a))) (hS : SqL K H a (ns.map V.int))
    (q : ∀ (x y : Addr) (H' : Hp), Same H H' → DeckAt H' x y 0 → De.rt (.ref x) H') : deckT K c De σ H := by
  obtain ⟨ms, hms⟩ := cut_map ns none (some c)
  have hm63 : ms.length ≤ 63 := by
    have := cut63 (ns.map V.int) h0 h1
    rw [hms, List.length_map] at this
    exact this
  refine ⟨.ref a, hσ, c, rfl, a, _, rfl, hS, fun p hp => ⟨p, rfl, ⟨_, SqL.of upd_same⟩, fun A hA => ?_⟩⟩
  rw [hms] at hA ⊢
  have hpA : p ≠ A := fun e => by rw [← e, upd_same] at hA; cases hA
  refine ⟨fun i m H2 => ∃ acc : List Int, acc.length = i ∧ m + i = ms.length ∧ (∀ x ∈ acc, 0 ≤ x) ∧ H2 A = some (.lst (acc.map V.int)) ∧ H2 p = some (.lst (ms.map V.int)) ∧ Same H H2, ⟨ms.length, [], rfl, rfl, by simp, upd_same, by rw [upd_ne hpA, upd_same], (same_new hp _).trans (same_new hA _)⟩, ?_⟩
  rintro i m H2 ⟨acc, e1, e2, e3, e4, e5, e6⟩
  have Hlt : Same H H2 := e6
  by_cases hi : i = ms.length
  · refine .inl ⟨⟨_, SqL.of e5, by rw [List.length_map]; omega⟩, (by show 2 ≤ sizeLine; decide), fun z hz => q z A _ (e6.trans (same_new hz _)) ?_⟩
    have hzA : A ≠ z := fun e => by rw [← e, e4] at hz; cases hz
    exact ⟨acc, 0, upd_same, by rw [upd_ne hzA]; exact e4, hzA.symm, by omega, by omega, e3, by omega⟩
  · have hi' : i < ms.length := by omega
    refine .inr ⟨⟨_, .int ms[i], SqL.of e5, by rw [List.getElem?_map, List.getElem?_eq_getElem hi']; rfl⟩, fun H' => ∃ acc : List Int, acc.length = i + 1 ∧ (m - 1) + (i + 1) = ms.length ∧ (∀ x ∈ acc, 0 ≤ x) ∧ H' A = some (.lst (acc.map V.int)) ∧ H' p = some (.lst (ms.map V.int)) ∧ Same H H', fun H' h => ⟨m - 1, by omega, h⟩, ?_⟩
    rintro x H' ⟨rfl, hy⟩
    have hx := hy _ (SqL.of e5)
    rw [List.getElem?_map, List.getElem?_eq_getElem hi'] at hx
    cases hx
    refine ⟨by simp [wipe], ?_⟩
    refine ⟨.int ms[i], by simp [wipe, hl], ms[i], rfl, acc.map V.int, e4, ?_, acc ++ [if ms[i] < 0 then -ms[i] else ms[i]], by simp [e1], by omega, fun y hy => ?_, ?_, ?_, ?_⟩
    · rw [List.length_map]
      exact Nat.lt_of_lt_of_le (show acc.length < 1000 by omega) (line63 (Nat.le_refl _))
    · rcases List.mem_append.mp hy with hy | hy
      · exact e3 y hy
      · rw [List.mem_singleton.mp hy]
        split <;> omega
    · rw [upd_same, List.map_append]
      rfl
    · rw [upd_ne hpA]
      exact e5
    · intro b o hb
      by_cases hbA : b = A
      · subst hbA
        have h9 : upd H p (HO.lst (ms.map V.int)) b = some o := by rw [upd_ne (fun e => hpA e.symm)]; exact hb
        rw [h9] at hA
        cases hA
      · rw [upd_ne hbA]
        exact e6 b o hb
/-- a comprehension's scope, checked -/
def blkB (N : List Str) (sc scope : Scope) (own : List (Str × Nat)) : Bool :=
  decide (scope.kind = .function) && scope.names.all (fun y => decide (scope.names.lookup y.1 = some y.2)) && own.all (fun p => decide (N[p.2]? = some p.1)) &&
  scope.names.all (fun y => !decide (y.2 = .free) || (decide (sc.names.lookup y.1 = some .cell) || decide (sc.names.lookup y.1 = some .free))) &&
  scope.names.all (fun y => !(decide (y.2 = .local) || decide (y.2 = .cell)) || (decide (y.1 ∈ own.map (·.1)) || !decide (y.1 ∈ N)))
theorem blk_of {N : List Str} {sc scope : Scope} {own : List (Str × Nat)} (h : blkB N sc scope own = true) : BlkOk N sc scope own := by
  unfold blkB at h
  simp only [Bool.and_eq_true, List.all_eq_true, Bool.or_eq_true, Bool.not_eq_true', decide_eq_true_eq, decide_eq_false_iff_not, Bool.or_eq_false_iff] at h
  obtain ⟨⟨⟨⟨h1, h2⟩, h3⟩, h4⟩, h5⟩ := h
  refine ⟨h1, h2, h3, fun y hy e => ?_, fun y hy e => ?_⟩
  · rcases h4 y hy with z | z
    · exact absurd e z
    · exact z
  · rcases h5 y hy with z | z
    · rcases e with e | e
      · exact absurd e z.1
      · exact absurd e z.2
    · exact z
theorem atI_at {α : Type} {xs : List α} {i : Int} {j : Nat} {x : α} (h : i = (j : Int)) (e : xs[j]? = some x) : atI xs i = some x := by
  subst h
  exact atI_nat e
theorem ixN_at {n : Nat} {i : Int} {j : Nat} (h : i = (j : Int)) (e : j < n) : ixN n i = some j := by
  subst h
  unfold ixN
  rw [if_pos (by omega), if_pos (by omega)]
  simp
abbrev rPlus : R2 := rI0 fun i j => .int (i + j)
abbrev rTimes : R2 := rI CMul fun i j => .int (i * j)
abbrev rOver : R2 := rI CDiv fun i j => .int (i / j)
abbrev rMod : R2 := rI (fun _ j => 0 < j) fun i j => .int (i % j)
abbrev rPow : R2 := rI CPow fun i j => .int (i ^ j.toNat)
abbrev rLenQ (K : PySem.W.Frag) : List V → Hp → VK → Prop := fun xs H Q => ∃ p ys, xs = [.ref p] ∧ (SqL K H p ys ∨ SqT K H p ys) ∧ Q (.int ys.length) H
abbrev dIx (K : PySem.W.Frag) (i : Int) : TE := tOp (rIxL K) (tVar 0) (tC (.int i))
/-- the last statements of a draw: a long cell is cut, a short one is mixed (t: the mixing) -/
def drawTail (K : PySem.W.Frag) (t : TE) : TS :=
  tSeq (tIfS (tTest (tOp (rI0 fun i j => .bl (decide (j ≤ i))) (tVar 2) (tOp rPow (tC (.int 10)) (tC (.int 18)))))
    (tSeq (tAsg (tOp rOver (tVar 2) (tVar 1)) (gSub (dIx K 0) (tVar 3) rSetL)) (tRet (tOp rMod (tVar 2) (tVar 1)))) tNext) (tRet t)
def drawMid (K : PySem.W.Frag) : TS := tIfS (tTest (tOp (rI0 fun i j => .bl (decide (j < i))) (tCB (rLenQ K) (tCons (dIx K 0) tNil)) (tC (.int 0))))
  (tSeq (tAsg (tOp rMod (dIx K 1) (tCB (rLenQ K) (tCons (dIx K 0) tNil))) (gName 3)) (tAsg (tOp (rIxL K) (dIx K 0) (tVar 3)) (gName 2))) tNext
def drawInc (K : PySem.W.Frag) : TS := tAsg (tOp rPlus (dIx K 1) (tC (.int 1))) (gSub (tVar 0) (tC (.int 1)) rSetL)
/-- what the mixing must do -/
def Mixes (K : PySem.W.Frag) (t : TE) : Prop := ∀ (a b : Addr) (many cell ix c : Int) (H : Hp) (Q : VK), H a = some (.lst [.ref b, .int c]) → 0 < many → many < 1073741824 → 0 ≤ cell → 0 ≤ c → c < 2 ^ 41 → (∀ r : Int, 0 ≤ r → r < many → Q (.int r) H) → t [some (.ref a), some (.int many), some (.int cell), some (.int ix)] H Q
section
variable {K : PySem.W.Frag} {De : Ends} {H : Hp} {a b : Addr} {n : Nat} {many : Int} {cells : List Int} {c : Int}
theorem tail_ok {t : TE} (hm : Mixes K t) {cell ix : Int} (h1 : H a = some (.lst [.ref b, .int c])) (h2 : H b = some (.lst (cells.map V.int))) (hab : a ≠ b) (c0 : 0 ≤ c) (c1 : c ≤ (n : Int)) (cn : c < 2 ^ 41) (hc : ∀ x ∈ cells, 0 ≤ x) (h63 : cells.length ≤ 63) (m0 : 0 < many) (m1 : many < 1073741824)
    (p0 : 0 ≤ cell) (p1 : (10 : Int) ^ (18 : Int).toNat ≤ cell → ∃ j : Nat, ix = (j : Int) ∧ j < cells.length)
    (q : ∀ (r : Int) (H' : Hp), 0 ≤ r → r < many → DeckAt H' a b n → (∀ z o, z ≠ a → z ≠ b → H z = some o → H' z = some o) → De.rt (.int r) H') : drawTail K t De [some (.ref a), some (.int many), some (.int cell), some (.int ix)] H := by
  have hba : b ≠ a := fun e => hab e.symm
  refine ⟨.int cell, rfl, 10, 18, rfl, rfl, ⟨by decide, by decide, by decide⟩, cell, _, rfl, rfl, _, rfl, ?_⟩
  refine ite2 (fun hge => ?_) (fun _ => ?_)
  · obtain ⟨j, rfl, hj⟩ := p1 (of_decide_eq_true hge)
    refine ⟨.int cell, rfl, .int many, rfl, cell, many, rfl, rfl, ⟨m0, m1⟩, .ref a, rfl, a, _, 0, .ref b, rfl, rfl, SqL.of h1, rfl, .int (j : Int), rfl, b, cells.map V.int, j, j, rfl, rfl, h2, ixN_at rfl (by rw [List.length_map]; exact hj), ?_⟩
    refine ⟨.int cell, rfl, .int many, rfl, cell, many, rfl, rfl, m0, ?_⟩
    refine q _ _ (Int.emod_nonneg _ (by omega)) (Int.emod_lt_of_pos _ m0) ⟨cells.set j (cell / many), c, by rw [upd_ne hab]; exact h1, ?_, hab, c0, c1, fun x hx => ?_, by rw [List.length_set]; exact h63⟩ fun z o _ zb e => by rw [upd_ne zb]; exact e
    · rw [upd_same, List.map_set]
    · rcases List.mem_or_eq_of_mem_set hx with hx | rfl
      · exact hc x hx
      · exact Int.ediv_nonneg p0 (by omega)
  · exact hm a b many cell ix c H _ h1 m0 m1 p0 c0 cn fun r r0 r1 => q r H r0 r1 ⟨cells, c, h1, h2, hab, c0, c1, hc, h63⟩ fun _ _ _ _ e => e
theorem mid_ok {u : TS} (h1 : H a = some (.lst [.ref b, .int c])) (h2 : H b = some (.lst (cells.map V.int))) (c0 : 0 ≤ c) (hc : ∀ x ∈ cells, 0 ≤ x)
    (q : ∀ cell ix : Int, 0 ≤ cell → ((10 : Int) ^ (18 : Int).toNat ≤ cell → ∃ j : Nat, ix = (j : Int) ∧ j < cells.length) → u De [some (.ref a), some (.int many), some (.int cell), some (.int ix)] H) :
    tSeq (drawMid K) u De [some (.ref a), some (.int many), some (.int 0), some (.int (-1))] H := by
  refine ⟨.ref a, rfl, a, _, 0, .ref b, rfl, rfl, SqL.of h1, rfl, b, _, rfl, .inl (SqL.of h2), ((cells.map V.int).length : Int), 0, rfl, rfl, _, rfl, ?_⟩
  refine ite2 (fun hgt => ?_) (fun _ => q 0 (-1) (by omega) fun h => absurd h (by decide))
  have hl : 0 < cells.length := by
    have := of_decide_eq_true hgt
    rw [List.length_map] at this
    omega
  have e0 : 0 ≤ c % ((cells.map V.int).length : Int) := Int.emod_nonneg _ (by rw [List.length_map]; omega)
  have e1 : c % ((cells.map V.int).length : Int) < cells.length := by
    have := Int.emod_lt_of_pos c (show 0 < ((cells.map V.int).length : Int) by rw [List.length_map]; omega)
    rw [List.length_map] at this ⊢
    exact this
  obtain ⟨j, hj⟩ : ∃ j : Nat, c % ((cells.map V.int).length : Int) = (j : Int) := ⟨_, (Int.toNat_of_nonneg e0).symm⟩
  have hj' : j < cells.length := by omega
  refine ⟨.ref a, rfl, a, _, 1, .int c, rfl, rfl, SqL.of h1, rfl, .ref a, rfl, a, _, 0, .ref b, rfl, rfl, SqL.of h1, rfl, b, _, rfl, .inl (SqL.of h2), c, ((cells.map V.int).length : Int), rfl, rfl, by rw [List.length_map]; omega, ?_⟩
  refine ⟨.ref a, rfl, a, _, 0, .ref b, rfl, rfl, SqL.of h1, rfl, .int (c % ((cells.map V.int).length : Int)), rfl, b, cells.map V.int, c % ((cells.map V.int).length : Int), .int cells[j], rfl, rfl, SqL.of h2, atI_at hj (by rw [List.getElem?_map, List.getElem?_eq_getElem hj']; rfl), ?_⟩
  exact q cells[j] (c % ((cells.map V.int).length : Int)) (hc _ (List.getElem_mem hj')) fun _ => ⟨j, hj, hj'⟩
theorem inc_ok {u : TS} {x y : Option V} (dk : DeckAt H a b n) (q : ∀ (cells : List Int) (c : Int) (H' : Hp), H' a = some (.lst [.ref b, .int c]) → H' b = some (.lst (cells.map V.int)) → a ≠ b → 0 ≤ c → c ≤ ((n + 1 : Nat) : Int) → (∀ x ∈ cells, 0 ≤ x) → cells.length ≤ 63 → (∀ z o, z ≠ a → z ≠ b → H z = some o → H' z = some o) → u De [some (.ref a), some (.int many), x, y] H') :
    tSeq (drawInc K) u De [some (.ref a), some (.int many), x, y] H := by
  obtain ⟨cells, c, h1, h2, hab, c0, c1, hc, h63⟩ := dk
  refine ⟨.ref a, rfl, a, _, 1, .int c, rfl, rfl, SqL.of h1, rfl, c, 1, rfl, rfl, .ref a, rfl, a, [.ref b, .int c], 1, 1, rfl, rfl, h1, rfl, ?_⟩
  have hba : b ≠ a := fun e => hab e.symm
  exact q cells (c + 1) _ upd_same (by rw [upd_ne hba]; exact h2) hab (by omega) (by omega) hc h63 fun z o e1 _ e => by rw [upd_ne e1]; exact e
end
end DD
namespace DD
open PySem PySem.Spec PyProof.Rows L2
/-! ### mirrors' words -/
section
variable {m : Type → Type} [Mo m]
abbrev op2 (f : D → D → Option D) (x y : m D) : m D := x >>= fun dx => y >>= fun dy => Mo.lift (f dx dy)
abbrev op1 (f : D → Option D) (x : m D) : m D := x >>= fun d => Mo.lift (f d)
abbrev cmp2 (f : D → D → Option D) (x y : m D) : m Bool := x >>= fun dx => y >>= fun dy => Mo.lift ((f dx dy).bind boolD)
abbrev chain3 (f f' : D → D → Option D) (x y z : m D) : m D := x >>= fun dx => y >>= fun dy => Mo.lift ((f dx dy).bind boolD) >>= fun k => if k = true then (z >>= fun dz => Mo.lift (f' dy dz)) else pure (.bool false)
abbrev tst (x : m D) : m Bool := x >>= fun d => Mo.lift (boolD d)
abbrev notB (x : m Bool) : m Bool := x >>= fun b => pure (!b)
abbrev andB (x y : m Bool) : m Bool := x >>= fun k => if k = true then y else pure false
abbrev orB (x y : m Bool) : m Bool := x >>= fun k => if k = true then pure true else y
abbrev andD (x y : m D) : m D := x >>= fun d => Mo.lift (boolD d) >>= fun k => if k = true then y else pure (.bool false)
abbrev orD (x y : m D) : m D := x >>= fun d => Mo.lift (boolD d) >>= fun k => if k = true then pure (.bool true) else y
abbrev iteM {α : Type} (t : m Bool) (x y : m α) : m α := t >>= fun k => if k = true then x else y
abbrev consM (x : m D) (y : m (List D)) : m (List D) := x >>= fun d => y >>= fun ds => pure (d :: ds)
abbrev starM (x : m D) (y : m (List D)) : m (List D) := x >>= fun d => Mo.lift (itemsD d) >>= fun as => y >>= fun ds => pure (as ++ ds)
abbrev smallM (x : m (List D)) : m (List D) := x >>= fun ds => Mo.lift (small ds)
abbrev tupM (x : m (List D)) : m D := x >>= fun ds => pure (.tuple ds)
abbrev tupSM (x : m (List D)) : m D := x >>= fun ds => Mo.lift (small ds) >>= fun ds => pure (.tuple ds)
abbrev lstM (x : m (List D)) : m D := x >>= fun ds => pure (.list ds)
abbrev argV (x : m D) (y : m (List Sl)) : m (List Sl) := x >>= fun d => y >>= fun as => pure (.val d :: as)
abbrev argK (y : m (List Sl)) : m (List Sl) := y >>= fun as => pure (.deck :: as)
abbrev comp1 (x : m (List D)) (f : D → m D) : m (List D) := x >>= fun ds => Mo.lift (small ds) >>= fun ds => lcA (fun d => someM (f d)) ds []
abbrev comp1i (x : m (List D)) (t : D → m Bool) (f : D → m D) : m (List D) := x >>= fun ds => Mo.lift (small ds) >>= fun ds => lcA (fun d => ifM (t d) (f d)) ds []
abbrev comp2 (x : m (List D)) (f : D → D → m D) : m (List D) := x >>= fun ds => Mo.lift (small ds) >>= fun ds => lcA (fun d => pairM d fun a b => someM (f a b)) ds []
abbrev comp2i (x : m (List D)) (t : D → D → m Bool) (f : D → D → m D) : m (List D) := x >>= fun ds => Mo.lift (small ds) >>= fun ds => lcA (fun d => pairM d fun a b => ifM (t a b) (f a b)) ds []
abbrev seqM (x : m D) : m (List D) := x >>= fun d => Mo.lift (itemsD d)
abbrev rng1 (x : m D) : m (List D) := x >>= fun d => Mo.lift (rangeD1 d)
abbrev rng2 (x y : m D) : m (List D) := x >>= fun d => y >>= fun e => Mo.lift (rangeD2 d e)
abbrev zipSM (x : m D) : m (List D) := x >>= fun d => Mo.lift ((itemsD d).bind zipD)
abbrev zip2M (x y : m D) : m (List D) := x >>= fun d => y >>= fun e => Mo.lift (zipD [d, e])
abbrev zip3M (x y z : m D) : m (List D) := x >>= fun d => y >>= fun e => z >>= fun f => Mo.lift (zipD [d, e, f])
abbrev partM (x : m D) : m (Option Int) := x >>= fun d => Mo.lift (oint d)
abbrev slcM (x : m D) (y z : m (Option Int)) : m D := x >>= fun d => y >>= fun l => z >>= fun h => Mo.lift (sliceD d l h)
abbrev isiM (T : String) (x : m D) : m D := x >>= fun d => pure (.bool (isiB T d))
abbrev rtM {A : Type} (x : m D) : m (Fl A) := x >>= fun d => pure (.rt d)
abbrev forM1 {A : Type} (x : m (List D)) (a0 : A) (b : D → A → m (Fl A)) : m (Fl A) := x >>= fun ds => loopM b ds a0
abbrev forM2 {A : Type} (x : m (List D)) (a0 : A) (b : D → D → A → m (Fl A)) : m (Fl A) := x >>= fun ds => loopM (fun d a => pairM d fun u w => b u w a) ds a0
abbrev parM {α β : Type} (x : m α) (y : m β) : m (α × β) := x >>= fun d => y >>= fun e => pure (d, e)
def pairD : D → Option (D × D)
  | .tuple [a, b] => some (a, b)
  | _ => none
def tripD : D → Option (D × D × D)
  | .tuple [a, b, c] => some (a, b, c)
  | _ => none
abbrev unp2 (x : m D) : m (D × D) := x >>= fun d => Mo.lift (pairD d)
abbrev unp3 (x : m D) : m (D × D × D) := x >>= fun d => Mo.lift (tripD d)
end
abbrev upW (o : Option D) : W D := Up.up (m' := Option) (m := W) o
/-! ### defs by their names -/
structure Def (P : Program) (w : World) (K : PySem.W.Frag) (mg : Str → Option Value) (base : Heap) (k : Nat) (x : Str) (ps : List Str) (sp : Sp) : Prop where
  ex : ∃ f fd, FnG P w K mg base k f fd ps sp ∧ mg x = some (.ref f) ∧ PySem.W.keepIn K (.ref f) = true ∧ Binds K fd ps []
section
variable {m : Type → Type} [Mo m] {A : Type} {X : Cx} {EX : XR} {g : List Sl} {k : Nat} {ps : List Str}
theorem ej_callD {x : Str} {p pos : Pos} {e : Expr} {es : List Expr} {F : List Sl → m D} {y : m (List Sl)} [Calm m] (Fn : Def X.prog X.w X.K X.mg X.base k x ps (spJ X.K F)) (hr : Room k X.A) (gu : X.A.guards = some [])
    (ha : AJ X EX (e :: es) g y) (hg : Gl X x := by rfl) (hd : (x == ("__debug__" : Str)) = false := by decide) (he : starEach (e :: es) X.env = (false, eval e X.env) :: starEach es X.env := by rfl) (hpl : (backTo pos (starEach es X.env)).any (·.1) = false := by rfl) :
    EJ X EX (.Call (.Name x p) (e :: es) [] pos) g (y >>= F) := by
  obtain ⟨f, fd, h1, h2, h3, h4⟩ := Fn.ex
  exact ej_call h1 hr gu h2 h3 h4 ha hg hd he hpl
theorem units_of {A : Around} {k : Nat} (h : Room k A) : A.units + 64 < cLine := by
  have := h.un
  omega
end
section
variable {m : Type → Type} [Mo m] {P : Program} {w : World} {K : PySem.W.Frag} {mg : Str → Option Value} {base : Heap} {k : Nat} {x qual : Str} {st : Stmt} {f : Addr} {fd : FuncData} {N ps : List Str}
def ar1 (F : D → m D) : List Sl → m D
  | [.val a0] => F a0
  | _ => Mo.lift none
theorem fn_ar1 {F : D → m D} (Fu : Fun K x qual st f fd) (S : FnScope N ps (defScope st)) (hl : ps.length = 1)
    (hb : ∀ (a0 : D), ∀ (cdv : Value) (A : Around) (outer : List Env) (s : Shared) (H : Hp) (E : XK), Room k (A.deeper (envOfC qual (defScope st) s.heap.objs.size f cdv)) → A.guards = some [] →
      FJ (cxOf CX0 P w K mg base N qual (defScope st) f cdv A outer s H E).nox X0 true (defBody st) ([Sl.val a0] ++ List.replicate (N.length - 1) .any) (F a0)) : FnG P w K mg base (k + 1) f fd ps (spJ K (ar1 F)) := by
  refine fn_j Fu S fun as n φ s => ?_
  unfold ar1 at s
  split at s
  · exact ⟨hl.symm, hb _⟩
  · obtain ⟨_, e, _⟩ := Mo.sat_lift s
    cases e
def ar2 (F : D → D → m D) : List Sl → m D
  | [.val a0, .val a1] => F a0 a1
  | _ => Mo.lift none
theorem fn_ar2 {F : D → D → m D} (Fu : Fun K x qual st f fd) (S : FnScope N ps (defScope st)) (hl : ps.length = 2)
    (hb : ∀ (a0 : D) (a1 : D), ∀ (cdv : Value) (A : Around) (outer : List Env) (s : Shared) (H : Hp) (E : XK), Room k (A.deeper (envOfC qual (defScope st) s.heap.objs.size f cdv)) → A.guards = some [] →
      FJ (cxOf CX0 P w K mg base N qual (defScope st) f cdv A outer s H E).nox X0 true (defBody st) ([Sl.val a0, Sl.val a1] ++ List.replicate (N.length - 2) .any) (F a0 a1)) : FnG P w K mg base (k + 1) f fd ps (spJ K (ar2 F)) := by
  refine fn_j Fu S fun as n φ s => ?_
  unfold ar2 at s
  split at s
  · exact ⟨hl.symm, hb _ _⟩
  · obtain ⟨_, e, _⟩ := Mo.sat_lift s
    cases e
def ar3 (F : D → D → D → m D) : List Sl → m D
  | [.val a0, .val a1, .val a2] => F a0 a1 a2
  | _ => Mo.lift none
theorem fn_ar3 {F : D → D → D → m D} (Fu : Fun K x qual st f fd) (S : FnScope N ps (defScope st)) (hl : ps.length = 3)
    (hb : ∀ (a0 : D) (a1 : D) (a2 : D), ∀ (cdv : Value) (A : Around) (outer : List Env) (s : Shared) (H : Hp) (E : XK), Room k (A.deeper (envOfC qual (defScope st) s.heap.objs.size f cdv)) → A.guards = some [] →
      FJ (cxOf CX0 P w K mg base N qual (defScope st) f cdv A outer s H E).nox X0 true (defBody st) ([Sl.val a0, Sl.val a1, Sl.val a2] ++ List.replicate (N.length - 3) .any) (F a0 a1 a2)) : FnG P w K mg base (k + 1) f fd ps (spJ K (ar3 F)) := by
  refine fn_j Fu S fun as n φ s => ?_
  unfold ar3 at s
  split at s
  · exact ⟨hl.symm, hb _ _ _⟩
  · obtain ⟨_, e, _⟩ := Mo.sat_lift s
    cases e
def ar4 (F : D → D → D → D → m D) : List Sl → m D
  | [.val a0, .val a1, .val a2, .val a3] => F a0 a1 a2 a3
  | _ => Mo.lift none
theorem fn_ar4 {F : D → D → D → D → m D} (Fu : Fun K x qual st f fd) (S : FnScope N ps (defScope st)) (hl : ps.length = 4)
    (hb : ∀ (a0 : D) (a1 : D) (a2 : D) (a3 : D), ∀ (cdv : Value) (A : Around) (outer : List Env) (s : Shared) (H : Hp) (E : XK), Room k (A.deeper (envOfC qual (defScope st) s.heap.objs.size f cdv)) → A.guards = some [] →
      FJ (cxOf CX0 P w K mg base N qual (defScope st) f cdv A outer s H E).nox X0 true (defBody st) ([Sl.val a0, Sl.val a1, Sl.val a2, Sl.val a3] ++ List.replicate (N.length - 4) .any) (F a0 a1 a2 a3)) : FnG P w K mg base (k + 1) f fd ps (spJ K (ar4 F)) := by
  refine fn_j Fu S fun as n φ s => ?_
  unfold ar4 at s
  split at s
  · exact ⟨hl.symm, hb _ _ _ _⟩
  · obtain ⟨_, e, _⟩ := Mo.sat_lift s
    cases e
def dk1 (F : D → m D) : List Sl → m D
  | [.deck, .val a0] => F a0
  | _ => Mo.lift none
theorem fn_dk1 {F : D → m D} (Fu : Fun K x qual st f fd) (S : FnScope N ps (defScope st)) (hl : ps.length = 2)
    (hb : ∀ (a0 : D), ∀ (cdv : Value) (A : Around) (outer : List Env) (s : Shared) (H : Hp) (E : XK), Room k (A.deeper (envOfC qual (defScope st) s.heap.objs.size f cdv)) → A.guards = some [] →
      FJ (cxOf CX0 P w K mg base N qual (defScope st) f cdv A outer s H E).nox X0 true (defBody st) ([Sl.deck, Sl.val a0] ++ List.replicate (N.length - 2) .any) (F a0)) : FnG P w K mg base (k + 1) f fd ps (spJ K (dk1 F)) := by
  refine fn_j Fu S fun as n φ s => ?_
  unfold dk1 at s
  split at s
  · exact ⟨hl.symm, hb _⟩
  · obtain ⟨_, e, _⟩ := Mo.sat_lift s
    cases e
def dk2 (F : D → D → m D) : List Sl → m D
  | [.deck, .val a0, .val a1] => F a0 a1
  | _ => Mo.lift none
theorem fn_dk2 {F : D → D → m D} (Fu : Fun K x qual st f fd) (S : FnScope N ps (defScope st)) (hl : ps.length = 3)
    (hb : ∀ (a0 : D) (a1 : D), ∀ (cdv : Value) (A : Around) (outer : List Env) (s : Shared) (H : Hp) (E : XK), Room k (A.deeper (envOfC qual (defScope st) s.heap.objs.size f cdv)) → A.guards = some [] →
      FJ (cxOf CX0 P w K mg base N qual (defScope st) f cdv A outer s H E).nox X0 true (defBody st) ([Sl.deck, Sl.val a0, Sl.val a1] ++ List.replicate (N.length - 3) .any) (F a0 a1)) : FnG P w K mg base (k + 1) f fd ps (spJ K (dk2 F)) := by
  refine fn_j Fu S fun as n φ s => ?_
  unfold dk2 at s
  split at s
  · exact ⟨hl.symm, hb _ _⟩
  · obtain ⟨_, e, _⟩ := Mo.sat_lift s
    cases e
end
end DD
namespace DD
open PySem PySem.Spec PyProof.Rows L2
/-! ### reasoning about mirrors that draw: at most b draws, then φ -/
def Tri {α : Type} (b : Nat) (x : W α) (φ : α → Prop) : Prop := ∀ (n : Nat) (ψ : α → Nat → Prop), n + b ≤ 2 ^ 40 → (∀ a n', n' ≤ n + b → φ a → ψ a n') → x n ψ
section
variable {α β : Type} {b c : Nat}
theorem Tri.pure {a : α} {φ : α → Prop} (h : φ a) : Tri 0 (Pure.pure a : W α) φ := fun n ψ _ q => q a n (Nat.le_refl _) h
theorem Tri.bind {x : W α} {f : α → W β} {φ : α → Prop} {χ : β → Prop} (h : Tri b x φ) (hf : ∀ a, φ a → Tri c (f a) χ) : Tri (b + c) (x >>= f) χ := fun n ψ hn q =>
  h n (fun a n' => f a n' ψ) (by omega) fun a n' hn' ha => hf a ha n' ψ (by omega) fun a2 n2 h2 p2 => q a2 n2 (by omega) p2
theorem Tri.lift {o : Option α} {a : α} {φ : α → Prop} (e : o = some a) (h : φ a) : Tri 0 (Mo.lift o : W α) φ := fun n ψ _ q => ⟨a, e, q a n (Nat.le_refl _) h⟩
theorem Tri.mono {x : W α} {φ χ : α → Prop} (h : Tri b x φ) (hb : b ≤ c) (hp : ∀ a, φ a → χ a) : Tri c x χ := fun n ψ hn q => h n ψ (by omega) fun a n' hn' ha => q a n' (by omega) (hp a ha)
theorem Tri.le {x : W α} {φ : α → Prop} (h : Tri b x φ) (hb : b ≤ c) : Tri c x φ := h.mono hb fun _ z => z
theorem Tri.up {o : Option D} {a : D} {φ : D → Prop} (e : o = some a) (h : φ a) : Tri 0 (upW o) φ := fun n ψ _ q => ⟨a, e, q a n (Nat.le_refl _) h⟩
theorem Tri.draw {k : Int} (h0 : 0 < k) (h1 : k < 1073741824) : Tri 1 (drawW [.deck, .val (.int k)]) (fun d => ∃ r : Int, d = .int r ∧ 0 ≤ r ∧ r < k) := fun n ψ hn q =>
  ⟨k, rfl, h0, h1, by omega, fun r r0 r1 => q _ (n + 1) (Nat.le_refl _) ⟨r, rfl, r0, r1⟩⟩
theorem Tri.ite {t : Bool} {x y : W α} {φ : α → Prop} (h1 : t = true → Tri b x φ) (h2 : t = false → Tri b y φ) : Tri b (if t = true then x else y) φ := by
  cases t with
  | true => rw [if_pos rfl]; exact h1 rfl
  | false => rw [if_neg Bool.false_ne_true]; exact h2 rfl
/-- a comprehension without a test: one value of every turn -/
theorem Tri.comp {f : D → W D} {P : D → D → Prop} : ∀ (ds acc : List D), (∀ d ∈ ds, Tri c (f d) (P d)) → Tri (ds.length * c) (lcA (fun d => someM (f d)) ds acc) (fun out => ∃ es, out = acc ++ es ∧ es.length = ds.length ∧ ∀ (i : Nat) (d e : D), ds[i]? = some d → es[i]? = some e → P d e)
  | [], acc, _ => by
    have : Tri 0 (Pure.pure acc : W (List D)) (fun out => ∃ es, out = acc ++ es ∧ es.length = 0 ∧ ∀ (i : Nat) (d e : D), ([] : List D)[i]? = some d → es[i]? = some e → P d e) := Tri.pure ⟨[], by simp, rfl, fun i d e h => by simp at h⟩
    exact this.le (by omega)
  | d :: ds, acc, h => by
    have h1 : Tri c (someM (f d)) (fun o => ∃ e, o = some e ∧ P d e) := ((h d List.mem_cons_self).bind (c := 0) fun e he => Tri.pure ⟨e, rfl, he⟩).le (Nat.le_of_eq (Nat.add_zero c))
    refine (h1.bind (c := ds.length * c) fun o ⟨e, eo, he⟩ => ?_).le (by rw [List.length_cons, Nat.succ_mul]; omega)
    subst eo
    refine (Tri.comp ds (acc ++ (some e).toList) fun d hd => h d (List.mem_cons_of_mem _ hd)).mono (Nat.le_refl _) ?_
    rintro out ⟨es, rfl, el, q⟩
    refine ⟨e :: es, by simp, by simp [el], fun i d' e' h1 h2 => ?_⟩
    cases i with
    | zero => simp at h1 h2; subst h1 h2; exact he
    | succ i => exact q i d' e' (by simpa using h1) (by simpa using h2)
/-- behind a loop: it went on, or handed back -/
def Post {A : Type} (I : A → Prop) (R : D → Prop) : Fl A → Prop
  | .nx a => I a
  | .rt v => R v
/-- a loop with an invariant; R: what may be handed back from within -/
theorem Tri.loop {A : Type} {f : D → A → W (Fl A)} {I : List D → A → Prop} {R : D → Prop} (ds : List D) : ∀ a : A, I ds a → (∀ d r a, I (d :: r) a → Tri c (f d a) (Post (I r) R)) → Tri (ds.length * c) (loopM f ds a) (Post (I []) R) := by
  induction ds with
  | nil => exact fun a h _ => (Tri.pure (φ := Post (I []) R) (a := Fl.nx a) h).le (by omega)
  | cons d r ih =>
    intro a h hf
    refine ((hf d r a h).bind (c := r.length * c) fun z hz => ?_).le (by rw [List.length_cons, Nat.succ_mul]; omega)
    cases z with
    | nx a' => exact ih a' hz hf
    | rt v => exact (Tri.pure (φ := Post (I []) R) (a := Fl.rt v) hz).le (by omega)
/-- a loop that never hands back: what stands behind it -/
theorem Tri.thenB {A A' : Type} {x : W (Fl A)} {y : A → W (Fl A')} {I : A → Prop} {χ : Fl A' → Prop} (h : Tri b x (Post I fun _ => False)) (hy : ∀ a, I a → Tri c (y a) χ) : Tri (b + c) (x >>= fun f => DD.thenB f y) χ := h.bind fun z hz => by
  cases z with
  | nx a => exact hy a hz
  | rt v => exact hz.elim
theorem Tri.thenM {A : Type} {x : W (Fl A)} {y : A → W D} {I : A → Prop} {χ : D → Prop} (h : Tri b x (Post I fun _ => False)) (hy : ∀ a, I a → Tri c (y a) χ) : Tri (b + c) (x >>= fun f => DD.thenM f y) χ := h.bind fun z hz => by
  cases z with
  | nx a => exact hy a hz
  | rt v => exact hz.elim
theorem Tri.sat {x : W D} {φ : D → Prop} (h : Tri b x φ) (hb : b ≤ 2 ^ 40) : Mo.sat x 0 (fun d _ => φ d) (fun _ _ => False) := ⟨rfl, h 0 (fun d _ => φ d) (by omega) fun _ _ _ z => z⟩
end
/-! ### mirrors that do not draw -/
theorem lcA_map {f : D → Option D} {g : D → D} : ∀ (ds acc : List D), (∀ d ∈ ds, f d = some (g d)) → lcA (m := Option) (fun d => someM (f d)) ds acc = some (acc ++ ds.map g)
  | [], acc, _ => by simp [lcA]
  | d :: ds, acc, h => by
    show ((f d >>= fun y => Pure.pure (some y)) >>= fun o => lcA (m := Option) (fun d => someM (f d)) ds (acc ++ o.toList)) = _
    rw [h d List.mem_cons_self]
    show lcA (m := Option) (fun d => someM (f d)) ds (acc ++ [g d]) = _
    rw [lcA_map ds (acc ++ [g d]) fun d hd => h d (List.mem_cons_of_mem _ hd)]
    simp
/-! ### tuples of ints -/
abbrev tI (r : List Int) : D := .tuple (r.map .int)
abbrev tT (rows : List (List Int)) : D := .tuple (rows.map tI)
theorem ints_of : ∀ r : List Int, intsD (r.map .int) = some r
  | [] => rfl
  | i :: r => by
    show (intsD (r.map .int)).map (i :: ·) = _
    rw [ints_of r]
    rfl
theorem sum_tI (r : List Int) : sumD (tI r) = some (.int r.sum) := by
  show (intsD (r.map .int)).map _ = _
  rw [ints_of]
  rfl
theorem sum_lI (r : List Int) : sumD (.list (r.map .int)) = some (.int r.sum) := by
  show (intsD (r.map .int)).map _ = _
  rw [ints_of]
  rfl
theorem rows_of : ∀ rows : List (List Int), rowsD (rows.map tI) = some (rows.map fun r => r.map .int)
  | [] => rfl
  | r :: rows => by
    show (rowsD (rows.map tI)).map (r.map .int :: ·) = _
    rw [rows_of rows]
    rfl
/-! ### what repr shows -/
mutual
def smallB : D → Bool
  | .none => true
  | .bool _ => true
  | .int i => decide (i.natAbs < 10 ^ 20)
  | .str x => PyData.strOk x && decide ((PyData.str x).shown.length ≤ 28)
  | .list xs => smallAll xs
  | .tuple xs => smallAll xs
  | .dict _ => false
def smallAll : List D → Bool
  | [] => true
  | x :: xs => smallB x && smallAll xs
end
mutual
def nodes : D → Nat
  | .list xs => nodesAll xs + 1
  | .tuple xs => nodesAll xs + 1
  | _ => 1
def nodesAll : List D → Nat
  | [] => 0
  | x :: xs => nodes x + nodesAll xs
end
/-! ### drawing mirrors' shapes -/
theorem wb_pure {α β : Type} (a : α) (f : α → W β) : ((Pure.pure a : W α) >>= f) = f a := rfl
theorem wb_assoc {α β γ : Type} (x : W α) (f : α → W β) (g : β → W γ) : ((x >>= f) >>= g) = (x >>= fun a => f a >>= g) := rfl
theorem Tri.bindL {α β : Type} {c : Nat} {o : Option α} {a : α} {f : α → W β} {χ : β → Prop} (e : o = some a) (h : Tri c (f a) χ) : Tri c ((Mo.lift o : W α) >>= f) χ :=
  ((Tri.lift (φ := fun z => z = a) e rfl).bind fun z hz => hz ▸ h).le (Nat.le_of_eq (Nat.zero_add c))
theorem small_ok {ds : List D} (h : ds.length ≤ 1000000) : small ds = some ds := by
  unfold small
  rw [if_pos h]
theorem rangeL_length (lo : Int) (n : Nat) : (rangeL lo n).length = n := by simp [rangeL]
theorem range1_ok {k : Int} (h1 : k < 2 ^ 62) (h0 : -(2 ^ 62) < k) : rangeD1 (.int k) = some (rangeL 0 k.toNat) := by
  show (if k.natAbs < 2 ^ 62 then some (rangeL 0 k.toNat) else none) = _
  rw [if_pos (by omega)]
theorem ints_ex {P : Int → Prop} : ∀ es : List D, (∀ e ∈ es, ∃ r : Int, e = .int r ∧ P r) → ∃ rs : List Int, es = rs.map .int ∧ ∀ r ∈ rs, P r
  | [], _ => ⟨[], rfl, fun r h => by simp at h⟩
  | e :: es, h => by
    obtain ⟨r, rfl, hr⟩ := h e List.mem_cons_self
    obtain ⟨rs, rfl, hs⟩ := ints_ex es fun e he => h e (List.mem_cons_of_mem _ he)
    exact ⟨r :: rs, rfl, fun x hx => (List.mem_cons.mp hx).elim (fun z => z ▸ hr) (hs x)⟩
theorem rows_ex {P : List Int → Prop} : ∀ es : List D, (∀ e ∈ es, ∃ r : List Int, e = tI r ∧ P r) → ∃ rs : List (List Int), es = rs.map tI ∧ ∀ r ∈ rs, P r
  | [], _ => ⟨[], rfl, fun r h => by simp at h⟩
  | e :: es, h => by
    obtain ⟨r, rfl, hr⟩ := h e List.mem_cons_self
    obtain ⟨rs, rfl, hs⟩ := rows_ex es fun e he => h e (List.mem_cons_of_mem _ he)
    exact ⟨r :: rs, rfl, fun x hx => (List.mem_cons.mp hx).elim (fun z => z ▸ hr) (hs x)⟩
theorem eq_str (x y : Str) : eqD (.str x) (.str y) = some (.bool (decide (x = y))) := rfl
section
variable {α β : Type} {b c d : Nat}
theorem Tri.st {x : W α} {f : α → W β} {φ : α → Prop} {χ : β → Prop} (h : Tri b x φ) (hf : ∀ a, φ a → Tri (d - b) (f a) χ) (hd : b ≤ d := by decide) : Tri d (x >>= f) χ := (h.bind hf).le (by omega)
theorem Tri.dr {k : Int} {f : D → W β} {χ : β → Prop} (h0 : 0 < k) (h1 : k < 1073741824) (hf : ∀ r : Int, 0 ≤ r → r < k → Tri (d - 1) (f (.int r)) χ) (hd : 1 ≤ d := by decide) : Tri d (drawW [.deck, .val (.int k)] >>= f) χ :=
  (Tri.draw h0 h1).st (fun a ⟨r, e, r0, r1⟩ => e ▸ hf r r0 r1) hd
theorem Tri.loopR {A : Type} {f : D → A → W (Fl A)} {I : Nat → A → Prop} {R : D → Prop} {lo : Int} {n : Nat} {a : A} (h0 : I 0 a) (h : ∀ i a, i < n → I i a → Tri c (f (.int (lo + (i : Nat))) a) (Post (I (i + 1)) R)) : Tri (n * c) (loopM f (rangeL lo n) a) (Post (I n) R) := by
  have := Tri.loop (c := c) (f := f) (R := R) (I := fun ds a => ∃ i, i ≤ n ∧ ds = (rangeL lo n).drop i ∧ I i a) (rangeL lo n) a ⟨0, Nat.zero_le _, rfl, h0⟩ fun e r a ⟨i, hi, ei, hI⟩ => by
    have hl : i < n := by
      by_cases z : i < n
      · exact z
      · rw [List.drop_eq_nil_of_le (by rw [rangeL_length]; omega)] at ei
        cases ei
    rw [List.drop_eq_getElem_cons (by rw [rangeL_length]; exact hl)] at ei
    obtain ⟨e1, e2⟩ := List.cons.inj ei
    have e3 : (rangeL lo n)[i]'(by rw [rangeL_length]; exact hl) = .int (lo + (i : Nat)) := by simp [rangeL]
    rw [e1, e3]
    refine (h i a hl hI).mono (Nat.le_refl _) fun z hz => ?_
    cases z with
    | nx a' => exact ⟨i + 1, hl, e2, hz⟩
    | rt v => exact hz
  rw [rangeL_length] at this
  refine this.mono (Nat.le_refl _) fun z hz => ?_
  cases z with
  | nx a' =>
    obtain ⟨i, hi, ei, hI⟩ := hz
    have : n ≤ i := by
      have e := congrArg List.length ei
      rw [List.length_drop, rangeL_length] at e
      simp at e
      omega
    obtain rfl : i = n := by omega
    exact hI
  | rt v => exact hz
end
/-! ### columns -/
abbrev col (rows : List (List Int)) (i : Nat) : List Int := rows.map fun r => r.getD i 0
abbrev cols (rows : List (List Int)) (k : Nat) : List Int := (List.range k).map fun i => (col rows i).sum
theorem at_int {r : List Int} {i : Nat} (h : i < r.length) : getD (tI r) (.int (i : Nat)) = some (.int (r.getD i 0)) := by
  refine atI_at rfl ?_
  rw [List.getElem?_map, List.getElem?_eq_getElem h]
  simp [List.getD, h]
theorem getD_map {r : List Int} {i : Nat} (h : i < r.length) : (r.map PyData.int).getD i .none = .int (r.getD i 0) := by
  simp [List.getD, h]
theorem zip_rows {rows : List (List Int)} {k : Nat} (h1 : 1 ≤ rows.length) (h4 : rows.length ≤ 4) (hk : ∀ r ∈ rows, r.length = k) : zipD (rows.map tI) = some ((List.range k).map fun i => tI (col rows i)) := by
  cases rows with
  | nil => simp at h1
  | cons r rs =>
    have e : r.length = k := hk r List.mem_cons_self
    rw [zipD_old (r := r.map .int) (rs := rs.map fun r => r.map .int) (by rw [rows_of]; rfl)]
    · congr 1
      rw [List.length_map, e]
      refine List.map_congr_left fun i hi => ?_
      have hi' := List.mem_range.mp hi
      have all : ∀ xs : List (List Int), (∀ x ∈ xs, x.length = k) → (xs.map fun r => r.map PyData.int).map (fun x => x.getD i .none) = (col xs i).map .int := by
        intro xs hx
        rw [List.map_map, List.map_map]
        refine List.map_congr_left fun x hxm => ?_
        exact getD_map (by rw [hx x hxm]; exact hi')
      have := all (r :: rs) hk
      simp only [List.map_cons] at this
      exact congrArg PyData.tuple this
    · simp at h4 ⊢; omega
    · intro x hx
      obtain ⟨y, hy, rfl⟩ := List.mem_map.mp hx
      rw [List.length_map, List.length_map, e, hk y (List.mem_cons_of_mem _ hy)]
      exact Nat.le_refl _
theorem ob_pure {α β : Type} (a : α) (f : α → Option β) : ((Pure.pure a : Option α) >>= f) = f a := rfl
theorem ob_some {α β : Type} (a : α) (f : α → Option β) : (some a >>= f) = f a := rfl
theorem ob_lift {α : Type} (o : Option α) : (Mo.lift o : Option α) = o := rfl
section
variable {γ : Type}
theorem lcA_mapM {f : D → Option D} {F G : γ → D} (xs : List γ) (acc : List D) (h : ∀ x ∈ xs, f (F x) = some (G x)) : lcA (m := Option) (fun d => someM (f d)) (xs.map F) acc = some (acc ++ xs.map G) := by
  induction xs generalizing acc with
  | nil => simp [lcA]
  | cons x xs ih =>
    show ((f (F x) >>= fun y => Pure.pure (some y)) >>= fun o => lcA (m := Option) (fun d => someM (f d)) (xs.map F) (acc ++ o.toList)) = _
    rw [h x List.mem_cons_self]
    show lcA (m := Option) (fun d => someM (f d)) (xs.map F) (acc ++ [G x]) = _
    rw [ih (acc ++ [G x]) fun y hy => h y (List.mem_cons_of_mem _ hy)]
    simp
end
section
variable {b c d : Nat}
theorem Tri.thB {A A' : Type} {x : W (Fl A)} {y : A → W (Fl A')} {I : A → Prop} {χ : Fl A' → Prop} (h : Tri b x (Post I fun _ => False)) (hy : ∀ a, I a → Tri (d - b) (y a) χ) (hd : b ≤ d := by decide) : Tri d (x >>= fun f => DD.thenB f y) χ := (Tri.thenB h hy).le (by omega)
theorem Tri.thM {A : Type} {x : W (Fl A)} {y : A → W D} {I : A → Prop} {χ : D → Prop} (h : Tri b x (Post I fun _ => False)) (hy : ∀ a, I a → Tri (d - b) (y a) χ) (hd : b ≤ d := by decide) : Tri d (x >>= fun f => DD.thenM f y) χ := (Tri.thenM h hy).le (by omega)
theorem Tri.nx {A : Type} {a : A} {I : A → Prop} {R : D → Prop} (h : I a) : Tri d (Pure.pure (Fl.nx a) : W (Fl A)) (Post I R) := (Tri.pure (φ := Post I R) (a := Fl.nx a) h).le (Nat.zero_le _)
theorem Tri.rt {A : Type} {v : D} {I : A → Prop} {R : D → Prop} (h : R v) : Tri d (Pure.pure (Fl.rt v) : W (Fl A)) (Post I R) := (Tri.pure (φ := Post I R) (a := Fl.rt v) h).le (Nat.zero_le _)
theorem Tri.li {α : Type} {o : Option α} {a : α} {φ : α → Prop} (e : o = some a) (h : φ a) : Tri d (Mo.lift o : W α) φ := (Tri.lift e h).le (Nat.zero_le _)
end
theorem getD_in {P : Int → Prop} {r : List Int} {i : Nat} (h : ∀ x ∈ r, P x) (hi : i < r.length) : P (r.getD i 0) := by
  have e : r.getD i 0 = r[i] := by simp [List.getD, hi]
  rw [e]
  exact h _ (List.getElem_mem hi)
end DD
namespace DD
open PySem PySem.Spec PyProof.Rows L2
/-! ### enumerate(tuple) -/
def enO (it : Addr) : Obj := { cls := .type "enumerate", data := .fields #[.none, .bool false, .ref it, rawInt 0, .none, .none] }
def tiO (l : Addr) : Obj := { cls := .type "tuple_iterator", data := .fields #[.ref l, .int 0 0] }
theorem meets_enT (l : Addr) (items : Array Value) : Meets (Builtin.«enumerate.__new__» ⟨[.type "enumerate", .ref l], []⟩) (fun _ R s => s.heap.IsTuple l items ∧ R (.ok (.ret (.ref (s.heap.push (tiO l)).objs.size))) { s with heap := (s.heap.push (tiO l)).push (enO s.heap.objs.size) }) :=
  .of_wp fun prog w A R s h => by
    obtain ⟨hp, g, d, tk, os⟩ := s
    obtain ⟨hl, h⟩ := h
    have hsub := sub_enumerate
    have q1 : ∀ {A' : Around} {E : Value → Shared → Prop} {Q : Value → Shared → Prop}, Q (.ref hp.objs.size) ⟨hp.push (tiO l), g, d, tk, os⟩ → wpAny (model prog w) A' (pyIter (.ref l)) Q E ⟨hp, g, d, tk, os⟩ := fun q => wpAny_pyIter_tuple hl q
    wp_walk using q1
    refine wpAny_stack_any fun st => wpAny_pure ?_
    split
    · rename_i c _ _ _ _ _
      cases (c == Value.type "enumerate") <;> (wp_walk using q1; exact ⟨_, rfl, h⟩)
    · wp_walk using q1
      exact ⟨_, rfl, h⟩
section
variable {prog : Program} {w : World} {A : Around} {E : Value → Shared → Prop} {s : Shared}
theorem call_enT {l : Addr} {items : Array Value} {Q : Value → Shared → Prop} (hL : s.heap.IsTuple l items)
    (h : ∀ h', IsEnum h' (s.heap.objs.size + 1) s.heap.objs.size 0 .none → h'.IsTupleIter s.heap.objs.size l 0 → (∀ b o, s.heap.get? b = some o → h'.get? b = some o) → Q (.ref (s.heap.objs.size + 1)) { s with heap := h' }) : wpAny (model prog w) A (call (.type "enumerate") [.ref l]) Q E s := by
  refine callType_new F.called_enumerate (by decide) (F.typeCall_enumerate_1 _) (F.newCall_enumerate_1 _) (fun obj => F.args_object_init_2 obj _) F.entry_enumerate_new (meets_enT l items) ⟨hL, ?_⟩
  have hz : (s.heap.push (tiO l)).objs.size = s.heap.objs.size + 1 := Heap.size_push ..
  show _ ∧ _
  rw [hz]
  have he : IsEnum ((s.heap.push (tiO l)).push (enO s.heap.objs.size)) (s.heap.objs.size + 1) s.heap.objs.size 0 .none := by
    have := Heap.get?_push_size (s.heap.push (tiO l)) (o := enO s.heap.objs.size) rfl
    rw [hz] at this
    exact this
  exact ⟨⟨_, he, rfl⟩, h _ he ⟨_, Heap.get?_push_of_some _ (Heap.get?_push_size _ rfl), rfl, rfl⟩ fun b o x => Heap.get?_push_of_some _ (Heap.get?_push_of_some _ x)⟩
theorem draws_tup {it l : Addr} {items : Array Value} (hh : A.handled = none) (hne : l ≠ it) : Draws prog w A it [it, l] items.size (fun i x => items[i]? = some x) (fun i h => h.IsTupleIter it l i ∧ h.IsTuple l items) where
  live := fun i h st => let ⟨⟨o, e, _⟩, _⟩ := st; ⟨o, e⟩
  frame := fun i h h' st k => let ⟨⟨o, e, r⟩, ⟨o2, e2, r2⟩⟩ := st; ⟨⟨o, k it (by simp) o e, r⟩, ⟨o2, k l (by simp) o2 e2, r2⟩⟩
  item := fun i s Q E hi st hQ => by
    refine wpAny_nextOf_tuple_item st.1 st.2 (x := items[i]) (Array.getElem?_eq_getElem hi) fun h' hi' sb => hQ _ h' s.toks (Array.getElem?_eq_getElem hi) ⟨hi', ?_⟩ sb
    obtain ⟨o2, e2, r2⟩ := st.2
    exact ⟨o2, (sb.2 l hne).trans e2, r2⟩
  done := fun s Q E st hE => wpAny_nextOf_tuple_end hh st.1 st.2 (by simp) hE
end
def IteT (K : PySem.W.Frag) (a : Addr) : It :=
  ⟨fun i H => ∃ (xs : List V) (x : V), SqT K H a xs ∧ xs[i]? = some x, fun i H v H' => ∃ T x, v = .ref T ∧ H T = none ∧ H' = upd H T (.tup [.int (i : Nat), x]) ∧ ∀ xs, SqT K H a xs → xs[i]? = some x, fun i H => ∃ xs : List V, SqT K H a xs ∧ xs.length ≤ i⟩
theorem turn_enT {P : Program} {w : World} {K : PySem.W.Frag} {elts : List Expr} {kk : Nat} {tpos : Pos} {a e it : Addr} (hai : a ≠ it) (hae : a ≠ e) (hei : e ≠ it) :
    Turn P w K (.Tuple elts kk tpos) (IteT K a) [e, it] e (fun i h => (∃ old, IsEnum h e it ((i : Nat) : Int) old) ∧ h.IsTupleIter it a i) where
  mem := by simp
  obj := fun i h st b hb => by
    obtain ⟨⟨old, he⟩, ⟨o, ho, hc, hd⟩⟩ := st
    rcases List.mem_cons.mp hb with rfl | hb
    · exact ⟨_, he, fun v q => nomatch q⟩
    · rw [List.mem_singleton.mp hb]
      exact ⟨o, ho, fun v q => by rw [hd] at q; cases q⟩
  keep := fun i h h' st k => let ⟨⟨old, he⟩, ⟨o, ho, r⟩⟩ := st; ⟨⟨old, k e (by simp) _ he⟩, ⟨o, k it (by simp) o ho, r⟩⟩
  item := by
    intro X hP hw hK hc i pins s σ H E I hf st hg
    subst hP hw hK
    obtain ⟨⟨old, he⟩, hit⟩ := st
    obtain ⟨xs, x, hq, hx⟩ := hg
    obtain ⟨its, rv, p, hz⟩ := I.tuple hq
    obtain ⟨u, hu, ru⟩ := rv.get hx
    have hel : e < s.heap.objs.size := Heap.lt_size he
    have hil : it < s.heap.objs.size := by obtain ⟨_, q, _⟩ := hit; exact Heap.lt_size q
    have hlt : i < its.toArray.size := by simpa using (List.getElem?_eq_some_iff.mp hu).1
    refine wpAny_pyNext_enum_itemD (draws_tup (I.ok.hd hc) hai) he (i := i) ⟨hit, p⟩ hlt hei (by simp [hei]; exact fun z => hae z.symm) fun y h' tk hy ho st' hT hsz hk => ?_
    have hy' : y = u := by
      have hy2 : its.toArray[i]? = some y := hy
      rw [List.getElem?_toArray, hu] at hy2
      exact (Option.some.inj hy2).symm
    subst hy'
    refine ⟨_, rfl, wpAny_letOwnedTupleGo_enum (s := { s with heap := h', toks := tk + 1 }) ho fun h'' he' sb => ?_⟩
    have hT2 : h''.get? s.heap.objs.size = some { cls := .type "tuple", data := .seq #[.int i tk, y] } := (sb.2 _ (Nat.ne_of_gt hel)).trans hT
    have new : ObjOk X.prog X.w (upd H s.heap.objs.size (.tup [.int (i : Nat), x])) h'' s.heap.objs.size (.tup [.int (i : Nat), x]) :=
      ⟨by show 2 ≤ sizeLine; decide, [.int i tk, y], .cons ⟨_, rfl⟩ (.cons ru .nil), ⟨_, hT2, rfl, _, rfl⟩⟩
    have I1 : Inv X pins σ (upd H s.heap.objs.size (.tup [.int (i : Nat), x])) { s with heap := h'', toks := tk + 1 } :=
      I.turnedNew (t' := tk + 1) (ch := [e, it]) (fun b ob hb q => (sb.2 b (fun z => hb (by simp [z]))).trans (hk b ob (fun z => hb (by simp [z])) (fun z => hb (by simp [z])) q)) hf (Nat.le_refl _) new
    obtain ⟨⟨oi, hoi, ri⟩, _⟩ := st'
    refine ⟨.ref s.heap.objs.size, _, I1, rfl, ⟨_, x, rfl, I.hok.fresh (Nat.le_refl _), rfl, fun ys hy => by rw [I.tuple_inj hy hq]; exact hx⟩, ⟨⟨y, ?_⟩, ⟨oi, (sb.2 it (Ne.symm hei)).trans hoi, ri⟩⟩, fun b hb => ?_⟩
    · rw [show ((i + 1 : Nat) : Int) = (i : Int) + 1 by omega]
      exact he'
    · have hb' : b < s.heap.objs.size := by
        rcases List.mem_cons.mp hb with rfl | hb
        · exact hel
        · rw [List.mem_singleton.mp hb]; exact hil
      rw [upd_ne (Nat.ne_of_lt hb')]
      exact (hf b hb).1
  done := by
    intro X hP hw hK hc i pins s σ H E I hf st hg
    subst hP hw hK
    obtain ⟨⟨old, he⟩, hit⟩ := st
    obtain ⟨xs, hq, hx⟩ := hg
    obtain ⟨its, rv, p, hz⟩ := I.tuple hq
    obtain ⟨f0, f1, f2, f3, f4, f5⟩ := hf it (by simp)
    unfold pyNext
    refine wpAny_bind (wpAny_attempt (wpAny_callSpecial?_slot (name := Str.ofString "__next__") (T := "enumerate") ⟨_, he, rfl⟩ F.slot_enumerate_next (wpAny_call_entry F.slot_enumerate_next (T := "enumerate") ⟨_, he, rfl⟩ F.entry_enumerate_next ?_ (F.args_enumerate_next_1 _))))
    show wpAny _ _ (field (.ref e) 2 >>= _) _ _ _
    refine wpAny_bind (wpAny_field he rfl (x := .ref it) rfl ?_)
    refine wpAny_bind (wpAny_nextOf_tuple_end (I.ok.hd hc) hit p (by simp; have := rv.length; omega) fun h' e2 he' hx' => ?_)
    obtain ⟨o, ho, hcl⟩ := hx'
    refine wpAny_bind (wpAny_isInstance (T := "StopIteration") (b := true) ⟨o, ho, hcl⟩ isSubtype_stop (wpAny_pure ⟨rfl, ?_⟩))
    exact I.turned (t' := s.toks) (fun b o hb q => he' b o hb q) f0 f1 f3 f4 f5
  self := fun A i s Q E st h => let ⟨⟨_, he⟩, _⟩ := st; wpAny_pyIter_enum he h
def iEnS (K : PySem.W.Frag) (ta : TA) : TI := fun σ H R => ta σ H fun vs H1 => ∃ a xs, vs = [.ref a] ∧ ((SqL K H1 a xs ∧ R (Ite K a) H1) ∨ (SqT K H1 a xs ∧ R (IteT K a) H1))
theorem pi_enS {X : Cx} {e : Expr} {ta : TA} {p pos tpos : Pos} {elts : List Expr} {kk : Nat} (hg : Gl X "enumerate") (hm : X.mg "enumerate" = none) (ha : PA X [e] ta) (hs : starEach [e] X.env = [(false, eval e X.env)] := by rfl) : PI X (.Tuple elts kk tpos) (.Call (.Name "enumerate" p) [e] [] pos) (iEnS X.K ta) := by
  refine ⟨fun pins s σ H R I h => Call_ (ld_blt I hg hm boot_enumerate (PyProof.Rows.callWith_type1 (thn (ha.run pos pins s σ H _ I h) fun us s1 ⟨vs, H1, I1, r1, q1⟩ => ?_) hs rfl))⟩
  obtain ⟨a, xs, rfl, q1⟩ := q1
  cases r1 with
  | cons r rr =>
    cases rr
    cases r
    have fp : ∀ b : Nat, b ∈ [s1.heap.objs.size + 1, s1.heap.objs.size] → FpOk X pins H1 b := fun b hb => by
      have hle : s1.heap.objs.size ≤ b := by
        rcases List.mem_cons.mp hb with z | z
        · rw [z]; omega
        · rw [List.mem_singleton.mp z]; omega
      exact I1.fpOk hle (I1.hok.fresh hle)
    rcases q1 with ⟨hq, q⟩ | ⟨hq, q⟩
    · obtain ⟨its, rv, p', hz⟩ := I1.list hq
      exact call_enumerate_list p'.isList fun h' he hit hsz hk => wpAny_pyIter_enum he ⟨s1.heap.objs.size + 1, [s1.heap.objs.size + 1, s1.heap.objs.size], _, _, H1, rfl, I1.kept (t' := s1.toks) hk, turn_enum a (s1.heap.objs.size + 1) s1.heap.objs.size, ⟨⟨.none, he⟩, hit, Nat.succ_ne_self _⟩, fp, q⟩
    · obtain ⟨its, rv, p', hz⟩ := I1.tuple hq
      have hl : a < s1.heap.objs.size := by obtain ⟨o, ho, _⟩ := p'; exact Heap.lt_size ho
      exact call_enT p' fun h' he hit hk => wpAny_pyIter_enum he ⟨s1.heap.objs.size + 1, [s1.heap.objs.size + 1, s1.heap.objs.size], _, _, H1, rfl, I1.kept (t' := s1.toks) hk, turn_enT (Nat.ne_of_lt hl) (Nat.ne_of_lt (Nat.lt_succ_of_lt hl)) (Nat.succ_ne_self _), ⟨⟨.none, he⟩, hit⟩, fp, q⟩
def enumL (ds : List D) : List D := ds.zipIdx.map fun p => .tuple [.int (p.2 : Nat), p.1]
theorem enumL_at (ds : List D) (i : Nat) : (enumL ds)[i]? = ds[i]?.map fun d => .tuple [.int (i : Nat), d] := by
  unfold enumL
  rw [List.getElem?_map, List.getElem?_zipIdx]
  cases ds[i]? <;> simp
theorem enumL_len (ds : List D) : (enumL ds).length = ds.length := by simp [enumL]
theorem walkD_en {K : PySem.W.Frag} {G : Hp} {xs : List V} {ds : List D} {J : It} (da : DaAll K G xs ds) (hgo : ∀ i H, i < xs.length → SubM G H → J.go i H) (hst : ∀ H, SubM G H → J.stop xs.length H)
    (hy : ∀ i H v H', SubM G H → J.yld i H v H' → ∃ T x, v = .ref T ∧ H T = none ∧ H' = upd H T (.tup [.int (i : Nat), x]) ∧ xs[i]? = some x) : WalkD K G J (enumL ds) where
  goes := fun i H hi s => hgo i H (by rw [da.length, ← enumL_len]; exact hi) s
  stops := fun H s => by rw [enumL_len, ← da.length]; exact hst H s
  yields := fun i H G1 v H' hi s s1 y => by
    obtain ⟨T, x, rfl, hT, rfl, hx⟩ := hy i H v H' (s.subm s1) y
    obtain ⟨d, e1, e2⟩ := da.getV hx
    have gr := Gr.alloc (u := .tup [.int (i : Nat), x]) s1 hT
    refine ⟨.tuple [.int (i : Nat), d], _, by rw [enumL_at, e1]; rfl, gr, .tup (.inl (.inl upd_same)) (.cons (.int _) (.cons (e2.mono (s.trans gr.g)) .nil))⟩
section
variable {m : Type → Type} [Mo m] {X : Cx} {EX : XR} {g : List Sl}
abbrev enumM (x : m D) : m (List D) := x >>= fun d => Mo.lift ((itemsD d).map enumL)
theorem ij_enum {e : Expr} {p pos tpos : Pos} {elts : List Expr} {kk : Nat} {x : m D} (hm : X.mg "enumerate" = none) (h : EJ X EX e g x) (hg : Gl X "enumerate" := by rfl) (hs : starEach [e] X.env = [(false, eval e X.env)] := by rfl) (hs' : starEach [e] X.env = (false, eval e X.env) :: starEach [] X.env := by rfl) :
    IJ X EX (.Tuple elts kk tpos) (.Call (.Name "enumerate" p) [e] [] pos) g (enumM x) :=
  (pi_enS hg hm (pa_cons h pa_nil hs') hs).weak fun σ H R ⟨B, G, n, φ, ξ, o, s, q, xw⟩ => te_one o s (fun v H1 G1 d n1 o1 g1 d1 s1 => by
    obtain ⟨out, ed, pd⟩ := Mo.sat_lift s1
    obtain ⟨ds, e1, rfl⟩ := Option.map_eq_some_iff.mp ed
    obtain ⟨a, xs, rfl, sq, da⟩ := d1.seq e1
    refine ⟨a, xs, rfl, ?_⟩
    rcases sq with sq | sq
    · refine .inr ⟨sameT o1.fm.sub sq, q _ H1 G1 _ n1 o1 g1 (walkD_en da (fun i H hi s => ⟨xs, xs[i], sameT s sq, by simp [hi]⟩) (fun H s => ⟨xs, sameT s sq, Nat.le_refl _⟩) fun i H v H' s y => ?_) pd⟩
      obtain ⟨T, x, a1, a2, a3, a4⟩ := y
      exact ⟨T, x, a1, a2, a3, a4 xs (sameT s sq)⟩
    · refine .inl ⟨o1.fm.sub.seq sq, q _ H1 G1 _ n1 o1 g1 (walkD_en da (fun i H hi s => ⟨xs, xs[i], s.seq sq, by simp [hi]⟩) (fun H s => ⟨xs, s.seq sq, Nat.le_refl _⟩) fun i H v H' s y => ?_) pd⟩
      obtain ⟨T, x, a1, a2, a3, a4⟩ := y
      exact ⟨T, x, a1, a2, a3, a4 xs (s.seq sq)⟩) xw
end
end DD
namespace DD
open PySem PySem.Spec PyProof.Rows L2
/-! ### a list of one's own, read in the middle: what comes out holds no list -/
mutual
def noL : D → Bool
  | .list _ => false
  | .tuple xs => noLs xs
  | .dict _ => false
  | _ => true
def noLs : List D → Bool
  | [] => true
  | x :: xs => noL x && noLs xs
end
def flatO (d : D) : Option D := if noL d = true then some d else none
theorem flatO_eq {d e : D} (h : flatO d = some e) : e = d ∧ noL d = true := by
  unfold flatO at h
  split at h
  · rename_i hl; cases h; exact ⟨rfl, hl⟩
  · cases h
/-- the data among what has come: what stood in the heap and was no data is left out -/
noncomputable def cutB (H G G' : Hp) : Hp := fun a => open Classical in if G a = none ∧ H a ≠ none then none else G' a
theorem cutB_in {H G G' : Hp} {a : Addr} (h : ¬ (G a = none ∧ H a ≠ none)) : cutB H G G' a = G' a := by unfold cutB; rw [if_neg h]
theorem cutB_out {H G G' : Hp} {a : Addr} (h1 : G a = none) (h2 : H a ≠ none) : cutB H G G' a = none := by unfold cutB; rw [if_pos ⟨h1, h2⟩]
theorem cutB_sub {H G G' : Hp} {a : Addr} {o : HO} (h : cutB H G G' a = some o) : G' a = some o := by
  unfold cutB at h
  split at h
  · cases h
  · exact h
def lend1 : Sl → Sl
  | .own ds => .val (.list ds)
  | s => s
abbrev lendG (g : List Sl) : List Sl := g.map lend1
section
variable {K : PySem.W.Frag} {H G G' : Hp}
mutual
theorem Da.cut (hp : ∀ a o, G' a = some o → G a = none → H a ≠ none → ∃ xs, o = .lst xs) : ∀ {d : D} {v : V}, noL d = true → Da K G' v d → Da K (cutB H G G') v d
  | _, _, _, .non => .non
  | _, _, _, .bl b => .bl b
  | _, _, _, .int i => .int i
  | _, _, _, .str x => .str x
  | _, _, h, .lst _ _ => by cases h
  | .tuple ds, _, h, .tup sq a => by
    refine .tup ?_ (DaAll.cutA hp (show noLs ds = true from h) a)
    rcases sq with (sq | ⟨o, sq⟩) | sq
    · refine .inl (.inl ((cutB_in fun z => ?_).trans sq))
      obtain ⟨xs, e⟩ := hp _ _ sq z.1 z.2
      cases e
    · refine .inl (.inr ⟨o, (cutB_in fun z => ?_).trans sq⟩)
      obtain ⟨xs, e⟩ := hp _ _ sq z.1 z.2
      cases e
    · exact .inr sq
  | _, _, h, .dct _ _ => by cases h
  | _, _, h, .obj _ => by cases h
  | _, _, h, .cel _ => by cases h
  | _, _, h, .fin _ _ _ _ => by cases h
theorem DaAll.cutA (hp : ∀ a o, G' a = some o → G a = none → H a ≠ none → ∃ xs, o = .lst xs) : ∀ {ds : List D} {vs : List V}, noLs ds = true → DaAll K G' vs ds → DaAll K (cutB H G G') vs ds
  | _, _, _, .nil => .nil
  | d :: ds, _, h, .cons a b => by
    have h' : noL d = true ∧ noLs ds = true := by
      have : (noL d && noLs ds) = true := h
      simpa using this
    exact .cons (Da.cut hp h'.1 a) (DaAll.cutA hp h'.2 b)
end
end
section
variable {m : Type → Type} [Mo m] {X : Cx} {EX : XR} {g : List Sl}
/-- all lists of one's own become data, a while -/
theorem Ok.lend {K : PySem.W.Frag} {B : Bs} {σ : L2.St} {H G : Hp} {n : Wd} (o : Ok K B g σ H G n) (hn0 : n.ob = []) : ∃ G1 : Hp, Ok K ⟨H, G1, B.dk, G1⟩ (lendG g) σ H G1 n ∧
    ∀ (H' G' : Hp) (n' : Wd), n'.ob = [] → Fm K ⟨H, G1, B.dk, G1⟩ H' G' n' → (Ok K B g σ H' (cutB H G G') n' ∧ Same G (cutB H G G')) ∧ ∀ a o, G' a = some o → G a = none → H a ≠ none → ∃ xs, o = .lst xs := by
  classical
  obtain ⟨f, h1, h2⟩ := id o.own
  let OwnA : Addr → Prop := fun a => ∃ (j : Nat) (ds : List D), g[j]? = some (Sl.own ds) ∧ f j = a
  have own_lst : ∀ a, OwnA a → G a = none ∧ B.H a = none ∧ ∃ xs, H a = some (.lst xs) := by
    rintro a ⟨j, ds, e, rfl⟩
    obtain ⟨_, b, c, xs, d, _⟩ := h2 j ds e
    exact ⟨b, c, xs, d⟩
  let G1 : Hp := fun a => if OwnA a then H a else G a
  have g1o : ∀ a, OwnA a → G1 a = H a := fun a h => if_pos h
  have g1n : ∀ a, ¬ OwnA a → G1 a = G a := fun a h => if_neg h
  have sG : Same G G1 := fun a u e => by
    rw [g1n a fun z => by rw [(own_lst a z).1] at e; cases e]
    exact e
  have nomk : ∀ a u, G a = some u → isMk u = false := fun a u e => by
    cases hm : mkOf u with
    | none => unfold isMk; rw [hm]; rfl
    | some k =>
      obtain ⟨c, e2, _⟩ := o.fm.obs.at_ a u k e hm
      rw [hn0] at e2
      cases e2
  have sH : SubM G1 H := ⟨fun a u e m => by
    by_cases z : OwnA a
    · rw [g1o a z] at e; exact e
    · rw [g1n a z] at e; exact o.fm.sub.h a u e m, fun a e => by
    by_cases z : OwnA a
    · rw [g1o a z]; exact e
    · rw [g1n a z]; exact o.fm.sub.t a e⟩
  have mk1 : ∀ a u k, G1 a = some u → mkOf u = some k → False := fun a u k e hm => by
    by_cases z : OwnA a
    · obtain ⟨_, _, xs, hx⟩ := own_lst a z
      rw [g1o a z, hx] at e
      cases e
      cases hm
    · rw [g1n a z] at e
      have := nomk a u e
      unfold isMk at this
      rw [hm] at this
      cases this
  have ob1 : Obs K H G1 n := ⟨fun a u k e hm => (mk1 a u k e hm).elim, fun a b u w k e _ hm => (mk1 a u k e hm).elim, fun k c e => by rw [hn0] at e; cases e⟩
  have pick : ∀ (i : Nat) (s : Sl), (lendG g)[i]? = some s → ∃ s0, g[i]? = some s0 ∧ s = lend1 s0 := fun i s e => by
    rw [List.getElem?_map] at e
    obtain ⟨s0, e0, e1⟩ := Option.map_eq_some_iff.mp e
    exact ⟨s0, e0, e1.symm⟩
  refine ⟨G1, ⟨⟨fun a u e _ => e, sH, Same.refl _, ob1, sH.t, Same.refl _, fun a _ e => e, fun a b e => ?_⟩, by rw [List.length_map]; exact o.len, fun i d e => ?_, ⟨f, fun i j ds es e => ?_, fun i ds e => ?_⟩, fun i e => ?_, fun i a od fs e => ?_⟩, fun H' G' n' hn1 fm => ?_⟩
  · obtain ⟨dk, b1, b2, b3, b4⟩ := o.fm.deck a b e
    obtain ⟨cs, c, k1, k2, _⟩ := id dk
    have na : ¬ OwnA a := fun z => b1 (own_lst a z).2.1
    have nb : ¬ OwnA b := fun z => b2 (own_lst b z).2.1
    refine ⟨dk, by show H a ≠ none; rw [k1]; simp, by show H b ≠ none; rw [k2]; simp, ?_, ?_⟩
    · show G1 a = none
      rw [g1n a na]; exact o.fm.new a b1 b3
    · show G1 b = none
      rw [g1n b nb]; exact o.fm.new b b2 b4
  · obtain ⟨s0, e0, e1⟩ := pick i _ e
    cases s0 with
    | val d0 =>
      cases e1
      obtain ⟨v, a, b⟩ := o.val i d e0
      exact ⟨v, a, b.mono sG⟩
    | own ds =>
      cases e1
      obtain ⟨a, b, c, xs, hd, da⟩ := h2 i ds e0
      refine ⟨_, a, .lst (xs := xs) ?_ (da.mono sG)⟩
      rw [g1o _ ⟨i, ds, e0, rfl⟩]
      exact hd
    | deck => cases e1
    | any => cases e1
    | exn _ _ _ => cases e1
  · obtain ⟨s0, e0, e1⟩ := pick i _ e
    cases s0 <;> cases e1
  · obtain ⟨s0, e0, e1⟩ := pick i _ e
    cases s0 <;> cases e1
  · obtain ⟨s0, e0, e1⟩ := pick i _ e
    cases s0 with
    | deck => exact o.dck i e0
    | val _ => cases e1
    | own _ => cases e1
    | any => cases e1
    | exn _ _ _ => cases e1
  · obtain ⟨s0, e0, e1⟩ := pick i _ e
    cases s0 with
    | exn _ _ _ => cases e1; exact ⟨(o.adr i a od fs e0).1, (o.adr i a od fs e0).2.mono sG⟩
    | val _ => cases e1
    | own _ => cases e1
    | any => cases e1
    | deck => cases e1
  · have lst : ∀ a u, G' a = some u → G a = none → H a ≠ none → ∃ xs, u = .lst xs := fun a u e ga ha => by
      by_cases z : OwnA a
      · obtain ⟨_, _, xs, hx⟩ := own_lst a z
        have : G' a = some (.lst xs) := fm.old a _ (by show G1 a = _; rw [g1o a z]; exact hx)
        rw [this] at e
        cases e
        exact ⟨xs, rfl⟩
      · have : G' a = none := fm.new a ha (by show G1 a = none; rw [g1n a z]; exact ga)
        rw [this] at e; cases e
    have fm2 : Fm K ⟨H, G, B.dk, G⟩ H' (cutB H G G') n' := by
      have mk2 : ∀ a u k, cutB H G G' a = some u → mkOf u = some k → False := fun a u k e hm => by
        obtain ⟨c, e2, _⟩ := fm.obs.at_ a u k (cutB_sub e) hm
        rw [hn1] at e2
        cases e2
      refine ⟨fun a u e q => fm.keep a u e fun z => q ?_, ⟨fun a u e m => fm.sub.h a u (cutB_sub e) m, fun a e => ?_⟩, fun a u e => ?_, ⟨fun a u k e hm => (mk2 a u k e hm).elim, fun a b u w k e _ hm => (mk2 a u k e hm).elim, fun k c e => by rw [hn1] at e; cases e⟩, o.fm.sub.t, (fun a u e => by
        rw [cutB_in fun z => by rw [show G a = some u from e] at z; cases z.1]
        exact fm.old a u (sG a u e)), fun a e q => cutB_out q e, fun a b e => ?_⟩
      · rcases z with z | ⟨w, e2, m⟩
        · exact .inl z
        · have e' : G1 a = some w := e2
          cases hm : mkOf w with
          | none => unfold isMk at m; rw [hm] at m; cases m
          | some k => exact (mk1 a w k e' hm).elim
      · cases ec : cutB H G G' a with
        | none => rfl
        | some u => have := cutB_sub ec; rw [fm.sub.t a e] at this; cases this
      · rw [cutB_in fun z => by rw [show G a = some u from e] at z; cases z.1]
        exact fm.old a u (sG a u e)
      · obtain ⟨dk, b1, b2, b3, b4⟩ := fm.deck a b e
        obtain ⟨dk', c1, c2, c3, c4⟩ := o.fm.deck a b e
        exact ⟨dk, b1, b2, o.fm.new a c1 c3, o.fm.new b c2 c4⟩
    exact ⟨Fm.back o (.inr rfl) fm2, lst⟩
variable [Calm m] [Plain m]
theorem ej_rd {e : Expr} {x : m D} (h : EJ X EX e (lendG g) x) : EJ X EX e g (x >>= fun d => Mo.lift (flatO d)) :=
  PE.weak h fun σ H Q ⟨B, G, n, φ, ξ, o, s, q, xw⟩ => by
    obtain ⟨hn0, s⟩ := Plain.plain s
    obtain ⟨G1, o1, back⟩ := o.lend hn0
    refine ⟨⟨H, G1, B.dk, G1⟩, G1, n, _, fun _ _ => False, o1, Calm.calm (Mo.sat_bind s), fun v H' G' d n' o' g' dv s' => ?_, fun _ _ _ _ _ _ _ z => z.elim⟩
    obtain ⟨z, ez, pz⟩ := Mo.sat_lift s'
    obtain ⟨rfl, hz⟩ := flatO_eq ez
    obtain ⟨⟨o2, g2⟩, hl⟩ := back H' G' n' pz.1 o'.fm
    exact q v H' _ _ n' o2 g2 (dv.cut hl hz) pz.2
def flatsO (ds : List D) : Option (List D) := if noLs ds = true then some ds else none
end
/-! ### new lists by operations -/
section
variable {m : Type → Type} [Mo m] {X : Cx} {EX : XR} {g : List Sl}
def repO (ds : List D) (k : D) : Option (List D) := match k with
  | .int k => if 0 ≤ k ∧ k ≤ 1000 ∧ ds.length ≤ 1000 then some (List.replicate k.toNat ds).flatten else none
  | _ => none
def listOnly : D → Option (List D)
  | .list ds => some ds
  | _ => none
/-- [..] * k -/
theorem lj_rep {a b : Expr} {pos : Pos} {x : m (List D)} {y : m D} (ha : LJ X EX a g x) (hb : EJ X EX b g y) : LJ X EX (.BinOp a .Mult b pos) g ((x >>= fun ds => pure (PyData.list ds)) >>= fun d => y >>= fun k => Mo.lift ((listOnly d).bind fun ds => repO ds k)) :=
  (pe_op op_rep (ej_l ha) hb).weak fun σ H Q ⟨B, G, n, φ, ξ, o, s, q, xw⟩ => te_one o s (fun v H1 G1 d n1 o1 g1 d1 s1 => te_one o1 s1 (fun w H2 G2 k n2 o2 g2 d2 s2 => by
    obtain ⟨out, eo, po⟩ := Mo.sat_lift s2
    obtain ⟨ds, e1, e2⟩ := Option.bind_eq_some_iff.mp eo
    cases k with
    | int k =>
      cases d2
      have e2' : (if 0 ≤ k ∧ k ≤ 1000 ∧ ds.length ≤ 1000 then some (List.replicate k.toNat ds).flatten else none) = some out := e2
      split at e2'
      · rename_i hk
        cases e2'
        cases d with
        | list ds' =>
          cases e1
          obtain ⟨a, xs, rfl, ha', da⟩ := (d1.mono g2).toL
          refine ⟨a, k, xs, rfl, rfl, o2.fm.sub.h _ _ ha' rfl, by omega, by omega, ?_, fun p hp => ?_⟩
          · rw [da.length]
            have : ds.length * k.toNat ≤ 1000 * 1000 := Nat.mul_le_mul hk.2.2 (by omega)
            exact Nat.le_trans this (by decide)
          · obtain ⟨f1, f2⟩ := o2.fresh hp
            exact q p _ _ G2 _ n2 (o2.raw hp) (g1.trans g2) f1 (o2.free hp) upd_same f2 (da.flatReplicate k.toNat) po
        | _ => cases e1
      · cases e2'
    | _ => cases e2) xw) xw
/-- range(..) as what list() takes -/
def lrgO1 : D → Option (List D)
  | .int j => if 0 ≤ j ∧ j ≤ 1000000 then some (rangeL 0 j.toNat) else none
  | _ => none
theorem rg_da {K : PySem.W.Frag} {G : Hp} (lo hi : Int) : DaAll K G (rgV lo hi) (rangeL lo (hi - lo).toNat) := by
  unfold rgV rangeL
  induction (List.range (hi - lo).toNat) with
  | nil => exact .nil
  | cons i l ih => exact .cons (.int _) ih
/-- list(range(a)) -/
theorem lj_lrg1 {a : Expr} {p pos p2 pos2 : Pos} {x : m D} (hm : X.mg "list" = none) (hmr : X.mg "range" = none) (h : EJ X EX a g x) (hc : X.calm = true := by rfl) (hg : Gl X "list" := by rfl) (hgr : Gl X "range" := by rfl) (na : starEach [a] X.env = (false, eval a X.env) :: starEach [] X.env := by rfl)
    (nb : starEach [.Call (.Name "range" p2) [a] [] pos2] X.env = (false, eval (.Call (.Name "range" p2) [a] [] pos2) X.env) :: starEach [] X.env := by rfl) : LJ X EX (.Call (.Name "list" p) [.Call (.Name "range" p2) [a] [] pos2] [] pos) g (x >>= fun d => Mo.lift (lrgO1 d)) :=
  (pe_listRg hc hg hm (prg_1 hgr hmr h na) nb).weak fun σ H Q ⟨B, G, n, φ, ξ, o, s, q, xw⟩ => te_one o s (fun v H1 G1 d n1 o1 g1 d1 s1 => by
    obtain ⟨ds, ed, pd⟩ := Mo.sat_lift s1
    cases d with
    | int j =>
      cases d1
      have ed' : (if 0 ≤ j ∧ j ≤ 1000000 then some (rangeL 0 j.toNat) else none) = some ds := ed
      split at ed'
      · rename_i hj
        cases ed'
        refine ⟨j, rfl, RgOk.of_le (by decide) (by omega) (by decide) hj.1, fun l hl => ?_⟩
        obtain ⟨f1, f2⟩ := o1.fresh hl
        refine q l _ _ G1 _ n1 (o1.raw hl) g1 f1 (o1.free hl) upd_same f2 ?_ pd
        have := rg_da (K := X.K) (G := G1) 0 j
        rw [Int.sub_zero] at this
        exact this
      · cases ed'
    | _ => cases ed) xw
/-- a, b, c = x, y, z -/
theorem sj_par3 (i j l : Nat) {y z u : Str} {a b c : Expr} {px py pz pt pos : Pos} {kt k2 pt2} {x1 x2 x3 : m D} (hN : X.N.Nodup) (ha : EJ X EX a g x1) (hb : EJ X EX b g x2) (hcc : EJ X EX c g x3) (hij : i ≠ j := by decide) (hil : i ≠ l := by decide) (hjl : j ≠ l := by decide) (hi : X.N[i]? = some y := by rfl) (hj : X.N[j]? = some z := by rfl) (hl : X.N[l]? = some u := by rfl) (hc : X.calm = true := by rfl)
    (hx : X.env.scope.names.lookup y = some .local := by rfl) (hy : X.env.scope.names.lookup z = some .local := by rfl) (hz : X.env.scope.names.lookup u = some .local := by rfl)
    (hw : swappedStores [.Tuple [.Name y px, .Name z py, .Name u pz] kt pt] (.Tuple [a, b, c] k2 pt2) X.env = pure (some [y, z, u]) := by kernel_rfl) (hs : swapsWithSole [.Tuple [.Name y px, .Name z py, .Name u pz] kt pt] (.Tuple [a, b, c] k2 pt2) pos.line X.env = pure false := by kernel_rfl)
    (hs1 : starEach [a, b, c] X.env = (false, eval a X.env) :: starEach [b, c] X.env := by rfl) (hs2 : starEach [b, c] X.env = (false, eval b X.env) :: starEach [c] X.env := by rfl) (hs3 : starEach [c] X.env = (false, eval c X.env) :: starEach [] X.env := by rfl) :
    SJ X EX (.Assign [.Tuple [.Name y px, .Name z py, .Name u pz] kt pt] (.Tuple [a, b, c] k2 pt2) pos) g (x1 >>= fun d => x2 >>= fun e => x3 >>= fun f => pure (d, e, f)) (fun de => ((g.set i (.val de.1)).set j (.val de.2.1)).set l (.val de.2.2)) :=
  (ps_par3 hc hN hi hj hl hij hil hjl hx hy hz (pa_cons ha (pa_cons hb (pa_cons hcc pa_nil hs3) hs2) hs1) hw hs).weak fun De σ H ⟨B, G, n, φ, ξ, o, s, q, xw⟩ => te_one o s (fun v H1 G1 d n1 o1 g1 d1 s1 => te_one o1 s1 (fun w H2 G2 e n2 o2 g2 d2 s2 => te_one o2 s2 (fun w3 H3 G3 f n3 o3 g3 d3 s3 =>
    ⟨v, w, w3, rfl, q (d, e, f) _ H3 G3 n3 (((o3.setV (d1.mono (g2.trans g3))).setV (d2.mono g3)).setV d3) (g1.trans (g2.trans g3)) (Mo.sat_pure s3)⟩) xw) xw) xw
abbrev repM (x : m (List D)) (y : m D) : m (List D) := (x >>= fun ds => pure (PyData.list ds)) >>= fun d => y >>= fun k => Mo.lift ((listOnly d).bind fun ds => repO ds k)
abbrev lrg1M (x : m D) : m (List D) := x >>= fun d => Mo.lift (lrgO1 d)
abbrev par3M (x y z : m D) : m (D × D × D) := x >>= fun d => y >>= fun e => z >>= fun f => pure (d, e, f)
abbrev rdM (x : m D) : m D := x >>= fun d => Mo.lift (flatO d)
abbrev rdLM (x : m (List D)) : m (List D) := x >>= fun ds => Mo.lift (flatsO ds)
end
def addI : D → D → Option D := intD2 fun i j => some (.int (i + j))
def subI : D → D → Option D := intD2 fun i j => some (.int (i - j))
theorem rd_addI {K : PySem.W.Frag} : RD K (ipI fun i j => i + j) addI := rd_int0 (h := fun i j => .int (i + j)) fun i j z e _ _ => by cases e; exact .int _
section
variable {m : Type → Type} [Mo m] {X : Cx} {EX : XR} {g : List Sl}
/-- as ej_var, the slot looked up by the kernel -/
theorem ej_vk (i : Nat) {x : Str} {pos : Pos} {d : D} (hs : g[i]? = some (Sl.val d) := by kernel_rfl) (hN : X.N[i]? = some x := by rfl) (hv : Vis X.env.scope x := by first | exact Or.inl rfl | exact Or.inr (Or.inl rfl) | exact Or.inr (Or.inr rfl)) (hd : (x == ("__debug__" : Str)) = false := by decide)
    (hcd : (x == ("__classdict__" : Str)) = false := by decide) : EJ (m := m) X EX (.Name x pos) g (pure d) := ej_var i hs hN hv hd hcd
theorem aj_dk (i : Nat) {x : Str} {pos : Pos} {es : List Expr} {y : m (List Sl)} (hr : AJ X EX es g y) (hg : g[i]? = some Sl.deck := by kernel_rfl) (hN : X.N[i]? = some x := by rfl) (hv : Vis X.env.scope x := by first | exact Or.inl rfl | exact Or.inr (Or.inl rfl) | exact Or.inr (Or.inr rfl))
    (hd : (x == ("__debug__" : Str)) = false := by decide) (hcd : (x == ("__classdict__" : Str)) = false := by decide) (hs : starEach (.Name x pos :: es) X.env = (false, eval (.Name x pos) X.env) :: starEach es X.env := by rfl) : AJ X EX (.Name x pos :: es) g (y >>= fun as => pure (.deck :: as)) := aj_deck i hr hg hN hv hd hcd hs
end
end DD
namespace DD
open PySem PySem.Spec PyProof.Rows L2
/-! ### mirrors without draws, by equations -/
class MoL (m : Type → Type) [Mo m] : Prop where
  pb : ∀ {α β : Type} (a : α) (f : α → m β), ((pure a : m α) >>= f) = f a
  as : ∀ {α β γ : Type} (x : m α) (f : α → m β) (g : β → m γ), ((x >>= f) >>= g) = (x >>= fun a => f a >>= g)
  ls : ∀ {α : Type} (a : α), (Mo.lift (some a) : m α) = pure a
theorem wl_some {α : Type} (a : α) : (Mo.lift (some a) : W α) = Pure.pure a := by
  funext n φ
  exact propext ⟨fun ⟨b, e, h⟩ => by cases e; exact h, fun h => ⟨a, rfl, h⟩⟩
theorem wu_some (a : D) : upW (some a) = Pure.pure a := wl_some a
instance : MoL W := ⟨fun _ _ => rfl, fun _ _ _ => rfl, wl_some⟩
instance : MoL Option := ⟨fun _ _ => rfl, fun x f g => by cases x <;> rfl, fun _ => rfl⟩
section
variable {m : Type → Type} [Mo m] [MoL m] {A γ : Type}
theorem lcA_mapP {f : D → m D} {F G : γ → D} : ∀ (xs : List γ) (acc : List D), (∀ x ∈ xs, f (F x) = pure (G x)) → lcA (fun d => someM (f d)) (xs.map F) acc = pure (acc ++ xs.map G)
  | [], acc, _ => by simp [lcA]
  | x :: xs, acc, h => by
    show (someM (f (F x)) >>= fun o => lcA (fun d => someM (f d)) (xs.map F) (acc ++ o.toList)) = _
    unfold someM
    rw [h x List.mem_cons_self, MoL.pb, MoL.pb]
    have := lcA_mapP xs (acc ++ [G x]) fun y hy => h y (List.mem_cons_of_mem _ hy)
    unfold someM at this
    show lcA _ (xs.map F) (acc ++ [G x]) = _
    rw [this]
    simp
theorem lcA_map2 {f : D → D → m D} {F Ga Gb G : γ → D} (hF : ∀ x, F x = .tuple [Ga x, Gb x]) (xs : List γ) (acc : List D) (h : ∀ x ∈ xs, f (Ga x) (Gb x) = pure (G x)) : lcA (fun d => pairM d fun a b => someM (f a b)) (xs.map F) acc = pure (acc ++ xs.map G) := by
  induction xs generalizing acc with
  | nil => simp [lcA]
  | cons x xs ih =>
    show (pairM (F x) (fun a b => someM (f a b)) >>= fun o => lcA (fun d => pairM d fun a b => someM (f a b)) (xs.map F) (acc ++ o.toList)) = _
    have e : pairM (F x) (fun a b => someM (f a b)) = pure (some (G x)) := by
      rw [hF]
      show someM (f (Ga x) (Gb x)) = _
      unfold someM
      rw [h x List.mem_cons_self, MoL.pb]
    rw [e, MoL.pb, ih _ fun y hy => h y (List.mem_cons_of_mem _ hy)]
    simp
theorem lcA_filt2 {f : D → D → m D} {t : D → D → m Bool} {F Ga Gb G : γ → D} {p : γ → Bool} (hF : ∀ x, F x = .tuple [Ga x, Gb x]) (xs : List γ) (acc : List D) (h : ∀ x ∈ xs, t (Ga x) (Gb x) = pure (p x)) (h2 : ∀ x ∈ xs, p x = true → f (Ga x) (Gb x) = pure (G x)) : lcA (fun d => pairM d fun a b => ifM (t a b) (f a b)) (xs.map F) acc = pure (acc ++ (xs.filter p).map G) := by
  induction xs generalizing acc with
  | nil => simp [lcA]
  | cons x xs ih =>
    show (pairM (F x) (fun a b => ifM (t a b) (f a b)) >>= fun o => lcA (fun d => pairM d fun a b => ifM (t a b) (f a b)) (xs.map F) (acc ++ o.toList)) = _
    have e : pairM (F x) (fun a b => ifM (t a b) (f a b)) = pure (if p x = true then some (G x) else none) := by
      rw [hF]
      show ifM (t (Ga x) (Gb x)) (f (Ga x) (Gb x)) = _
      unfold ifM someM
      rw [h x List.mem_cons_self, MoL.pb]
      cases hp : p x with
      | true => simp only [if_true]; rw [h2 x List.mem_cons_self hp, MoL.pb]
      | false => rfl
    rw [e, MoL.pb, ih _ (fun y hy => h y (List.mem_cons_of_mem _ hy)) fun y hy => h2 y (List.mem_cons_of_mem _ hy)]
    cases hp : p x <;> simp [hp]
/-- a loop whose state is a function of what it has walked -/
theorem loop_from {f : D → A → m (Fl A)} {F : γ → D} {S : List γ → A} : ∀ (post pre : List γ), (∀ p x q, pre ++ post = p ++ x :: q → f (F x) (S p) = pure (.nx (S (p ++ [x])))) → loopM f (post.map F) (S pre) = pure (.nx (S (pre ++ post)))
  | [], pre, _ => by simp [loopM]
  | x :: post, pre, h => by
    show (f (F x) (S pre) >>= fun z => match z with | .nx a' => loopM f (post.map F) a' | .rt v => pure (.rt v)) = _
    rw [h pre x post rfl, MoL.pb]
    have := loop_from post (pre ++ [x]) fun p y q e => h p y q (by rw [← e]; simp)
    rw [show pre ++ x :: post = (pre ++ [x]) ++ post by simp]
    exact this
theorem loop_pre {f : D → A → m (Fl A)} {F : γ → D} (S : List γ → A) (all : List γ) (h : ∀ p x q, all = p ++ x :: q → f (F x) (S p) = pure (.nx (S (p ++ [x])))) : loopM f (all.map F) (S []) = pure (.nx (S all)) := by
  have := loop_from (S := S) all [] fun p x q e => h p x q e
  exact this
/-- a loop that looks for the first -/
theorem loop_find {f : D → A → m (Fl A)} {F : γ → D} {p : γ → Bool} {R : γ → D} {a : A} : ∀ xs : List γ, (∀ x ∈ xs, f (F x) a = if p x = true then pure (.rt (R x)) else pure (.nx a)) → loopM f (xs.map F) a = pure (match xs.find? p with | some x => .rt (R x) | none => .nx a)
  | [], _ => rfl
  | x :: xs, h => by
    show (f (F x) a >>= fun z => match z with | .nx a' => loopM f (xs.map F) a' | .rt v => pure (.rt v)) = _
    rw [h x List.mem_cons_self]
    cases hp : p x with
    | true => simp only [if_true, MoL.pb, List.find?_cons, hp]
    | false =>
      simp only [Bool.false_eq_true, if_false, MoL.pb, List.find?_cons, hp]
      exact loop_find xs fun y hy => h y (List.mem_cons_of_mem _ hy)
end
theorem bindE {m : Type → Type} [Mo m] [MoL m] {α β : Type} {x : m α} {a : α} {f : α → m β} {y : m β} (e : x = pure a) (h : f a = y) : (x >>= f) = y := by
  rw [e, MoL.pb]
  exact h
/-! ### operations on data of known shape -/
theorem add_int (a b : Int) : addD (.int a) (.int b) = some (.int (a + b)) := rfl
theorem sub_int (a b : Int) : subD (.int a) (.int b) = some (.int (a - b)) := rfl
theorem lt_int (a b : Int) : ltD (.int a) (.int b) = some (.bool (decide (a < b))) := rfl
theorem le_int (a b : Int) : leD (.int a) (.int b) = some (.bool (decide (a ≤ b))) := rfl
theorem gt_int (a b : Int) : gtD (.int a) (.int b) = some (.bool (decide (b < a))) := rfl
theorem ge_int (a b : Int) : geD (.int a) (.int b) = some (.bool (decide (b ≤ a))) := rfl
theorem eq_int (a b : Int) : eqD (.int a) (.int b) = some (.bool (a == b)) := rfl
theorem ne_int (a b : Int) : neD (.int a) (.int b) = some (.bool (!(a == b))) := rfl
theorem min_int (a b : Int) : min2D (.int a) (.int b) = some (.int (min a b)) := by
  show some (PyData.int (if b < a then b else a)) = _
  congr 2
  omega
theorem max_int (a b : Int) : max2D (.int a) (.int b) = some (.int (max a b)) := by
  show some (PyData.int (if b > a then b else a)) = _
  congr 2
  omega
theorem neg_int (a : Int) : negD (.int a) = some (.int (-a)) := rfl
theorem bool_bool (b : Bool) : boolD (.bool b) = some b := rfl
theorem not_bool (b : Bool) : notD (.bool b) = some (.bool (!b)) := rfl
theorem is_none (d : D) : isD d .none = some (.bool (isNone d)) := rfl
theorem isn_none (d : D) : isnD d .none = some (.bool (!isNone d)) := rfl
theorem nn_int (i : Int) : isNone (.int i) = false := rfl
theorem nn_none : isNone .none = true := rfl
theorem nn_tup (xs : List D) : isNone (.tuple xs) = false := rfl
theorem len_tup (xs : List D) : lenD (.tuple xs) = some (.int xs.length) := rfl
theorem len_lst (xs : List D) : lenD (.list xs) = some (.int xs.length) := rfl
theorem tup_lst (xs : List D) : tupleD (.list xs) = some (.tuple xs) := rfl
theorem tup_tup (xs : List D) : tupleD (.tuple xs) = some (.tuple xs) := rfl
theorem it_lst (xs : List D) : itemsD (.list xs) = some xs := rfl
theorem it_tup (xs : List D) : itemsD (.tuple xs) = some xs := rfl
theorem int_bool (b : Bool) : intD (.bool b) = some (.int (if b then 1 else 0)) := rfl
theorem int_int (i : Int) : intD (.int i) = some (.int i) := rfl
theorem oint_int (i : Int) : oint (.int i) = some (some i) := rfl
theorem addI_int (a b : Int) : addI (.int a) (.int b) = some (.int (a + b)) := rfl
theorem subI_int (a b : Int) : subI (.int a) (.int b) = some (.int (a - b)) := rfl
theorem fits_ok {k : Nat} (h : k < 1000000) : fits k = some () := by unfold fits; rw [if_pos h]
theorem mod_int {a b : Int} (h : 0 < b) : modD (.int a) (.int b) = some (.int (a % b)) := by
  show (if 0 < b then some (PyData.int (a % b)) else none) = _
  rw [if_pos h]
theorem mul_int {a b : Int} (h : (-(2 ^ 64) < a ∧ a < 2 ^ 64) ∨ (-(2 ^ 64) < b ∧ b < 2 ^ 64)) : mulD (.int a) (.int b) = some (.int (a * b)) := by
  show (if a.natAbs < 2 ^ 64 ∨ b.natAbs < 2 ^ 64 then some (PyData.int (a * b)) else none) = _
  rw [if_pos (by omega)]
theorem range_map (n : Nat) : rangeL 0 n = (List.range n).map fun i : Nat => PyData.int (i : Nat) := by
  unfold rangeL
  refine List.map_congr_left fun i _ => ?_
  rw [Int.zero_add]
theorem enum_map {γ : Type} (F : γ → D) (xs : List γ) : enumL (xs.map F) = xs.zipIdx.map fun p => .tuple [.int (p.2 : Nat), F p.1] := by
  unfold enumL
  rw [List.zipIdx_map, List.map_map]
  rfl
theorem zip_map {γ δ : Type} {F : γ → D} {G : δ → D} {xs : List γ} {ys : List δ} (h : xs.length ≤ ys.length) : zipD [.tuple (xs.map F), .tuple (ys.map G)] = some ((xs.zip ys).map fun p => .tuple [F p.1, G p.2]) := by
  rw [zipD_old (r := xs.map F) (rs := [ys.map G]) rfl (by simp) fun x hx => by rw [List.mem_singleton.mp hx]; simpa using h]
  congr 1
  refine List.ext_getElem (by simp; omega) fun i h1 h2 => ?_
  have hi : i < xs.length := by simpa using h1
  have hj : i < ys.length := by omega
  simp [List.getD, hi, hj]
theorem get_tup {γ : Type} {F : γ → D} {xs : List γ} {i : Nat} (h : i < xs.length) : getD (.tuple (xs.map F)) (.int (i : Nat)) = some (F xs[i]) := by
  refine atI_at rfl ?_
  rw [List.getElem?_map, List.getElem?_eq_getElem h]
  rfl
theorem get_lst {γ : Type} {F : γ → D} {xs : List γ} {i : Nat} (h : i < xs.length) : getD (.list (xs.map F)) (.int (i : Nat)) = some (F xs[i]) := by
  refine atI_at rfl ?_
  rw [List.getElem?_map, List.getElem?_eq_getElem h]
  rfl
theorem max_tI {r : List Int} {v : Int} (e : r.max? = some v) : maxD (tI r) = some (.int v) := by
  show (intsD (r.map .int)).bind (fun ns => ns.max?.map PyData.int) = _
  rw [ints_of]
  show r.max?.map PyData.int = _
  rw [e]
  rfl
theorem max_lI {r : List Int} {v : Int} (e : r.max? = some v) : maxD (.list (r.map .int)) = some (.int v) := max_tI e
theorem bools_of {γ : Type} {p : γ → Bool} : ∀ xs : List γ, bools (xs.map fun x => PyData.bool (p x)) = some (xs.map p)
  | [] => rfl
  | x :: xs => by
    show (bools (xs.map fun x => PyData.bool (p x))).map (p x :: ·) = _
    rw [bools_of xs]
    rfl
theorem all_map {γ : Type} {p : γ → Bool} (xs : List γ) : allD (.list (xs.map fun x => .bool (p x))) = some (.bool (xs.all p)) := by
  show (bools (xs.map fun x => PyData.bool (p x))).map _ = _
  rw [bools_of]
  simp [Function.comp_def]
theorem any_map {γ : Type} {p : γ → Bool} (xs : List γ) : anyD (.list (xs.map fun x => .bool (p x))) = some (.bool (xs.any p)) := by
  show (bools (xs.map fun x => PyData.bool (p x))).map _ = _
  rw [bools_of]
  simp [Function.comp_def]
/-! slices -/
/-! no list within -/
theorem noL_map {γ : Type} {F : γ → D} : ∀ xs : List γ, (∀ x ∈ xs, noL (F x) = true) → noLs (xs.map F) = true
  | [], _ => rfl
  | x :: xs, h => by
    show (noL (F x) && noLs (xs.map F)) = true
    rw [h x List.mem_cons_self, noL_map xs fun y hy => h y (List.mem_cons_of_mem _ hy)]
    rfl
theorem noL_ints (r : List Int) : noLs (r.map .int) = true := noL_map r fun _ _ => rfl
theorem flat_ok {d : D} (h : noL d = true) : flatO d = some d := by unfold flatO; rw [if_pos h]
theorem flat_tI (r : List Int) : flatO (tI r) = some (tI r) := flat_ok (noL_ints r)
theorem flat_int (i : Int) : flatO (.int i) = some (.int i) := rfl
theorem flat_none : flatO .none = some .none := rfl
theorem put_at {ds : List D} {i : Nat} {d : D} (h : i < ds.length) : putD ds (.int (i : Nat)) d = some (ds.set i d) := by
  show (ixN ds.length (i : Nat)).map (fun j => ds.set j d) = _
  rw [ixN_at rfl h]
  rfl
/-! ### what repr can show: n nodes, depth k -/
structure Sm (n k : Nat) (d : D) : Prop where
  b : smallB d = true
  n : nodes d ≤ n
  k : d.depth ≤ k
structure SmA (n k : Nat) (ds : List D) : Prop where
  b : smallAll ds = true
  n : nodesAll ds ≤ n
  k : PyData.depthAll ds ≤ k
theorem Sm.le {n k n' k' : Nat} {d : D} (h : Sm n k d) (hn : n ≤ n') (hk : k ≤ k') : Sm n' k' d := ⟨h.b, Nat.le_trans h.n hn, Nat.le_trans h.k hk⟩
theorem Sm.int {i : Int} (h : i.natAbs < 10 ^ 20) : Sm 1 0 (.int i) := ⟨decide_eq_true h, Nat.le_refl _, by simp [PyData.depth]⟩
theorem Sm.str {x : Str} (h : PyData.strOk x = true) (h2 : (PyData.str x).shown.length ≤ 28) : Sm 1 0 (.str x) := ⟨by show (PyData.strOk x && decide ((PyData.str x).shown.length ≤ 28)) = true; rw [h, decide_eq_true h2]; rfl, Nat.le_refl _, by simp [PyData.depth]⟩
theorem Sm.none : Sm 1 0 .none := ⟨rfl, Nat.le_refl _, by simp [PyData.depth]⟩
theorem Sm.bool (b : Bool) : Sm 1 0 (.bool b) := ⟨rfl, Nat.le_refl _, by simp [PyData.depth]⟩
theorem SmA.nil : SmA 0 0 [] := ⟨rfl, Nat.le_refl _, by simp [PyData.depthAll]⟩
theorem SmA.cons {n k n' k' : Nat} {d : D} {ds : List D} (h : Sm n k d) (t : SmA n' k' ds) : SmA (n + n') (max k k') (d :: ds) :=
  ⟨by show (smallB d && smallAll ds) = true; rw [h.b, t.b]; rfl, by show nodes d + nodesAll ds ≤ _; have := h.n; have := t.n; omega, by show max d.depth (PyData.depthAll ds) ≤ _; have := h.k; have := t.k; omega⟩
theorem SmA.map {γ : Type} {n k : Nat} {F : γ → D} : ∀ xs : List γ, (∀ x ∈ xs, Sm n k (F x)) → SmA (xs.length * n) k (xs.map F)
  | [], _ => ⟨rfl, by simp [nodesAll], by simp [PyData.depthAll]⟩
  | x :: xs, h => by
    have := SmA.cons (h x List.mem_cons_self) (SmA.map xs fun y hy => h y (List.mem_cons_of_mem _ hy))
    exact ⟨this.b, by have := this.n; rw [List.length_cons, Nat.succ_mul]; simp only [List.map_cons]; omega, by have := this.k; simp only [List.map_cons]; omega⟩
theorem SmA.le {n k n' k' : Nat} {ds : List D} (h : SmA n k ds) (hn : n ≤ n') (hk : k ≤ k') : SmA n' k' ds := ⟨h.b, Nat.le_trans h.n hn, Nat.le_trans h.k hk⟩
theorem SmA.tup {n k : Nat} {ds : List D} (h : SmA n k ds) : Sm (n + 1) (k + 1) (.tuple ds) := ⟨h.b, by show nodesAll ds + 1 ≤ _; have := h.n; omega, by show PyData.depthAll ds + 1 ≤ _; have := h.k; omega⟩
theorem SmA.lst {n k : Nat} {ds : List D} (h : SmA n k ds) : Sm (n + 1) (k + 1) (.list ds) := ⟨h.b, by show nodesAll ds + 1 ≤ _; have := h.n; omega, by show PyData.depthAll ds + 1 ≤ _; have := h.k; omega⟩
mutual
theorem lay_small : ∀ d : D, smallB d = true → d.canLay0 = true
  | .none, _ => rfl
  | .bool _, _ => rfl
  | .int _, _ => rfl
  | .str x, h => by
    have h' : PyData.strOk x = true ∧ (PyData.str x).shown.length ≤ 28 := by
      have : (PyData.strOk x && decide ((PyData.str x).shown.length ≤ 28)) = true := h
      simpa using this
    exact h'.1
  | .list xs, h => layA_small xs h
  | .tuple xs, h => layA_small xs h
  | .dict _, h => by cases h
theorem layA_small : ∀ xs : List D, smallAll xs = true → PyData.canLayAll0 xs = true
  | [], _ => rfl
  | x :: xs, h => by
    have h' : smallB x = true ∧ smallAll xs = true := by
      have : (smallB x && smallAll xs) = true := h
      simpa using this
    show (x.canLay0 && PyData.canLayAll0 xs) = true
    rw [lay_small x h'.1, layA_small xs h'.2]
    rfl
end
theorem Sm.shaped {n k : Nat} {d : D} (h : Sm n k d) (hk : k ≤ 64) : SeqAt.shaped d = true := by
  unfold SeqAt.shaped
  rw [lay_small d h.b, Bool.true_and]
  exact decide_eq_true (Nat.le_trans h.k hk)
/-! data without bools and dicts: == is equality -/
/-! the first index -/
def firstN {α : Type} (p : α → Bool) (l : List α) : Option Nat := (l.zipIdx.find? fun q => p q.1).map (·.2)
def oN : Option Nat → D
  | none => .none
  | some n => .int (n : Nat)
theorem min_snoc (l : List Int) (x : Int) : (l ++ [x]).min? = some (match l.min? with | none => x | some v => min v x) := by
  cases l with
  | nil => rfl
  | cons a l =>
    show some ((l ++ [x]).foldl min a) = some (min (l.foldl min a) x)
    rw [List.foldl_append]
    rfl
theorem rep_ok {ds : List D} {k : Int} (h0 : 0 ≤ k) (h1 : k ≤ 1000) (h : ds.length ≤ 1000) : repO ds (.int k) = some (List.replicate k.toNat ds).flatten := by
  show (if 0 ≤ k ∧ k ≤ 1000 ∧ ds.length ≤ 1000 then some (List.replicate k.toNat ds).flatten else none) = _
  rw [if_pos ⟨h0, h1, h⟩]
def oD : Option Int → D
  | none => .none
  | some i => .int i
end DD
namespace DD
open PySem PySem.Spec PyProof.Rows L2
theorem ob_assoc {α β γ : Type} (x : Option α) (f : α → Option β) (g : β → Option γ) : ((x >>= f) >>= g) = (x >>= fun a => f a >>= g) := by cases x <;> rfl
theorem Tri.pr {α : Type} {d : Nat} {a : α} {φ : α → Prop} (h : φ a) : Tri d (Pure.pure a : W α) φ := (Tri.pure h).le (Nat.zero_le _)
/-! ### other draws -/
section
variable {K : PySem.W.Frag} {De : Ends} {H : Hp} {a b : Addr} {n : Nat} {many : Int} {cells : List Int} {c : Int}
/-- variant 3 (k35 ..) -/
def mix3 (K : PySem.W.Frag) : TE := tOp rMod (tOp rMod (tOp rPow (tOp rPlus (tOp rPlus (tOp rMod (tVar 2) (tC (.int 2147483587))) (tOp rTimes (tC (.int 7919)) (dIx K 1))) (tC (.int 1))) (tC (.int 5))) (tC (.int 2147483647))) (tVar 1)
theorem mixes3 : Mixes K (mix3 K) := by
  intro a b many cell ix c H Q h1 m0 m1 p0 c0 cn q
  have r0 : 0 ≤ cell % 2147483587 := Int.emod_nonneg _ (by decide)
  have r1 : cell % 2147483587 < 2147483587 := Int.emod_lt_of_pos _ (by decide)
  refine ⟨.int cell, rfl, cell, 2147483587, rfl, rfl, (show (0 : Int) < 2147483587 by decide), .ref a, rfl, a, _, 1, .int c, rfl, rfl, SqL.of h1, rfl, 7919, c, rfl, rfl, .inl ⟨by decide, by decide⟩, _, _, rfl, rfl, _, 1, rfl, rfl, _, 5, rfl, rfl, ⟨by decide, by decide, ?_⟩, _, 2147483647, rfl, rfl, (show (0 : Int) < 2147483647 by decide), .int many, rfl, _, many, rfl, rfl, m0, ?_⟩
  · omega
  · exact q _ (Int.emod_nonneg _ (by omega)) (Int.emod_lt_of_pos _ m0)
def drawT3 (K : PySem.W.Frag) : TS := tSeq (drawInc K) (tSeq (tAsg (tC (.int 0)) (gName 2)) (tSeq (tAsg (tUn (rU fun i => .int (-i)) (tC (.int 1))) (gName 3)) (tSeq (drawMid K) (drawTail K (mix3 K)))))
theorem draw3_ok (dk : DeckAt H a b n) (m0 : 0 < many) (m1 : many < 1073741824) (hn : n < 2 ^ 40) (q : ∀ (r : Int) (H' : Hp), 0 ≤ r → r < many → DeckAt H' a b (n + 1) → (∀ z o, z ≠ a → z ≠ b → H z = some o → H' z = some o) → De.rt (.int r) H') :
    drawT3 K De [some (.ref a), some (.int many), none, none] H := by
  refine inc_ok dk fun cells c H1 h1 h2 hab c0 c1 hc h63 hk => ?_
  refine ⟨1, rfl, ?_⟩
  refine mid_ok h1 h2 c0 hc fun cell ix p0 p1 => ?_
  exact tail_ok mixes3 h1 h2 hab c0 c1 (by omega) hc h63 m0 m1 p0 p1 fun r H' r0 r1 dk' hk' => q r H' r0 r1 dk' fun z o za zb e => hk' z o za zb (hk z o za zb e)
end
end DD
namespace DD
open PySem PySem.Spec PyProof.Rows L2
/-! ### x in c, x not in c: data of any depth -/
theorem units65 {A : Around} {k : Nat} (h : Room k A) : A.units + 65 < cLine := by
  have := h.un
  omega
def laidIn (d : D) (xs : List D) : Bool := SeqAt.shaped d && PyData.canLayAll0 xs
/-- a list of texts -/
def strsOf : List D → Option (List Str)
  | [] => some []
  | .str x :: ds => (strsOf ds).map (x :: ·)
  | _ :: _ => none
def inStr : D → List D → Option Bool
  | .str x, xs => (strsOf xs).map fun ss => decide (x ∈ ss)
  | _, _ => none
def ninD : D → D → Option D
  | d, .list xs => if laidIn d xs = true then some (.bool (!xs.any fun y => PyData.eqv y d)) else (inStr d xs).map fun b => .bool !b
  | d, .tuple xs => if laidIn d xs = true then some (.bool (!xs.any fun y => PyData.eqv y d)) else (inStr d xs).map fun b => .bool !b
  | _, _ => none
def rNinA (K : PySem.W.Frag) : R2 := fun x y H Q => ∃ d e xs, Da K H x d ∧ Da K H y e ∧ (e = .list xs ∨ e = .tuple xs) ∧ laidIn d xs = true ∧ Q (.bl (!xs.any fun y => PyData.eqv y d)) H
theorem strs_da {K : PySem.W.Frag} {G : Hp} : ∀ {ds : List D} {ss : List Str} {vs : List V}, DaAll K G vs ds → strsOf ds = some ss → vs = ss.map V.str
  | [], ss, _, .nil, e => by cases e; rfl
  | .str x :: ds, ss, _, .cons h hs, e => by
    obtain ⟨ss', e', rfl⟩ := Option.map_eq_some_iff.mp (show (strsOf ds).map (x :: ·) = some ss from e)
    cases h
    rw [strs_da hs e']
    rfl
  | .none :: _, _, _, .cons _ _, e => by cases e
  | .bool _ :: _, _, _, .cons _ _, e => by cases e
  | .int _ :: _, _, _, .cons _ _, e => by cases e
  | .list _ :: _, _, _, .cons _ _, e => by cases e
  | .tuple _ :: _, _, _, .cons _ _, e => by cases e
  | .dict _ :: _, _, _, .cons _ _, e => by cases e
theorem inV_str (x : Str) (ss : List Str) : inV (.str x) (ss.map V.str) = decide (x ∈ ss) := by
  unfold inV
  rw [List.any_map, Bool.eq_iff_iff, List.any_eq_true, decide_eq_true_eq]
  constructor
  · rintro ⟨y, hy, h⟩
    have : (y == x) = true := h
    rw [← eq_of_beq this]
    exact hy
  · intro h
    exact ⟨x, h, beq_self_eq_true x⟩
theorem flat_strs (ss : List Str) : (ss.map V.str).all flatV = true := by
  rw [List.all_map, List.all_eq_true]
  intro x _
  rfl
section
variable {X : Cx} {K : PySem.W.Frag}
theorem op_ninA (hy : Sys X) (hu : X.A.units + 65 < cLine) : OpR X (compareOp .NotIn) (rNinA X.K) := by
  intro pins s σ H x y v u Q I rx ry h
  obtain ⟨d, e, xs, hd, he, hk, hl, q⟩ := h
  unfold laidIn at hl
  rw [Bool.and_eq_true] at hl
  obtain ⟨as, r1, _⟩ := Da.reads hy I d x v hd (ok_canLay d (SeqAt.canLay_of_shaped hl.1)) rx
  obtain ⟨bs, r2, _⟩ := Da.reads hy I e y u he (by rcases hk with rfl | rfl <;> exact ok_canLays xs hl.2) ry
  rcases hk with rfl | rfl
  · exact SeqAt.notIn_list_reads r2 r1 hl.2 (SeqAt.canLay_of_shaped hl.1) (room_in_shaped hl.1 hu) ⟨.bl _, H, I, rfl, q⟩
  · exact SeqAt.notIn_tuple_reads r2 r1 hl.2 (SeqAt.canLay_of_shaped hl.1) (room_in_shaped hl.1 hu) ⟨.bl _, H, I, rfl, q⟩
theorem op_ninB (hy : Sys X) (hu : X.A.units + 65 < cLine) : OpR X (compareOp .NotIn) (orR (rNinA X.K) (rIn X.K true)) := op_or (op_ninA hy hu) op_notIn_seq
theorem instr_da {G H : Hp} {x y : V} {dx : D} {xs : List D} {k : Bool} (hs : SubM G H) (hx : Da K G x dx) (hy : Da K G y (.list xs) ∨ Da K G y (.tuple xs)) (e : inStr dx xs = some k) : ∃ p ys, y = .ref p ∧ (SqL K H p ys ∨ SqT K H p ys) ∧ flatV x = true ∧ ys.all flatV = true ∧ inV x ys = k := by
  unfold inStr at e
  split at e
  · rename_i s
    obtain ⟨ss, es, rfl⟩ := Option.map_eq_some_iff.mp e
    cases hx
    rcases hy with hy | hy
    · obtain ⟨a, ys, rfl, ha, da⟩ := hy.toL
      obtain rfl := strs_da da es
      exact ⟨a, _, rfl, .inl (.of (hs.h _ _ ha rfl)), rfl, flat_strs ss, inV_str s ss⟩
    · obtain ⟨a, ys, rfl, ha, da⟩ := hy.toT
      obtain rfl := strs_da da es
      exact ⟨a, _, rfl, .inr (sameT hs ha), rfl, flat_strs ss, inV_str s ss⟩
  · cases e
theorem rd_nin : RD K (orR (rNinA K) (rIn K true)) ninD := by
  intro x y dx dy z H G Q hx hy hs e q
  unfold ninD at e
  split at e
  all_goals first
    | (split at e
       · rename_i h; cases e; have hl := h; unfold laidIn at hl; rw [Bool.and_eq_true] at hl; exact .inl ⟨_, _, _, hx.toH hs (ok_canLay _ (SeqAt.canLay_of_shaped hl.1)), hy.toH hs (ok_canLays _ hl.2), by first | exact .inl rfl | exact .inr rfl, h, q _ H G (Gr.refl hs) (.bl _)⟩
       · obtain ⟨k, hk, rfl⟩ := Option.map_eq_some_iff.mp e
         obtain ⟨p, ys, r1, r2, r3, r4, r5⟩ := instr_da hs hx (by first | exact .inl hy | exact .inr hy) hk
         exact .inr ⟨p, ys, r1, r2, r3, r4, by rw [r5]; exact q _ H G (Gr.refl hs) (.bl _)⟩)
    | cases e
end
/-! ### [e for x in it for y in it2] -/
section
variable {m : Type → Type} [Mo m]
def lc2B (f : D → m D) : List D → List D → m (List D)
  | [], acc => pure acc
  | e :: r, acc => f e >>= fun z => Mo.lift (fits acc.length) >>= fun _ => lc2B f r (acc ++ [z])
def lc2A (y : D → m (List D)) (f : D → D → m D) : List D → List D → m (List D)
  | [], acc => pure acc
  | d :: r, acc => y d >>= fun es => lc2B (f d) es acc >>= fun acc => lc2A y f r acc
theorem fits_eq {k : Nat} {u : Unit} (h : fits k = some u) : k < 1000000 := by
  unfold fits at h
  split at h
  · assumption
  · cases h
variable [Calm m] {X : Cx} {EX : XR} {g : List Sl}
theorem tlc2_of {i j : Nat} {x : m (List D)} {y : D → m (List D)} {f : D → D → m D} {vs : List Nat} (hi : i ∈ vs) (hj : j ∈ vs) (how : noOwn g vs = true) (how1 : ∀ d, noOwn ((wipeG g vs).set i (.val d)) [j] = true) {σ : L2.St} {H : Hp} {Q : VK}
    (h : tlJ X EX g (x >>= fun ds => Mo.lift (small ds) >>= fun ds => lc2A y f ds []) σ H Q) :
    tLc2 (tiJ X EX g x) (gName i) tYes (fun σ H R => ∃ d, tiJ X X0 ((wipeG g vs).set i (.val d)) (y d) σ H R) (gName j) tYes (fun σ H Q => ∃ d : D × D, teJ X X0 ((wipeG ((wipeG g vs).set i (.val d.1)) [j]).set j (.val d.2)) (f d.1 d.2) σ H Q) vs [j] σ H Q := by
  obtain ⟨B, G, n, φ, ξ, o, s, q, xw⟩ := h
  refine ⟨B, G, n, _, ξ, o, Mo.sat_bind s, fun J H1 G1 ds n1 o1 g1 wk s1 => ?_, xw⟩
  obtain ⟨es, ee, s1'⟩ := Mo.sat_lift (Mo.sat_bind s1)
  obtain ⟨rfl, hlen⟩ := small_eq ee
  intro D hD
  have sd := o1.side hD
  refine ⟨fun i k H' => k = es.length - i ∧ i ≤ es.length ∧ ∃ G' n' acc ac, Ok X.K B g σ H' G' n' ∧ Same G1 G' ∧ Side B g σ G' D ∧ H' D = some (.lst acc) ∧ DaAll X.K G' acc ac ∧ Mo.sat (lc2A y f (es.drop i) ac) n' φ ξ, ⟨es.length, by omega, Nat.zero_le _, G1, n1, [], [], o1.raw hD, Same.refl _, sd, upd_same, .nil, s1'⟩, ?_⟩
  rintro i' k H' ⟨rfl, hi', G', n', acc, ac, o', g', sd', hD', da, s'⟩
  by_cases hlt : i' < es.length
  · refine .inr ⟨wk.goes i' H' hlt (g'.subm o'.fm.sub), fun H2 => ∃ G2 n2 acc2 ac2, Ok X.K B g σ H2 G2 n2 ∧ Same G1 G2 ∧ Side B g σ G2 D ∧ H2 D = some (.lst acc2) ∧ DaAll X.K G2 acc2 ac2 ∧ Mo.sat (lc2A y f (es.drop (i' + 1)) ac2) n2 φ ξ,
      fun H2 ⟨G2, n2, acc2, ac2, r⟩ => ⟨es.length - (i' + 1), by omega, rfl, hlt, G2, n2, acc2, ac2, r⟩, fun v H2 hy => ?_⟩
    obtain ⟨d, G2, ed, gr, dv⟩ := wk.yields i' H' G' v H2 hlt g' o'.fm.sub hy
    have o2 := o'.gr gr
    have sd2 : Side B g σ G2 D := ⟨sd'.b, sd'.bg, gr.new D (by rw [hD']; simp) sd'.no, sd'.f⟩
    have hD2 : H2 D = some (.lst acc) := gr.h _ _ hD'
    have e0 : es.drop i' = d :: es.drop (i' + 1) := by
      rw [List.drop_eq_getElem_cons hlt]
      congr 1
      rw [List.getElem?_eq_getElem hlt] at ed
      exact Option.some.inj ed
    rw [e0] at s'
    have s2 := Calm.calm (ξ' := fun _ _ => False) (Mo.sat_bind s')
    have sdw : Side B (wipeG g vs) (L2.wipe σ vs) G2 D := ⟨sd2.b, sd2.bg, sd2.no, fun j es2 f2 e1 e2 => sd2.f j es2 f2 (wipeG_some e1 (by simp)).1 (wipe_some e2).1⟩
    have es1 : L2.wipe ((L2.wipe σ vs).set i (some v)) vs = L2.wipe σ vs := by rw [wipe_set hi, wipe_wipe]
    have eg1 : wipeG ((wipeG g vs).set i (.val d)) vs = wipeG g vs := by rw [wipeG_set hi, wipeG_wipeG]
    refine ⟨es1, ?_⟩
    unfold tYes; dsimp only
    rw [if_pos rfl]
    refine ⟨d, B.pin D (.lst acc), G2, n', _, _, (o2.wipe.pin sdw hD2).setV dv, s2, fun J1 H4 G4 ds1 n4 o4 g4 wk1 s4 => ?_, fun _ _ _ _ _ _ _ z => z.elim⟩
    have oB4 := o4.unpin o2.fm sd2.b
    have no4 : G4 D = none := o4.fm.new D (by show upd B.H D _ D ≠ none; rw [upd_same]; simp) sd2.bg
    have side2 : ∀ {G' : Hp}, G' D = none → Side B ((wipeG g vs).set i (.val d)) ((L2.wipe σ vs).set i (some v)) G' D := fun {G'} hn => ⟨sd2.b, sd2.bg, hn, fun a es2 f2 e1 e2 => by
      by_cases ha : a = i
      · subst ha
        rw [List.getElem?_set_self'] at e1
        cases hh : (wipeG g vs)[a]? with
        | none => rw [hh] at e1; cases e1
        | some _ => rw [hh] at e1; cases e1
      · rw [List.getElem?_set_ne (fun h => ha h.symm)] at e1 e2
        exact sdw.f a es2 f2 e1 e2⟩
    have h4D : H4 D = some (.lst acc) := o4.fm.keep D _ upd_same (o2.fm.side sd2.b)
    refine ⟨fun j' k H' => k = ds1.length - j' ∧ j' ≤ ds1.length ∧ ∃ G' n' acc' ac', Ok X.K B ((wipeG g vs).set i (.val d)) ((L2.wipe σ vs).set i (some v)) H' G' n' ∧ Same G4 G' ∧ G' D = none ∧ H' D = some (.lst acc') ∧ DaAll X.K G' acc' ac' ∧ Mo.sat (lc2B (f d) (ds1.drop j') ac') n' (fun acc n'' => Mo.sat (lc2A y f (es.drop (i' + 1)) acc) n'' φ ξ) ξ, ⟨ds1.length, by omega, Nat.zero_le _, G4, n4, acc, ac, oB4, Same.refl _, no4, h4D, (da.mono gr.g).mono g4, ?_⟩, ?_⟩
    · exact Mo.sat_bind s4
    rintro j' k' H5 ⟨rfl, hj', G5, n5, acc5, ac5, o5, g5, no5, h5D, da5, s5⟩
    by_cases hlt1 : j' < ds1.length
    · refine .inr ⟨wk1.goes j' H5 hlt1 (g5.subm o5.fm.sub), fun H' => ∃ G' n' acc' ac', Ok X.K B ((wipeG g vs).set i (.val d)) ((L2.wipe σ vs).set i (some v)) H' G' n' ∧ Same G4 G' ∧ G' D = none ∧ H' D = some (.lst acc') ∧ DaAll X.K G' acc' ac' ∧ Mo.sat (lc2B (f d) (ds1.drop (j' + 1)) ac') n' (fun acc n'' => Mo.sat (lc2A y f (es.drop (i' + 1)) acc) n'' φ ξ) ξ,
        fun H6 ⟨G6, n6, acc6, ac6, r⟩ => ⟨ds1.length - (j' + 1), by omega, rfl, hlt1, G6, n6, acc6, ac6, r⟩, fun v1 H6 hy1 => ?_⟩
      obtain ⟨d1, G6, ed1, gr1, dv1⟩ := wk1.yields j' H5 G5 v1 H6 hlt1 g5 o5.fm.sub hy1
      have o6 := o5.gr gr1
      have no6 : G6 D = none := gr1.new D (by rw [h5D]; simp) no5
      have h6D : H6 D = some (.lst acc5) := gr1.h _ _ h5D
      have e1 : ds1.drop j' = d1 :: ds1.drop (j' + 1) := by
        rw [List.drop_eq_getElem_cons hlt1]
        congr 1
        rw [List.getElem?_eq_getElem hlt1] at ed1
        exact Option.some.inj ed1
      rw [e1] at s5
      have s6 := Calm.calm (ξ' := fun _ _ => False) (Mo.sat_bind s5)
      refine ⟨by rw [wipe_set (List.mem_singleton.mpr rfl), wipe_wipe], ?_⟩
      rw [if_pos rfl]
      have sd6 := side2 no6
      have sd6w : Side B (wipeG ((wipeG g vs).set i (.val d)) [j]) (L2.wipe ((L2.wipe σ vs).set i (some v)) [j]) G6 D := ⟨sd6.b, sd6.bg, sd6.no, fun a es2 f2 e1 e2 => sd6.f a es2 f2 (wipeG_some e1 (by simp)).1 (wipe_some e2).1⟩
      refine ⟨(d, d1), B.pin D (.lst acc5), G6, n5, _, _, ((o6.wipe.pin sd6w h6D)).setV dv1, s6, fun yv H7 G7 dy n7 o7 g7 dyv s7 => ?_, fun _ _ _ _ _ _ _ z => z.elim⟩
      have o7w : Ok X.K (B.pin D (.lst acc5)) (wipeG ((wipeG g vs).set i (.val d)) [j]) (L2.wipe ((L2.wipe σ vs).set i (some v)) [j]) H7 G7 n7 := o7.rewipe (by rw [wipeG_set (List.mem_singleton.mpr rfl), wipeG_wipeG]) (by rw [wipe_set (List.mem_singleton.mpr rfl), wipe_wipe])
      have o7' := o6.unwipe (o7w.unpin o6.fm sd2.b) g7 (how1 d)
      have no7 : G7 D = none := o7.fm.new D (by show upd B.H D _ D ≠ none; rw [upd_same]; simp) sd2.bg
      have h7D : H7 D = some (.lst acc5) := o7.fm.keep D _ upd_same (o6.fm.side sd2.b)
      obtain ⟨u, eu, s8⟩ := Mo.sat_lift (Mo.sat_bind (show Mo.sat (Mo.lift (fits ac5.length) >>= fun _ => lc2B (f d) (ds1.drop (j' + 1)) (ac5 ++ [dy])) n7 _ _ from s7))
      have hfit := fits_eq eu
      have hl5 : acc5.length = ac5.length := da5.length
      refine ⟨acc5, h7D, Nat.lt_of_lt_of_le (by omega) (le_line (Nat.le_refl _)), G7, n7, _, ac5 ++ [dy], o7'.poke (side2 no7), (g5.trans gr1.g).trans g7, no7, upd_same, ((da5.mono gr1.g).mono g7).append (.one dyv), ?_⟩
      exact s8
    · have e : j' = ds1.length := by omega
      subst e
      rw [List.drop_length] at s5
      have p := Mo.sat_pure s5
      refine .inl ⟨wk1.stops H5 (g5.subm o5.fm.sub), ?_⟩
      have o5w : Ok X.K B (wipeG g vs) (L2.wipe σ vs) H5 G5 n5 := o5.rewipe eg1 es1
      have o5' := o2.unwipe o5w (g4.trans g5) how
      exact ⟨G5, n5, acc5, ac5, o5', (g'.trans gr.g).trans (g4.trans g5), ⟨sd2.b, sd2.bg, no5, sd2.f⟩, h5D, da5, p⟩
  · have e : i' = es.length := by omega
    subst e
    rw [List.drop_length] at s'
    have p := Mo.sat_pure s'
    exact .inl ⟨wk.stops H' (g'.subm o'.fm.sub), q D acc H' G' ac n' o' (g1.trans g') sd'.b sd'.no hD' sd'.f da p⟩
theorem ij_blk {s : Shared} {H : Hp} {scope : Scope} {env : Env} {fp : List Addr} {tg e : Expr} {x : m (List D)} (h : IJ (X.blk s H scope env fp) X0 tg e g x) : PI (X.blk s H scope env fp) tg e (tiJ X X0 g x) := h
theorem pi_u {ι : Type} {X : Cx} {tg e : Expr} {F : ι → TI} (h : ∀ i, PI X tg e (F i)) : PI X tg e (fun σ H Q => ∃ i, F i σ H Q) := ⟨fun pins s σ H Q I ⟨i, q⟩ => (h i).run pins s σ H Q I q⟩
theorem lj_lc11 (own : List (Str × Nat)) (i j : Nat) {elt tg iter tg1 iter1 : Expr} {scope : Scope} {pos : Pos} {x : m (List D)} {y : D → m (List D)} {f : D → D → m D} (hN : X.N.Nodup) (hi : IJ X EX tg iter g x) (ok : BlkOk X.N X.env.scope scope own)
    (hg : ∀ (s : Shared) (H : Hp) (C : Addr) (cl : List (Str × Addr)) (fp : List Addr), PG (X.blk s H scope (compEnvC scope cl C X.env) fp) tg (gName i))
    (hi1 : ∀ (s : Shared) (H : Hp) (C : Addr) (cl : List (Str × Addr)) (fp : List Addr) (d : D), IJ (X.blk s H scope (compEnvC scope cl C X.env) fp) X0 tg1 iter1 ((wipeG g (own.map (·.2))).set i (.val d)) (y d))
    (hg1 : ∀ (s : Shared) (H : Hp) (C : Addr) (cl : List (Str × Addr)) (fp : List Addr), PG (X.blk s H scope (compEnvC scope cl C X.env) fp) tg1 (gName j))
    (he : ∀ (s : Shared) (H : Hp) (C : Addr) (cl : List (Str × Addr)) (fp : List Addr) (a b : D), EJ (X.blk s H scope (compEnvC scope cl C X.env) fp) X0 elt ((wipeG ((wipeG g (own.map (·.2))).set i (.val a)) [j]).set j (.val b)) (f a b))
    (hin : i ∈ own.map (·.2) := by decide) (hjn : j ∈ own.map (·.2) := by decide) (how : noOwn g (own.map (·.2)) = true := by rfl) (how1 : ∀ d, noOwn ((wipeG g (own.map (·.2))).set i (.val d)) [j] = true := by intro _; rfl) (hc : X.calm = true := by rfl) (hs : ∀ x, foldedSetIterable iter X.env x = pure x := by intro _; rfl) (hs1 : ∀ env x, foldedSetIterable iter1 env x = pure x := by intro _ _; rfl) :
    LcP X EX (.ListComp elt [⟨tg, iter, [], 0⟩, ⟨tg1, iter1, [], 0⟩] scope pos) g (x >>= fun ds => Mo.lift (small ds) >>= fun ds => lc2A y f ds []) :=
  have hv : ∀ a ∈ [j], a ∈ own.map (·.2) := fun a ha => by rw [List.mem_singleton.mp ha]; exact hjn
  ⟨(pe_lc2 hc hN hi ok hv hg (fun _ _ _ _ _ => pts_nil) (fun s H C cl fp => pi_u fun d => ij_blk (hi1 s H C cl fp d)) hg1 (fun _ _ _ _ _ => pts_nil) (fun s H C cl fp => pe_u fun d => ej_blk (he s H C cl fp d.1 d.2)) hs hs1).weak fun σ H Q h => tlc2_of hin hjn how how1 h,
   fun nd hy hl hsw => (ps_setLc2 hc nd hy hl hsw hi ok hv hg (fun _ _ _ _ _ => pts_nil) (fun s H C cl fp => pi_u fun d => ij_blk (hi1 s H C cl fp d)) hg1 (fun _ _ _ _ _ => pts_nil) (fun s H C cl fp => pe_u fun d => ej_blk (he s H C cl fp d.1 d.2)) hs hs1).weak fun De σ H h => tlc2_of hin hjn how how1 h⟩
theorem lc2B_map [MoL m] {γ : Type} {f : D → m D} {F G : γ → D} : ∀ (xs : List γ) (acc : List D), (∀ x ∈ xs, f (F x) = pure (G x)) → acc.length + xs.length < 1000000 → lc2B f (xs.map F) acc = pure (acc ++ xs.map G)
  | [], acc, _, _ => by simp [lc2B]
  | x :: xs, acc, h, hl => by
    show (f (F x) >>= fun z => Mo.lift (fits acc.length) >>= fun _ => lc2B f (xs.map F) (acc ++ [z])) = _
    rw [h x List.mem_cons_self, MoL.pb, fits_ok (by omega), MoL.ls, MoL.pb, lc2B_map xs (acc ++ [G x]) (fun y hy => h y (List.mem_cons_of_mem _ hy)) (by simp at hl ⊢; omega)]
    simp
theorem lc2_map [MoL m] {γ δ : Type} {y : D → m (List D)} {f : D → D → m D} {F : γ → D} {F2 : δ → D} {ys : γ → List δ} {G : γ → δ → D} : ∀ (xs : List γ) (acc : List D), (∀ x ∈ xs, y (F x) = pure ((ys x).map F2)) → (∀ x ∈ xs, ∀ e ∈ ys x, f (F x) (F2 e) = pure (G x e)) → acc.length + (xs.flatMap ys).length < 1000000 → lc2A y f (xs.map F) acc = pure (acc ++ xs.flatMap fun x => (ys x).map (G x))
  | [], acc, _, _, _ => by simp [lc2A]
  | x :: xs, acc, hy, hf, hl => by
    show (y (F x) >>= fun es => lc2B (f (F x)) es acc >>= fun acc => lc2A y f (xs.map F) acc) = _
    rw [List.flatMap_cons, List.length_append] at hl
    rw [hy x List.mem_cons_self, MoL.pb, lc2B_map (ys x) acc (hf x List.mem_cons_self) (by omega), MoL.pb, lc2_map xs _ (fun z hz => hy z (List.mem_cons_of_mem _ hz)) (fun z hz => hf z (List.mem_cons_of_mem _ hz)) (by rw [List.length_append, List.length_map]; omega)]
    simp
abbrev tN (ns : List Nat) : D := .tuple (ns.map fun n : Nat => .int (n : Nat))
abbrev tO (c : List (Option Int)) : D := .tuple (c.map oD)
abbrev comp11 (x : m (List D)) (y : D → m (List D)) (f : D → D → m D) : m (List D) := x >>= fun ds => Mo.lift (small ds) >>= fun ds => lc2A y f ds []
end
/-! rows -/
theorem get_row {rows : List (List Int)} {d : Nat} (h : d < rows.length) : DD.getD (tT rows) (.int (d : Nat)) = some (tI (rows.getD d [])) := by
  have := get_tup (F := tI) h
  rw [this]
  simp [List.getD, h]
theorem row_len {rows : List (List Int)} {k d : Nat} (hl : ∀ r ∈ rows, r.length = k) (h : d < rows.length) : (rows.getD d []).length = k := by
  simp [List.getD, h]
  exact hl _ (List.getElem_mem h)
theorem cut_loA {r : List D} {j : Int} (h0 : 0 ≤ j) : sliceD (.tuple r) none (some j) = some (.tuple (r.take j.toNat)) := by
  show some (PyData.tuple (cutD r none (some j))) = _
  unfold cutD
  have e : HT.sIx r.length r.length (some j) = min j.toNat r.length := by
    show (if j < 0 then (j + (r.length : Int)).toNat else min j.toNat r.length) = _
    rw [if_neg (by omega)]
  rw [e, HT.sIx_none, List.drop_zero, Nat.sub_zero]
  congr 2
  rw [List.take_eq_take_iff]
  omega
theorem oN_none {o : Option Nat} : isNone (oN o) = o.isNone := by cases o <;> rfl
theorem int_map {γ : Type} (l : List γ) (f : γ → Int) : (l.map fun y => PyData.int (f y)) = (l.map f).map PyData.int := by simp [Function.comp_def]
/-! ### defs that call themselves -/
/-- drawn wishes: one to four rows of k ints, none all zero -/
structure Wishes (k : Nat) (m : Int) (rows : List (List Int)) : Prop where
  one : 1 ≤ rows.length
  four : rows.length ≤ 4
  len : ∀ r ∈ rows, r.length = k
  ge : ∀ r ∈ rows, ∀ x ∈ r, 0 ≤ x ∧ x ≤ m
  pos : ∀ r ∈ rows, ∃ x ∈ r, 0 < x
def good (k : Nat) (m : Int) (r : List Int) : Prop := r.length = k ∧ (∀ x ∈ r, 0 ≤ x ∧ x ≤ m) ∧ ∃ x ∈ r, 0 < x
theorem Wishes.take {k : Nat} {m : Int} {rows : List (List Int)} (w : Wishes k m rows) {n : Nat} (h : 1 ≤ n) : Wishes k m (rows.take n) :=
  ⟨by have := w.one; rw [List.length_take]; omega, by have := w.four; rw [List.length_take]; omega, fun r hr => w.len r (List.mem_of_mem_take hr), fun r hr => w.ge r (List.mem_of_mem_take hr), fun r hr => w.pos r (List.mem_of_mem_take hr)⟩
/-- a drawn stock -/
structure Stk (m : Int) (k : Nat) (rows : List (List Int)) : Prop where
  one : 1 ≤ rows.length
  four : rows.length ≤ 4
  k1 : 1 ≤ k
  k4 : k ≤ 4
  len : ∀ r ∈ rows, r.length = k
  ge : ∀ r ∈ rows, ∀ x ∈ r, 0 ≤ x ∧ x ≤ m
/-! ### is, is not of bools -/
/-! ### for with three names -/
section
variable {m : Type → Type} [Mo m] {A : Type} {X : Cx} {EX : XR} {g : List Sl}
def tripM {α : Type} (d : D) (f : D → D → D → m α) : m α := match d with
  | .tuple [a, b, c] => f a b c
  | _ => Mo.lift none
abbrev forM3 (x : m (List D)) (a0 : A) (b : D → D → D → A → m (Fl A)) : m (Fl A) := x >>= fun ds => loopM (fun d a => tripM d fun u w v => b u w v a) ds a0
end
end DD
namespace DD
open PySem PySem.Spec PyProof.Rows
/-! ### t[::-1] of a tuple -/
section
variable {prog : Program} {w : World} {A : Around} {E : Value → Shared → Prop} {s : Shared}
theorem sliceApplied_rev {sl : Addr} {vl vu vs : Value} {n : Nat} {Q : Int × Int × Nat → Shared → Prop} (hs : s.heap.IsSliceOf sl vl vu vs) (pl : IsPart vl none) (pu : IsPart vu none) (ps : IsPart vs (some (-1)))
    (h : Q ((n : Int) - 1, -1, n) s) : wpAny (model prog w) A (Builtin.Slice.sliceApplied (.ref sl) (pure (n : Int))) Q E s := by
  obtain ⟨os, hos, hcs, hds⟩ := id hs
  unfold Builtin.Slice.sliceApplied Builtin.Slice.sliceFields
  refine wpAny_bind (wpAny_bind (wpAny_field hos hds (x := vl) rfl (wpAny_bind (wpAny_field hos hds (x := vu) rfl (wpAny_bind (wpAny_field hos hds (x := vs) rfl (wpAny_pure ?_)))))))
  refine wpAny_bind (HT.slicePart_ ps ?_)
  show wpAny _ _ (if ((-1 : Int) == 0) = true then _ else _) _ _ s
  rw [if_neg (by decide)]
  refine wpAny_bind (HT.slicePart_ pl (wpAny_bind (HT.slicePart_ pu (wpAny_bind (wpAny_pure ?_)))))
  show wpAny _ _ (pure ((n : Int) - 1, (-1 : Int), Builtin.Slice.slicePlaces ((n : Int) - 1) (-1) (-1))) _ _ s
  have e : Builtin.Slice.slicePlaces ((n : Int) - 1) (-1) (-1) = n := by
    unfold Builtin.Slice.slicePlaces
    rw [if_neg (by decide), show (- (-1) : Int) = 1 from rfl, Int.ediv_one]
    split <;> omega
  rw [e]
  exact wpAny_pure h
theorem fmap_congr {α β : Type} {f g : α → Option β} : ∀ l : List α, (∀ x ∈ l, f x = g x) → l.filterMap f = l.filterMap g
  | [], _ => rfl
  | x :: l, h => by rw [List.filterMap_cons, List.filterMap_cons, h x List.mem_cons_self, fmap_congr l fun y hy => h y (List.mem_cons_of_mem _ hy)]
theorem pick_rev (xs : Array Value) : ((List.range xs.size).filterMap fun (m : Nat) => xs[(((xs.size : Int) - 1) + (m : Int) * (-1)).toNat]?).toArray = xs.toList.reverse.toArray := by
  congr 1
  have e : ∀ m ∈ List.range xs.size, xs[(((xs.size : Int) - 1) + (m : Int) * (-1)).toNat]? = xs.toList.reverse[m]? := fun m hm => by
    have hm' := List.mem_range.mp hm
    rw [show (((xs.size : Int) - 1) + (m : Int) * (-1)).toNat = xs.size - 1 - m by omega, List.getElem?_reverse (by simpa using hm')]
    simp
  rw [fmap_congr _ e]
  have : ∀ (l : List Value), (List.range l.length).filterMap (fun m => l[m]?) = l := by
    intro l
    induction l with
    | nil => rfl
    | cons x l ih =>
      rw [List.length_cons, List.range_succ_eq_map, List.filterMap_cons]
      simp only [List.getElem?_cons_zero, List.filterMap_map, Function.comp_def, List.getElem?_cons_succ]
      rw [ih]
  have h2 := this xs.toList.reverse
  rw [List.length_reverse, Array.length_toList] at h2
  exact h2
theorem getItem_tuple_rev {t sl : Addr} {items : Array Value} {vl vu vs : Value} {Q : Value → Shared → Prop} (ht : IsTup s.heap t items) (hs : s.heap.IsSliceOf sl vl vu vs) (pl : IsPart vl none) (pu : IsPart vu none) (ps : IsPart vs (some (-1)))
    (h : Q (.ref s.heap.objs.size) { s with heap := s.heap.push { cls := .type "tuple", data := .seq items.toList.reverse.toArray } })
    (hsz : items.size ≤ sizeLine) : wpAny (model prog w) A (getItem (.ref t) (.ref sl)) Q E s := by
  have htake : sizeOk (.seq items.toList.reverse.toArray) := by
    show items.toList.reverse.toArray.size ≤ sizeLine
    rw [List.size_toArray, List.length_reverse, Array.length_toList]
    exact hsz
  obtain ⟨os, hos, hcs, hds⟩ := id hs
  have hTs : s.TypeIs (.ref sl) "slice" := ⟨os, hos, hcs⟩
  unfold getItem
  try with_reducible refine wpAny_holding ?_
  first | refine wpAny_bind (wpAny_pure ?_) | skip
  refine wpAny_bind (wpAny_sequenceKey ht.typeIs (by decide) ?_)
  refine wpAny_bind (wpAny_callSpecial?_slot (name := Str.ofString "__getitem__") ht.typeIs PyProof.Rows.slot_tuple_getitem
    (wpAny_call_entry PyProof.Rows.slot_tuple_getitem ht.typeIs PyProof.Rows.entry_tuple_getitem ?_ (PyProof.Rows.args_tuple_getitem _ _)))
  show wpAny _ _ (Builtin.Tuple.tupleItemsOf (.ref t) >>= _) _ _ s
  refine wpAny_bind (tupleItemsOf_ ht ?_)
  refine wpAny_bind (wpAny_typeOf hTs ?_)
  rw [if_pos (by decide)]
  refine wpAny_bind (sliceApplied_rev hs pl pu ps ?_)
  have hno : ¬ ((((items.size : Int) - 1) == 0 && (-1 : Int) == 1 && items.size == items.size) = true) := by simp
  show wpAny _ _ (if (((items.size : Int) - 1) == 0 && (-1 : Int) == 1 && items.size == items.size) = true then _ else _) _ _ s
  rw [if_neg hno, pick_rev]
  first
    | exact wpAny_bind (m := Builtin.Tuple.tupleExact _) (wpAny_newObj_type (wpAny_pure ⟨_, rfl, wpAny_pure h⟩) htake)
    | exact wpAny_bind (m := Builtin.Tuple.tupleExact _) (wpAny_newObj_type (wpAny_bind (wpAny_pure (wpAny_pure ⟨_, rfl, wpAny_pure h⟩))) htake)
    | exact wpAny_bind (wpAny_bind (m := Builtin.Tuple.tupleExact _) (wpAny_newObj_type (wpAny_pure (wpAny_pure ⟨_, rfl, wpAny_pure h⟩)) htake))
    | exact wpAny_bind (wpAny_bind (m := Builtin.Tuple.tupleExact _) (wpAny_newObj_type (wpAny_pure ⟨_, rfl, wpAny_pure h⟩) htake))
end
open L2
section
variable {X : Cx}
def tRevT (K : PySem.W.Frag) (te : TE) : TE := fun σ H Q => te σ H fun x H1 => ∃ a xs, x = .ref a ∧ ((SqL K H1 a xs ∧ ∀ p, H1 p = none → Q (.ref p) (upd H1 p (.lst xs.reverse))) ∨ (SqT K H1 a xs ∧ ∀ p, H1 p = none → Q (.ref p) (upd H1 p (.tup xs.reverse))))
theorem pe_revT {e : Expr} {te : TE} {k : Nat} {p1 p2 p3 pos : Pos} (he : PE X e te) : PE X (.Subscript e (.Slice none none (some (.UnaryOp .USub (.Constant (.int 1) k p1) p2)) p3) pos) (tRevT X.K te) := by
  refine ⟨fun pins s σ H Q I h => ?_⟩
  refine Subscript_ (thn (he.run pins s σ H _ I h) fun v s1 ⟨x, H1, I1, r1, q1⟩ => ?_)
  obtain ⟨a, xs, ex, hq⟩ := q1
  subst ex
  cases r1
  have hst : PO X (some (.UnaryOp .USub (.Constant (.int 1) k p1) p2)) (tPart (tUn (rU fun i => .int (-i)) (tC (.int 1)))) := po_some (pe_un un_neg pe_int)
  refine wpAny_Slice (thn (po_none.run pins s1 σ H1 (fun o H2 => o = none ∧ H2 = H1) I1 ⟨rfl, rfl⟩) fun vl s2 ⟨l, H2, I2, pl, el, e2⟩ => ?_)
  subst el e2
  refine thn (po_none.run pins s2 σ H2 (fun o H3 => o = none ∧ H3 = H2) I2 ⟨rfl, rfl⟩) fun vu s3 ⟨u, H3, I3, pu, eu, e3⟩ => ?_
  subst eu e3
  refine thn (hst.run pins s3 σ H3 (fun o H4 => o = some (-1) ∧ H4 = H3) I3 ⟨1, rfl, -1, rfl, rfl, rfl⟩) fun vs s4 ⟨o, H4, I4, ps, eo, e4⟩ => ?_
  subst eo e4
  have I5 : Inv X pins σ H4 { s4 with heap := s4.heap.push { cls := .type "slice", data := .fields #[vl, vu, vs] } } := I4.kept (t' := s4.toks) fun b ob q => Heap.get?_push_of_some _ q
  show wpAny (model X.prog X.w) X.A (subscriptTail e (.Slice none none (some (.UnaryOp .USub (.Constant (.int 1) k p1) p2)) p3) (.ref a) (.ref s4.heap.objs.size)) (EP X pins σ Q) X.xe { s4 with heap := s4.heap.push { cls := .type "slice", data := .fields #[vl, vu, vs] } }
  rcases hq with ⟨hx, q⟩ | ⟨hx, q⟩
  · obtain ⟨its, r, ht, hz⟩ := I5.list hx
    have hlen := r.length
    refine tail_any (ops := [.ref a, .ref s4.heap.objs.size]) ht.isList.typeIs (PySem.slot_list_getitem.lookup) ?_ (by with_unfolding_all rfl)
    refine wpAny_getItem_list_slice ht.isList (Heap.IsSliceOf.new _ vl vu vs) pl pu ps (by decide) ?_ (by rw [List.size_toArray]; omega)
    rw [PySem.W.krv_pick]
    refine ⟨.ref _, _, I5.laid (t' := s4.toks) (o := .lst xs.reverse) (fun b ob q => Heap.get?_push_of_some _ q) (Nat.le_refl _) ?_, rfl, q _ (I5.hok.fresh (Nat.le_refl _))⟩
    exact ⟨by rw [List.length_reverse]; exact hz, _, 0, r.reverse, Heap.get?_push_size _ rfl⟩
  · obtain ⟨its, r, ht, hz⟩ := I5.tuple hx
    have hlen := r.length
    refine tail_any (ops := [.ref a, .ref s4.heap.objs.size]) ht.typeIs (PyProof.Rows.slot_tuple_getitem.lookup) ?_ (by with_unfolding_all rfl)
    refine getItem_tuple_rev ht (Heap.IsSliceOf.new _ vl vu vs) pl pu ps ?_ (by rw [List.size_toArray]; omega)
    refine ⟨.ref _, _, I5.laid (t' := s4.toks) (o := .tup xs.reverse) (fun b ob q => Heap.get?_push_of_some _ q) (Nat.le_refl _) ?_, rfl, q _ (I5.hok.fresh (Nat.le_refl _))⟩
    exact ⟨by rw [List.length_reverse]; exact hz, _, r.reverse, IsTup.new _ _⟩
end
def revD : D → Option D
  | .list xs => some (.list xs.reverse)
  | .tuple xs => some (.tuple xs.reverse)
  | _ => none
section
variable {m : Type → Type} [Mo m] {X : Cx} {EX : XR} {g : List Sl} {K : PySem.W.Frag}
theorem ej_rev {e : Expr} {k : Nat} {p1 p2 p3 pos : Pos} {x : m D} (h : EJ X EX e g x) : EJ X EX (.Subscript e (.Slice none none (some (.UnaryOp .USub (.Constant (.int 1) k p1) p2)) p3) pos) g (x >>= fun d => Mo.lift (revD d)) :=
  (pe_revT h).weak fun σ H Q ⟨B, G, n, φ, ξ, o, s, q, xw⟩ => te_one o s (fun v H1 G1 d n1 o1 g1 d1 s1 => by
    obtain ⟨z, ez, pz⟩ := Mo.sat_lift s1
    unfold revD at ez
    split at ez
    · cases ez
      obtain ⟨a, xs, rfl, ha, da⟩ := d1.toL
      refine ⟨a, xs, rfl, .inl ⟨.of (o1.fm.sub.h _ _ ha rfl), fun p hp => ?_⟩⟩
      obtain ⟨o2, g2⟩ := o1.alloc (u := .lst xs.reverse) hp
      exact q _ _ _ _ n1 o2 (g1.trans g2) (.lst upd_same (da.reverse.mono g2)) pz
    · cases ez
      obtain ⟨a, xs, rfl, ha, da⟩ := d1.toT
      refine ⟨a, xs, rfl, .inr ⟨sameT o1.fm.sub ha, fun p hp => ?_⟩⟩
      obtain ⟨o2, g2⟩ := o1.alloc (u := .tup xs.reverse) hp
      exact q _ _ _ _ n1 o2 (g1.trans g2) (.tup (.inl (.inl upd_same)) (da.reverse.mono g2)) pz
    · cases ez) xw
/-- xs + ys of lists: a new list -/
def catO : D → D → Option (List D)
  | .list a, .list b => if a.length + b.length ≤ 1000000 then some (a ++ b) else none
  | _, _ => none
end
section
variable {m : Type → Type} [Mo m] {X : Cx} {EX : XR} {g : List Sl}
abbrev par3LM (x : m (List D)) (y z : m D) : m (List D × D × D) := x >>= fun d => y >>= fun e => z >>= fun f => pure (d, e, f)
abbrev put2M (ds : List D) (x1 x2 z1 : m D) (z2 : List D → m D) : m (List D) := x1 >>= fun a => x2 >>= fun b => z1 >>= fun j1 => Mo.lift (putD ds j1 a) >>= fun es => z2 es >>= fun j2 => Mo.lift (putD es j2 b)
abbrev catM (x y : m D) : m (List D) := x >>= fun d => y >>= fun e => Mo.lift (catO d e)
end
/-! ### sep.join(texts) -/
def strOnly : D → Option Str
  | .str x => some x
  | _ => none
def joinD (a : Str) (d : D) : Option D := (itemsD d).bind fun xs => (strsOf xs).bind fun ss => if (ss.map (·.length)).sum + ss.length * a.length ≤ 1000000 then some (.str (Str.join a ss)) else none
section
variable {m : Type → Type} [Mo m] {X : Cx} {EX : XR} {g : List Sl}
abbrev joinM (x y : m D) : m D := x >>= fun a => Mo.lift (strOnly a) >>= fun s => y >>= fun d => Mo.lift (joinD s d)
end
/-! ### repr of any data: n nodes, depth k; dicts of constants -/
mutual
def repB : D → Bool
  | .none => true
  | .bool _ => true
  | .int i => decide (i.natAbs < 10 ^ 60)
  | .str x => decide ((PyData.str x).shown.length ≤ 250)
  | .list xs => repAll xs
  | .tuple xs => repAll xs
  | .dict kvs => decide ((PyData.dict kvs).shown.length ≤ 90) && (PyData.dict kvs).showable && decide ((PyData.dict kvs).depth ≤ 1)
def repAll : List D → Bool
  | [] => true
  | x :: xs => repB x && repAll xs
end
/-- what repr can show: n nodes, depth k -/
structure Rp (n k : Nat) (d : D) : Prop where
  b : repB d = true
  n : nodes d ≤ n
  k : d.depth ≤ k
structure RpA (n k : Nat) (ds : List D) : Prop where
  b : repAll ds = true
  n : nodesAll ds ≤ n
  k : PyData.depthAll ds ≤ k
theorem Rp.le {n k n' k' : Nat} {d : D} (h : Rp n k d) (hn : n ≤ n') (hk : k ≤ k') : Rp n' k' d := ⟨h.b, Nat.le_trans h.n hn, Nat.le_trans h.k hk⟩
theorem Rp.int {i : Int} (h : i.natAbs < 10 ^ 60) : Rp 1 0 (.int i) := ⟨decide_eq_true h, Nat.le_refl _, by simp [PyData.depth]⟩
theorem Rp.none : Rp 1 0 .none := ⟨rfl, Nat.le_refl _, by simp [PyData.depth]⟩
theorem Rp.bool (b : Bool) : Rp 1 0 (.bool b) := ⟨rfl, Nat.le_refl _, by simp [PyData.depth]⟩
theorem Rp.str {x : Str} (h : (PyData.str x).shown.length ≤ 250) : Rp 1 0 (.str x) := ⟨decide_eq_true h, Nat.le_refl _, by simp [PyData.depth]⟩
theorem RpA.nil : RpA 0 0 [] := ⟨rfl, Nat.le_refl _, by simp [PyData.depthAll]⟩
theorem RpA.cons {n k n' k' : Nat} {d : D} {ds : List D} (h : Rp n k d) (t : RpA n' k' ds) : RpA (n + n') (max k k') (d :: ds) :=
  ⟨by show (repB d && repAll ds) = true; rw [h.b, t.b]; rfl, by show nodes d + nodesAll ds ≤ _; have := h.n; have := t.n; omega, by have := h.k; have := t.k; simp only [PyData.depthAll]; omega⟩
theorem RpA.map {γ : Type} {n k : Nat} {F : γ → D} : ∀ xs : List γ, (∀ x ∈ xs, Rp n k (F x)) → RpA (xs.length * n) k (xs.map F)
  | [], _ => ⟨rfl, by simp [nodesAll], by simp [PyData.depthAll]⟩
  | x :: xs, h => by
    have := RpA.cons (h x List.mem_cons_self) (RpA.map xs fun y hy => h y (List.mem_cons_of_mem _ hy))
    exact ⟨this.b, by have := this.n; rw [List.length_cons, Nat.succ_mul]; simp only [List.map_cons]; omega, by have := this.k; simp only [List.map_cons]; omega⟩
theorem RpA.le {n k n' k' : Nat} {ds : List D} (h : RpA n k ds) (hn : n ≤ n') (hk : k ≤ k') : RpA n' k' ds := ⟨h.b, Nat.le_trans h.n hn, Nat.le_trans h.k hk⟩
theorem RpA.tup {n k : Nat} {ds : List D} (h : RpA n k ds) : Rp (n + 1) (k + 1) (.tuple ds) := ⟨h.b, by show nodesAll ds + 1 ≤ _; have := h.n; omega, by show PyData.depthAll ds + 1 ≤ _; have := h.k; omega⟩
theorem RpA.lst {n k : Nat} {ds : List D} (h : RpA n k ds) : Rp (n + 1) (k + 1) (.list ds) := ⟨h.b, by show nodesAll ds + 1 ≤ _; have := h.n; omega, by show PyData.depthAll ds + 1 ≤ _; have := h.k; omega⟩
theorem Rp.all {n k : Nat} {d : D} {ds : List D} (h : Rp n k d) (e : d = .tuple ds ∨ d = .list ds) : RpA (n - 1) (k - 1) ds := by
  rcases e with rfl | rfl
  · exact ⟨h.b, by have : nodesAll ds + 1 ≤ n := h.n; omega, by have : PyData.depthAll ds + 1 ≤ k := h.k; omega⟩
  · exact ⟨h.b, by have : nodesAll ds + 1 ≤ n := h.n; omega, by have : PyData.depthAll ds + 1 ≤ k := h.k; omega⟩
theorem nodes_pos (d : D) : 1 ≤ nodes d := by cases d <;> simp [nodes]
theorem RpA.len {n k : Nat} : ∀ {ds : List D}, RpA n k ds → ds.length ≤ n
  | [], _ => Nat.zero_le _
  | x :: xs, h => by
    have hn : nodes x + nodesAll xs ≤ n := h.n
    have hb : repB x = true ∧ repAll xs = true := by
      have : (repB x && repAll xs) = true := h.b
      simpa using this
    have hk : max x.depth (PyData.depthAll xs) ≤ k := by have := h.k; simpa only [PyData.depthAll] using this
    have := RpA.len (n := n - 1) (k := k) (ds := xs) ⟨hb.2, by have := nodes_pos x; omega, by omega⟩
    have := nodes_pos x
    simp only [List.length_cons]
    omega
theorem repAll_append : ∀ (a b : List D), repAll (a ++ b) = (repAll a && repAll b)
  | [], b => rfl
  | x :: a, b => by show (repB x && repAll (a ++ b)) = _; rw [repAll_append a b, ← Bool.and_assoc]; rfl
theorem nodesAll_append : ∀ (a b : List D), nodesAll (a ++ b) = nodesAll a + nodesAll b
  | [], b => by simp [nodesAll]
  | x :: a, b => by show nodes x + nodesAll (a ++ b) = nodes x + nodesAll a + nodesAll b; rw [nodesAll_append a b]; omega
theorem depthAll_append : ∀ (a b : List D), PyData.depthAll (a ++ b) = max (PyData.depthAll a) (PyData.depthAll b)
  | [], b => by simp [PyData.depthAll]
  | x :: a, b => by rw [List.cons_append]; simp only [PyData.depthAll]; rw [depthAll_append a b]; omega
theorem RpA.append {n k n' k' : Nat} {a b : List D} (h : RpA n k a) (t : RpA n' k' b) : RpA (n + n') (max k k') (a ++ b) :=
  ⟨by rw [repAll_append, h.b, t.b]; rfl, by rw [nodesAll_append]; have := h.n; have := t.n; omega, by rw [depthAll_append]; have := h.k; have := t.k; omega⟩
theorem RpA.part {n k : Nat} {a b c : List D} (h : RpA n k (a ++ b ++ c)) : RpA n k b := by
  have h1 := h.b
  have h2 := h.n
  have h3 := h.k
  rw [repAll_append, repAll_append] at h1
  rw [nodesAll_append, nodesAll_append] at h2
  rw [depthAll_append, depthAll_append] at h3
  simp only [Bool.and_eq_true] at h1
  exact ⟨h1.1.2, by omega, by omega⟩
theorem RpA.take {n k : Nat} {ds : List D} (h : RpA n k ds) (i : Nat) : RpA n k (ds.take i) := RpA.part (a := []) (c := ds.drop i) (by rw [List.nil_append, List.take_append_drop]; exact h)
theorem RpA.drop {n k : Nat} {ds : List D} (h : RpA n k ds) (i : Nat) : RpA n k (ds.drop i) := RpA.part (a := ds.take i) (c := []) (by rw [List.append_nil, List.take_append_drop]; exact h)
theorem RpA.reverse {n k : Nat} : ∀ {ds : List D}, RpA n k ds → RpA n k ds.reverse
  | [], h => h
  | x :: xs, h => by
    rw [List.reverse_cons]
    have h1 := h.b
    have h2 : nodes x + nodesAll xs ≤ n := h.n
    have h3 : max x.depth (PyData.depthAll xs) ≤ k := by have := h.k; simpa only [PyData.depthAll] using this
    have hb : repB x = true ∧ repAll xs = true := by
      have : (repB x && repAll xs) = true := h1
      simpa using this
    have ih := RpA.reverse (ds := xs) (n := nodesAll xs) (k := k) ⟨hb.2, Nat.le_refl _, by omega⟩
    have := ih.append (RpA.cons (n := nodes x) (k := k) (d := x) ⟨hb.1, Nat.le_refl _, by omega⟩ RpA.nil)
    exact this.le (by omega) (by omega)
theorem cut_hiA {r : List D} {j : Int} (h0 : 0 ≤ j) : sliceD (.tuple r) (some j) none = some (.tuple (r.drop j.toNat)) := by
  show some (PyData.tuple (cutD r (some j) none)) = _
  unfold cutD
  have e : HT.sIx r.length 0 (some j) = min j.toNat r.length := by
    show (if j < 0 then (j + (r.length : Int)).toNat else min j.toNat r.length) = _
    rw [if_neg (by omega)]
  rw [e, HT.sIx_none, List.take_of_length_le (by simp)]
  congr 2
  rcases Nat.le_total j.toNat r.length with h | h
  · rw [Nat.min_eq_left h]
  · rw [Nat.min_eq_right h, List.drop_of_length_le h, List.drop_of_length_le (Nat.le_refl _)]
end DD
namespace DD
open PySem PySem.Spec PyProof.Rows L2
section
variable {m : Type → Type} [Mo m] {X : Cx} {EX : XR} {g : List Sl}
/-- what pop takes out, and what is left -/
def popD (ds : List D) (k : D) : Option (D × List D) := match k with
  | .int j => if 0 ≤ j ∧ j < 2 ^ 62 then (ds[j.toNat]?).map fun d => (d, ds.eraseIdx j.toNat) else none
  | _ => none
theorem DaAll.eraseIdx {K : PySem.W.Frag} {G : Hp} : ∀ {vs : List V} {ds : List D} (n : Nat), DaAll K G vs ds → DaAll K G (vs.eraseIdx n) (ds.eraseIdx n)
  | _, _, _, .nil => .nil
  | _, _, 0, .cons _ b => b
  | _, _, n + 1, .cons a b => .cons a (DaAll.eraseIdx n b)
abbrev popM (fs ds : List D) (x : m D) : m (D × List D) := x >>= fun k => Mo.lift (popD fs k) >>= fun p => Mo.lift (fits ds.length) >>= fun _ => pure p
abbrev parLV (x : m (List D)) (y : m D) : m (List D × D) := x >>= fun d => y >>= fun e => pure (d, e)
abbrev putVM (ds : List D) (x1 x2 zk : m D) : m (List D × D) := x1 >>= fun a => x2 >>= fun b => zk >>= fun j1 => Mo.lift (putD ds j1 a) >>= fun es => pure (es, b)
end
/-! ### sorted of ints -/
def insI (x : Int) : List Int → List Int
  | [] => [x]
  | y :: l => if x ≤ y then x :: y :: l else y :: insI x l
def sortI : List Int → List Int
  | [] => []
  | x :: l => insI x (sortI l)
end DD
namespace DD
open PySem PySem.Spec PyProof.Rows L2 StX
/-! ### a, *b = t -/
theorem tail_walk {prog : Program} {w : World} {A : Around} (hh : A.handled = none) (I ax : Addr) (hne : ax ≠ I) (items : Array Value) (h1 : 1 ≤ items.size) :
    Walks prog w A I [I, ax] [I] (items.size - 1) (fun i v => items[i + 1]? = some v) (fun i h => h.IsTupleIter I ax (i + 1) ∧ h.IsTuple ax items) where
  sub := (Walks.tuple (prog := prog) (w := w) (A := A) hh I ax hne items).sub
  frame := fun i h h' st => (Walks.tuple (prog := prog) (w := w) (A := A) hh I ax hne items).frame (i + 1) h h' st
  item := fun i s Q E hi st hQ => (Walks.tuple (prog := prog) (w := w) (A := A) hh I ax hne items).item (i + 1) s Q E (by omega) st hQ
  done := fun s Q E st hQ => (Walks.tuple (prog := prog) (w := w) (A := A) hh I ax hne items).done s Q E (by rw [show items.size - 1 + 1 = items.size by omega] at st; exact st) hQ
  self := fun i s Q E st hQ => (Walks.tuple (prog := prog) (w := w) (A := A) hh I ax hne items).self (i + 1) s Q E st hQ
section
variable {X : Cx}
theorem pg_star {x y : Str} {px py ps pos : Pos} {k : Nat} {t : TGs} (hc : X.calm = true) (h : PGs X [.Name x px, .Name y py] t) :
    PG X (.Tuple [.Name x px, .Starred (.Name y py) ps] k pos) (fun v σ H Q => ∃ a z xs, v = .ref a ∧ SqT X.K H a (z :: xs) ∧ ∀ l, H l = none → t [z, .ref l] σ (upd H l (.lst xs)) Q) := by
  refine ⟨fun pins s σ H v u Q I r hw => ?_⟩
  obtain ⟨a, z, xs, e1, hq, hw⟩ := hw
  subst e1
  cases r
  obtain ⟨its, rv, ht, hz⟩ := I.tuple hq
  have hh := I.ok.hd hc
  cases rv with
  | @cons z' u0 xs' us r0 rr =>
  have ht : s.heap.IsTuple a (u0 :: us).toArray := ht
  have hlt : a ≠ s.heap.objs.size := by obtain ⟨o, ho, _⟩ := ht; exact Nat.ne_of_lt (Heap.lt_size ho)
  rw [arm_assign_Tuple]
  refine wpAny_bind (wpAny_standAt ?_)
  show wpAny _ _ (assignInOrder ((assignEach [.Name x px, .Name y py] X.env).map (·.2)) =<< holding [.ref a] (unpackItems (.ref a) 2 (some 1))) _ _ s
  refine wpAny_bind (wpAny_holding ?_)
  unfold unpackItems
  unfold notIterableAtAll
  refine wpAny_bind (wpAny_bind (wpAny_specialOf ht.typeIs F.slot_tuple_iter.lookup ?_))
  refine wpAny_pure ?_
  simp only [Bool.false_eq_true, if_false]
  refine wpAny_bind (wpAny_holding (wpAny_pyIter_tuple ht ?_))
  refine wpAny_bind (wpAny_holding (wpAny_draw_tuple hlt 1 0 _ _ ⟨_, Heap.get?_push_size _ rfl, rfl, rfl⟩ (ht.push _) (by simp) fun h₁ hit₁ hs₁ => ?_))
  have hf : List.take 1 (List.drop 0 (u0 :: us).toArray.toList) = [u0] := rfl
  rw [hf, if_neg (by simp)]
  have W := (tail_walk (prog := X.prog) (w := X.w) (A := X.A.in1) hh s.heap.objs.size a hlt (u0 :: us).toArray (by simp)).toS
  have hsz : (u0 :: us).toArray.size - 1 ≤ sizeLine := by
    have := rr.length
    simp only [List.length_cons] at hz
    simp
    omega
  have hbig : s.heap.objs.size < h₁.objs.size := by obtain ⟨o, ho, _⟩ := hit₁; exact Heap.lt_size ho
  have ha1 : a < s.heap.objs.size := by obtain ⟨o, ho, _⟩ := ht; exact Heap.lt_size ho
  refine wpAny_bind (wpAny_holding (wpAny_collect_iter (T := "tuple_iterator") (.inr (.inr (.inr rfl))) W (fun i s h => h.1.typeIs) ⟨hit₁, (ht.push _).extBut hs₁.extBut hlt⟩ (fun b hb => ?_) (by simp) (fun s2 acc mv hacc => ?_) hsz))
  · simp only [List.mem_cons, List.not_mem_nil, or_false] at hb
    show b < h₁.objs.size
    rcases hb with rfl | rfl
    · exact hbig
    · exact Nat.lt_trans ha1 hbig
  have eacc : acc.toList = us := by
    obtain ⟨h1, h2⟩ := hacc
    have hsz2 : acc.toList.length = us.length := by simpa using h1
    refine List.ext_getElem hsz2 fun i hi hi2 => ?_
    have h3 := h2 i (acc.toList[i]) (by simp)
    simp [hi2] at h3
    rw [h3]
    simp
  rw [eacc]
  have hkept : ∀ b u, s.heap.get? b = some u → s2.heap.get? b = some u := fun b u e => by
    have hb : b ≠ s.heap.objs.size := Nat.ne_of_lt (Heap.lt_size e)
    exact mv.heap b u (by simpa using hb) (hs₁.extBut b u hb (Heap.get?_push_of_some _ e))
  have hs2 : s2 = { s with heap := s2.heap, toks := s2.toks } := by
    have h1 := mv.gens
    have h2 := mv.drawn
    have h3 := mv.os
    cases s2
    simp only at h1 h2 h3
    subst h1 h2 h3
    rfl
  have I1 : Inv X pins σ H { s with heap := s2.heap, toks := s2.toks } := I.kept hkept
  rw [if_neg (by simp)]
  have htk : List.take (us.length - (2 - 1 - 1)) us = us := by simp
  have hdr : List.drop (us.length - (2 - 1 - 1)) us = [] := by simp
  rw [htk, hdr]
  have hul : us.length ≤ sizeLine := by simpa using hsz
  refine wpAny_bind (wpAny_newList (wpAny_pure ?_) hul)
  have I2 : Inv X pins σ (upd H s2.heap.objs.size (.lst xs)) { s with heap := s2.heap.push ({ cls := .type "list", data := .seq us.toArray } : Obj), toks := s2.toks } := I1.laid (fun b u e => Heap.get?_push_of_some _ e) (Nat.le_refl _) ⟨by rw [rr.length]; exact hul, us, _, rr, Heap.get?_push_size _ rfl⟩
  have hfin := h.run pins _ σ _ [z, .ref s2.heap.objs.size] [u0, .ref s2.heap.objs.size] Q I2 (.cons r0 (.cons rfl .nil)) (hw _ (I1.hok.fresh (Nat.le_refl _)))
  rw [hs2]
  exact hfin
end
/-- what is first, and the rest -/
def headD : D → Option (D × List D)
  | .tuple (d :: ds) => some (d, ds)
  | _ => none
section
variable {m : Type → Type} [Mo m] {A : Type} {X : Cx} {EX : XR} {g : List Sl}
abbrev unpS (x : m D) : m (D × List D) := x >>= fun d => Mo.lift (headD d)
theorem sj_unpS (i j : Nat) {y z : Str} {py pz ps pt pos : Pos} {kt : Nat} {e : Expr} {x : m D} (hN : X.N.Nodup) (h : EJ X EX e g x) (hi : X.N[i]? = some y := by rfl) (hj : X.N[j]? = some z := by rfl) (hy : Loc X.env.scope y := by first | exact Or.inl rfl | exact Or.inr rfl) (hz : Loc X.env.scope z := by first | exact Or.inl rfl | exact Or.inr rfl)
    (hfy : X.fn y = true ∨ X.env.scope.names.lookup y = some .local := by first | exact Or.inr rfl | exact Or.inl rfl) (hfz : X.fn z = true ∨ X.env.scope.names.lookup z = some .local := by first | exact Or.inr rfl | exact Or.inl rfl) (hc : X.calm = true := by rfl)
    (hs : swapsWithSole [.Tuple [.Name y py, .Starred (.Name z pz) ps] kt pt] e pos.line X.env = pure false := by kernel_rfl) (hw : swappedStores [.Tuple [.Name y py, .Starred (.Name z pz) ps] kt pt] e X.env = pure none := by kernel_rfl)
    (h1 : (assignEach [.Tuple [.Name y py, .Starred (.Name z pz) ps] kt pt] X.env).map (·.2) = [assign (.Tuple [.Name y py, .Starred (.Name z pz) ps] kt pt) X.env] := by rfl) :
    SJ X EX (.Assign [.Tuple [.Name y py, .Starred (.Name z pz) ps] kt pt] e pos) g (unpS x) (fun p => (g.set i (.val p.1)).set j (.val (.list p.2))) :=
  (ps_asg h (pg_star hc (pgs_cons (pg_name (i := i) hN hi hy hfy) (pgs_cons (pg_name (i := j) hN hj hz hfz) pgs_nil))) hs hw h1).weak fun De σ H ⟨B, G, n, φ, ξ, o, s, q, xw⟩ => te_one o s (fun v H1 G1 d n1 o1 g1 d1 s1 => by
    obtain ⟨p, ep, s2⟩ := Mo.sat_lift s1
    unfold headD at ep
    split at ep
    · cases ep
      cases d1 with
      | tup hh da =>
        cases da with
        | @cons v1 vs1 w1 ws1 e1 r =>
          refine ⟨_, _, _, rfl, sameT o1.fm.sub hh, fun l hl => ?_⟩
          have gr := Gr.alloc (u := .lst vs1) o1.fm.sub hl
          exact ⟨_, _, rfl, _, _, rfl, rfl, q _ _ _ _ n1 (((o1.gr gr).setV (e1.mono gr.g)).setV (.lst upd_same (r.mono gr.g))) (g1.trans gr.g) s2⟩
    · cases ep) xw
theorem fj_dead {ss : List Stmt} {fall : Bool} : FJ X EX fall ss g (Mo.lift none : m D) :=
  ⟨fun pins s σ H D I ⟨B, G, n, φ, ξ, o, st, _⟩ => by obtain ⟨_, e, _⟩ := Mo.sat_lift st; cases e⟩
end
/-! ### defs with a star parameter -/
end DD
namespace DD
open PySem PySem.Spec PyProof.Rows L2
section
variable {m : Type → Type} [Mo m] {A : Type} {X : Cx} {EX : XR} {g : List Sl}
abbrev trg1M (x : m D) : m D := x >>= fun d => Mo.lift (lrgO1 d) >>= fun ds => pure (.tuple ds)
/-- x or y, the value itself -/
def truD : D → Option Bool
  | .none => some false
  | .bool b => some b
  | .int i => some (!(i == 0))
  | _ => none
abbrev orV (x y : m D) : m D := x >>= fun d => Mo.lift (truD d) >>= fun k => if k = true then pure d else y
/-! ### while -/
end
end DD
namespace DD
open PySem PySem.Spec PyProof.Rows L2
/-- set(l), l a list of ints -/
def rSetL (K : PySem.W.Frag) (w : World) : List V → Hp → VK → Prop := fun vs H Q => ∃ (l : Addr) (ns : List Int), vs = [V.ref l] ∧ SqL K H l (ns.map V.int) ∧ ns.length < 63 ∧ ∀ p c, c ≤ ns.length → H p = none → Q (.ref p) (upd H p (SetO w p (fun j => decide (j ∈ ns)) c))
/-- sorted, each once -/
def dedI : List Int → List Int
  | [] => []
  | x :: l => if decide (x ∈ l) = true then dedI l else x :: dedI l
def sortSetD : D → Option (List D)
  | .list ds => (intsD ds).bind fun ns => if ns.length < 63 then some ((sortI (dedI ns)).map .int) else none
  | _ => none
section
variable {m : Type → Type} [Mo m] {X : Cx} {EX : XR} {g : List Sl}
abbrev sortSetM (x : m D) : m D := x >>= fun d => Mo.lift (sortSetD d) >>= fun ds => pure (.list ds)
end
end DD
namespace DD
open PySem PySem.Spec PyProof.Rows L2
/-! ### mirrors that raise -/
/-- plain data, or an error -/
def Xo (α : Type) : Type := Option (Except Exn α)
instance : Mo Xo where
  pure := fun a => some (.ok a)
  bind := fun x f => match x with
    | some (.ok a) => f a
    | some (.error e) => some (.error e)
    | none => none
  sat := fun x n φ ξ => n.ob = [] ∧ ((∃ a, x = some (.ok a) ∧ φ a n) ∨ ∃ e, x = some (.error e) ∧ ξ e n)
  lift := fun o => o.map .ok
  sat_pure := fun h => by
    obtain ⟨_, ⟨a, e, q⟩ | ⟨a, e, q⟩⟩ := h
    · cases e; exact q
    · cases e
  sat_bind := fun {α β x f n φ ξ} h => by
    obtain ⟨hn, h⟩ := h
    refine ⟨hn, ?_⟩
    match x, h with
    | some (.ok a), h => exact .inl ⟨a, rfl, hn, h⟩
    | some (.error e), .inl ⟨a, e', q⟩ => cases e'
    | some (.error e), .inr ⟨e2, e', q⟩ => cases e'; exact .inr ⟨e, rfl, q⟩
    | none, .inl ⟨a, e', q⟩ => cases e'
    | none, .inr ⟨e2, e', q⟩ => cases e'
  sat_lift := fun {α o n φ ξ} h => by
    obtain ⟨_, ⟨a, e, q⟩ | ⟨a, e, q⟩⟩ := h
    · cases o with
      | none => cases e
      | some b => cases e; exact ⟨_, rfl, q⟩
    · cases o with
      | none => cases e
      | some b => cases e
class MoX (m : Type → Type) [Mo m] where
  throw : {α : Type} → Exn → m α
  sat_throw : ∀ {α : Type} {e : Exn} {n : Wd} {φ : α → Wd → Prop} {ξ : Exn → Wd → Prop}, Mo.sat (throw e : m α) n φ ξ → ξ e n
instance : MoX Xo where
  throw := fun e => some (.error e)
  sat_throw := fun h => by
    obtain ⟨_, ⟨a, e, q⟩ | ⟨a, e, q⟩⟩ := h
    · cases e
    · cases e; exact q
instance : Up Option Xo where
  up := fun o => o.map .ok
  sat_up := fun {α o n φ ξ} h => ⟨h.1, Mo.sat_lift (m := Xo) h⟩
/-- what is raised by one mirror is caught by another -/
class Tr (m₁ m : Type → Type) [Mo m₁] [Mo m] where
  try_ : {α : Type} → m₁ α → (Exn → m α) → m α
  sat_try : ∀ {α : Type} {x : m₁ α} {h : Exn → m α} {n : Wd} {φ : α → Wd → Prop} {ξ : Exn → Wd → Prop}, Mo.sat (try_ x h) n φ ξ → Mo.sat x n φ (fun e n' => Mo.sat (h e) n' φ ξ)
def tryO {α : Type} (x : Xo α) (h : Exn → Option α) : Option α := match x with
  | some (.ok a) => some a
  | some (.error e) => h e
  | none => none
instance : Tr Xo Option where
  try_ := tryO
  sat_try := fun {α x h n φ ξ} s => by
    obtain ⟨hn, a, e, q⟩ := s
    refine ⟨hn, ?_⟩
    match x, e with
    | some (.ok b), e => cases e; exact .inl ⟨_, rfl, q⟩
    | some (.error b), e => exact .inr ⟨b, rfl, hn, a, e, q⟩
    | none, e => cases e
/-! ### defs that raise -/
structure FnX (P : Program) (w : World) (K : PySem.W.Frag) (mg : Str → Option Value) (base : Heap) (k : Nat) (f : Addr) (fd : FuncData) (ps : List Str) (sp : Sp) : Prop where
  len : ∀ vs H Q E, sp vs H Q E → vs.length = ps.length
  run : ∀ (A : Around) (outer : List Env) (s : Shared) (H : Hp) (args : Args) (us : List Value) (vs : List V) (Q : VK) (E : XK), Room k A → A.guards = some [] → Env0 P w K mg base A outer s H → BindsTo s fd args (ps.zip us) → Vals vs us → sp vs H Q E →
    codeAny (model P w) A (.call (.ref f) args) (CR (L2.CX P w) outer P w H s Q E) s
theorem FnX.mono {P : Program} {w : World} {K : PySem.W.Frag} {mg : Str → Option Value} {base : Heap} {j k : Nat} {f : Addr} {fd : FuncData} {ps : List Str} {sp : Sp} (F : FnX P w K mg base j f fd ps sp) (h : j ≤ k) : FnX P w K mg base k f fd ps sp :=
  ⟨F.len, fun A outer s H args us vs Q E hr => F.run A outer s H args us vs Q E (hr.mono h)⟩
theorem fnx_of {P : Program} {w : World} {K : PySem.W.Frag} {mg : Str → Option Value} {base : Heap} {k : Nat} {x qual : Str} {st : Stmt} {f : Addr} {fd : FuncData} {N ps : List Str} {sp : Sp} (F : Fun K x qual st f fd) (S : FnScope N ps (defScope st)) (len : ∀ vs H Q E, sp vs H Q E → vs.length = ps.length)
    (hb : ∀ (cdv : Value) (A : Around) (outer : List Env) (s : Shared) (H : Hp) (vs : List V) (Q : VK) (E : XK), Room k (A.deeper (envOfC qual (defScope st) s.heap.objs.size f cdv)) → A.guards = some [] → sp vs H Q E →
      ∃ t, PSs (cxOf (L2.CX P w) P w K mg base N qual (defScope st) f cdv A outer s H E) (defBody st) t ∧ t { nx := fun _ H' => Q .non H', rt := Q } (start N vs) H) : FnX P w K mg base (k + 1) f fd ps sp := by
  obtain ⟨oc, od, kV, doc, pm, an, cdv, ct, osl, rfl, lk, hcd⟩ := F.ex
  refine ⟨len, fun A outer s H args us vs Q E room gu e0 bi rv hsp => ?_⟩
  have KH : K.In s.heap := e0.mod.kin.keeps fun b o z => (e0.bs b o z).1
  have kinds : ∀ y ∈ ps.zip us, (defScope st).names.lookup y.1 = some .local ∨ ((defScope st).names.lookup y.1 = some .cell ∧ ((cellsFrom (s.heap.objs.size + 1) (defScope st).names []).lookup y.1).isSome = true) := by
    rintro ⟨nm, _⟩ hy
    exact (S.par nm (List.of_mem_zip hy).1).imp id fun z => ⟨z, PySem.W.cellsFrom_some _ _ _ (.inl z)⟩
  refine codeAny_call_function room.depth (KH _ _ lk) rfl S.co S.gen rfl (PySem.W.codeRec_of KH hcd) (bi _ _ _ _ (wpAny_newFunctionEnv_cells S.kind kinds fun env he s1 nw => ?_))
  subst he
  refine ⟨(e0.mod.nolimit.keeps fun b o z => (e0.bs b o z).1).keeps nw.toInCall.keep, codeAny_func ?_⟩
  obtain ⟨t, ht, hq⟩ := hb cdv A outer s H vs Q E (room.deeper _) gu hsp
  refine wpAny_mono (ht.run [] s1 (start N vs) H _ (inv_start S room.hd e0 (len _ _ _ _ hsp) rv nw) hq) (fun fl s' h => ?_) fun _ _ z => z
  cases fl with
  | ret u =>
    obtain ⟨v, _, H', J, r', q⟩ := h
    exact ⟨v, H', J.os, J.bare, J.base, J.hok, r', q⟩
  | next =>
    obtain ⟨_, H', J, q⟩ := h
    exact ⟨.non, H', J.os, J.bare, J.base, J.hok, rfl, q⟩
  | brk => obtain ⟨_, _, _, q⟩ := h; exact q.elim
  | cont => obtain ⟨_, _, _, q⟩ := h; exact q.elim
section
variable {m : Type → Type} [Mo m]
/-- a promise by a mirror that may raise -/
def spX (K : PySem.W.Frag) (mg : Str → Option Value) (F : List Sl → m D) : Sp := fun vs H Q E => ∃ G n dk as φ ξ, ArgsOk K ⟨H, G, dk, G⟩ G vs as ∧ Fm K ⟨H, G, dk, G⟩ H G n ∧ Mo.sat (F as) n φ ξ ∧
  (∀ v H' G' d n', Fm K ⟨H, G, dk, G⟩ H' G' n' → Da K G' v d → φ d n' → Q v H') ∧ ∀ e c od H' G' n', Fm K ⟨H, G, dk, G⟩ H' G' n' → ExA K mg e G' c od → ξ e n' → E c od H'
/-- the wish of a def's body: what is raised leaves -/
def xrOf (N : List Str) (E : XK) : XR := ⟨fun c od _ H => E c od H, List.replicate N.length .any⟩
theorem fn_jx {P : Program} {w : World} {K : PySem.W.Frag} {mg : Str → Option Value} {base : Heap} {k : Nat} {x qual : Str} {st : Stmt} {f : Addr} {fd : FuncData} {N ps : List Str} {F : List Sl → m D} (Fu : Fun K x qual st f fd) (S : FnScope N ps (defScope st))
    (hb : ∀ (as : List Sl) (n : Wd) (φ : D → Wd → Prop) (ξ : Exn → Wd → Prop), Mo.sat (F as) n φ ξ → as.length = ps.length ∧ ∀ (cdv : Value) (A : Around) (outer : List Env) (s : Shared) (H : Hp) (E : XK), Room k (A.deeper (envOfC qual (defScope st) s.heap.objs.size f cdv)) → A.guards = some [] →
      FJ (cxOf (L2.CX P w) P w K mg base N qual (defScope st) f cdv A outer s H E) (xrOf N E) true (defBody st) (as ++ List.replicate (N.length - as.length) .any) (F as)) : FnX P w K mg base (k + 1) f fd ps (spX K mg F) := by
  refine fnx_of Fu S (fun vs H Q E ⟨G, n, dk, as, φ, ξ, a, _, s, _⟩ => a.length.trans (hb as n φ ξ s).1) fun cdv A outer s H vs Q E hr gu ⟨G, n, dk, as, φ, ξ, a, fm, st, q, qx⟩ => ⟨_, (hb as n φ ξ st).2 cdv A outer s H E hr gu, ⟨H, G, dk, G⟩, G, n, φ, ξ, ok_start a fm, st, q, fun _ σ' H' G' n' f' p => q .non H' G' .none n' f' .non p, fun e n' σ' H' G' c od he o ex => qx e c od H' G' n' o.fm ex he⟩
theorem takesX {P : Program} {w : World} {K : PySem.W.Frag} {mg : Str → Option Value} {base : Heap} {N : List Str} {qual : Str} {scope : Scope} {f : Addr} {cd : Value} {A : Around} {outer : List Env} {s : Shared} {H : Hp} {E : XK} : Takes (cxOf (L2.CX P w) P w K mg base N qual scope f cd A outer s H E) (xrOf N E).w := takes_of rfl rfl rfl rfl
theorem passX {P : Program} {w : World} {K : PySem.W.Frag} {mg : Str → Option Value} {base : Heap} {N : List Str} {qual : Str} {scope : Scope} {f : Addr} {cd : Value} {A : Around} {outer : List Env} {s : Shared} {H : Hp} {E : XK} : PassesOwn (model P w) (A.deeper (envOfC qual scope s.heap.objs.size f cd)) (envOfC qual scope s.heap.objs.size f cd) (cxOf (L2.CX P w) P w K mg base N qual scope f cd A outer s H E).xe := passes_of (X := cxOf (L2.CX P w) P w K mg base N qual scope f cd A outer s H E) rfl
/-! ### calls of them -/
variable {X : Cx} {EX : XR} {g : List Sl} {k : Nat} {f : Addr} {fd : FuncData} {ps : List Str}
theorem call_x {pins : List (Addr × Obj)} {σ : L2.St} {H : Hp} {s : Shared} {Q : VK} {us : List Value} {vs : List V} {sp : Sp} {W : WX} (F : FnX X.prog X.w X.K X.mg X.base k f fd ps sp) (hr : Room k X.A) (gu : X.A.guards = some []) (hb : Binds X.K fd ps []) (tk : Takes X W)
    (I : Inv X pins σ H s) (r : Vals vs us) (h : sp vs H Q (WE W σ)) : wpAny (model X.prog X.w) X.A (call (.ref f) us) (EP X pins σ Q) X.xe s := by
  have hl : us.length = ps.length := by rw [← r.length]; exact F.len _ _ _ _ h
  have hb' := hb s us I.kIn (by rw [List.append_nil]; exact hl)
  rw [List.append_nil] at hb'
  refine wpAny_call (codeAny_mono (F.run X.A X.stack s H ⟨us, []⟩ us vs Q (WE W σ) hr gu I.env0 hb' r h) fun z s' hq => ?_)
  cases z with
  | error e => exact passAt tk σ pins H s e s' I hq
  | ok fl =>
    cases fl with
    | ret u => exact I.after hq
    | next => exact False.elim hq
    | brk => exact False.elim hq
    | cont => exact False.elim hq
theorem pe_x {x : Str} {p pos : Pos} {e : Expr} {es : List Expr} {t : TA} {sp : Sp} {W : WX} (F : FnX X.prog X.w X.K X.mg X.base k f fd ps sp) (hr : Room k X.A) (gu : X.A.guards = some []) (tk : Takes X W) (hg : Gl X x) (hm : X.mg x = some (.ref f)) (hk : PySem.W.keepIn X.K (.ref f) = true) (hb : Binds X.K fd ps [])
    (ha : PA X (e :: es) t) (hd : (x == ("__debug__" : Str)) = false) (he : starEach (e :: es) X.env = (false, eval e X.env) :: starEach es X.env) (hpl : (backTo pos (starEach es X.env)).any (·.1) = false) : PE X (.Call (.Name x p) (e :: es) [] pos) (fun σ H Q => t σ H fun vs H1 => sp vs H1 Q (WE W σ)) :=
  ⟨fun pins s σ H Q I h => wpAny_Call_Name_kw (ld_glob I hg hm (PySem.W.callWith_K (h₀ := X.base) I.ok.mod.kin hk (thn (ha.run pos pins s σ H _ I h) fun us s1 ⟨vs, H1, I1, r, q⟩ => ⟨I1.kIn, call_x F hr gu hb tk I1 r q⟩) he hpl) hd)⟩
/-- f(..) by its mirror, what it raises goes on -/
theorem ej_callX {x : Str} {p pos : Pos} {e : Expr} {es : List Expr} {F : List Sl → m D} {y : m (List Sl)} (Fn : FnX X.prog X.w X.K X.mg X.base k f fd ps (spX X.K X.mg F)) (hr : Room k X.A) (gu : X.A.guards = some []) (tk : Takes X EX.w) (sb : Sub g EX.g) (hm : X.mg x = some (.ref f)) (hk : PySem.W.keepIn X.K (.ref f) = true) (hb : Binds X.K fd ps [])
    (ha : AJ X EX (e :: es) g y) (hg : Gl X x := by rfl) (hd : (x == ("__debug__" : Str)) = false := by decide) (he : starEach (e :: es) X.env = (false, eval e X.env) :: starEach es X.env := by rfl) (hpl : (backTo pos (starEach es X.env)).any (·.1) = false := by rfl) :
    EJ X EX (.Call (.Name x p) (e :: es) [] pos) g (y >>= F) :=
  (pe_x Fn hr gu tk hg hm hk hb ha hd he hpl).weak fun σ H Q ⟨B, G, n, φ, ξ, o, s, q, xw⟩ => ⟨B, G, n, _, ξ, o, Mo.sat_bind s, fun vs H1 G1 as n1 o1 g1 a1 s1 =>
    ⟨G1, n1, B.dk, as, φ, ξ, ArgsOk.base (B := B) (B' := ⟨H1, G1, B.dk, G1⟩) rfl a1, o1.fm.at_call, s1, fun v H' G' d n' f' dv p => by
      obtain ⟨o2, g2⟩ := Fm.back o1 (.inr rfl) f'
      exact q v H' G' d n' o2 (g1.trans g2) dv p, fun e' c od H' G' n' f' ex hx => by
      obtain ⟨o2, g2⟩ := Fm.back o1 (.inr rfl) f'
      exact xw e' n' σ H' G' c od hx (o2.forget sb) ex⟩, xw⟩
end
end DD
namespace DD
open PySem PySem.Spec PyProof.Rows L2
theorem sub_any : ∀ {g h : List Sl}, (h.all fun s => match s with | .any => true | _ => false) = true → h.length = g.length → Sub g h
  | [], [], _, _ => trivial
  | _ :: _, [], _, e => by simp at e
  | [], _ :: _, _, e => by simp at e
  | a :: g, b :: h, e, l => by
    rw [List.all_cons, Bool.and_eq_true] at e
    refine ⟨.inl ?_, sub_any e.2 (by simpa using l)⟩
    cases b with
    | any => rfl
    | _ => cases e.1
/-! ### raise C(e), C with an __init__ that stores one field -/
def spInit (C : Addr) (fl : Str) : Sp := fun vs H Q _ => ∃ a y, vs = [.ref a, y] ∧ H a = some (exo a C none) ∧ ∀ dx, H dx = none → dx ≠ a → Q .non (upd (upd H dx (exd dx [(fl, y)])) a (exo a C (some dx)))
theorem init_ok {P : Program} {w : World} {K : PySem.W.Frag} {mg : Str → Option Value} {base : Heap} {qual : Str} {st : Stmt} {f C : Addr} {fd : FuncData} {p0 p1 fl : Str} {q1 q2 q3 q4 : Pos} (F : Fun K "__init__" qual st f fd) (S : FnScope [p0, p1] [p0, p1] (defScope st)) (hb : defBody st = [.Assign [.Attribute (.Name p0 q1) fl q2] (.Name p1 q3) q4])
    (T : OexC K C) (hno : PySem.W.findIn K (.ref C) fl = some none)
    (hp : ∀ (cdv : Value) (A : Around) (outer : List Env) (s : Shared) (H : Hp) (E : XK), PSs (cxOf CX0 P w K mg base [p0, p1] qual (defScope st) f cdv A outer s H E).nox (defBody st) (fun D σ H => tOst K fl (tVar 0) (tVar 1) D σ H)) : FnOk P w K mg base CX0 1 f fd [p0, p1] (spInit C fl) := by
  refine F.ok S (fun vs H Q E ⟨a, y, e, _⟩ => by rw [e]; rfl) fun cdv A outer s H vs Q E _ ⟨a, y, e, ha, q⟩ => ⟨_, hp cdv A outer s H E, ?_⟩
  subst e
  refine ⟨y, rfl, .ref a, rfl, a, C, rfl, T, hno, .inl ⟨ha, fun dx h1 h2 => q dx h1 h2⟩⟩
/-- what the law's text says of an error's class with one field -/
structure Er1 (P : Program) (w : World) (K : PySem.W.Frag) (mg : Str → Option Value) (base : Heap) (c fl : Str) (C : Addr) : Prop where
  nm : mg c = some (.ref C)
  T : OexC K C
  ini : ∃ fI fd ps, PySem.W.findIn K (.ref C) "__init__" = some (some (.ref fI)) ∧ PySem.W.typeIn K (.ref fI) = some (.type "function") ∧ FnOk P w K mg base CX0 1 fI fd ps (spInit C fl) ∧ Binds K fd ps []
section
variable {m : Type → Type} [Mo m] [MoX m] {A : Type} {X : Cx} {EX : XR} {g : List Sl} {fall : Bool}
theorem raise1 {c fl : Str} {C : Addr} {e : Expr} {p pos pos2 : Pos} {y : m D} (R : Er1 X.prog X.w X.K X.mg X.base c fl C) (hr : Room 2 X.A) (hc : X.calm = true) (tk : Takes X EX.w) (sb : Sub g EX.g) (he : EJ X EX e g y) (hg : Gl X c) (hd : (c == ("__debug__" : Str)) = false) (hs : starEach [e] X.env = (false, eval e X.env) :: starEach [] X.env) (hpl : (backTo pos (starEach [] X.env)).any (·.1) = false)
    {σ : L2.St} {H : Hp} {De : Ends} {α : Type} (h : ∃ B G n φ ξ, Ok X.K B g σ H G n ∧ Mo.sat (y >>= fun d => (MoX.throw ⟨c, [(fl, d)]⟩ : m α)) n φ ξ ∧ Xw X B EX ξ) : ∃ t, PS X (.Raise (some (.Call (.Name c p) [e] [] pos)) none pos2) t ∧ t De σ H := by
  obtain ⟨fI, fd, ps, i1, i2, i3, i4⟩ := R.ini
  refine ⟨_, ps_raise hc tk (pmk_oex R.T i1 i2 i3 hr i4 .nil pass0 hg R.nm (pa_cons he pa_nil hs) hd hs hpl), ?_⟩
  obtain ⟨B, G, n, φ, ξ, o, s, xw⟩ := h
  refine te_one o s (fun v H1 G1 d n1 o1 g1 d1 s1 => ⟨by simp, fun a ha => ⟨a, v, rfl, upd_same, fun dx hdx hne => ⟨rfl, dx, [(fl, v)], upd_same, ?_, ?_, ?_⟩⟩⟩) xw
  · rw [upd_ne hne, upd_same]
  · rw [upd_ne hne] at hdx; exact hdx
  · have hd1 : H1 dx = none := by rw [upd_ne hne] at hdx; exact hdx
    have eH : (upd (del (upd (upd (upd H1 a (exo a C none)) dx (exd dx [(fl, v)])) a (exo a C (some dx))) a) dx (.xd [(fl, v)])) = upd H1 dx (.xd [(fl, v)]) := by
      funext b
      by_cases hb : b = dx
      · rw [hb, upd_same, upd_same]
      · rw [upd_ne hb, upd_ne hb]
        by_cases hba : b = a
        · rw [hba, del_same, ha]
        · rw [del_ne hba, upd_ne hba, upd_ne hb, upd_ne hba]
    show EX.w (.ref C) (some dx) σ _
    rw [eH]
    obtain ⟨o2, g2⟩ := o1.alloc (u := .xd [(fl, v)]) hd1
    exact xw ⟨c, [(fl, d)]⟩ n1 σ _ _ (.ref C) (some dx) (MoX.sat_throw s1) (o2.forget sb) ⟨C, R.nm, rfl, .inr ⟨dx, _, rfl, upd_same, rfl, .cons (d1.mono g2) .nil⟩⟩
theorem fj_raise1 {c fl : Str} {C : Addr} {e : Expr} {p pos pos2 : Pos} {rest : List Stmt} {y : m D} (R : Er1 X.prog X.w X.K X.mg X.base c fl C) (hr : Room 2 X.A) (hc : X.calm = true) (tk : Takes X EX.w) (sb : Sub g EX.g) (he : EJ X EX e g y) (hg : Gl X c := by rfl) (hd : (c == ("__debug__" : Str)) = false := by decide) (hs : starEach [e] X.env = (false, eval e X.env) :: starEach [] X.env := by rfl) (hpl : (backTo pos (starEach [] X.env)).any (·.1) = false := by rfl) :
    FJ X EX fall (.Raise (some (.Call (.Name c p) [e] [] pos)) none pos2 :: rest) g (y >>= fun d => MoX.throw ⟨c, [(fl, d)]⟩) :=
  ⟨fun pins s σ H De I ⟨B, G, n, φ, ξ, o, st, q1, q2, xw⟩ => by
    obtain ⟨t, h1, h2⟩ := raise1 (α := D) (De := { De with nx := fun _ _ => False }) R hr hc tk sb he hg hd hs hpl ⟨B, G, n, φ, ξ, o, st, xw⟩
    exact (pss_cons h1 (u := tNever) ⟨fun _ _ _ _ _ _ h => h.elim⟩).run pins s σ H De I h2⟩
end
/-! ### try: body, except C as n: suite -/
section
variable {m₁ m : Type → Type} [Mo m₁] [Mo m] [Tr m₁ m] {A : Type} {X : Cx} {EX : XR} {g gk : List Sl}
theorem no_sat {α : Type} {n : Wd} {φ : α → Wd → Prop} {ξ : Exn → Wd → Prop} {Q : Prop} (s : Mo.sat (Mo.lift none : m α) n φ ξ) : Q := by
  obtain ⟨_, e, _⟩ := Mo.sat_lift s
  cases e
/-- what a suite may lean on -/
structure Held (X : Cx) (e : Exn) (a : Addr) (oe : Obj) (od : Option Addr) (C : Addr) : Prop where
  nm : X.mg e.cls = some (.ref C)
  zc : Zc (.ref C) od oe
  da : ∃ vs, oe.data = .fields vs
end
end DD
namespace DD
open PySem PySem.Spec PyProof.Rows L2
/-! ### in an except suite: isinstance, the error's fields -/
/-- a class by its name -/
def clsV : Value → V
  | .type T => .ty T
  | .ref C => .ref C
  | _ => .non
theorem cls_pe {X : Cx} {x : Str} {u : Value} {pos : Pos} (h : Names X x u) (hu : ClsV (clsV u) u) : PE X (.Name x pos) (tC (clsV u)) := by
  obtain ⟨hg, hd, h | ⟨h1, h2, h3⟩⟩ := h
  · cases hu' : u with
    | ref C =>
      subst hu'
      exact pe_glob (v := .ref C) hg h rfl hd
    | type T =>
      subst hu'
      exact pe_glob (v := .ty T) hg h rfl hd
    | _ => subst hu'; cases hu
  · cases hu' : u with
    | ref C =>
      subst hu'
      exact pe_bltn (v := .ref C) hg h1 h2 rfl h3 hd
    | type T =>
      subst hu'
      exact pe_bltn (v := .ty T) hg h1 h2 rfl h3 hd
    | _ => subst hu'; cases hu
inductive PClss (X : Cx) : List Expr → List Value → Prop
  | nil : PClss X [] []
  | cons {x : Str} {pos : Pos} {es : List Expr} {u : Value} {us : List Value} : Names X x u → ClsV (clsV u) u → starEach (.Name x pos :: es) X.env = (false, eval (.Name x pos) X.env) :: starEach es X.env → PClss X es us → PClss X (.Name x pos :: es) (u :: us)
def tClss : List Value → TA
  | [] => tNil
  | u :: us => tCons (tC (clsV u)) (tClss us)
theorem PClss.pa {X : Cx} : ∀ {es : List Expr} {us : List Value}, PClss X es us → PA X es (tClss us)
  | _, _, .nil => pa_nil
  | _, _, .cons h k s r => pa_cons (cls_pe h k) r.pa s
theorem PClss.vs {X : Cx} : ∀ {es : List Expr} {us : List Value}, PClss X es us → Paired ClsV (us.map clsV) us
  | _, _, .nil => .nil
  | _, _, .cons _ k _ r => .cons k r.vs
theorem tClss_run {us : List Value} {σ : L2.St} {H : Hp} {Q : List V → Hp → Prop} (q : Q (us.map clsV) H) : tClss us σ H Q := by
  induction us generalizing Q with
  | nil => exact q
  | cons u us ih => exact ih (Q := fun vs H' => Q (clsV u :: vs) H') q
end DD
namespace DD
open PySem PySem.Spec PyProof.Rows L2
/-! ### raising defs with a star parameter -/
structure DefX (P : Program) (w : World) (K : PySem.W.Frag) (mg : Str → Option Value) (base : Heap) (k : Nat) (x : Str) (ps : List Str) (sp : Sp) : Prop where
  ex : ∃ f fd, FnX P w K mg base k f fd ps sp ∧ mg x = some (.ref f) ∧ PySem.W.keepIn K (.ref f) = true ∧ Binds K fd ps []
section
variable {m : Type → Type} [Mo m] {X : Cx} {EX : XR} {g : List Sl} {k : Nat} {f : Addr} {ps : List Str}
theorem ej_callXD {x : Str} {p pos : Pos} {e : Expr} {es : List Expr} {F : List Sl → m D} {y : m (List Sl)} (Fn : DefX X.prog X.w X.K X.mg X.base k x ps (spX X.K X.mg F)) (hr : Room k X.A) (gu : X.A.guards = some []) (tk : Takes X EX.w) (sb : Sub g EX.g)
    (ha : AJ X EX (e :: es) g y) (hg : Gl X x := by rfl) (hd : (x == ("__debug__" : Str)) = false := by decide) (he : starEach (e :: es) X.env = (false, eval e X.env) :: starEach es X.env := by rfl) (hpl : (backTo pos (starEach es X.env)).any (·.1) = false := by rfl) :
    EJ X EX (.Call (.Name x p) (e :: es) [] pos) g (y >>= F) := by
  obtain ⟨f, fd, h1, h2, h3, h4⟩ := Fn.ex
  exact ej_callX h1 hr gu tk sb h2 h3 h4 ha hg hd he hpl
/-! ### what does not raise, within a mirror that may -/
variable {m' : Type → Type} [Mo m'] [Up m' m] {A : Type}
theorem ej_up {e : Expr} {x : m' D} (h : EJ X EX e g x) : EJ (m := m) X EX e g (Up.up x) := PE.weak h fun σ H Q ⟨B, G, n, φ, ξ, o, s, q, xw⟩ => ⟨B, G, n, φ, ξ, o, Up.sat_up s, q, xw⟩
theorem tj_up {e : Expr} {x : m' Bool} (h : TJ X EX e g x) : TJ (m := m) X EX e g (Up.up x) := PT.weak h fun σ H Q ⟨B, G, n, φ, ξ, o, s, q, xw⟩ => ⟨B, G, n, φ, ξ, o, Up.sat_up s, q, xw⟩
theorem ij_up {tg e : Expr} {x : m' (List D)} (h : IJ X EX tg e g x) : IJ (m := m) X EX tg e g (Up.up x) := PI.weak h fun σ H R ⟨B, G, n, φ, ξ, o, s, q, xw⟩ => ⟨B, G, n, φ, ξ, o, Up.sat_up s, q, xw⟩
abbrev upX {α : Type} (o : Option α) : Xo α := Up.up (m' := Option) (m := Xo) o
end
section
variable {P : Program} {w : World} {K : PySem.W.Frag} {mg : Str → Option Value} {base : Heap} {k : Nat} {x qual : Str} {st : Stmt} {f : Addr} {fd : FuncData} {N ps : List Str} {m : Type → Type} [Mo m]
theorem fnx_ar1 {F : D → m D} (Fu : Fun K x qual st f fd) (S : FnScope N ps (defScope st)) (hl : ps.length = 1)
    (hb : ∀ (a0 : D), ∀ (cdv : Value) (A : Around) (outer : List Env) (s : Shared) (H : Hp) (E : XK), Room k (A.deeper (envOfC qual (defScope st) s.heap.objs.size f cdv)) → A.guards = some [] →
      FJ (cxOf (L2.CX P w) P w K mg base N qual (defScope st) f cdv A outer s H E) (xrOf N E) true (defBody st) ([Sl.val a0] ++ List.replicate (N.length - 1) .any) (F a0)) : FnX P w K mg base (k + 1) f fd ps (spX K mg (ar1 F)) := by
  refine fn_jx Fu S fun as n φ ξ s => ?_
  unfold ar1 at s
  split at s
  · exact ⟨hl.symm, hb _⟩
  · exact no_sat s
theorem fnx_ar2 {F : D → D → m D} (Fu : Fun K x qual st f fd) (S : FnScope N ps (defScope st)) (hl : ps.length = 2)
    (hb : ∀ (a0 a1 : D), ∀ (cdv : Value) (A : Around) (outer : List Env) (s : Shared) (H : Hp) (E : XK), Room k (A.deeper (envOfC qual (defScope st) s.heap.objs.size f cdv)) → A.guards = some [] →
      FJ (cxOf (L2.CX P w) P w K mg base N qual (defScope st) f cdv A outer s H E) (xrOf N E) true (defBody st) ([Sl.val a0, Sl.val a1] ++ List.replicate (N.length - 2) .any) (F a0 a1)) : FnX P w K mg base (k + 1) f fd ps (spX K mg (ar2 F)) := by
  refine fn_jx Fu S fun as n φ ξ s => ?_
  unfold ar2 at s
  split at s
  · exact ⟨hl.symm, hb _ _⟩
  · exact no_sat s
theorem fnx_ar3 {F : D → D → D → m D} (Fu : Fun K x qual st f fd) (S : FnScope N ps (defScope st)) (hl : ps.length = 3)
    (hb : ∀ (a0 a1 a2 : D), ∀ (cdv : Value) (A : Around) (outer : List Env) (s : Shared) (H : Hp) (E : XK), Room k (A.deeper (envOfC qual (defScope st) s.heap.objs.size f cdv)) → A.guards = some [] →
      FJ (cxOf (L2.CX P w) P w K mg base N qual (defScope st) f cdv A outer s H E) (xrOf N E) true (defBody st) ([Sl.val a0, Sl.val a1, Sl.val a2] ++ List.replicate (N.length - 3) .any) (F a0 a1 a2)) : FnX P w K mg base (k + 1) f fd ps (spX K mg (ar3 F)) := by
  refine fn_jx Fu S fun as n φ ξ s => ?_
  unfold ar3 at s
  split at s
  · exact ⟨hl.symm, hb _ _ _⟩
  · exact no_sat s
end
end DD
namespace DD
open PySem PySem.Spec PyProof.Rows L2
def clsBody : Stmt → List Stmt
  | .ClassDef (body := b) .. => b
  | _ => []
def oexC0 (K : PySem.W.Frag) (C : Addr) : Bool := match K.lookup C with
  | some ⟨.type "type", _, .cls cd, sl⟩ => (match cd.mro, sl.toList with
    | .ref C' :: bm, [_, _, _, _, some (.builtin n), _] => C' == C && n == "ValueError.__new__" && cd.hasDict && !cd.hasDel && PySem.HandSPX.refsVE bm
    | _, _ => false)
  | _ => false
theorem oexC0_ok {K : PySem.W.Frag} {C : Addr} (h : oexC0 K C = true) : ∃ nm q N bs bm sn sub ab col dd k0 k1 k2 k3 k5, K.lookup C = some (excClassObj nm q C N bs bm true sn sub ab col dd k0 k1 k2 k3 k5 "ValueError.__new__") ∧ PySem.HandSPX.refsVE bm = true := by
  unfold oexC0 at h
  split at h
  · rename_i dd cd sl hl
    split at h
    · rename_i C' bm k0 k1 k2 k3 n k5 hm hs
      simp only [Bool.and_eq_true, beq_iff_eq, Bool.not_eq_true'] at h
      obtain ⟨⟨⟨⟨h1, h2⟩, h3⟩, h4⟩, h5⟩ := h
      subst h1 h2
      obtain ⟨nm, bs, mro, ns, qn, hd, sn, sb, ab, col, del⟩ := cd
      dsimp only at hm h3 h4
      subst hm h3 h4
      have hs' : sl = #[k0, k1, k2, k3, some (.builtin "ValueError.__new__"), k5] := by
        apply Array.toList_inj.mp
        rw [hs]
      subst hs'
      exact ⟨_, _, _, _, _, _, _, _, _, _, _, _, _, _, _, hl, h5⟩
    · cases h
  · cases h
theorem oex_mk {K : PySem.W.Frag} {C : Addr} (h : oexC0 K C = true) (h1 : PySem.W.findIn K (.ref C) "__setattr__" = some (some (.builtin "object.__setattr__"))) (h2 : PySem.W.subIn K (.ref C) (.type "BaseException") = some true) (h3 : PySem.W.typeIn K (.ref C) = some (.type "type")) (h4 : PySem.W.keepIn K (.ref C) = true) : OexC K C := ⟨oexC0_ok h, h1, h2, h3, h4⟩
theorem er1_mk {P : Program} {w : World} {K : PySem.W.Frag} {mg : Str → Option Value} {base : Heap} {c fl : Str} {C fI : Addr} {fd : FuncData} {ps : List Str} (nm : mg c = some (.ref C)) (T : OexC K C) (i1 : PySem.W.findIn K (.ref C) "__init__" = some (some (.ref fI))) (i2 : PySem.W.typeIn K (.ref fI) = some (.type "function")) (i3 : FnOk P w K mg base CX0 1 fI fd ps (spInit C fl)) (i4 : Binds K fd ps []) : Er1 P w K mg base c fl C := ⟨nm, T, fI, fd, ps, i1, i2, i3, i4⟩
end DD
namespace DD
open PySem PySem.Spec PyProof.Rows L2
/-! ### instances that do not change any more: attributes, methods, properties -/
def keyIs (f : Str) : D → Bool
  | .str x => f == x
  | _ => false
section
variable {K : PySem.W.Frag} {G : Hp}
theorem ClsOk.one {c : Str} {C C' : Addr} (h : ClsOk K c C) (h' : ClsOk K c C') : C' = C := by
  have e := h.nm
  rw [h'.nm] at e
  cases e
  rfl
end
section
variable {m : Type → Type} [Mo m] {X : Cx} {EX : XR} {g : List Sl} {k : Nat} {f C : Addr} {fd : FuncData} {ps : List Str} {pos apos : Pos}
/-! ### methods -/
def tM (C : Addr) (mn : Str) (ta : TE) (t : TA) (sp : Sp) (E : L2.St → XK) : TE := fun σ H Q => ta σ H fun x H1 => ∃ a dx fs, x = .ref a ∧ H1 a = some (.ins C dx fs) ∧ fs.lookup mn = none ∧ t σ H1 fun vs H2 => sp (x :: vs) H2 Q (E σ)
abbrev MethAt (X : Cx) (o : Expr) (mn : Str) (apos pos : Pos) (es : List Expr) (pl : Sem Bool) : Prop := eval (.Call (.Attribute o mn apos) es [] pos) X.env = (do
      let ov ← eval o X.env
      standAt apos.atName
      let (f, first) ← holding [ov] (getMethod ov mn pl)
      callWith pos f first (backTo pos (starEach es X.env)) (backToKw pos (keywordEach [] X.env)))
theorem pe_mX {pl : Sem Bool} {o e : Expr} {es : List Expr} {mn : Str} {ta : TE} {t : TA} {sp : Sp} {W : WX} (he : PE X o ta) (c : Cls X.K C) (hm : Meth X.K C mn f) (F : FnX X.prog X.w X.K X.mg X.base k f fd ps sp) (hr : Room k X.A) (gu : X.A.guards = some []) (tk : Takes X W) (hb : Binds X.K fd ps []) (ha : PA X (e :: es) t)
    (hst : starEach (e :: es) X.env = (false, eval e X.env) :: starEach es X.env) (hpl : (backTo pos (starEach es X.env)).any (·.1) = false) (ht : MethAt X o mn apos pos (e :: es) pl) : PE X (.Call (.Attribute o mn apos) (e :: es) [] pos) (tM C mn ta t sp fun σ => WE W σ) := by
  refine ⟨fun pins s σ H Q I h => ?_⟩
  refine PySem.W.methodCall_KW (pl := pl) (thn (he.run pins s σ H _ I h) fun u s1 ⟨x, H1, I1, rx, a, dx, fs, ex, ea, l, q⟩ => ?_) ht
  subst ex
  obtain rfl : u = Value.ref a := rx
  refine getmeth_ok I1 ea c hm l ?_
  refine PySem.W.callWith_K (first := [.ref a]) (h₀ := X.base) I.ok.mod.kin hm.kp (thn (ha.run pos pins s1 σ H1 _ I1 q) fun us s2 ⟨vs, H2, I2, r, q2⟩ => ⟨I2.kIn, ?_⟩) hst hpl
  exact call_x (us := .ref a :: us) (vs := .ref a :: vs) F hr gu hb tk I2 (.cons rfl r) q2
theorem pe_mG {pl : Sem Bool} {o e : Expr} {es : List Expr} {mn : Str} {ta : TE} {t : TA} {sp : Sp} (he : PE X o ta) (c : Cls X.K C) (hm : Meth X.K C mn f) (F : FnG X.prog X.w X.K X.mg X.base k f fd ps sp) (hr : Room k X.A) (gu : X.A.guards = some []) (hb : Binds X.K fd ps []) (ha : PA X (e :: es) t)
    (hst : starEach (e :: es) X.env = (false, eval e X.env) :: starEach es X.env) (hpl : (backTo pos (starEach es X.env)).any (·.1) = false) (ht : MethAt X o mn apos pos (e :: es) pl) : PE X (.Call (.Attribute o mn apos) (e :: es) [] pos) (tM C mn ta t sp fun _ => E0) := by
  refine ⟨fun pins s σ H Q I h => ?_⟩
  refine PySem.W.methodCall_KW (pl := pl) (thn (he.run pins s σ H _ I h) fun u s1 ⟨x, H1, I1, rx, a, dx, fs, ex, ea, l, q⟩ => ?_) ht
  subst ex
  obtain rfl : u = Value.ref a := rx
  refine getmeth_ok I1 ea c hm l ?_
  refine PySem.W.callWith_K (first := [.ref a]) (h₀ := X.base) I.ok.mod.kin hm.kp (thn (ha.run pos pins s1 σ H1 _ I1 q) fun us s2 ⟨vs, H2, I2, r, q2⟩ => ⟨I2.kIn, ?_⟩) hst hpl
  exact call_g (us := .ref a :: us) (vs := .ref a :: vs) F hr gu hb I2 (.cons rfl r) q2
/-! ### properties -/
theorem getprop_g {pins : List (Addr × Obj)} {σ : L2.St} {H : Hp} {s : Shared} {Q : VK} {b : Bool} {E' : Value → Shared → Prop} {a dx p : Addr} {vs : List (Str × V)} {fl : Str} {sp : Sp} (I : Inv X pins σ H s) (ea : H a = some (.ins C dx vs)) (c : Cls X.K C) (hp : PropOf X.K C fl p f)
    (F : FnG X.prog X.w X.K X.mg X.base k f fd ps sp) (hr : Room (k + 1) X.A) (gu : X.A.guards = some []) (hb : Binds X.K fd ps []) (h : sp [.ref a] H Q E0) :
    wpAny (model X.prog X.w) X.A (getAttr (.ref a) fl b) (EP X pins σ Q) E' s := by
  obtain ⟨mA, O, _, _, _, _⟩ := ins_get I.hok ea
  obtain ⟨od, J, _⟩ := O.look
  obtain ⟨rest, hrec⟩ := hp.rec_
  have I1 := I.tok (s.toks + 1)
  have hl : ([Value.ref a] ++ []).length = ps.length := by
    rw [← F.len _ _ _ _ h]
    rfl
  have hb' := hb { s with toks := s.toks + 1 } [.ref a] I1.kIn hl
  rw [List.append_nil] at hb'
  have hc : (PySem.W.clsIn X.K C).isSome = true := by
    obtain ⟨cd, hc, _⟩ := PySem.W.any_some c.hd
    rw [hc]
    rfl
  refine PySem.W.get_bind I.kIn J (PySem.W.plainGet_of (c.get fl)).1 (PySem.W.findObj_data hc hp.at_ hp.get hp.tak) (PySem.W.plainGet_of (c.get fl)).2 (wpAny_call (PySem.W.prop_get (s := { s with toks := s.toks + 1 }) I.kIn hrec ?_))
  refine codeAny_mono (F.run X.A.in1 X.stack { s with toks := s.toks + 1 } H ⟨[.ref a], []⟩ [.ref a] [.ref a] Q E0 hr.in1 gu I1.env0.in1 hb' (.cons rfl .nil) h) fun r s' hq => ?_
  cases r with
  | error er => exact False.elim hq
  | ok fl =>
    cases fl with
    | ret u =>
      obtain ⟨v, H', I3, rv, q3⟩ := I1.after hq
      show wpAny _ _ (handedOut u) _ _ _
      rw [PySem.W.handedOut_of (handed_of rv)]
      exact wpAny_pure ⟨v, H', I3, rv, q3⟩
    | next => exact False.elim hq
    | brk => exact False.elim hq
    | cont => exact False.elim hq
theorem pe_propG {fl : Str} {p : Addr} {e : Expr} {ta : TE} {sp : Sp} (he : PE X e ta) (c : Cls X.K C) (hp : PropOf X.K C fl p f) (F : FnG X.prog X.w X.K X.mg X.base k f fd ps sp) (hr : Room (k + 1) X.A) (gu : X.A.guards = some []) (hb : Binds X.K fd ps [])
    (hab : attributeBase e fl X.env (eval e X.env) = eval e X.env) : PE X (.Attribute e fl pos) (fun σ H Q => ta σ H fun x H1 => ∃ a dx fs, x = .ref a ∧ H1 a = some (.ins C dx fs) ∧ sp [.ref a] H1 Q E0) := by
  refine ⟨fun pins s σ H Q I h => ?_⟩
  refine attr_of hab (thn (he.run pins s σ H _ I h) fun u s1 ⟨x, H1, I1, rx, a, dx, fs, ex, ea, q⟩ => ?_)
  subst ex
  obtain rfl : u = Value.ref a := rx
  exact getprop_g I1 ea c hp F hr gu hb q
end
end DD
namespace DD
open PySem PySem.Spec PyProof.Rows L2
/-! ### new instances -/
/-- C(..): a new instance and its dict, then __init__, which may raise -/
theorem run_makeX {X : Cx} {k : Nat} {C f : Addr} {fd : FuncData} {ps : List Str} {sp : Sp} {W : WX} {pins : List (Addr × Obj)} {σ : L2.St} {H : Hp} {s : Shared} {Q : VK} {us : List Value} {vs : List V} (M : Mk X.K C f) (F : FnX X.prog X.w X.K X.mg X.base k f fd ps sp) (hr : Room (k + 1) X.A) (gu : X.A.guards = some []) (tk : Takes X W) (hb : Binds X.K fd ps [])
    (I : Inv X pins σ H s) (r : Vals vs us)
    (h : ∀ x dx, H x = none → H dx = none → dx ≠ x → sp (.ref x :: vs) (upd (upd H dx (.own x)) x (.ins C dx [])) (fun v H2 => v = .non ∧ Q (.ref x) H2) (WE W σ)) :
    wpAny (model X.prog X.w) X.A (call (.ref C) us) (EP X pins σ Q) X.xe s := by
  have hq := h (s.heap.objs.size + 1) s.heap.objs.size (I.hok.fresh (Nat.le_succ _)) (I.hok.fresh (Nat.le_refl _)) (Nat.ne_of_lt (Nat.lt_succ_self _))
  have I2 := Inv.made (C := C) I
  have r2 : Vals (V.ref (s.heap.objs.size + 1) :: vs) (Value.ref (s.heap.objs.size + 1) :: us) := .cons rfl r
  have hl : ((Value.ref (s.heap.objs.size + 1) :: us) ++ []).length = ps.length := by
    have e := r2.length
    rw [F.len _ _ _ _ hq] at e
    rw [List.append_nil]
    exact e.symm
  have hb' := hb _ (Value.ref (s.heap.objs.size + 1) :: us) I2.kIn hl
  rw [List.append_nil] at hb'
  refine wpAny_call (make_map (f := f) I.kIn M.makes M.init (beq_iff_eq.mp M.fn) (codeAny_mono (F.run _ X.stack _ _ ⟨Value.ref (s.heap.objs.size + 1) :: us, []⟩ (Value.ref (s.heap.objs.size + 1) :: us) _ _ (WE W σ) (hr.make C us []) gu
    (I2.env0.make C us []) hb' r2 hq) fun r s' hq' => ?_))
  cases r with
  | error e => exact passAt tk σ pins _ _ e s' I2 hq'
  | ok fl =>
    cases fl with
    | ret u =>
      obtain ⟨v, H', I3, rv, ev, q3⟩ := I2.after hq'
      subst ev
      exact ⟨rv, ⟨V.ref (s.heap.objs.size + 1), H', I3, rfl, q3⟩⟩
    | next => exact False.elim hq'
    | brk => exact False.elim hq'
    | cont => exact False.elim hq'
theorem pe_makeX {X : Cx} {k : Nat} {C f : Addr} {fd : FuncData} {ps : List Str} {sp : Sp} {W : WX} {x : Str} {p pos : Pos} {e : Expr} {es : List Expr} {t : TA} (M : Mk X.K C f) (F : FnX X.prog X.w X.K X.mg X.base k f fd ps sp) (hr : Room (k + 1) X.A) (gu : X.A.guards = some []) (tk : Takes X W) (hg : Gl X x) (hm : X.mg x = some (.ref C)) (hb : Binds X.K fd ps [])
    (ha : PA X (e :: es) t) (hd : (x == ("__debug__" : Str)) = false) (he : starEach (e :: es) X.env = (false, eval e X.env) :: starEach es X.env) (hpl : (backTo pos (starEach es X.env)).any (·.1) = false) :
    PE X (.Call (.Name x p) (e :: es) [] pos) (fun σ H Q => t σ H fun vs H1 => ∀ x dx, H1 x = none → H1 dx = none → dx ≠ x → sp (.ref x :: vs) (upd (upd H1 dx (.own x)) x (.ins C dx [])) (fun v H2 => v = .non ∧ Q (.ref x) H2) (WE W σ)) :=
  ⟨fun pins s σ H Q I h => wpAny_Call_Name_kw (ld_glob I hg hm (PySem.W.callWith_K (h₀ := X.base) I.ok.mod.kin M.kp (thn (ha.run pos pins s σ H _ I h) fun us s1 ⟨vs, H1, I1, r, q⟩ => ⟨I1.kIn, run_makeX M F hr gu tk hb I1 r q⟩) he hpl) hd)⟩
end DD
namespace DD
open PySem PySem.Spec PyProof.Rows L2
/-! ### the body of an __init__: checks, then attributes of self -/
def Bs.at (B : Bs) (x : Addr) (u : HO) : Bs := ⟨upd B.H x u, B.G, B.dk, B.tG⟩
end DD
namespace DD
open PySem PySem.Spec PyProof.Rows L2
/-! ### classes of one's own: what is known of their defs -/
section
variable (P : Program) (w : World) (K : PySem.W.Frag) (mg : Str → Option Value) (base : Heap) (k : Nat) (c mn : Str) (ps : List Str)
structure MthX (sp : Sp) : Prop where
  ex : ∃ C f fd, ClsOk K c C ∧ Meth K C mn f ∧ FnX P w K mg base k f fd ps sp ∧ Binds K fd ps []
structure MthG (sp : Sp) : Prop where
  ex : ∃ C f fd, ClsOk K c C ∧ Meth K C mn f ∧ FnG P w K mg base k f fd ps sp ∧ Binds K fd ps []
structure PrpG (sp : Sp) : Prop where
  ex : ∃ C p f fd, ClsOk K c C ∧ PropOf K C mn p f ∧ FnG P w K mg base k f fd ps sp ∧ Binds K fd ps []
structure MkX (sp : Sp) : Prop where
  ex : ∃ C f fd, ClsOk K c C ∧ mg c = some (.ref C) ∧ Mk K C f ∧ FnX P w K mg base k f fd ps sp ∧ Binds K fd ps []
structure HasNo : Prop where
  ex : ∃ C, ClsOk K c C ∧ NoAttr K C mn
end
/-! __init__ with a given number of parameters beside self -/
end DD
namespace DD
open PySem PySem.Spec PyProof.Rows L2
/-! ### operators of one's own classes: heap[i], a + b, a - b, len(a), x in a -/
section
variable {X : Cx} {k : Nat} {f C : Addr} {fd : FuncData} {ps : List Str} {pins : List (Addr × Obj)} {σ : L2.St} {H : Hp} {s : Shared} {Q : VK} {us : List Value} {vs : List V} {sp : Sp} {W : WX}
theorem call_g1 {E : Value → Shared → Prop} (F : FnG X.prog X.w X.K X.mg X.base k f fd ps sp) (hr : Room (k + 1) X.A) (gu : X.A.guards = some []) (hb : Binds X.K fd ps [])
    (I : Inv X pins σ H s) (r : Vals vs us) (h : sp vs H Q E0) : wpAny (model X.prog X.w) X.A.in1 (call (.ref f) us) (EP X pins σ Q) E s := by
  have hl : us.length = ps.length := by rw [← r.length]; exact F.len _ _ _ _ h
  have hb' := hb s us I.kIn (by rw [List.append_nil]; exact hl)
  rw [List.append_nil] at hb'
  refine wpAny_call (codeAny_mono (F.run X.A.in1 X.stack s H ⟨us, []⟩ us vs Q E0 hr.in1 gu I.env0.in1 hb' r h) fun z s' hq => ?_)
  cases z with
  | error e => exact False.elim hq
  | ok fl =>
    cases fl with
    | ret u => exact I.after hq
    | next => exact False.elim hq
    | brk => exact False.elim hq
    | cont => exact False.elim hq
end
section
variable {m : Type → Type} [Mo m] {X : Cx} {EX : XR} {g : List Sl} {k : Nat} {f C : Addr} {fd : FuncData} {ps : List Str} {pos : Pos} {sp : Sp} {W : WX} {o i a b : Expr} {to ti ta tb : TE}
/-- len(a) -/
def rLenO (C : Addr) (sp : Sp) : List V → Hp → VK → Prop := fun xs H Q => ∃ a dx fs, xs = [.ref a] ∧ H a = some (.ins C dx fs) ∧ sp [.ref a] H (fun v H' => ∃ n : Int, v = .int n ∧ 0 ≤ n ∧ n < 2 ^ 63 ∧ Q (.int n) H') E0
theorem call_lenO (hm : Meth X.K C "__len__" f) (F : FnG X.prog X.w X.K X.mg X.base k f fd ps sp) (hr : Room (k + 1) X.A) (gu : X.A.guards = some []) (hb : Binds X.K fd ps []) : CallR X (.builtin "len") (rLenO C sp) := by
  intro pins s σ H xs us Q I r ⟨a, dx, fs, ex, ea, q⟩
  subst ex
  cases r with
  | cons r1 r2 =>
    cases r2
    obtain rfl : _ = Value.ref a := r1
    obtain ⟨mA, O, _⟩ := ins_get I.hok ea
    obtain ⟨od, J, _⟩ := O.look
    obtain ⟨m0, hF⟩ := I.fr
    refine PySem.W.len_K hF I.ok.mod.kin J hm.at_ hm.fn (thn (call_g1 (vs := [.ref a]) F hr gu hb I (.cons rfl .nil) q) fun u s' ⟨v, H', I', rv, n, ev, h0, h1, qq⟩ => ?_)
    subst ev
    obtain ⟨t, rfl⟩ := rv
    exact ⟨⟨h0, h1⟩, .int n, H', I'.tok _, ⟨_, rfl⟩, qq⟩
end
section
variable {m : Type → Type} [Mo m] {X : Cx} {EX : XR} {g : List Sl} {k : Nat} {ps : List Str} {pos p : Pos} {c : Str} {o i a b : Expr} {x y : m D} {F : List Sl → m D}
def natD : D → Option D
  | .int n => if 0 ≤ n ∧ n < 2 ^ 63 then some (.int n) else none
  | _ => none
end
end DD
namespace DD
open PySem PySem.Spec PyProof.Rows L2
/-! ### what may raise, where it does not -/
abbrev XN (g : List Sl) : XR := ⟨fun _ _ _ _ => False, g⟩
theorem sub_self : ∀ g : List Sl, Sub g g
  | [] => trivial
  | _ :: g => ⟨.inr rfl, sub_self g⟩
theorem takes00 {X : Cx} : Takes X (fun _ _ _ _ => False) := fun u s' ⟨a, B, sI, pins, σ, H, cls, d, e, I, nb, up, sky, na, os, ag, w⟩ => False.elim w
end DD
namespace DD
open PySem PySem.Spec PyProof.Rows L2
/-! ### errors of one's own over LookupError, whose __init__ stores one field -/
abbrev lkTail : List Value := [.type "LookupError", .type "Exception", .type "BaseException", .type "object"]
/-- what the law's text says of such a class -/
structure OexL (K : PySem.W.Frag) (C : Addr) : Prop where
  lk : ∃ nm q N bs bm sn sub ab col dd k0 k1 k2 k3 k5, K.lookup C = some (excClassObj nm q C N bs bm true sn sub ab col dd k0 k1 k2 k3 k5 "LookupError.__new__") ∧ PySem.W.excTail lkTail bm = true
  st : PySem.W.findIn K (.ref C) "__setattr__" = some (some (.builtin "object.__setattr__"))
  be : PySem.W.subIn K (.ref C) (.type "BaseException") = some true
  ty : PySem.W.typeIn K (.ref C) = some (.type "type")
  kp : PySem.W.keepIn K (.ref C) = true
section
variable {K : PySem.W.Frag} {C : Addr}
theorem OexL.cd (T : OexL K C) : ∃ cd, PySem.W.clsIn K C = some cd ∧ cd.hasDict = true ∧ PySem.W.excOver K C lkTail = true := by
  obtain ⟨nm, q, N, bs, bm, sn, sub, ab, col, dd, k0, k1, k2, k3, k5, e, hb⟩ := T.lk
  have ec : PySem.W.clsIn K C = some { name := nm, bases := bs, mro := .ref C :: bm, ns := N, qualname := q, hasDict := true, slotNames := sn, subclasses := sub, abstract := ab, collection := col, hasDel := false } := by
    unfold PySem.W.clsIn
    rw [e]
  refine ⟨_, ec, rfl, ?_⟩
  unfold PySem.W.excOver
  rw [ec]
  show (C == C && PySem.W.excTail lkTail bm) = true
  rw [hb]
  simp
end
section
variable {prog : Program} {w : World} {A : Around} {R : Result → Shared → Prop} {hp : Heap} {gs : Array GenState} {dr : Drawn} {t : Nat} {os : OsState}
/-- the store lays the dict of the error -/
theorem osa_lk {K : PySem.W.Frag} {fl : Str} {tk : Tok} {v : Value} {x C t1 : Addr} (X : K.In hp) (T : OexL K C) (hx : hp.get? x = some (PySem.W.excObj C t1 none .none)) (hf : PySem.W.findIn K (.ref C) fl = some none)
    (fin : ∀ h' tk' dx, (∀ b o, b ≠ x → hp.get? b = some o → h'.get? b = some o) → hp.objs.size ≤ dx → dx ≠ x → h'.get? x = some (PySem.W.excObj C t1 (some dx) .none) → h'.Ns1 dx (fun z => if z = fl then some v else none) → R (.ok (.ret .none)) ⟨h', gs, dr, tk', os⟩) :
    codeAny (model prog w) A (.call (.builtin "object.__setattr__") ⟨[.ref x, .str fl tk, v], []⟩) R ⟨hp, gs, dr, t, os⟩ := by
  obtain ⟨cd, ec, hd, ov⟩ := T.cd
  have ht : PySem.W.takerIn K C fl = some none := by unfold PySem.W.takerIn; rw [hf]; rfl
  have lt : x < hp.objs.size := Heap.lt_size hx
  have hx1 : (hp.push (PySem.W.dictOf [] 0)).get? x = some (PySem.W.excObj C t1 none .none) := Heap.get?_push_of_some _ hx
  refine PySem.W.osa_openX (s := ⟨hp, gs, dr, t, os⟩) (od := none) PySem.F.store_LookupError X ⟨hx, rfl, rfl, trivial⟩ ov ht fun _ => ?_
  refine wpAny_bind (wpAny_pure (wpAny_bind ?mk))
  refine PySem.W.instanceDict_exc (s := ⟨hp, gs, dr, t, os⟩) hx (PySem.W.looks_clsIn X ec) hd ?_
  show wpAny _ _ (Builtin.ObjectAttr.storeInDict hp.objs.size (.str fl tk) fl v) _ _ _
  refine PySem.HandSPX.store_in_new ⟨_, #[], _, (Heap.get?_update_ne _ _ _ _ (Nat.ne_of_gt lt)).trans (Heap.get?_push_at rfl rfl), rfl, fun e he => absurd he (by simp), fun _ => rfl⟩ fun h' tk' hn sb => ?_
  refine fin h' tk' hp.objs.size (fun b o hb ho => ?_) (Nat.le_refl _) (Nat.ne_of_gt lt) ?_ hn
  · have e1 : ((hp.push (PySem.W.dictOf [] 0)).update x fun o => { o with dict := some hp.objs.size }).get? b = some o := by
      rw [Heap.get?_update_ne _ _ _ _ hb]
      exact Heap.get?_push_of_some _ ho
    exact (sb.2 b (Nat.ne_of_lt (Heap.lt_size ho))).trans e1
  · exact (sb.2 x (Nat.ne_of_lt lt)).trans (Heap.get?_update_self _ hx1 rfl)
end
section
variable {X : Cx} {pins : List (Addr × Obj)} {σ : L2.St} {H : Hp} {s : Shared} {a C : Addr} {fl : Str} {y : V} {u : Value}
theorem put_lk {Q : Unit → Shared → Prop} {E : Value → Shared → Prop} {A : Around} (T : OexL X.K C) (I : Inv X pins σ H s) (ea : H a = some (exo a C none)) (hf : PySem.W.findIn X.K (.ref C) fl = some none) (ry : RelV y u)
    (fin : ∀ dx s', H dx = none → dx ≠ a → Inv X pins σ (upd (upd H dx (exd dx [(fl, y)])) a (exo a C (some dx))) s' → Q () s') : wpAny (model X.prog X.w) A (setAttr (.ref a) fl u) Q E s := by
  obtain ⟨t1, ho⟩ := exo_at I.hok ea
  obtain ⟨hp, gs, dr, t, os⟩ := s
  refine PySem.W.set_plain I.kIn (ox := PySem.W.excObj C t1 none .none) (od := none) ⟨ho, rfl, rfl, trivial⟩ T.st (osa_lk I.kIn T ho hf fun h' tk' dx old dn da hx hn => ?_)
  have nx : H dx = none := I.hok.fresh dn
  let H2 : Hp := upd (upd H dx (exd dx [(fl, y)])) a (exo a C (some dx))
  have off : ∀ b, b ≠ a → b ≠ dx → H2 b = H b := fun b p q => by
    show upd (upd _ _ _) _ _ b = _
    rw [upd_ne p, upd_ne q]
  have na : ∀ {b : Addr} {o : HO}, H b = some o → exo a C none ≠ o → b ≠ a := fun {b o} e z => at_ne ea e z
  have nd : ∀ {b : Addr} {o : HO}, H b = some o → b ≠ dx := fun {b o} e => ne_of_none e nx
  have n0 : ∀ {b : Addr}, H b = none → b ≠ a := fun {b} n z => by rw [z, ea] at n; cases n
  have nh : ∀ {b : Addr} {o : Obj}, hp.get? b = some o → b ≠ dx := fun {b o} q z => absurd (Heap.lt_size q) (by rw [z]; exact Nat.not_lt.mpr dn)
  have U : Un X.fs [] H H2 hp h' :=
    { keep := fun _ _ q n _ _ => old _ _ (n0 n) q, slot := fun _ o q n _ _ => ⟨o.slots, old _ _ (n0 n) q⟩, free := fun _ _ q n _ => (off _ (n0 n) (nh q)).trans n,
      there := fun b o q _ => if hb : b = a then ⟨_, (congrArg h'.get? hb).trans hx⟩ else ⟨o, old b o hb q⟩,
      tups := fun _ _ q => (off _ (na q exo_tup) (nd q)).trans q, frzs := fun _ _ _ q => (off _ (na q exo_frz) (nd q)).trans q, tbls := fun _ _ q => ⟨#[], by show H2 _ = _; rw [off _ (na q exo_tbl) (nd q), q]; simp⟩ }
  refine fin dx _ nx da (I.un (t' := tk') U fun b o q => ?_)
  by_cases hb : b = a
  · subst hb
    have q' : upd (upd H dx (exd dx [(fl, y)])) b (exo b C (some dx)) b = some o := q
    rw [upd_same] at q'
    cases q'
    exact exo_ok hx
  by_cases hd : b = dx
  · subst hd
    have q' : upd (upd H b (exd b [(fl, y)])) a (exo a C (some b)) b = some o := q
    rw [upd_ne hb, upd_same] at q'
    cases q'
    exact exd_ok hn (relO_put (fs := []) ry fun _ => True.intro)
  have q : H b = some o := (off b hb hd).symm.trans q
  refine (I.hok b o q).stay (fun c _ hc z => old c _ ?_ z) (fun c hc => (off c (na hc exo_own) (nd hc)).trans hc) fun c _ hc => (off c (na hc exo_tup) (nd hc)).trans hc
  rcases hc with hc | hc
  · exact hc ▸ hb
  · exact na hc exo_own
end
/-- self.f = e -/
def tPutL (K : PySem.W.Frag) (fl : Str) (to te : TE) : TS := fun D σ H => te σ H fun y H1 => to σ H1 fun x H2 => ∃ a C : Addr, x = .ref a ∧ OexL K C ∧ PySem.W.findIn K (.ref C) fl = some none ∧ H2 a = some (exo a C none) ∧ ∀ dx, H2 dx = none → dx ≠ a → D.nx σ (upd (upd H2 dx (exd dx [(fl, y)])) a (exo a C (some dx)))
theorem ps_putL {X : Cx} {o e : Expr} {to te : TE} {fl : Str} {p' pos : Pos} (ho : PE X o to) (he : PE X e te) (hs : swapsWith e (some (.Attribute o fl p')) pos.line X.env = pure false := by rfl) : PS X (.Assign [.Attribute o fl p'] e pos) (tPutL X.K fl to te) :=
  ⟨fun pins s σ H D I h => plainObj_wpAny_Assign_Attribute (thn (he.run pins s σ H _ I h) fun v s1 ⟨y, H1, I1, r1, q1⟩ => thn (ho.run pins s1 σ H1 _ I1 q1) fun u s2 ⟨x, H2, I2, r2, a, C, ex, T, hf, ea, q⟩ => by
    subst ex
    obtain rfl : u = Value.ref a := r2
    exact put_lk T I2 ea hf r1 fun dx s' n ne J => ⟨σ, _, J, q dx n ne⟩) hs⟩
section
variable {X : Cx} {e : Expr} {es : List Expr} {ta : TA}
/-- C(e, ..) makes the error, its __init__ fills it -/
theorem pmk_lk {c : Str} {p pos : Pos} {C fI : Addr} {k : Nat} {fd : FuncData} {ps : List Str} {sp : Sp} (T : OexL X.K C) (i1 : PySem.W.findIn X.K (.ref C) "__init__" = some (some (.ref fI))) (i2 : PySem.W.typeIn X.K (.ref fI) = some (.type "function")) (F1 : FnOk X.prog X.w X.K X.mg X.base CX0 k fI fd ps sp) (hr : Room (k + 1) X.A) (hb : Binds X.K fd ps []) (hg : Gl X c) (hm : X.mg c = some (.ref C)) (ha : PA X (e :: es) ta) (hdb : (c == ("__debug__" : Str)) = false) (he : starEach (e :: es) X.env = (false, eval e X.env) :: starEach es X.env) (hpl : (backTo pos (starEach es X.env)).any (·.1) = false) :
    PMk X (.Call (.Name c p) (e :: es) [] pos) (tMkO C sp [] ta) := by
  intro pins s σ H Q I h
  obtain ⟨nm, q, N, bs, bm, sn, sub, ab, col, dd, k0, k1, k2, k3, k5, lk, tl⟩ := T.lk
  refine wpAny_Call_Name_kw (ld_glob I hg hm (PySem.W.callWith_K (h₀ := X.base) I.ok.mod.kin T.kp (thn (ha.run pos pins s σ H _ I h) fun us s1 ⟨vs, H1, I1, r1, hz, q1⟩ => ⟨I1.kIn, ?_⟩) he hpl) hdb)
  show wpAny _ _ (call (.ref C) us) _ _ _
  obtain ⟨hp, gs, dr, tk, os⟩ := s1
  have up1 : hp.objs.size ≤ hp.objs.size + 1 := Nat.le_succ _
  have body := q1 (hp.objs.size + 1) (I1.hok.fresh up1)
  generalize hx : hp.objs.size + 1 = x at body up1
  obtain ⟨h2, eh2⟩ : ∃ h2 : Heap, h2 = (hp.push (PySem.W.kdv_tup us)).push (PySem.HandSPX.excO C hp.objs.size) := ⟨_, rfl⟩
  have old : ∀ b o, hp.get? b = some o → h2.get? b = some o := fun b o z => eh2 ▸ Heap.get?_push_of_some _ (Heap.get?_push_of_some _ z)
  have new : h2.get? x = some (PySem.HandSPX.excO C hp.objs.size) := by
    rw [← hx, eh2]
    heap_get
  have I2 : Inv X pins σ (upd H1 x (exo x C none)) ⟨h2, gs, dr, tk, os⟩ := I1.laid (t' := tk) (h' := h2) old up1 (exo_ok new)
  have rv : Vals (V.ref x :: (vs ++ [])) (Value.ref x :: (us ++ [])) := .cons rfl (r1.append .nil)
  have len : (Value.ref x :: us ++ []).length = ps.length := by
    have z := rv.length
    rw [F1.len _ _ _ _ body] at z
    exact z.symm
  have hus : us.length ≤ sizeLine := by
    rw [← Paired.length r1, sizeLine_eq]
    omega
  have bd : BindsTo ⟨h2, gs, dr, tk, os⟩ fd ⟨Value.ref x :: us, []⟩ (ps.zip (Value.ref x :: (us ++ []))) := hb _ (Value.ref x :: us) I2.kIn len
  refine wpAny_call (PySem.HandSPX.call_own PySem.F.excBase_LookupError (fun Y => PySem.W.excTail_contains Y bm tl) (I1.kIn _ _ lk) (PySem.W.looks_findIn I1.kIn i1) (fun self => PySem.W.bind_fn I1.kIn self i2) hus ?_)
  rw [hx, ← eh2]
  refine codeAny_mono (F1.run _ X.stack _ _ ⟨Value.ref x :: us, []⟩ (Value.ref x :: (us ++ [])) _ _ (fun _ _ _ => False) (hr.make C us []) (I2.env0.make C us []) bd rv body) fun r s' back => ?_
  cases r with
  | error er => exact pass0 pins σ _ _ er s' I2 back
  | ok fl =>
    cases fl with
    | ret u =>
      obtain ⟨v, H2, os2, bare2, un2, hok2, rz, ev, d, fs, ea, ed, hd1, q2⟩ := back
      subst ev
      obtain ⟨h3, g3, d3, t3, os3⟩ := s'
      exact ⟨rz, mk_end (raises_own T.be T.ty) I1 up1 old un2 hok2 os2 bare2 ea ed hd1 q2⟩
    | next => exact False.elim back
    | brk => exact False.elim back
    | cont => exact False.elim back
end
theorem init_lk {P : Program} {w : World} {K : PySem.W.Frag} {mg : Str → Option Value} {base : Heap} {qual : Str} {st : Stmt} {f C : Addr} {fd : FuncData} {p0 p1 fl : Str} (F : Fun K "__init__" qual st f fd) (S : FnScope [p0, p1] [p0, p1] (defScope st)) (T : OexL K C) (hno : PySem.W.findIn K (.ref C) fl = some none)
    (hp : ∀ (cdv : Value) (A : Around) (outer : List Env) (s : Shared) (H : Hp) (E : XK), PSs (cxOf CX0 P w K mg base [p0, p1] qual (defScope st) f cdv A outer s H E).nox (defBody st) (fun D σ H => tPutL K fl (tVar 0) (tVar 1) D σ H)) : FnOk P w K mg base CX0 1 f fd [p0, p1] (spInit C fl) := by
  refine F.ok S (fun vs H Q E ⟨a, y, e, _⟩ => by rw [e]; rfl) fun cdv A outer s H vs Q E _ ⟨a, y, e, ha, q⟩ => ⟨_, hp cdv A outer s H E, ?_⟩
  subst e
  exact ⟨y, rfl, .ref a, rfl, a, C, rfl, T, hno, ha, fun dx h1 h2 => q dx h1 h2⟩
structure Er1L (P : Program) (w : World) (K : PySem.W.Frag) (mg : Str → Option Value) (base : Heap) (c fl : Str) (C : Addr) : Prop where
  nm : mg c = some (.ref C)
  T : OexL K C
  ini : ∃ fI fd ps, PySem.W.findIn K (.ref C) "__init__" = some (some (.ref fI)) ∧ PySem.W.typeIn K (.ref fI) = some (.type "function") ∧ FnOk P w K mg base CX0 1 fI fd ps (spInit C fl) ∧ Binds K fd ps []
section
variable {m : Type → Type} [Mo m] [MoX m] {A : Type} {X : Cx} {EX : XR} {g : List Sl} {fall : Bool}
theorem raise1L {c fl : Str} {C : Addr} {e : Expr} {p pos pos2 : Pos} {y : m D} (R : Er1L X.prog X.w X.K X.mg X.base c fl C) (hr : Room 2 X.A) (hc : X.calm = true) (tk : Takes X EX.w) (sb : Sub g EX.g) (he : EJ X EX e g y) (hg : Gl X c) (hd : (c == ("__debug__" : Str)) = false) (hs : starEach [e] X.env = (false, eval e X.env) :: starEach [] X.env) (hpl : (backTo pos (starEach [] X.env)).any (·.1) = false)
    {σ : L2.St} {H : Hp} {De : Ends} {α : Type} (h : ∃ B G n φ ξ, Ok X.K B g σ H G n ∧ Mo.sat (y >>= fun d => (MoX.throw ⟨c, [(fl, d)]⟩ : m α)) n φ ξ ∧ Xw X B EX ξ) : ∃ t, PS X (.Raise (some (.Call (.Name c p) [e] [] pos)) none pos2) t ∧ t De σ H := by
  obtain ⟨fI, fd, ps, i1, i2, i3, i4⟩ := R.ini
  refine ⟨_, ps_raise hc tk (pmk_lk R.T i1 i2 i3 hr i4 hg R.nm (pa_cons he pa_nil hs) hd hs hpl), ?_⟩
  obtain ⟨B, G, n, φ, ξ, o, s, xw⟩ := h
  refine te_one o s (fun v H1 G1 d n1 o1 g1 d1 s1 => ⟨by simp, fun a ha => ⟨a, v, rfl, upd_same, fun dx hdx hne => ⟨rfl, dx, [(fl, v)], upd_same, ?_, ?_, ?_⟩⟩⟩) xw
  · rw [upd_ne hne, upd_same]
  · rw [upd_ne hne] at hdx; exact hdx
  · have hd1 : H1 dx = none := by rw [upd_ne hne] at hdx; exact hdx
    have eH : (upd (del (upd (upd (upd H1 a (exo a C none)) dx (exd dx [(fl, v)])) a (exo a C (some dx))) a) dx (.xd [(fl, v)])) = upd H1 dx (.xd [(fl, v)]) := by
      funext b
      by_cases hb : b = dx
      · rw [hb, upd_same, upd_same]
      · rw [upd_ne hb, upd_ne hb]
        by_cases hba : b = a
        · rw [hba, del_same, ha]
        · rw [del_ne hba, upd_ne hba, upd_ne hb, upd_ne hba]
    show EX.w (.ref C) (some dx) σ _
    rw [eH]
    obtain ⟨o2, g2⟩ := o1.alloc (u := .xd [(fl, v)]) hd1
    exact xw ⟨c, [(fl, d)]⟩ n1 σ _ _ (.ref C) (some dx) (MoX.sat_throw s1) (o2.forget sb) ⟨C, R.nm, rfl, .inr ⟨dx, _, rfl, upd_same, rfl, .cons (d1.mono g2) .nil⟩⟩
theorem fj_raise1L {c fl : Str} {C : Addr} {e : Expr} {p pos pos2 : Pos} {rest : List Stmt} {y : m D} (R : Er1L X.prog X.w X.K X.mg X.base c fl C) (hr : Room 2 X.A) (hc : X.calm = true) (tk : Takes X EX.w) (sb : Sub g EX.g) (he : EJ X EX e g y) (hg : Gl X c := by rfl) (hd : (c == ("__debug__" : Str)) = false := by decide) (hs : starEach [e] X.env = (false, eval e X.env) :: starEach [] X.env := by rfl) (hpl : (backTo pos (starEach [] X.env)).any (·.1) = false := by rfl) :
    FJ X EX fall (.Raise (some (.Call (.Name c p) [e] [] pos)) none pos2 :: rest) g (y >>= fun d => MoX.throw ⟨c, [(fl, d)]⟩) :=
  ⟨fun pins s σ H De I ⟨B, G, n, φ, ξ, o, st, q1, q2, xw⟩ => by
    obtain ⟨t, h1, h2⟩ := raise1L (α := D) (De := { De with nx := fun _ _ => False }) R hr hc tk sb he hg hd hs hpl ⟨B, G, n, φ, ξ, o, st, xw⟩
    exact (pss_cons h1 (u := tNever) ⟨fun _ _ _ _ _ _ h => h.elim⟩).run pins s σ H De I h2⟩
end
/-- the class, asked of the written part -/
def oexL0 (K : PySem.W.Frag) (C : Addr) : Bool := match K.lookup C with
  | some ⟨.type "type", _, .cls cd, sl⟩ => (match cd.mro, sl.toList with
    | .ref C' :: bm, [_, _, _, _, some (.builtin n), _] => C' == C && n == "LookupError.__new__" && cd.hasDict && !cd.hasDel && PySem.W.excTail lkTail bm
    | _, _ => false)
  | _ => false
theorem oexL0_ok {K : PySem.W.Frag} {C : Addr} (h : oexL0 K C = true) : ∃ nm q N bs bm sn sub ab col dd k0 k1 k2 k3 k5, K.lookup C = some (excClassObj nm q C N bs bm true sn sub ab col dd k0 k1 k2 k3 k5 "LookupError.__new__") ∧ PySem.W.excTail lkTail bm = true := by
  unfold oexL0 at h
  split at h
  · rename_i dd cd sl hl
    split at h
    · rename_i C' bm k0 k1 k2 k3 n k5 hm hs
      simp only [Bool.and_eq_true, beq_iff_eq, Bool.not_eq_true'] at h
      obtain ⟨⟨⟨⟨h1, h2⟩, h3⟩, h4⟩, h5⟩ := h
      subst h1 h2
      obtain ⟨nm, bs, mro, ns, qn, hd, sn, sb, ab, col, del⟩ := cd
      dsimp only at hm h3 h4
      subst hm h3 h4
      have hs' : sl = #[k0, k1, k2, k3, some (.builtin "LookupError.__new__"), k5] := by
        apply Array.toList_inj.mp
        rw [hs]
      subst hs'
      exact ⟨_, _, _, _, _, _, _, _, _, _, _, _, _, _, _, hl, h5⟩
    · cases h
  · cases h
theorem oexL_mk {K : PySem.W.Frag} {C : Addr} (h : oexL0 K C = true) (h1 : PySem.W.findIn K (.ref C) "__setattr__" = some (some (.builtin "object.__setattr__"))) (h2 : PySem.W.subIn K (.ref C) (.type "BaseException") = some true) (h3 : PySem.W.typeIn K (.ref C) = some (.type "type")) (h4 : PySem.W.keepIn K (.ref C) = true) : OexL K C := ⟨oexL0_ok h, h1, h2, h3, h4⟩
theorem er1L_mk {P : Program} {w : World} {K : PySem.W.Frag} {mg : Str → Option Value} {base : Heap} {c fl : Str} {C fI : Addr} {fd : FuncData} {ps : List Str} (nm : mg c = some (.ref C)) (T : OexL K C) (i1 : PySem.W.findIn K (.ref C) "__init__" = some (some (.ref fI))) (i2 : PySem.W.typeIn K (.ref fI) = some (.type "function")) (i3 : FnOk P w K mg base CX0 1 fI fd ps (spInit C fl)) (i4 : Binds K fd ps []) : Er1L P w K mg base c fl C := ⟨nm, T, fI, fd, ps, i1, i2, i3, i4⟩
end DD
namespace DD
open PySem PySem.Spec PyProof.Rows L2
/-! ### mirrors over worlds: wishes about a value and the world behind it -/
def Z (α : Type) : Type := Wd → (α → Wd → Prop) → Prop
instance : Mo Z where
  pure := fun a n φ => φ a n
  bind := fun x f n φ => x n (fun a n' => f a n' φ)
  sat := fun z n φ _ => z n φ
  lift := fun o n φ => ∃ a, o = some a ∧ φ a n
  sat_pure := fun h => h
  sat_bind := fun h => h
  sat_lift := fun ⟨a, e, h⟩ => ⟨a, e, h⟩
instance : Calm Z := ⟨fun h => h⟩
theorem zl_some {α : Type} (a : α) : (Mo.lift (some a) : Z α) = Pure.pure a := by
  funext n φ
  exact propext ⟨fun ⟨b, e, h⟩ => by cases e; exact h, fun h => ⟨a, rfl, h⟩⟩
instance : MoL Z := ⟨fun _ _ => rfl, fun _ _ _ => rfl, zl_some⟩
/-! ### the things that may change, hidden -/
def hid (G : Hp) : Hp := fun a => match G a with
  | some u => if isMk u = true then none else some u
  | none => none
theorem hid_some {G : Hp} {a : Addr} {u : HO} (h : hid G a = some u) : G a = some u ∧ isMk u = false := by
  unfold hid at h
  split at h
  · rename_i w e
    split at h
    · cases h
    · rename_i hm
      cases h
      exact ⟨e, by simpa using hm⟩
  · cases h
theorem hid_of {G : Hp} {a : Addr} {u : HO} (h : G a = some u) (m : isMk u = false) : hid G a = some u := by
  unfold hid
  rw [h]
  dsimp only
  rw [m, if_neg Bool.false_ne_true]
theorem hid_none {G : Hp} {a : Addr} (h : G a = none) : hid G a = none := by unfold hid; rw [h]
theorem hid_mk {G : Hp} {a : Addr} {u : HO} (h : G a = some u) (m : isMk u = true) : hid G a = none := by
  unfold hid
  rw [h]
  dsimp only
  rw [m, if_pos rfl]
theorem hid_sub {G H : Hp} (s : SubM G H) : SubM (hid G) H := ⟨fun a o e _ => s.h a o (hid_some e).1 (hid_some e).2, fun a e => hid_none (s.t a e)⟩
theorem same_hid {G G' : Hp} (s : Same G G') : Same (DD.hid G) (DD.hid G') := fun a o e => hid_of (s _ _ (hid_some e).1) (hid_some e).2
/-! data that may be hidden: nothing in it changes (instances that do not change are among it) -/
mutual
def okH : D → Bool
  | .none => true
  | .bool _ => true
  | .int _ => true
  | .str _ => true
  | .list ds => okHs ds
  | .tuple ds => okHs ds
  | .dict kvs => okHK kvs
def okHs : List D → Bool
  | [] => true
  | d :: ds => okH d && okHs ds
def okHK : List (D × D) → Bool
  | [] => true
  | (.none, _) :: _ => false
  | (.bool true, _) :: r => okHv r
  | (.bool false, _) :: _ => false
  | (.int _, _) :: _ => true
  | (.str _, _) :: _ => true
  | (.list _, _) :: _ => true
  | (.tuple _, _) :: _ => true
  | (.dict _, _) :: _ => true
def okHv : List (D × D) → Bool
  | [] => true
  | (_, v) :: r => okH v && okHv r
end
theorem okHv_map : ∀ fs : List (Str × D), okHv (fs.map fun p => (.str p.1, p.2)) = okHs (fs.map (·.2))
  | [] => by simp [okHv, okHs]
  | p :: r => by
    rw [List.map_cons, List.map_cons, okHv, okHs, okHv_map r]
theorem okH_ins (c : Str) (fs : List (Str × D)) : okH (insD c fs) = okHs (fs.map (·.2)) := by
  unfold insD
  rw [okH, okHK, okHv, okH, okHv_map]
  rfl
section
variable {K : PySem.W.Frag} {G : Hp}
theorem SqT.hid {a : Addr} {xs : List V} (h : SqT K G a xs) : SqT K (DD.hid G) a xs := by
  rcases h with (h | ⟨o, h⟩) | h
  · exact .inl (.inl (hid_of h rfl))
  · exact .inl (.inr ⟨o, hid_of h rfl⟩)
  · exact .inr h
mutual
theorem Da.hid : ∀ {d : D} {v : V}, Da K G v d → okH d = true → Da K (DD.hid G) v d
  | _, _, .non, _ => .non
  | _, _, .bl b, _ => .bl b
  | _, _, .int i, _ => .int i
  | _, _, .str x, _ => .str x
  | _, _, .lst h a, ok => .lst (hid_of h rfl) (DaAll.hid a (by rw [okH] at ok; exact ok))
  | _, _, .tup h a, ok => .tup (SqT.hid h) (DaAll.hid a (by rw [okH] at ok; exact ok))
  | _, _, .dct h a, _ => .dct (hid_of h rfl) a
  | _, _, .obj h, ok => by simp [okH, okHK] at ok
  | _, _, .cel h, ok => by simp [okH, okHK] at ok
  | _, _, .fin (c := c) (fs := fs) h k l a, ok => .fin (hid_of h rfl) k l (DaAll.hid a (by rw [← okH_ins c fs]; exact ok))
theorem DaAll.hid : ∀ {ds : List D} {vs : List V}, DaAll K G vs ds → okHs ds = true → DaAll K (DD.hid G) vs ds
  | _, _, .nil, _ => .nil
  | _, _, .cons a b, ok => by
    simp only [okHs, Bool.and_eq_true] at ok
    exact .cons (Da.hid a ok.1) (DaAll.hid b ok.2)
end
end
/-- slots without things that may change -/
def okSl : List Sl → Bool
  | [] => true
  | .val d :: r => okH d && okSl r
  | .own ds :: r => okHs ds && okSl r
  | .deck :: r => okSl r
  | .any :: r => okSl r
  | .exn _ _ _ :: _ => false
theorem okSl_get : ∀ {g : List Sl} {i : Nat} {s : Sl}, okSl g = true → g[i]? = some s → (∀ d, s = .val d → okH d = true) ∧ (∀ ds, s = .own ds → okHs ds = true) ∧ ∀ a od fs, s ≠ .exn a od fs
  | [], i, s, _, e => by simp at e
  | x :: g, 0, s, h, e => by
    simp at e
    subst e
    cases x with
    | val d => simp only [okSl, Bool.and_eq_true] at h; exact ⟨fun d' z => by cases z; exact h.1, fun ds z => (by cases z), fun _ _ _ z => by cases z⟩
    | own ds => simp only [okSl, Bool.and_eq_true] at h; exact ⟨fun d' z => (by cases z), fun ds z => by cases z; exact h.1, fun _ _ _ z => by cases z⟩
    | deck => exact ⟨fun d' z => (by cases z), fun ds z => (by cases z), fun _ _ _ z => by cases z⟩
    | any => exact ⟨fun d' z => (by cases z), fun ds z => (by cases z), fun _ _ _ z => by cases z⟩
    | exn a b c => cases h
  | x :: g, i + 1, s, h, e => by
    have h' : okSl g = true := by
      cases x with
      | val d => simp only [okSl, Bool.and_eq_true] at h; exact h.2
      | own ds => simp only [okSl, Bool.and_eq_true] at h; exact h.2
      | deck => exact h
      | any => exact h
      | exn a b c => cases h
    exact okSl_get h' (by simpa using e)
def hideZ {α : Type} (g : List Sl) (x : Option α) : Z α := fun n φ => okSl g = true ∧ ∃ a, x = some a ∧ φ a n
section
variable {K : PySem.W.Frag} {B : Bs} {g g' : List Sl} {σ : L2.St} {H G : Hp} {n : Wd}
theorem nomk {n : Nat} (o : Obs K H G ⟨n, []⟩) {a : Addr} {u : HO} (e : G a = some u) : isMk u = false := by
  cases hm : mkOf u with
  | none => unfold isMk; rw [hm]; rfl
  | some k =>
    obtain ⟨c, e2, _⟩ := o.at_ a u k e hm
    cases e2
theorem obs_no {n : Nat} (h : ∀ a u, G a = some u → isMk u = false) : Obs K H G ⟨n, []⟩ :=
  ⟨(fun a u k e hm => by have := h a u e; unfold isMk at this; rw [hm] at this; cases this), (fun a b u w k e _ hm => by have := h a u e; unfold isMk at this; rw [hm] at this; cases this), fun k c e => by cases e⟩
theorem hid_nomk {a : Addr} {u : HO} (e : hid G a = some u) : isMk u = false := (hid_some e).2
theorem Fm.alive (f : Fm K B H G n) {a : Addr} (h : B.H a ≠ none) : H a ≠ none := by
  by_cases hp : B.fp a
  · exact f.fpThere hp
  · cases hb : B.H a with
    | none => exact absurd hb h
    | some z => rw [f.keep a z hb hp]; simp
/-- the base of a hidden run: what stood at the def's entry, as it is now -/
noncomputable def Bs.now (B : Bs) (H G : Hp) : Bs := ⟨fun a => open Classical in if B.H a = none then none else H a, hid B.G, B.dk, hid B.tG⟩
theorem now_none {a : Addr} (h : B.H a = none) : (B.now H G).H a = none := by show (open Classical in if B.H a = none then none else H a) = none; rw [if_pos h]
theorem now_some {a : Addr} (h : B.H a ≠ none) : (B.now H G).H a = H a := by show (open Classical in if B.H a = none then none else H a) = H a; rw [if_neg h]
theorem now_in {a : Addr} (h : (B.now H G).H a ≠ none) : B.H a ≠ none := fun e => h (now_none e)
theorem Ok.hide (o : Ok K B g σ H G n) (sb : Sub g g') (hs : okSl g' = true) : Ok K (B.now H G) g' σ H (hid G) ⟨n.n, []⟩ := by
  have o' := o.forget sb
  refine ⟨⟨fun a u e _ => ?_, hid_sub o.fm.sub, same_hid o.fm.old, obs_no fun a u e => hid_nomk e, fun a e => ?_, same_hid o.fm.tg, fun a e q => ?_, fun a b e => ?_⟩, o'.len, fun i d e => ?_, ?_, o'.dck, fun i a od fs e => ?_⟩
  · by_cases h : B.H a = none
    · rw [now_none h] at e; cases e
    · rw [now_some h] at e; exact e
  · by_cases h : B.H a = none
    · exact hid_none (o.fm.bt a h)
    · rw [now_some h] at e
      exact absurd e (o.fm.alive h)
  · have h := now_in e
    cases eb : B.G a with
    | none => exact hid_none (o.fm.new a h eb)
    | some u =>
      cases m : isMk u with
      | false =>
        have : hid B.G a = none := q
        rw [hid_of eb m] at this
        cases this
      | true => exact hid_mk (o.fm.old _ _ eb) m
  · obtain ⟨d1, h1, h2, h3, h4⟩ := o.fm.deck a b e
    exact ⟨d1, by rw [now_some h1]; exact o.fm.alive h1, by rw [now_some h2]; exact o.fm.alive h2, hid_none h3, hid_none h4⟩
  · obtain ⟨v, h1, h2⟩ := o'.val i d e
    exact ⟨v, h1, h2.hid ((okSl_get hs e).1 d rfl)⟩
  · obtain ⟨f, h1, h2⟩ := o'.own
    refine ⟨f, h1, fun i ds e => ?_⟩
    obtain ⟨q1, q2, q3, xs, q4, q5⟩ := h2 i ds e
    exact ⟨q1, hid_none q2, now_none q3, xs, q4, q5.hid ((okSl_get hs e).2.1 ds rfl)⟩
  · exact absurd rfl ((okSl_get hs e).2.2 a od fs)
/-- the data that came, beside the marks -/
def mrk (G Gc : Hp) : Hp := fun a => match G a with
  | some u => some u
  | none => Gc a
theorem mrk_l {G Gc : Hp} {a : Addr} {u : HO} (h : G a = some u) : mrk G Gc a = some u := by unfold mrk; rw [h]
theorem mrk_r {G Gc : Hp} {a : Addr} (h : G a = none) : mrk G Gc a = Gc a := by unfold mrk; rw [h]
theorem Ok.unhide (o : Ok K B g σ H G n) {G1 H' G' Gc : Hp} {n' : Wd} (f : Fm K ⟨H, G1, B.dk, G1⟩ H' G' n') (g1 : ∀ a u, G1 a = some u → isMk u = false) (c1 : Same (hid G) Gc) (c2 : ∀ a, hid G a = none → H a ≠ none → Gc a = none) (c3 : SubM Gc H') (c4 : ∀ a u, Gc a = some u → isMk u = false) :
    Ok K B g σ H' (mrk G Gc) ⟨n'.n, n.ob⟩ ∧ Same G (mrk G Gc) ∧ Same Gc (mrk G Gc) := by
  have sG : Same G (mrk G Gc) := fun a u e => mrk_l e
  have sC : Same Gc (mrk G Gc) := fun a u e => by
    cases eg : G a with
    | none => rw [mrk_r eg]; exact e
    | some w =>
      rw [mrk_l eg]
      cases m : isMk w with
      | false => have := c1 a w (hid_of eg m); rw [this] at e; exact e
      | true =>
        have hH : H a ≠ none := o.fm.there eg
        rw [c2 a (hid_mk eg m) hH] at e
        cases e
  have fp : ∀ a, (⟨H, G1, B.dk, G1⟩ : Bs).fp a → ∃ x y, B.dk = some (x, y) ∧ (a = x ∨ a = y) := fun a h => by
    rcases h with h | ⟨u, e, m⟩
    · exact h
    · have := g1 a u e
      rw [m] at this; cases this
  have kp : ∀ a u, B.H a = none ∨ (∃ w, G a = some w) → H a = some u → H' a = some u := fun a u hb e => f.keep a u e fun h => by
    obtain ⟨x, y, ed, hxy⟩ := fp a h
    obtain ⟨_, h1, h2, h3, h4⟩ := o.fm.deck x y ed
    rcases hb with hb | ⟨w, hb⟩
    · rcases hxy with rfl | rfl
      · exact h1 hb
      · exact h2 hb
    · rcases hxy with rfl | rfl
      · rw [o.fm.new a h1 h3] at hb; cases hb
      · rw [o.fm.new a h2 h4] at hb; cases hb
  have alive : ∀ a, H a ≠ none → H' a ≠ none := fun a h => f.alive h
  refine ⟨⟨⟨fun a u e q => ?_, ⟨fun a u e m => ?_, fun a e => ?_⟩, o.fm.old.trans sG, ⟨fun a u k e m => ?_, fun a b u w k e e2 m m2 => ?_, fun k c e => ?_⟩, o.fm.bt, o.fm.tg.trans sG, fun a e q => ?_, fun a b e => ?_⟩, o.len, fun i d e => ?_, ?_, o.dck, fun i a od fs e => ⟨(o.adr i a od fs e).1, (o.adr i a od fs e).2.mono sG⟩⟩, sG, sC⟩
  · refine f.keep a u (o.fm.keep a u e q) fun h => q ?_
    obtain ⟨x, y, ed, hxy⟩ := fp a h
    exact .inl ⟨x, y, ed, hxy⟩
  · cases eg : G a with
    | none => rw [mrk_r eg] at e; exact c3.h a u e m
    | some w =>
      rw [mrk_l eg] at e
      cases e
      exact c3.h a u (c1 a u (hid_of eg m)) m
  · cases eg : G a with
    | none => rw [mrk_r eg]; exact c3.t a e
    | some w => exact absurd e (alive a (o.fm.there eg))
  · cases eg : G a with
    | none =>
      rw [mrk_r eg] at e
      have := c4 a u e
      unfold isMk at this
      rw [m] at this; cases this
    | some w =>
      rw [mrk_l eg] at e
      cases e
      obtain ⟨c, h1, h2⟩ := o.fm.obs.at_ a u k eg m
      exact ⟨c, h1, h2.mono sG fun x hx => kp a x (.inr ⟨u, eg⟩) hx⟩
  · have lft : ∀ z v j, mrk G Gc z = some v → mkOf v = some j → G z = some v := fun z v j ez mz => by
      cases eg : G z with
      | none =>
        rw [mrk_r eg] at ez
        have := c4 z v ez
        unfold isMk at this
        rw [mz] at this; cases this
      | some w => rw [mrk_l eg] at ez; exact ez
    exact o.fm.obs.inj a b u w k (lft _ _ _ e m) (lft _ _ _ e2 m2) m m2
  · obtain ⟨a, h⟩ := o.fm.obs.all k c e
    obtain ⟨u, hu, _⟩ := h.mark
    exact ⟨a, h.mono sG fun x hx => kp a x (.inr ⟨u, hu⟩) hx⟩
  · have ga := o.fm.new a e q
    rw [mrk_r ga]
    exact c2 a (hid_none ga) (o.fm.alive e)
  · obtain ⟨_, h1, h2, h3, h4⟩ := o.fm.deck a b e
    exact ⟨(f.deck a b e).1, h1, h2, h3, h4⟩
  · obtain ⟨v, h1, h2⟩ := o.val i d e
    exact ⟨v, h1, h2.mono sG⟩
  · obtain ⟨fn, h1, h2⟩ := o.own
    refine ⟨fn, h1, fun i ds e => ?_⟩
    obtain ⟨q1, q2, q3, xs, q4, q5⟩ := h2 i ds e
    exact ⟨q1, by rw [mrk_r q2]; exact c2 _ (hid_none q2) (by rw [q4]; simp), q3, xs, kp _ _ (.inl q3) q4, q5.mono sG⟩
end
end DD
namespace DD
open PySem PySem.Spec PyProof.Rows L2
/-! ### what sees no thing that may change, within a mirror over worlds -/
def noOwns (g : List Sl) : Bool := g.all fun s => match s with
  | .own _ => false
  | _ => true
section
variable {K : PySem.W.Frag} {B : Bs} {g g' : List Sl} {σ : L2.St} {H G : Hp} {n : Wd}
/-- without lists of one's own the base is the present heap -/
theorem Ok.hide0 (o : Ok K B g σ H G n) (sb : Sub g g') (hs : okSl g' = true) (ho : noOwns g' = true) : Ok K ⟨H, hid G, B.dk, hid G⟩ g' σ H (hid G) ⟨n.n, []⟩ := by
  have oh := o.hide sb hs
  refine ⟨⟨fun a u e _ => e, oh.fm.sub, Same.refl _, oh.fm.obs, oh.fm.sub.t, Same.refl _, fun a _ q => q, fun a b e => ?_⟩, oh.len, oh.val, ⟨fun _ => 0, fun i j ds es e => ?_, fun i ds e => ?_⟩, oh.dck, oh.adr⟩
  · obtain ⟨d1, h1, h2, h3, h4⟩ := oh.fm.deck a b e
    exact ⟨d1, oh.fm.alive h1, oh.fm.alive h2, oh.fm.new a h1 h3, oh.fm.new b h2 h4⟩
  · have := List.all_eq_true.mp ho _ (List.mem_of_getElem? e)
    cases this
  · have := List.all_eq_true.mp ho _ (List.mem_of_getElem? e)
    cases this
end
/-! .. lists of one's own lent -/
end DD
namespace DD
open PySem PySem.Spec PyProof.Rows L2
/-! ### lists that may change: cells of the world -/
def celOf : D → Option Nat
  | .dict [(.bool false, .int i)] => if bigI ≤ i then some (i - bigI).toNat else none
  | _ => none
theorem cel_ref (k : Nat) : celOf (refL k) = some k := by
  show (if bigI ≤ bigI + (k : Int) then some (bigI + (k : Int) - bigI).toNat else none) = _
  rw [if_pos (by omega)]
  congr 1
  omega
def cellZ (k : Nat) : Z (List D) := fun n φ => ∃ ds, n.ob[k]? = some (.lst ds) ∧ φ ds n
def putZ (k : Nat) (ds : List D) : Z Unit := fun n φ => φ () ⟨n.n, n.ob.set k (.lst ds)⟩
def newZ (ds : List D) : Z D := fun n φ => φ (refL n.ob.length) ⟨n.n, n.ob ++ [.lst ds]⟩
section
variable {K : PySem.W.Frag} {B : Bs} {g : List Sl} {σ : L2.St} {H G : Hp} {n : Wd}
theorem Da.cell {v : V} {d : D} {k : Nat} (h : Da K G v d) (e : celOf d = some k) : ∃ a, v = .ref a ∧ G a = some (.met k k) := by
  cases h with
  | cel h =>
    rename_i a j
    have : celOf (refL j) = some k := e
    rw [cel_ref] at this
    cases this
    exact ⟨_, rfl, h⟩
  | @dct a kvs h _ =>
    unfold celOf at e
    split at e
    · rename_i z
      cases kvs with
      | nil => cases z
      | cons p r =>
        rw [List.map_cons] at z
        injection z with z
        injection z with z z2
        obtain ⟨key, w⟩ := p
        have z3 := congrArg Prod.fst z
        cases key <;> cases z3
    · cases e
  | obj h =>
    cases e
  | _ => cases e
theorem Obs.cell {a : Addr} {k : Nat} (o : Obs K H G n) (e : G a = some (.met k k)) : ∃ ds xs, n.ob[k]? = some (.lst ds) ∧ H a = some (.lst xs) ∧ DaAll K G xs ds := by
  obtain ⟨c, h1, h2⟩ := o.at_ a _ k e rfl
  cases c with
  | ins cl fs =>
    obtain ⟨q, _⟩ := h2
    rw [e] at q
    cases q
  | lst ds =>
    obtain ⟨_, xs, h3, h4⟩ := h2
    exact ⟨ds, xs, h1, h3, h4⟩
theorem Ok.cellAt (o : Ok K B g σ H G n) {v : V} {d : D} {k : Nat} (h : Da K G v d) (e : celOf d = some k) : ∃ a ds xs, v = .ref a ∧ G a = some (.met k k) ∧ n.ob[k]? = some (.lst ds) ∧ H a = some (.lst xs) ∧ DaAll K G xs ds := by
  obtain ⟨a, rfl, ha⟩ := h.cell e
  obtain ⟨ds, xs, h1, h2, h3⟩ := o.fm.obs.cell ha
  exact ⟨a, ds, xs, rfl, ha, h1, h2, h3⟩
/-- a cell is given new items -/
theorem Ok.putC (o : Ok K B g σ H G n) {a : Addr} {k : Nat} {xs : List V} {ds : List D} (ha : G a = some (.met k k)) (hd : DaAll K G xs ds) : Ok K B g σ (upd H a (.lst xs)) G ⟨n.n, n.ob.set k (.lst ds)⟩ := by
  obtain ⟨ds0, xs0, hk, hH, _⟩ := o.fm.obs.cell ha
  have klt : k < n.ob.length := (List.getElem?_eq_some_iff.mp hk).1
  have ne : ∀ b, G b = none → b ≠ a := fun b h e => by rw [e, ha] at h; cases h
  refine ⟨⟨fun b u e q => ?_, ⟨fun b u e m => ?_, fun b e => ?_⟩, o.fm.old, ⟨fun b u j e m => ?_, o.fm.obs.inj, fun j c e => ?_⟩, o.fm.bt, o.fm.tg, o.fm.new, fun x y e => ?_⟩, o.len, o.val, ?_, o.dck, o.adr⟩
  · have : b ≠ a := by
      rintro rfl
      cases eb : B.G b with
      | none => rw [o.fm.new b (by rw [e]; simp) eb] at ha; cases ha
      | some w =>
        have := o.fm.old b w eb
        rw [ha] at this
        cases this
        exact q (.inr ⟨_, eb, rfl⟩)
    rw [upd_ne this]
    exact o.fm.keep b u e q
  · have : b ≠ a := by
      rintro rfl
      rw [ha] at e
      cases e
      cases m
    rw [upd_ne this]
    exact o.fm.sub.h b u e m
  · by_cases hb : b = a
    · rw [hb, upd_same] at e; cases e
    · rw [upd_ne hb] at e; exact o.fm.sub.t b e
  · by_cases hb : b = a
    · subst hb
      rw [ha] at e
      cases e
      have hj : k = j := by simpa [mkOf] using m
      subst hj
      refine ⟨.lst ds, ?_, ha, xs, upd_same, hd⟩
      show (n.ob.set k (.lst ds))[k]? = _
      rw [List.getElem?_set_self klt]
    · have hj : k ≠ j := fun z => hb (o.fm.obs.inj b a u _ k e ha (z ▸ m) rfl)
      obtain ⟨c, h1, h2⟩ := o.fm.obs.at_ b u j e m
      refine ⟨c, ?_, h2.mono (Same.refl _) ?_⟩
      · show (n.ob.set k (.lst ds))[j]? = _
        rw [List.getElem?_set_ne hj]; exact h1
      · intro x hx
        rw [upd_ne hb]; exact hx
  · by_cases hj : k = j
    · subst hj
      have e' : (n.ob.set k (.lst ds))[k]? = some c := e
      rw [List.getElem?_set_self klt] at e'
      cases e'
      exact ⟨a, ha, xs, upd_same, hd⟩
    · have e' : (n.ob.set k (.lst ds))[j]? = some c := e
      rw [List.getElem?_set_ne hj] at e'
      obtain ⟨b, hb⟩ := o.fm.obs.all j c e'
      obtain ⟨u, hu, hm⟩ := hb.mark
      have hba : b ≠ a := by
        rintro rfl
        rw [ha] at hu
        cases hu
        exact hj (by simpa [mkOf] using hm)
      refine ⟨b, hb.mono (Same.refl _) ?_⟩
      intro x hx
      rw [upd_ne hba]; exact hx
  · obtain ⟨⟨cs, c, e1, e2, r⟩, h1, h2, h3, h4⟩ := o.fm.deck x y e
    exact ⟨⟨cs, c, by rw [upd_ne (ne x (o.fm.new x h1 h3))]; exact e1, by rw [upd_ne (ne y (o.fm.new y h2 h4))]; exact e2, r⟩, h1, h2, h3, h4⟩
  · obtain ⟨f, h1, h2⟩ := o.own
    refine ⟨f, h1, fun i es e => ?_⟩
    obtain ⟨q1, q2, q3, ys, q4, q5⟩ := h2 i es e
    exact ⟨q1, q2, q3, ys, by rw [upd_ne (ne _ q2)]; exact q4, q5⟩
/-- a new list becomes a cell -/
theorem Ok.cellN (o : Ok K B g σ H G n) {p : Addr} {xs : List V} {ds : List D} (hb : B.H p = none) (hg : G p = none) (hh : H p = some (.lst xs)) (hf : ∀ (i : Nat) (es : List D) (f : Addr), g[i]? = some (Sl.own es) → σ[i]? = some (some (V.ref f)) → f ≠ p) (da : DaAll K G xs ds) :
    Ok K B g σ H (upd G p (.met n.ob.length n.ob.length)) ⟨n.n, n.ob ++ [.lst ds]⟩ ∧ Same G (upd G p (.met n.ob.length n.ob.length)) := by
  have sg : Same G (upd G p (.met n.ob.length n.ob.length)) := same_upd hg
  have old : ∀ b u, b ≠ p → upd G p (.met n.ob.length n.ob.length) b = some u → G b = some u := fun b u h e => by rw [upd_ne h] at e; exact e
  have low : ∀ b u j, b ≠ p → upd G p (.met n.ob.length n.ob.length) b = some u → mkOf u = some j → j < n.ob.length := fun b u j h e m => by
    obtain ⟨c, h1, _⟩ := o.fm.obs.at_ b u j (old b u h e) m
    exact (List.getElem?_eq_some_iff.mp h1).1
  refine ⟨⟨⟨o.fm.keep, ⟨fun a z e m => ?_, fun a e => ?_⟩, o.fm.old.trans sg, ⟨fun b u j e m => ?_, fun b c u w j e1 e2 m1 m2 => ?_, fun j c e => ?_⟩, o.fm.bt, o.fm.tg.trans sg, fun a e q => ?_, o.fm.deck⟩, o.len, fun i d e => ?_, ?_, o.dck, fun i a od fs e => ⟨(o.adr i a od fs e).1, (o.adr i a od fs e).2.mono sg⟩⟩, sg⟩
  · by_cases ha : a = p
    · rw [ha, upd_same] at e; cases e; cases m
    · exact o.fm.sub.h a z (old a z ha e) m
  · have : a ≠ p := by rintro rfl; rw [hh] at e; cases e
    rw [upd_ne this]; exact o.fm.sub.t a e
  · by_cases hbp : b = p
    · subst hbp
      rw [upd_same] at e
      cases e
      have hj : n.ob.length = j := by simpa [mkOf] using m
      subst hj
      exact ⟨.lst ds, by simp, upd_same, xs, hh, da.mono sg⟩
    · obtain ⟨c, h1, h2⟩ := o.fm.obs.at_ b u j (old b u hbp e) m
      have hl := (List.getElem?_eq_some_iff.mp h1).1
      exact ⟨c, by show (n.ob ++ [Cell.lst ds])[j]? = _; rw [List.getElem?_append_left hl]; exact h1, h2.mono sg fun _ z => z⟩
  · by_cases hbp : b = p <;> by_cases hcp : c = p
    · rw [hbp, hcp]
    · subst hbp
      rw [upd_same] at e1
      cases e1
      have hj : n.ob.length = j := by simpa [mkOf] using m1
      have := low c w j hcp e2 m2
      omega
    · subst hcp
      rw [upd_same] at e2
      cases e2
      have hj : n.ob.length = j := by simpa [mkOf] using m2
      have := low b u j hbp e1 m1
      omega
    · exact o.fm.obs.inj b c u w j (old b u hbp e1) (old c w hcp e2) m1 m2
  · have e' : (n.ob ++ [Cell.lst ds])[j]? = some c := e
    by_cases hl : j < n.ob.length
    · rw [List.getElem?_append_left hl] at e'
      obtain ⟨b, h⟩ := o.fm.obs.all j c e'
      exact ⟨b, h.mono sg fun _ z => z⟩
    · have hl' : n.ob.length ≤ j := Nat.le_of_not_lt hl
      rw [List.getElem?_append_right hl'] at e'
      have hj : j = n.ob.length := by
        have h3 : j - n.ob.length < 1 := (List.getElem?_eq_some_iff.mp e').1
        exact Nat.le_antisymm (Nat.le_of_sub_eq_zero (Nat.lt_one_iff.mp h3)) hl'
      subst hj
      rw [Nat.sub_self] at e'
      cases e'
      exact ⟨p, upd_same, xs, hh, da.mono sg⟩
  · have : a ≠ p := by rintro rfl; exact e hb
    rw [upd_ne this]; exact o.fm.new a e q
  · obtain ⟨v, h1, h2⟩ := o.val i d e
    exact ⟨v, h1, h2.mono sg⟩
  · obtain ⟨f, h1, h2⟩ := o.own
    refine ⟨f, h1, fun i es e => ?_⟩
    obtain ⟨a, b, c, ys, d, da'⟩ := h2 i es e
    exact ⟨a, by rw [upd_ne (hf i es _ e a)]; exact b, c, ys, d, da'.mono sg⟩
end
end DD
namespace DD
open PySem PySem.Spec PyProof.Rows L2
/-! ### rules for lists that may change -/
def ixZ (d j : D) : Z D := match celOf d with
  | some k => cellZ k >>= fun ds => Mo.lift (getD (.list ds) j)
  | none => Mo.lift (getD d j)
def lenZ (d : D) : Z D := match celOf d with
  | some k => cellZ k >>= fun ds => pure (.int ds.length)
  | none => Mo.lift (lenD d)
def listZ (d : D) : Z (List D) := match celOf d with
  | some k => cellZ k
  | none => Mo.lift (itemsD d)
def onlyZ (d : D) : Z Nat := Mo.lift (celOf d)
def appZ (d v : D) : Z Unit := onlyZ d >>= fun k => cellZ k >>= fun ds => Mo.lift (fits ds.length) >>= fun _ => putZ k (ds ++ [v])
def popZ (d : D) : Z D := onlyZ d >>= fun k => cellZ k >>= fun ds => Mo.lift (ds[ds.length - 1]?) >>= fun v => putZ k ds.dropLast >>= fun _ => pure v
section
variable {X : Cx} {EX : XR} {g : List Sl}
/-- a new list as a thing that may change -/
theorem ej_cel {e : Expr} {x : Z (List D)} (h : LJ X EX e g x) : EJ X EX e g (x >>= newZ) :=
  PE.weak h fun σ H Q ⟨B, G, n, φ, ξ, o, s, q, xw⟩ => ⟨B, G, n, _, ξ, o, Mo.sat_bind s, fun p xs H1 G1 ds n1 o1 g1 hb hg hh hf a1 s1 => by
    obtain ⟨o2, g2⟩ := o1.cellN hb hg hh hf a1
    exact q _ H1 _ _ _ o2 (g1.trans g2) (.cel upd_same) s1, xw⟩
theorem ej_ixZ {a b : Expr} {pos : Pos} {x y : Z D} (ha : EJ X EX a g x) (hb : EJ X EX b g y) (hs : PlainIx b) : EJ X EX (.Subscript a b pos) g (x >>= fun d => y >>= fun j => ixZ d j) :=
  (pe_ix ix_seq ha hb hs).weak fun σ H Q ⟨B, G, n, φ, ξ, o, s, q, xw⟩ => te_one o s (fun v H1 G1 d n1 o1 g1 d1 s1 => te_one o1 s1 (fun w H2 G2 j n2 o2 g2 d2 s2 => by
    have s2 : ixZ d j n2 φ := s2
    unfold ixZ at s2
    rcases ek : celOf d with _ | k
    rotate_left
    · rw [ek] at s2
      obtain ⟨a, ds, xs, ev, ga, hk, hH, da⟩ := o2.cellAt (d1.mono g2) ek
      obtain ⟨ds', e1, z, ez, pz⟩ := s2
      rw [hk] at e1
      cases e1
      unfold getD at ez
      split at ez
      · rename_i e2
        cases e2
        obtain ⟨v', h1, h2⟩ := da.atI ez
        exact .inl ⟨a, xs, _, v', ev, d2.toI, .of hH, h1, q v' H2 G2 z n2 o2 (g1.trans g2) h2 pz⟩
      · rename_i e2; cases e2
      · rename_i e2; cases e2
      · cases ez
    · rw [ek] at s2
      obtain ⟨z, ez, pz⟩ := s2
      exact rd_ix v w d j z H2 G2 Q (d1.mono g2) d2 o2.fm.sub ez fun u H3 G3 gr du => q u H3 G3 z n2 (o2.gr gr) ((g1.trans g2).trans gr.g) du pz) xw) xw
theorem ej_lenZ {p pos : Pos} {a : Expr} {x : Z D} (hm : X.mg "len" = none) (ha : EJ X EX a g x) (hg : Gl X "len" := by rfl) (hs : starEach [a] X.env = (false, eval a X.env) :: starEach [] X.env := by rfl) :
    EJ X EX (.Call (.Name "len" p) [a] [] pos) g (x >>= fun d => lenZ d) :=
  (pe_callB call_lenD' hg hm (by decide +kernel) (pa_cons ha pa_nil hs) (by decide) (by decide) hs rfl).weak fun σ H Q ⟨B, G, n, φ, ξ, o, s, q, xw⟩ => te_one o s (fun v H1 G1 d n1 o1 g1 d1 s1 => by
    have s1 : lenZ d n1 φ := s1
    unfold lenZ at s1
    rcases ek : celOf d with _ | k
    rotate_left
    · rw [ek] at s1
      obtain ⟨a, ds, xs, ev, ga, hk, hH, da⟩ := o1.cellAt d1 ek
      obtain ⟨ds', e1, pz⟩ := s1
      rw [hk] at e1
      cases e1
      refine .inl ⟨a, xs, by rw [ev], .inl (.of hH), ?_⟩
      rw [da.length]
      exact q _ H1 G1 _ n1 o1 g1 (.int _) pz
    · rw [ek] at s1
      obtain ⟨z, ez, pz⟩ := s1
      exact rc_len v d z H1 G1 Q d1 o1.fm.sub ez fun u H3 G3 gr du => q u H3 G3 z n1 (o1.gr gr) (g1.trans gr.g) du pz) xw
/-- list(e): a new list -/
theorem lj_listZ {e : Expr} {p pos : Pos} {x : Z D} (hm : X.mg "list" = none) (h : EJ X EX e g x) (hg : Gl X "list" := by rfl) (hs : starEach [e] X.env = (false, eval e X.env) :: starEach [] X.env := by rfl) : LJ X EX (.Call (.Name "list" p) [e] [] pos) g (x >>= fun d => listZ d) :=
  (pe_callTy call_list_of hg hm boot_list (pa_cons h pa_nil hs) (by decide) (by decide) hs rfl).weak fun σ H Q ⟨B, G, n, φ, ξ, o, s, q, xw⟩ => te_one o s (fun v H1 G1 d n1 o1 g1 d1 s1 => by
    have s1 : listZ d n1 φ := s1
    unfold listZ at s1
    rcases ek : celOf d with _ | k
    rotate_left
    · rw [ek] at s1
      obtain ⟨a, ds, xs, ev, ga, hk, hH, da⟩ := o1.cellAt d1 ek
      obtain ⟨ds', e1, pz⟩ := s1
      rw [hk] at e1
      cases e1
      refine ⟨a, xs, by rw [ev], .inl (.of hH), fun l hl => ?_⟩
      obtain ⟨f1, f2⟩ := o1.fresh hl
      exact q l xs _ G1 ds n1 (o1.raw hl) g1 f1 (o1.free hl) upd_same f2 da pz
    · rw [ek] at s1
      obtain ⟨ds, ed, pd⟩ := s1
      obtain ⟨a, xs, rfl, sq, da⟩ := d1.seq ed
      refine ⟨a, xs, rfl, ?_, fun l hl => ?_⟩
      · rcases sq with sq | sq
        · exact .inr (sameT o1.fm.sub sq)
        · exact .inl (o1.fm.sub.seq sq)
      · obtain ⟨f1, f2⟩ := o1.fresh hl
        exact q l xs _ G1 ds n1 (o1.raw hl) g1 f1 (o1.free hl) upd_same f2 da pd) xw
/-- o.append(e) -/
theorem sj_appendZ {o0 e : Expr} {apos cpos pos : Pos} {x y : Z D} (ho : EJ X EX o0 g y) (h : EJ X EX e g x)
    (hbase : attributeBase o0 "append" X.env (eval o0 X.env) = eval o0 X.env := by rfl)
    (hfew : ((backTo cpos (starEach [e] X.env)).all (fun x => !x.1) && (backToKw cpos (keywordEach [] X.env)).all (fun x => x.1.isSome) && decide ([e].length + ([] : List Keyword).length + (if ([] : List Keyword).isEmpty then 0 else 1) < 30)) = true := by rfl)
    (hline : (apos.endLine == cpos.line) = true := by rfl) (hs : starEach [e] X.env = (false, eval e X.env) :: starEach [] X.env := by rfl) (hpl : (backTo cpos (starEach [] X.env)).any (·.1) = false := by rfl)
    (hw : swapsWith (.Call (.Attribute o0 "append" apos) [e] [] cpos) none pos.line X.env = pure false := by rfl) :
    SJ X EX (.Expr (.Call (.Attribute o0 "append" apos) [e] [] cpos) pos) g (y >>= fun d => onlyZ d >>= fun k => x >>= fun v => appZ (refL k) v) (fun _ => g) :=
  (ps_expr (pe_bm PySem.F.plainAttrs_list PySem.F.slot_list_append PySem.F.type_list_append mt_append ho (pa_cons h pa_nil hs) hbase hfew hline hs hpl) hw).weak fun De σ H ⟨B, G, n, φ, ξ, o, s, q, xw⟩ => te_one o s (fun v H1 G1 d n1 o1 g1 d1 s1 => by
    obtain ⟨k, ek, s1⟩ := (show ∃ k, celOf d = some k ∧ (x >>= fun v => appZ (refL k) v) n1 φ from s1)
    obtain ⟨a, ds, xs, ev, ga, hk, hH, da⟩ := o1.cellAt d1 ek
    subst ev
    refine ⟨.inl ⟨rfl, xs, .inl (.inl hH)⟩, te_one (f := fun v => appZ (refL k) v) o1 s1 (fun w H2 G2 e2 n2 o2 g2 d2 s2 => ?_) xw⟩
    obtain ⟨k', ek', ds', e1, u, eu, pe⟩ := (show appZ (refL k) e2 n2 φ from s2)
    rw [cel_ref] at ek'
    cases ek'
    obtain ⟨ds2, xs2, hk2, hH2, da2⟩ := o2.fm.obs.cell (g2 _ _ ga)
    rw [hk2] at e1
    cases e1
    exact ⟨a, xs2, w, rfl, rfl, hH2, by rw [da2.length]; exact fits_lt eu, q () _ _ G2 _ (o2.putC (g2 _ _ ga) (da2.append (.one d2))) (g1.trans g2) pe⟩) xw
end
end DD
namespace DD
open PySem PySem.Spec PyProof.Rows L2
/-! ### the deck of three parts, as cells -/
def deck3 (c : Int) (cs rs : List Int) : List Cell := [.lst [refL 1, .int c, refL 2], .lst (cs.map .int), .lst (rs.map .int)]
end DD
namespace DD
open PySem PySem.Spec PyProof.Rows L2
/-! ### reasoning about mirrors over worlds: the deck of three parts stands, other things may stand beside it -/
theorem zb_assoc {α β γ : Type} (x : Z α) (f : α → Z β) (g : β → Z γ) : (x >>= f) >>= g = x >>= fun a => f a >>= g := rfl
theorem zb_pure {α β : Type} (a : α) (f : α → Z β) : (Pure.pure a >>= f) = f a := rfl
theorem zb_some {α β : Type} (a : α) (f : α → Z β) : ((Mo.lift (some a) : Z α) >>= f) = f a := by rw [zl_some]; rfl
/-- the deck with room for b draws, then the other things -/
def DkZ (b : Nat) (E : List Cell) (n : Wd) : Prop := ∃ (c : Int) (cs rs : List Int), n.ob = deck3 c cs rs ++ E ∧ cs.length = rs.length ∧ 0 < cs.length ∧ cs.length ≤ 64 ∧ (∀ r ∈ rs, 0 ≤ r) ∧ 0 ≤ c ∧ c + b ≤ 2 ^ 24
theorem DkZ.le {b c : Nat} {E : List Cell} {n : Wd} (h : DkZ b E n) (hc : c ≤ b) : DkZ c E n := by
  obtain ⟨c0, cs, rs, h1, h2, h3, h4, h5, h6, h7⟩ := h
  exact ⟨c0, cs, rs, h1, h2, h3, h4, h5, h6, by omega⟩
def TrZ {α : Type} (b : Nat) (x : Z α) (φ : α → Prop) : Prop := ∀ (d : Nat) (E : List Cell) (n : Wd) (ψ : α → Wd → Prop), DkZ (b + d) E n → (∀ a E' n', DkZ d (E ++ E') n' → φ a → ψ a n') → x n ψ
section
variable {α β : Type} {b c d : Nat}
theorem TrZ.pure {a : α} {φ : α → Prop} (h : φ a) : TrZ 0 (Pure.pure a : Z α) φ := fun d E n ψ hn q => q a [] n (by rw [List.append_nil]; exact hn.le (by omega)) h
theorem TrZ.bind {x : Z α} {f : α → Z β} {φ : α → Prop} {χ : β → Prop} (h : TrZ b x φ) (hf : ∀ a, φ a → TrZ c (f a) χ) : TrZ (b + c) (x >>= f) χ := fun d E n ψ hn q =>
  h (c + d) E n (fun a n' => f a n' ψ) (hn.le (by omega)) fun a E' n' hn' ha => hf a ha d (E ++ E') n' ψ hn' fun a2 E2 n2 h2 p2 => q a2 (E' ++ E2) n2 (by rw [← List.append_assoc]; exact h2) p2
theorem TrZ.lift {o : Option α} {a : α} {φ : α → Prop} (e : o = some a) (h : φ a) : TrZ 0 (Mo.lift o : Z α) φ := fun d E n ψ hn q => ⟨a, e, q a [] n (by rw [List.append_nil]; exact hn.le (by omega)) h⟩
theorem TrZ.mono {x : Z α} {φ χ : α → Prop} (h : TrZ b x φ) (hb : b ≤ c) (hp : ∀ a, φ a → χ a) : TrZ c x χ := fun d E n ψ hn q => h d E n ψ (hn.le (by omega)) fun a E' n' hn' ha => q a E' n' hn' (hp a ha)
theorem TrZ.le {x : Z α} {φ : α → Prop} (h : TrZ b x φ) (hb : b ≤ c) : TrZ c x φ := h.mono hb fun _ z => z
/-- what sees no thing that may change -/
theorem TrZ.hide {g' : List Sl} {o : Option α} {a : α} {φ : α → Prop} (hs : okSl g' = true) (e : o = some a) (h : φ a) : TrZ 0 (hideZ g' o) φ := fun d E n ψ hn q => ⟨hs, a, e, q a [] n (by rw [List.append_nil]; exact hn.le (by omega)) h⟩
theorem TrZ.st {x : Z α} {f : α → Z β} {φ : α → Prop} {χ : β → Prop} (h : TrZ b x φ) (hf : ∀ a, φ a → TrZ (d - b) (f a) χ) (hd : b ≤ d := by decide) : TrZ d (x >>= f) χ := (h.bind hf).le (by omega)
theorem TrZ.nx {A : Type} {a : A} {I : A → Prop} {R : D → Prop} (h : I a) : TrZ d (Pure.pure (Fl.nx a) : Z (Fl A)) (Post I R) := (TrZ.pure (φ := Post I R) (a := Fl.nx a) h).le (Nat.zero_le _)
theorem TrZ.rt {A : Type} {v : D} {I : A → Prop} {R : D → Prop} (h : R v) : TrZ d (Pure.pure (Fl.rt v) : Z (Fl A)) (Post I R) := (TrZ.pure (φ := Post I R) (a := Fl.rt v) h).le (Nat.zero_le _)
end
/-! worlds step by step -/
end DD
namespace DD
open PySem PySem.Spec PyProof.Rows L2
/-! ### a plain mirror (also one that draws) within a mirror over worlds -/
/-- monads over worlds -/
class OverZ (m : Type → Type) [Mo m] where
  up : {α : Type} → Z α → m α
  sat_up : ∀ {α : Type} {z : Z α} {n : Wd} {φ : α → Wd → Prop} {ξ : Exn → Wd → Prop}, Mo.sat (up z) n φ ξ → z n φ
instance : OverZ Z := ⟨fun z => z, fun h => h⟩
def hidP {m' : Type → Type} [Mo m'] {α : Type} (g : List Sl) (x : m' α) : Z α := fun n φ => okSl g = true ∧ Mo.sat x ⟨n.n, []⟩ (fun a n' => φ a ⟨n'.n, n.ob⟩) (fun _ _ => False)
section
variable {K : PySem.W.Frag} {B : Bs} {g g' : List Sl} {σ : L2.St} {H G : Hp} {n : Wd}
theorem hidP_back (o : Ok K B g σ H G n) {H' G' : Hp} {n' : Wd} (hn : n'.ob = []) (f : Fm K ⟨H, hid G, B.dk, hid G⟩ H' G' n') : Ok K B g σ H' (mrk G G') ⟨n'.n, n.ob⟩ ∧ Same G (mrk G G') ∧ Same G' (mrk G G') := by
  obtain ⟨k, ob⟩ := n'
  dsimp only at hn
  subst hn
  exact o.unhide (n' := ⟨k, []⟩) f (fun a u e => hid_nomk e) f.old (fun a e h => f.new a h e) f.sub fun a u e => nomk f.obs e
end
section
variable {m m' : Type → Type} [Mo m] [OverZ m] [Mo m'] [Plain m'] {X : Cx} {EX : XR} {g : List Sl}
theorem ej_hidP (g' : List Sl) {e : Expr} {x : m' D} (h : EJ (m := m') X X0 e g' x) (sb : Sub g g') (ho : noOwns g' = true := by rfl) : EJ (m := m) X EX e g (OverZ.up (hidP g' x)) :=
  PE.weak h fun σ H Q ⟨B, G, n, φ, ξ, o, s, q, xw⟩ => by
    obtain ⟨hs, sx⟩ := OverZ.sat_up s
    exact ⟨⟨H, hid G, B.dk, hid G⟩, hid G, ⟨n.n, []⟩, _, _, o.hide0 sb hs ho, (Plain.plain sx).2, fun v H' G' d n' o' g1 dv ⟨hn, p⟩ => by
      obtain ⟨o2, g2, g3⟩ := hidP_back o hn o'.fm
      exact q v H' _ d _ o2 g2 (dv.mono g3) p, fun _ _ _ _ _ _ _ z => z.2.elim⟩
theorem tj_hidP (g' : List Sl) {e : Expr} {x : m' Bool} (h : TJ (m := m') X X0 e g' x) (sb : Sub g g') (ho : noOwns g' = true := by rfl) : TJ (m := m) X EX e g (OverZ.up (hidP g' x)) :=
  PT.weak h fun σ H Q ⟨B, G, n, φ, ξ, o, s, q, xw⟩ => by
    obtain ⟨hs, sx⟩ := OverZ.sat_up s
    exact ⟨⟨H, hid G, B.dk, hid G⟩, hid G, ⟨n.n, []⟩, _, _, o.hide0 sb hs ho, (Plain.plain sx).2, fun b H' G' n' o' g1 ⟨hn, p⟩ => by
      obtain ⟨o2, g2, g3⟩ := hidP_back o hn o'.fm
      exact q b H' _ _ o2 g2 p, fun _ _ _ _ _ _ _ z => z.2.elim⟩
theorem tl_hidP (g' : List Sl) {x : m' (List D)} (sb : Sub g g') (ho : noOwns g' = true) {σ : L2.St} {H : Hp} {Q : VK} (h : tlJ (m := m) X EX g (OverZ.up (hidP g' x)) σ H Q) : tlJ (m := m') X X0 g' x σ H Q := by
  obtain ⟨B, G, n, φ, ξ, o, s, q, xw⟩ := h
  obtain ⟨hs, sx⟩ := OverZ.sat_up s
  refine ⟨⟨H, hid G, B.dk, hid G⟩, hid G, ⟨n.n, []⟩, _, _, o.hide0 sb hs ho, (Plain.plain sx).2, fun p xs H' G' ds n' o' g1 hb hg hh hf da ⟨hn, pp⟩ => ?_, fun _ _ _ _ _ _ _ z => z.2.elim⟩
  obtain ⟨o2, g2, g3⟩ := hidP_back o hn o'.fm
  have hp : H p = none := hb
  have gp : G p = none := o.fm.sub.t p hp
  obtain ⟨f1, f2⟩ := o.fresh hp
  exact q p xs H' _ ds _ o2 g2 f1 (by rw [mrk_r gp]; exact hg) hh f2 (da.mono g3) pp
theorem lj_hidP (g' : List Sl) {e : Expr} {x : m' (List D)} (h : LJ (m := m') X X0 e g' x) (sb : Sub g g') (ho : noOwns g' = true := by rfl) : LJ (m := m) X EX e g (OverZ.up (hidP g' x)) := PE.weak h fun σ H Q => tl_hidP g' sb ho
/-! .. lists of one's own lent -/
end
end DD
namespace DD
open PySem PySem.Spec PyProof.Rows L2
/-! ### instances that change: cells of the world -/
def ownOf : D → Option Nat
  | .dict [(.none, .int i)] => if bigI ≤ i then some (i - bigI).toNat else none
  | _ => none
theorem own_ref (k : Nat) : ownOf (refD k) = some k := by
  show (if bigI ≤ bigI + (k : Int) then some (bigI + (k : Int) - bigI).toNat else none) = _
  rw [if_pos (by omega)]
  congr 1
  omega
def insZ (k : Nat) : Z (Str × List (Str × D)) := fun n φ => ∃ c fs, n.ob[k]? = some (.ins c fs) ∧ φ (c, fs) n
def putI (k : Nat) (c : Str) (fs : List (Str × D)) : Z Unit := fun n φ => φ () ⟨n.n, n.ob.set k (.ins c fs)⟩
def newI (c : Str) : Z D := fun n φ => φ (refD n.ob.length) ⟨n.n, n.ob ++ [.ins c []]⟩
/-- the class of an instance that changes -/
def clsZ (c : Str) (d : D) : Z (List (Str × D)) := Mo.lift (ownOf d) >>= fun k => insZ k >>= fun p => Mo.lift (if p.1 = c then some p.2 else none)
def attrZ (c f : Str) (d : D) : Z D := clsZ c d >>= fun fs => Mo.lift (fs.lookup f)
def putL (f : Str) (v : D) : List (Str × D) → List (Str × D)
  | [] => [(f, v)]
  | (g, x) :: r => if g = f then (g, v) :: r else (g, x) :: putL f v r
def setAZ (c f : Str) (d v : D) : Z Unit := Mo.lift (ownOf d) >>= fun k => insZ k >>= fun p => Mo.lift (if p.1 = c ∧ p.2.length < 900 then some () else none) >>= fun _ => putI k c (putL f v p.2)
/-- an instance of the class that has no attribute of the method's name -/
def selfZ (c mn : Str) (d : D) : Z Unit := clsZ c d >>= fun fs => Mo.lift (if (fs.lookup mn).isNone = true then some () else none)
section
variable {K : PySem.W.Frag} {B : Bs} {g : List Sl} {σ : L2.St} {H G : Hp} {n : Wd}
theorem Da.own {v : V} {d : D} {k : Nat} (h : Da K G v d) (e : ownOf d = some k) : ∃ a, v = .ref a ∧ G a = some (.own k) := by
  cases h with
  | obj h =>
    rename_i a j
    have : ownOf (refD j) = some k := e
    rw [own_ref] at this
    cases this
    exact ⟨_, rfl, h⟩
  | @dct a kvs h _ =>
    unfold ownOf at e
    split at e
    · rename_i z
      cases kvs with
      | nil => cases z
      | cons p r =>
        rw [List.map_cons] at z
        injection z with z
        injection z with z z2
        obtain ⟨key, w⟩ := p
        have z3 := congrArg Prod.fst z
        cases key <;> cases z3
    · cases e
  | cel h =>
    cases e
  | _ => cases e
theorem lkp_da {f : Str} : ∀ {vs : List (Str × V)} {fs : List (Str × D)}, vs.map (·.1) = fs.map (·.1) → DaAll K G (vs.map (·.2)) (fs.map (·.2)) → (∀ d, fs.lookup f = some d → ∃ v, vs.lookup f = some v ∧ Da K G v d) ∧ (fs.lookup f = none → vs.lookup f = none)
  | [], [], _, _ => ⟨fun d h => (by cases h), fun _ => rfl⟩
  | [], _ :: _, h, _ => by cases h
  | _ :: _, [], h, _ => by cases h
  | (k, v) :: vs, (k', d') :: fs, h, .cons a b => by
    have hk : k = k' := by injection h
    have ht : vs.map (·.1) = fs.map (·.1) := by injection h
    subst hk
    obtain ⟨i1, i2⟩ := lkp_da (f := f) ht b
    rw [List.lookup_cons, List.lookup_cons]
    cases z : (f == k)
    · exact ⟨i1, i2⟩
    · exact ⟨fun d hd => (by cases hd; exact ⟨v, rfl, a⟩), fun hd => (by cases hd)⟩
theorem put_da {f : Str} {w : V} {y : D} (hw : Da K G w y) : ∀ {vs : List (Str × V)} {fs : List (Str × D)}, vs.map (·.1) = fs.map (·.1) → DaAll K G (vs.map (·.2)) (fs.map (·.2)) → (putF f w vs).map (·.1) = (putL f y fs).map (·.1) ∧ DaAll K G ((putF f w vs).map (·.2)) ((putL f y fs).map (·.2))
  | [], [], _, _ => ⟨rfl, .cons hw .nil⟩
  | [], _ :: _, h, _ => by cases h
  | _ :: _, [], h, _ => by cases h
  | (k, v) :: vs, (k', d') :: fs, h, .cons a b => by
    have hk : k = k' := by injection h
    have ht : vs.map (·.1) = fs.map (·.1) := by injection h
    subst hk
    obtain ⟨i1, i2⟩ := put_da (f := f) hw ht b
    show ((if k = f then (k, w) :: vs else (k, v) :: putF f w vs).map (·.1) = (if k = f then (k, y) :: fs else (k, d') :: putL f y fs).map (·.1)) ∧ DaAll K G ((if k = f then (k, w) :: vs else (k, v) :: putF f w vs).map (·.2)) ((if k = f then (k, y) :: fs else (k, d') :: putL f y fs).map (·.2))
    by_cases z : k = f
    · rw [if_pos z, if_pos z]
      exact ⟨by rw [List.map_cons, List.map_cons, ht], .cons hw b⟩
    · rw [if_neg z, if_neg z]
      exact ⟨by rw [List.map_cons, List.map_cons, i1], .cons a i2⟩
theorem Ok.insAt (o : Ok K B g σ H G n) {v : V} {d : D} {k : Nat} {c : Str} {fs : List (Str × D)} (h : Da K G v d) (e : ownOf d = some k) (hk : n.ob[k]? = some (.ins c fs)) : ∃ a C dx vs, v = .ref a ∧ G a = some (.own k) ∧ ClsOk K c C ∧ H a = some (.ins C dx vs) ∧ vs.map (·.1) = fs.map (·.1) ∧ DaAll K G (vs.map (·.2)) (fs.map (·.2)) := by
  obtain ⟨a, rfl, ga⟩ := h.own e
  obtain ⟨c', h1, h2⟩ := o.fm.obs.at_ a _ k ga rfl
  rw [hk] at h1
  cases h1
  obtain ⟨_, C, dx, vs, q1, q2, q3, q4⟩ := h2
  exact ⟨a, C, dx, vs, rfl, ga, q1, q2, q3, q4⟩
/-- a thing that may change is changed -/
theorem Ok.putG (o : Ok K B g σ H G n) {a : Addr} {k : Nat} {u w : HO} {c : Cell} (ha : G a = some u) (hm : mkOf u = some k) (hc : CellAt K G (upd H a w) a k c) : Ok K B g σ (upd H a w) G ⟨n.n, n.ob.set k c⟩ := by
  obtain ⟨c0, hk, h0⟩ := o.fm.obs.at_ a u k ha hm
  have klt : k < n.ob.length := (List.getElem?_eq_some_iff.mp hk).1
  have um : isMk u = true := by unfold isMk; rw [hm]; rfl
  have ne : ∀ b, G b = none → b ≠ a := fun b h e => by rw [e, ha] at h; cases h
  refine ⟨⟨fun b z e q => ?_, ⟨fun b z e m => ?_, fun b e => ?_⟩, o.fm.old, ⟨fun b z j e m => ?_, o.fm.obs.inj, fun j d e => ?_⟩, o.fm.bt, o.fm.tg, o.fm.new, fun x y e => ?_⟩, o.len, o.val, ?_, o.dck, o.adr⟩
  · have : b ≠ a := by
      rintro rfl
      cases eb : B.G b with
      | none => rw [o.fm.new b (by rw [e]; simp) eb] at ha; cases ha
      | some x =>
        have := o.fm.old b x eb
        rw [ha] at this
        cases this
        exact q (.inr ⟨_, eb, um⟩)
    rw [upd_ne this]
    exact o.fm.keep b z e q
  · have : b ≠ a := by
      rintro rfl
      rw [ha] at e
      cases e
      rw [um] at m
      cases m
    rw [upd_ne this]
    exact o.fm.sub.h b z e m
  · by_cases hb : b = a
    · rw [hb, upd_same] at e; cases e
    · rw [upd_ne hb] at e; exact o.fm.sub.t b e
  · by_cases hb : b = a
    · subst hb
      rw [ha] at e
      cases e
      have hj : k = j := Option.some.inj (hm.symm.trans m)
      subst hj
      refine ⟨c, ?_, hc⟩
      show (n.ob.set k c)[k]? = _
      rw [List.getElem?_set_self klt]
    · have hj : k ≠ j := fun x => hb (o.fm.obs.inj b a z u k e ha (x ▸ m) hm)
      obtain ⟨d, h1, h2⟩ := o.fm.obs.at_ b z j e m
      refine ⟨d, ?_, h2.mono (Same.refl _) ?_⟩
      · show (n.ob.set k c)[j]? = _
        rw [List.getElem?_set_ne hj]; exact h1
      · intro x hx
        rw [upd_ne hb]; exact hx
  · by_cases hj : k = j
    · subst hj
      have e' : (n.ob.set k c)[k]? = some d := e
      rw [List.getElem?_set_self klt] at e'
      cases e'
      exact ⟨a, hc⟩
    · have e' : (n.ob.set k c)[j]? = some d := e
      rw [List.getElem?_set_ne hj] at e'
      obtain ⟨b, hb⟩ := o.fm.obs.all j d e'
      obtain ⟨x, hu, hm'⟩ := hb.mark
      have hba : b ≠ a := by
        rintro rfl
        rw [ha] at hu
        cases hu
        exact hj (Option.some.inj (hm.symm.trans hm'))
      refine ⟨b, hb.mono (Same.refl _) ?_⟩
      intro x hx
      rw [upd_ne hba]; exact hx
  · obtain ⟨⟨cs, i, e1, e2, r⟩, h1, h2, h3, h4⟩ := o.fm.deck x y e
    exact ⟨⟨cs, i, by rw [upd_ne (ne x (o.fm.new x h1 h3))]; exact e1, by rw [upd_ne (ne y (o.fm.new y h2 h4))]; exact e2, r⟩, h1, h2, h3, h4⟩
  · obtain ⟨f, h1, h2⟩ := o.own
    refine ⟨f, h1, fun i es e => ?_⟩
    obtain ⟨q1, q2, q3, ys, q4, q5⟩ := h2 i es e
    exact ⟨q1, q2, q3, ys, by rw [upd_ne (ne _ q2)]; exact q4, q5⟩
/-- a new object is marked as a thing that may change -/
theorem Ok.mark (o : Ok K B g σ H G n) {p : Addr} {u w : HO} {c : Cell} (hb : B.H p = none) (hg : G p = none) (hh : H p = some w) (hf : ∀ (i : Nat) (es : List D) (f : Addr), g[i]? = some (Sl.own es) → σ[i]? = some (some (V.ref f)) → f ≠ p)
    (hm : mkOf u = some n.ob.length) (hc : CellAt K (upd G p u) H p n.ob.length c) : Ok K B g σ H (upd G p u) ⟨n.n, n.ob ++ [c]⟩ ∧ Same G (upd G p u) := by
  have sg : Same G (upd G p u) := same_upd hg
  have um : isMk u = true := by unfold isMk; rw [hm]; rfl
  have old : ∀ b z, b ≠ p → upd G p u b = some z → G b = some z := fun b z h e => by rw [upd_ne h] at e; exact e
  have low : ∀ b z j, b ≠ p → upd G p u b = some z → mkOf z = some j → j < n.ob.length := fun b z j h e m => by
    obtain ⟨d, h1, _⟩ := o.fm.obs.at_ b z j (old b z h e) m
    exact (List.getElem?_eq_some_iff.mp h1).1
  refine ⟨⟨⟨o.fm.keep, ⟨fun a z e m => ?_, fun a e => ?_⟩, o.fm.old.trans sg, ⟨fun b z j e m => ?_, fun b b' z z' j e1 e2 m1 m2 => ?_, fun j d e => ?_⟩, o.fm.bt, o.fm.tg.trans sg, fun a e q => ?_, o.fm.deck⟩, o.len, fun i d e => ?_, ?_, o.dck, fun i a od fs e => ⟨(o.adr i a od fs e).1, (o.adr i a od fs e).2.mono sg⟩⟩, sg⟩
  · by_cases ha : a = p
    · rw [ha, upd_same] at e; cases e; rw [um] at m; cases m
    · exact o.fm.sub.h a z (old a z ha e) m
  · have : a ≠ p := by rintro rfl; rw [hh] at e; cases e
    rw [upd_ne this]; exact o.fm.sub.t a e
  · by_cases hbp : b = p
    · subst hbp
      rw [upd_same] at e
      cases e
      have hj : n.ob.length = j := Option.some.inj (hm.symm.trans m)
      subst hj
      exact ⟨c, by simp, hc⟩
    · obtain ⟨d, h1, h2⟩ := o.fm.obs.at_ b z j (old b z hbp e) m
      have hl := (List.getElem?_eq_some_iff.mp h1).1
      exact ⟨d, by show (n.ob ++ [c])[j]? = _; rw [List.getElem?_append_left hl]; exact h1, h2.mono sg fun _ z => z⟩
  · by_cases hbp : b = p <;> by_cases hcp : b' = p
    · rw [hbp, hcp]
    · subst hbp
      rw [upd_same] at e1
      cases e1
      have hj : n.ob.length = j := Option.some.inj (hm.symm.trans m1)
      have := low b' z' j hcp e2 m2
      omega
    · subst hcp
      rw [upd_same] at e2
      cases e2
      have hj : n.ob.length = j := Option.some.inj (hm.symm.trans m2)
      have := low b z j hbp e1 m1
      omega
    · exact o.fm.obs.inj b b' z z' j (old b z hbp e1) (old b' z' hcp e2) m1 m2
  · have e' : (n.ob ++ [c])[j]? = some d := e
    by_cases hl : j < n.ob.length
    · rw [List.getElem?_append_left hl] at e'
      obtain ⟨b, h⟩ := o.fm.obs.all j d e'
      exact ⟨b, h.mono sg fun _ z => z⟩
    · have hl' : n.ob.length ≤ j := Nat.le_of_not_lt hl
      rw [List.getElem?_append_right hl'] at e'
      have hj : j = n.ob.length := by
        have h3 : j - n.ob.length < 1 := (List.getElem?_eq_some_iff.mp e').1
        exact Nat.le_antisymm (Nat.le_of_sub_eq_zero (Nat.lt_one_iff.mp h3)) hl'
      subst hj
      rw [Nat.sub_self] at e'
      cases e'
      exact ⟨p, hc⟩
  · have : a ≠ p := by rintro rfl; exact e hb
    rw [upd_ne this]; exact o.fm.new a e q
  · obtain ⟨v, h1, h2⟩ := o.val i d e
    exact ⟨v, h1, h2.mono sg⟩
  · obtain ⟨f, h1, h2⟩ := o.own
    refine ⟨f, h1, fun i es e => ?_⟩
    obtain ⟨a, b, x, ys, d, da'⟩ := h2 i es e
    exact ⟨a, by rw [upd_ne (hf i es _ e a)]; exact b, x, ys, d, da'.mono sg⟩
/-- a new instance -/
theorem Ok.insN (o : Ok K B g σ H G n) {x dx C : Addr} {c : Str} (hx : H x = none) (hdx : H dx = none) (hne : dx ≠ x) (hc : ClsOk K c C) :
    Ok K B g σ (upd (upd H dx (.own x)) x (.ins C dx [])) (upd G x (.own n.ob.length)) ⟨n.n, n.ob ++ [.ins c []]⟩ ∧ Same G (upd G x (.own n.ob.length)) := by
  obtain ⟨f1, f2⟩ := o.fresh hx
  have o1 := (o.raw (u := .own x) hdx).raw (p := x) (u := .ins C dx []) (by rw [upd_ne (Ne.symm hne)]; exact hx)
  exact o1.mark f1 (o.fm.sub.t x hx) upd_same f2 rfl ⟨upd_same, C, dx, [], hc, upd_same, rfl, .nil⟩
end
theorem clsZ_out {c : Str} {d : D} {n : Wd} {φ : List (Str × D) → Wd → Prop} (h : clsZ c d n φ) : ∃ k fs, ownOf d = some k ∧ n.ob[k]? = some (.ins c fs) ∧ φ fs n := by
  obtain ⟨k, ek, c', fs, hk, fs', hc, p⟩ := h
  dsimp only at hc
  split at hc
  · rename_i z
    subst z
    cases hc
    exact ⟨k, fs, ek, hk, p⟩
  · cases hc
section
variable {m : Type → Type} [Mo m] [OverZ m] {X : Cx} {EX : XR} {g : List Sl} {k : Nat} {ps : List Str} {p pos apos : Pos} {c mn : Str} {ob e : Expr} {es : List Expr} {x : m D}
/-- e.f -/
theorem ej_attrZ {fl : Str} (h : HasNo X.K c fl) (he : EJ X EX e g x) (hb : attributeBase e fl X.env (eval e X.env) = eval e X.env := by rfl) : EJ X EX (.Attribute e fl pos) g (x >>= fun d => OverZ.up (attrZ c fl d)) := by
  obtain ⟨C, hcl, hno⟩ := h.ex
  exact (pe_fld he hb).weak fun σ H Q ⟨B, G, n, φ, ξ, o, s, q, xw⟩ => te_one o s (fun v H1 G1 d n1 o1 g1 d1 s1 => by
    have s2 : attrZ c fl d n1 φ := OverZ.sat_up s1
    obtain ⟨k, fs, ek, hk, z, ez, pz⟩ := clsZ_out (show clsZ c d n1 (fun fs n' => (Mo.lift (fs.lookup fl) : Z D) n' φ) from s2)
    obtain ⟨a, C', dx, vs, rfl, ga, ck, ea, hl, da⟩ := o1.insAt d1 ek hk
    obtain rfl := hcl.one ck
    obtain ⟨v, hv, dv⟩ := (lkp_da hl da).1 z ez
    exact ⟨a, C', dx, vs, v, rfl, ea, hcl.cl, hno, hv, q v H1 G1 z n1 o1 g1 dv pz⟩) xw
/-- o.f = e -/
theorem sj_attrZ {fl : Str} {o0 : Expr} {p' : Pos} {y : m D} (h : HasNo X.K c fl) (he : EJ X EX e g x) (ho : EJ X EX o0 g y) (hs : swapsWith e (some (.Attribute o0 fl p')) pos.line X.env = pure false := by rfl) :
    SJ X EX (.Assign [.Attribute o0 fl p'] e pos) g (x >>= fun v => y >>= fun d => OverZ.up (setAZ c fl d v)) (fun _ => g) := by
  obtain ⟨C, hcl, hno⟩ := h.ex
  exact (ps_fld ho he hs).weak fun De σ H ⟨B, G, n, φ, ξ, o, s, q, xw⟩ => te_one o s (fun v H1 G1 dv n1 o1 g1 d1 s1 => te_one o1 s1 (fun w H2 G2 d n2 o2 g2 d2 s2 => by
    obtain ⟨k, ek, c', fs, hk, u, hu, pe⟩ := OverZ.sat_up s2
    dsimp only at hu
    split at hu
    · rename_i hc
      obtain ⟨z, h9⟩ := hc
      have z : c' = c := z
      subst z
      obtain ⟨a, C', dx, vs, rfl, ga, ck, ea, hl, da⟩ := o2.insAt d2 ek hk
      obtain rfl := hcl.one ck
      obtain ⟨q1, q2⟩ := put_da (f := fl) (d1.mono g2) hl da
      have hlen : vs.length < 1000 := by
        have e1 : vs.length = fs.length := by simpa using congrArg List.length hl
        have h9 : fs.length < 900 := h9
        omega
      refine ⟨a, C', dx, vs, rfl, ea, hcl.cl, hno, hlen, ?_⟩
      exact q () _ _ G2 _ (o2.putG (c := .ins c' (putL fl dv fs)) ga rfl ⟨ga, C', dx, _, hcl, upd_same, q1, q2⟩) (g1.trans g2) pe
    · cases hu) xw) xw
end
end DD
namespace DD
open PySem PySem.Spec PyProof.Rows L2
/-! ### instances that change: making, methods, properties, len, str -/
def nonO : D → Option Unit
  | .none => some ()
  | _ => none
theorem Da.nonO {K : PySem.W.Frag} {G : Hp} {v : V} {d : D} {u : Unit} (h : Da K G v d) (e : DD.nonO d = some u) : v = .non := by
  cases d with
  | none => cases h; rfl
  | _ => cases e
theorem selfZ_out {c mn : Str} {d : D} {n : Wd} {φ : Unit → Wd → Prop} (h : selfZ c mn d n φ) : ∃ k fs, ownOf d = some k ∧ n.ob[k]? = some (.ins c fs) ∧ fs.lookup mn = none ∧ φ () n := by
  obtain ⟨k, fs, ek, hk, u, hu, p⟩ := clsZ_out (show clsZ c d n (fun fs n' => (Mo.lift (if (fs.lookup mn).isNone = true then some () else none) : Z Unit) n' φ) from h)
  split at hu
  · rename_i z
    exact ⟨k, fs, ek, hk, Option.isNone_iff_eq_none.mp z, p⟩
  · cases hu
/-- an instance of the class -/
def thisZ (c : Str) (d : D) : Z Unit := clsZ c d >>= fun _ => pure ()
theorem thisZ_out {c : Str} {d : D} {n : Wd} {φ : Unit → Wd → Prop} (h : thisZ c d n φ) : ∃ k fs, ownOf d = some k ∧ n.ob[k]? = some (.ins c fs) ∧ φ () n :=
  clsZ_out (show clsZ c d n (fun _ n' => φ () n') from h)
section
variable {m : Type → Type} [Mo m] [Calm m] [OverZ m] {X : Cx} {EX : XR} {g : List Sl} {k : Nat} {ps : List Str} {p pos apos : Pos} {c mn : Str} {ob e a : Expr} {es : List Expr} {x : m D} {F : List Sl → m D}
/-- o.m(..) -/
theorem ej_methZ {pl : Sem Bool} {y : m (List Sl)} (Fn : MthG X.prog X.w X.K X.mg X.base k c mn ps (spJ X.K F)) (hr : Room k X.A) (gu : X.A.guards = some [])
    (ho : EJ X EX ob g x) (ha : AJ X EX (e :: es) g y) (hst : starEach (e :: es) X.env = (false, eval e X.env) :: starEach es X.env := by rfl) (hpl : (backTo pos (starEach es X.env)).any (·.1) = false := by rfl) (ht : MethAt X ob mn apos pos (e :: es) pl := by rfl) :
    EJ X EX (.Call (.Attribute ob mn apos) (e :: es) [] pos) g (x >>= fun d => OverZ.up (selfZ c mn d) >>= fun _ => y >>= fun as => F (.val d :: as)) := by
  obtain ⟨C, f, fd, hcl, hm, Fn, hb⟩ := Fn.ex
  exact (pe_mG ho hcl.cl hm Fn hr gu hb ha hst hpl ht).weak fun σ H Q ⟨B, G, n, φ, ξ, o, s, q, xw⟩ => te_one o s (fun v H1 G1 d n1 o1 g1 d1 s1 => by
    have s2 : selfZ c mn d n1 _ := OverZ.sat_up (Mo.sat_bind s1)
    obtain ⟨k, fs, ek, hk, el, s2⟩ := selfZ_out s2
    obtain ⟨a, C', dx, vs, rfl, ga, ck, ea, hl, da⟩ := o1.insAt d1 ek hk
    obtain rfl := hcl.one ck
    refine ⟨a, dx, vs, rfl, ea, (lkp_da hl da).2 el, B, G1, n1, _, ξ, o1, Mo.sat_bind s2, fun us H2 G2 as n2 o2 g2 a2 s3 => ?_, xw⟩
    refine ⟨G2, n2, B.dk, .val d :: as, φ, .cons (d1.mono g2) (ArgsOk.base (B := B) (B' := ⟨H2, G2, B.dk, G2⟩) rfl a2), o2.fm.at_call, Calm.calm s3, fun v H' G' d' n' f' dv p => ?_⟩
    obtain ⟨o3, g3⟩ := Fm.back o2 (.inr rfl) f'
    exact q v H' G' d' n' o3 ((g1.trans g2).trans g3) dv p) xw
/-- o.p, a property -/
theorem ej_propZ (Fn : PrpG X.prog X.w X.K X.mg X.base k c mn ps (spJ X.K F)) (hr : Room (k + 1) X.A) (gu : X.A.guards = some []) (ho : EJ X EX ob g x) (hab : attributeBase ob mn X.env (eval ob X.env) = eval ob X.env := by rfl) :
    EJ X EX (.Attribute ob mn pos) g (x >>= fun d => OverZ.up (thisZ c d) >>= fun _ => F [.val d]) := by
  obtain ⟨C, pr, f, fd, hcl, hp, Fn, hb⟩ := Fn.ex
  exact (pe_propG ho hcl.cl hp Fn hr gu hb hab).weak fun σ H Q ⟨B, G, n, φ, ξ, o, s, q, xw⟩ => te_one o s (fun v H1 G1 d n1 o1 g1 d1 s1 => by
    have s2 : thisZ c d n1 _ := OverZ.sat_up (Mo.sat_bind s1)
    obtain ⟨k, fs, ek, hk, s2⟩ := thisZ_out s2
    obtain ⟨a, C', dx, vs, rfl, ga, ck, ea, hl, da⟩ := o1.insAt d1 ek hk
    obtain rfl := hcl.one ck
    refine ⟨a, dx, vs, rfl, ea, G1, n1, B.dk, [.val d], φ, .cons d1 .nil, o1.fm.at_call, Calm.calm s2, fun v H' G' d' n' f' dv p => ?_⟩
    obtain ⟨o3, g3⟩ := Fm.back o1 (.inr rfl) f'
    exact q v H' G' d' n' o3 (g1.trans g3) dv p) xw
theorem ej_lenOZ (Fn : MthG X.prog X.w X.K X.mg X.base k c "__len__" ps (spJ X.K F)) (hr : Room (k + 1) X.A) (gu : X.A.guards = some []) (hm : X.mg "len" = none) (ha : EJ X EX a g x) (hg : Gl X "len" := by rfl)
    (hs : starEach [a] X.env = (false, eval a X.env) :: starEach [] X.env := by rfl) : EJ X EX (.Call (.Name "len" p) [a] [] pos) g (x >>= fun d => OverZ.up (thisZ c d) >>= fun _ => F [.val d] >>= fun r => Mo.lift (natD r)) := by
  obtain ⟨C, f, fd, h1, h2, h3, h4⟩ := Fn.ex
  exact (pe_callB (call_lenO h2 h3 hr gu h4) hg hm PySem.boot_len (pa_cons ha pa_nil hs) (by decide) (by decide) hs rfl).weak fun σ H Q ⟨B, G, n, φ, ξ, o, s, q, xw⟩ => te_one o s (fun v H1 G1 d n1 o1 g1 d1 s1 => by
    have s2 : thisZ c d n1 _ := OverZ.sat_up (Mo.sat_bind s1)
    obtain ⟨k, fs, ek, hk, s2⟩ := thisZ_out s2
    obtain ⟨a, C', dx, vs, rfl, ga, ck, ea, hl, da⟩ := o1.insAt d1 ek hk
    obtain rfl := h1.one ck
    refine ⟨a, dx, vs, rfl, ea, G1, n1, B.dk, [.val _], _, .cons d1 .nil, o1.fm.at_call, Calm.calm (Mo.sat_bind s2), fun v H' G' d' n' f' dv p => ?_⟩
    obtain ⟨o3, g3⟩ := Fm.back o1 (.inr rfl) f'
    obtain ⟨z, ez, pz⟩ := Mo.sat_lift p
    cases d' <;> simp only [natD] at ez <;> try cases ez
    rename_i n
    split at ez
    · rename_i hn
      cases ez
      cases dv
      exact ⟨n, rfl, hn.1, hn.2, q _ H' G' _ n' o3 (g1.trans g3) (.int _) pz⟩
    · cases ez) xw
end
end DD
namespace DD
open PySem PySem.Spec PyProof.Rows L2
/-! ### match over texts -/
section
variable {m : Type → Type} [Mo m] {A : Type}
inductive MC (X : Cx) (EX : XR) (g : List Sl) (P : A → List Sl) : List MatchCase → (Str → m (Fl A)) → Prop
  | last {body : List Stmt} {y : m (Fl A)} {p : Pos} : BJ X EX body g y P → MC X EX g P [⟨.MatchAs none none p, none, body⟩] fun _ => y
  | one {c : Str} {k : Nat} {p1 p2 : Pos} {body : List Stmt} {y : m (Fl A)} {rest : List MatchCase} {f : Str → m (Fl A)} : BJ X EX body g y P → MC X EX g P rest f → MC X EX g P (⟨.MatchValue (.Constant (.str c) k p1) p2, none, body⟩ :: rest) fun s => if s = c then y else f s
theorem MC.run {X : Cx} {EX : XR} {g : List Sl} {P : A → List Sl} {cs : List MatchCase} {f : Str → m (Fl A)} (h : MC X EX g P cs f) : ∀ (pins : List (Addr × Obj)) (s : Shared) (σ : L2.St) (H : Hp) (De : Ends) (z : Str) (t : Tok) (b : Bool), Inv X pins σ H s → tbJ X EX g (f z) P De σ H → wpAny (model X.prog X.w) X.A (matchCases cs X.env (.str z t) b) (SP X pins De) X.xe s := by
  induction h with
  | last hb =>
    intro pins s σ H De z t b I q
    refine wpAny_matchCases_cons (wpAny_matchPattern_Capture ?_)
    show wpAny _ _ (pure ()) _ _ _
    exact wpAny_pure (hb.run pins s σ H De I q)
  | @one c k p1 p2 body y rest f hb _ ih =>
    intro pins s σ H De z t b I q
    refine wpAny_matchCases_cons (wpAny_matchPattern_Value (thn ((pe_str (X := X) (j := k) (pos := p1)).run pins s σ H (fun v H1 => v = .str c ∧ H1 = H) I ⟨rfl, rfl⟩) fun u s1 ⟨v, H1, I1, r1, e1, e2⟩ => ?_))
    subst e1 e2
    obtain ⟨t2, rfl⟩ := r1
    refine PyProof.Rows.eq_str (wpAny_truthy_bool ?_)
    by_cases hz : z = c
    · rw [beq_iff_eq.mpr hz, if_pos rfl]
      show wpAny _ _ (pure ()) _ _ _
      have q : tbJ X EX g (if z = c then y else f z) P De σ H1 := q
      rw [if_pos hz] at q
      exact wpAny_pure (hb.run pins s1 σ H1 De I1 q)
    · rw [beq_eq_false_iff_ne.mpr hz, if_neg Bool.false_ne_true]
      have q : tbJ X EX g (if z = c then y else f z) P De σ H1 := q
      rw [if_neg hz] at q
      exact ih pins s1 σ H1 De z t false I1 q
theorem match_j {X : Cx} {EX : XR} {g : List Sl} {P : A → List Sl} {cs : List MatchCase} {f : Str → m (Fl A)} {e : Expr} {x : m D} {pos : Pos} (he : EJ X EX e g x) (h : MC X EX g P cs f) : PS X (.Match e cs pos) (tbJ X EX g (x >>= fun d => Mo.lift (strOnly d) >>= f) P) :=
  ⟨fun pins s σ H De I ⟨B, G, n, φ, ξ, o, st, q1, q2, xw⟩ => wpAny_Match (thn (he.run pins s σ H (fun v H1 => ∃ z : Str, v = .str z ∧ tbJ X EX g (f z) P De σ H1) I (te_one o st (fun v H1 G1 d n1 o1 g1 d1 s1 => by
    obtain ⟨z, ez, s2⟩ := Mo.sat_lift (Mo.sat_bind s1)
    cases d <;> cases ez
    cases d1
    exact ⟨_, rfl, B, G1, n1, φ, ξ, o1, s2, fun a σ' H' G' n' o' g' p => q1 a σ' H' G' n' o' (g1.trans g') p, q2, xw⟩) xw)) fun u s1 ⟨v, H1, I1, r1, z, ev, q⟩ => by
    subst ev
    obtain ⟨t, rfl⟩ := r1
    exact h.run pins s1 σ H1 De z t true I1 q)⟩
end
/-! ### if (x := e) op c: a block that does not come to its end -/
section
variable {m : Type → Type} [Mo m] {X : Cx} {EX : XR} {g : List Sl} {fall : Bool} {A : Type}
theorem pe_any {ι : Type} {e : Expr} {te : ι → TE} (h : ∀ i, PE X e (te i)) : PE X e (fun σ H Q => ∃ i, te i σ H Q) := ⟨fun pins s σ H Q I ⟨i, q⟩ => (h i).run pins s σ H Q I q⟩
theorem fj_ifw (i : Nat) {t : Str} {e b : Expr} {op : CmpOp} {p p2 p3 pos : Pos} {thn rest : List Stmt} {r : R2} {f : D → D → Option D} {x : m D} {y z w : D → m D} (hN : X.N.Nodup) (ho : OpR X (compareOp op) r) (hr : RD X.K r f) (he : EJ X EX e g x) (hb : ∀ d, EJ X EX b (g.set i (.val d)) (y d)) (h1 : ∀ d, FJ X EX false thn (g.set i (.val d)) (z d)) (h2 : ∀ d, FJ X EX fall rest (g.set i (.val d)) (w d))
    (hi : X.N[i]? = some t := by rfl) (hx : Loc X.env.scope t := by first | exact Or.inl rfl | exact Or.inr rfl) (hm : behindInMarks op b = false := by first | exact nobehind _ (by decide) (by decide) | rfl) (hf : X.fn t = true ∨ X.env.scope.names.lookup t = some .local := by first | exact .inl rfl | exact .inr rfl) :
    FJ X EX fall (.If (.Compare (.NamedExpr (.Name t p) e p2) [op] [b] p3) thn [] pos :: rest) g (x >>= fun d => y d >>= fun c => Mo.lift ((f d c).bind boolD) >>= fun k => if k = true then z d else w d) :=
  (pss_cons (ps_ifW (ptw_cmp ho (pew_named hN hi hx (pew_of he) hf) (pe_any hb) hm) (pss_any h1) pss_nil) (pss_any h2)).weak fun De σ H ⟨B, G, n, φ, ξ, o, s, q1, q2, xw⟩ => te_one o s (fun v H1 G1 d n1 o1 g1 d1 s1 => ⟨d, te_one (o1.setV (i := i) d1) s1 (fun u H2 G2 c n2 o2 g2 d2 s2 => by
    obtain ⟨k, ek, s3⟩ := Mo.sat_lift (Mo.sat_bind s2)
    obtain ⟨a, ea, eb⟩ := Option.bind_eq_some_iff.mp ek
    refine hr v u d c a H2 G2 _ (d1.mono g2) d2 o2.fm.sub ea fun o3 H3 G3 gr du => ⟨k, du.bool eb, ?_⟩
    have o4 := o2.gr gr
    cases k with
    | true =>
      rw [if_pos rfl] at s3
      exact iteT ⟨d, B, G3, n2, φ, ξ, o4, s3, q1, fun z => (by cases z), xw⟩
    | false =>
      rw [if_neg Bool.false_ne_true] at s3
      exact iteF ⟨d, B, G3, n2, φ, ξ, o4, s3, q1, q2, xw⟩) xw⟩) xw
/-! ### f(e, .., *t) -/
theorem aj_star {e : Expr} {es : List Expr} {p : Pos} {y : m (List Sl)} (he : EJ X EX e g x) (hr : AJ X EX es g y) (hs : starEach (.Starred e p :: es) X.env = (true, eval e X.env) :: starEach es X.env := by rfl) : AJ X EX (.Starred e p :: es) g (x >>= fun d => Mo.lift (itemsD d) >>= fun ds => y >>= fun as => pure (ds.map .val ++ as)) :=
  (StX.pa_star he hr hs).weak fun σ H Q ⟨B, G, n, φ, ξ, o, s, q, xw⟩ => te_one o s (fun v H1 G1 d n1 o1 g1 d1 s1 => by
    obtain ⟨ds, ed, s2⟩ := Mo.sat_lift (Mo.sat_bind s1)
    obtain ⟨a, xs, rfl, sq, da⟩ := d1.seq ed
    refine ⟨a, xs, rfl, sq.imp (fun z => sameT o1.fm.sub z) (fun z => o1.fm.sub.seq z), B, G1, n1, _, ξ, o1, Mo.sat_bind s2, fun ys H2 G2 as n2 o2 g2 a2 p => ?_, xw⟩
    have app : ∀ {xs : List V} {ds : List D}, DaAll X.K G2 xs ds → ArgsOk X.K B G2 (xs ++ ys) (ds.map .val ++ as) := fun {xs ds} h => by
      induction ds generalizing xs with
      | nil => cases h; exact a2
      | cons d ds ih =>
        cases h with
        | cons a b => exact .cons a (ih b)
    exact q _ H2 G2 _ n2 o2 (g1.trans g2) (app (da.mono g2)) (Mo.sat_pure p)) xw
/-! ### f"..{e}.." -/
end
end DD
namespace DD
open PySem PySem.Spec PyProof.Rows L2
/-! ### pass; {a: i, b: -j}[e]; o.pop() -/
section
variable {m : Type → Type} [Mo m] {X : Cx} {EX : XR} {g : List Sl}
theorem sj_pass {pos : Pos} : SJ (m := m) X EX (.Pass pos) g (pure ()) (fun _ => g) :=
  ps_pass.weak fun De σ H ⟨B, G, n, φ, ξ, o, s, q, _⟩ => q () σ H G n o (Same.refl _) (Mo.sat_pure s)
end
/-- a def with one keyword-only parameter, None by default -/
theorem kwF {K : PySem.W.Frag} {x qual y : Str} {ps : Arguments} {b : List Stmt} {sc : Scope} {f kd : Addr} {oc doc pm cdv ct : Value} {od an : Option Addr} {osl : Array (Option Value)} (l : K.lookup f = some ⟨oc, od, .func (PySem.W.fnOf x qual ps b sc .none (.ref kd) doc pm an cdv ct), osl⟩) (c : PySem.W.codeIn K cdv qual = true) (k : PySem.W.keepIn K (.ref f) = true) (h : PySem.W.nsIn K kd y = some (some .none)) :
    FunD K x qual ps b sc [] [(y, .non)] f (PySem.W.fnOf x qual ps b sc .none (.ref kd) doc pm an cdv ct) :=
  ⟨⟨oc, od, .none, .ref kd, doc, pm, an, cdv, ct, osl, rfl, l, c, .inl ⟨rfl, rfl⟩, .inr ⟨kd, rfl, fun q hq => by
    rw [List.mem_singleton.mp hq]
    exact ⟨.none, h, rfl⟩⟩⟩, k⟩
theorem argsHid {K : PySem.W.Frag} {B B' : Bs} {G : Hp} (h : B'.dk = B.dk) : ∀ {vs : List V} {as : List Sl}, ArgsOk K B G vs as → okSl as = true → ArgsOk K B' (hid G) vs as
  | _, _, .nil, _ => .nil
  | _, _, .cons (a := .val d) q r, ok => by
    simp only [okSl, Bool.and_eq_true] at ok
    exact .cons (Da.hid (show Da _ _ _ _ from q) ok.1) (argsHid h r ok.2)
  | _, _, .cons (a := .deck) ⟨a, b, e, ev⟩ r, ok => .cons ⟨a, b, h.trans e, ev⟩ (argsHid h r ok)
  | _, _, .cons (a := .own _) q _, _ => q.elim
  | _, _, .cons (a := .any) q _, _ => q.elim
  | _, _, .cons (a := .exn _ _ _) q _, _ => q.elim
theorem okSl_any : ∀ g : List Sl, okSl (g.map fun _ => Sl.any) = true
  | [] => rfl
  | _ :: g => okSl_any g
theorem noOwns_any (g : List Sl) : noOwns (g.map fun _ => Sl.any) = true := by
  unfold noOwns
  rw [List.all_map, List.all_eq_true]
  intro x _
  rfl
theorem all_any (g : List Sl) : ((g.map fun _ => Sl.any).all fun s => match s with | .any => true | _ => false) = true := by
  rw [List.all_map, List.all_eq_true]
  intro x _
  rfl
end DD
namespace DD
open PySem PySem.Spec PyProof.Rows L2
/-! ### reasoning about cells: what a mirror without draws does -/
def Run {α : Type} (x : Z α) (ob : List Cell) (a : α) (ob' : List Cell) : Prop := ∀ (n : Nat) (φ : α → Wd → Prop), φ a ⟨n, ob'⟩ → x ⟨n, ob⟩ φ
section
variable {α β : Type} {ob ob1 ob2 : List Cell} {k : Nat} {c f mn : Str} {v w : D} {ds : List D} {fs : List (Str × D)}
theorem Run.pure {a : α} : Run (Pure.pure a) ob a ob := fun n φ h => h
theorem Run.bind {x : Z α} {f : α → Z β} {a : α} {b : β} (h : Run x ob a ob1) (hf : Run (f a) ob1 b ob2) : Run (x >>= f) ob b ob2 := fun n φ q => h n _ (hf n φ q)
theorem Run.lift {o : Option α} {a : α} (e : o = some a) : Run (Mo.lift o) ob a ob := fun n φ q => ⟨a, e, q⟩
theorem Run.bL {o : Option α} {a : α} {f : α → Z β} {b : β} (e : o = some a) (hf : Run (f a) ob b ob2) : Run ((Mo.lift o : Z α) >>= f) ob b ob2 := (Run.lift e).bind hf
theorem Run.hid {g : List Sl} {o : Option α} {a : α} (hs : okSl g = true) (e : o = some a) : Run (OverZ.up (hidP g o)) ob a ob := fun n φ q => ⟨hs, rfl, a, e, q⟩
theorem run_cls (h : ob[k]? = some (.ins c fs)) : Run (clsZ c (refD k)) ob fs ob := fun n φ q => ⟨k, own_ref k, c, fs, h, fs, if_pos rfl, q⟩
theorem run_attr (h : ob[k]? = some (.ins c fs)) (hf : fs.lookup f = some v) : Run (OverZ.up (attrZ c f (refD k))) ob v ob := (run_cls h).bind (Run.lift hf)
theorem run_this (h : ob[k]? = some (.ins c fs)) : Run (OverZ.up (thisZ c (refD k))) ob () ob := (run_cls h).bind Run.pure
theorem run_self (h : ob[k]? = some (.ins c fs)) (hf : fs.lookup mn = none) : Run (OverZ.up (selfZ c mn (refD k))) ob () ob := (run_cls h).bind (Run.lift (by rw [hf]; rfl))
theorem run_setA (h : ob[k]? = some (.ins c fs)) (hl : fs.length < 900) : Run (OverZ.up (setAZ c f (refD k) v)) ob () (ob.set k (.ins c (putL f v fs))) := fun n φ q => ⟨k, own_ref k, c, fs, h, (), if_pos ⟨rfl, hl⟩, q⟩
theorem run_newI : Run (OverZ.up (newI c)) ob (refD ob.length) (ob ++ [.ins c []]) := fun n φ q => q
theorem run_newZ : Run (newZ ds) ob (refL ob.length) (ob ++ [.lst ds]) := fun n φ q => q
theorem run_cell (h : ob[k]? = some (.lst ds)) : Run (cellZ k) ob ds ob := fun n φ q => ⟨ds, h, q⟩
theorem run_only : Run (onlyZ (refL k)) ob k ob := Run.lift (cel_ref k)
theorem run_ix (h : ob[k]? = some (.lst ds)) (e : getD (.list ds) v = some w) : Run (ixZ (refL k) v) ob w ob := by
  unfold ixZ
  rw [cel_ref]
  exact (run_cell h).bind (Run.lift e)
theorem celOf_dat {d : D} (h : ∀ kvs, d ≠ .dict kvs) : celOf d = none := by
  cases d with
  | dict kvs => exact absurd rfl (h kvs)
  | _ => rfl
theorem run_ixD {d : D} (h : ∀ kvs, d ≠ .dict kvs) (e : getD d v = some w) : Run (ixZ d v) ob w ob := by
  unfold ixZ
  rw [celOf_dat h]
  exact Run.lift e
theorem run_len (h : ob[k]? = some (.lst ds)) : Run (lenZ (refL k)) ob (.int ds.length) ob := by
  unfold lenZ
  rw [cel_ref]
  exact (run_cell h).bind Run.pure
theorem run_app (h : ob[k]? = some (.lst ds)) (hl : ds.length ≤ 1000) : Run (appZ (refL k) v) ob () (ob.set k (.lst (ds ++ [v]))) := fun n φ q => ⟨k, cel_ref k, ds, h, (), fits_ok (by omega), q⟩
/-! with draws -/
def TrA (b : Nat) (ob : List Cell) (x : Z α) (Q : α → List Cell → Prop) : Prop := ∀ (n : Nat) (ψ : α → Wd → Prop), n + b ≤ 2 ^ 40 → (∀ a n' ob', n' ≤ n + b → Q a ob' → ψ a ⟨n', ob'⟩) → x ⟨n, ob⟩ ψ
theorem TrA.run {x : Z α} {a : α} {Q : α → List Cell → Prop} {b : Nat} (h : Run x ob a ob1) (q : Q a ob1) : TrA b ob x Q := fun n ψ _ hq => h n ψ (hq a n ob1 (by omega) q)
theorem TrA.bind {x : Z α} {f : α → Z β} {b c : Nat} {Q : α → List Cell → Prop} {R : β → List Cell → Prop} (h : TrA b ob x Q) (hf : ∀ a ob', Q a ob' → TrA c ob' (f a) R) : TrA (b + c) ob (x >>= f) R := fun n ψ hn q =>
  h n _ (by omega) fun a n' ob' hn' ha => hf a ob' ha n' ψ (by omega) fun a2 n2 ob2 h2 p2 => q a2 n2 ob2 (by omega) p2
theorem TrA.mono {x : Z α} {b c : Nat} {Q R : α → List Cell → Prop} (h : TrA b ob x Q) (hb : b ≤ c) (hp : ∀ a ob', Q a ob' → R a ob') : TrA c ob x R := fun n ψ hn q => h n ψ (by omega) fun a n' ob' hn' ha => q a n' ob' (by omega) (hp a ob' ha)
theorem TrA.le {x : Z α} {b c : Nat} {Q : α → List Cell → Prop} (h : TrA b ob x Q) (hb : b ≤ c) : TrA c ob x Q := h.mono hb fun _ _ z => z
theorem TrA.st {x : Z α} {f : α → Z β} {b d : Nat} {Q : α → List Cell → Prop} {R : β → List Cell → Prop} (h : TrA b ob x Q) (hf : ∀ a ob', Q a ob' → TrA (d - b) ob' (f a) R) (hd : b ≤ d := by decide) : TrA d ob (x >>= f) R := (h.bind hf).le (by omega)
/-- a step without draws -/
theorem TrA.r {x : Z α} {f : α → Z β} {a : α} {b : Nat} {R : β → List Cell → Prop} (h : Run x ob a ob1) (hf : TrA b ob1 (f a) R) : TrA b ob (x >>= f) R := fun n ψ hn q => h n _ (hf n ψ hn q)
theorem TrA.pure {a : α} {Q : α → List Cell → Prop} {b : Nat} (q : Q a ob) : TrA b ob (Pure.pure a) Q := TrA.run Run.pure q
theorem TrA.bL {o : Option α} {a : α} {f : α → Z β} {b : Nat} {R : β → List Cell → Prop} (e : o = some a) (hf : TrA b ob (f a) R) : TrA b ob ((Mo.lift o : Z α) >>= f) R := TrA.r (Run.lift e) hf
/-- a mirror that draws -/
theorem TrA.dr {g : List Sl} {x : W α} {b : Nat} {φ : α → Prop} (hs : okSl g = true) (h : Tri b x φ) : TrA b ob (OverZ.up (hidP g x)) (fun a ob' => φ a ∧ ob' = ob) := fun n ψ hn q => ⟨hs, rfl, h n (fun a n' => ψ a ⟨n', ob⟩) hn fun a n' hn' ha => q a n' ob hn' ⟨ha, rfl⟩⟩
theorem TrA.bD {g : List Sl} {x : W α} {f : α → Z β} {b d : Nat} {φ : α → Prop} {R : β → List Cell → Prop} (hs : okSl g = true) (h : Tri b x φ) (hf : ∀ a, φ a → TrA (d - b) ob (f a) R) (hd : b ≤ d := by decide) : TrA d ob (OverZ.up (hidP g x) >>= f) R :=
  TrA.st (TrA.dr hs h) (fun a ob' ⟨ha, e⟩ => by rw [e]; exact hf a ha) hd
def PostA {A : Type} (I : A → List Cell → Prop) (R : D → Prop) : Fl A → List Cell → Prop
  | .nx a, ob => I a ob
  | .rt d, _ => R d
theorem TrA.loop {A : Type} {f : D → A → Z (Fl A)} {I : List D → A → List Cell → Prop} {R : D → Prop} {c : Nat} (xs : List D) : ∀ (a : A) (ob : List Cell), I xs a ob → (∀ d r a ob, I (d :: r) a ob → TrA c ob (f d a) (PostA (I r) R)) → TrA (xs.length * c) ob (loopM f xs a) (PostA (I []) R) := by
  induction xs with
  | nil => exact fun a ob h _ => TrA.pure (Q := PostA (I []) R) (a := Fl.nx a) h
  | cons d r ih =>
    intro a ob h hf
    refine ((hf d r a ob h).bind (c := r.length * c) fun z ob' hz => ?_).le (by rw [List.length_cons, Nat.succ_mul]; omega)
    cases z with
    | nx a' => exact ih a' ob' hz hf
    | rt v => exact TrA.pure (Q := PostA (I []) R) (a := Fl.rt v) hz
theorem TrA.thM {A : Type} {x : Z (Fl A)} {y : A → Z D} {b d : Nat} {I : A → List Cell → Prop} {R : D → List Cell → Prop} (h : TrA b ob x (PostA I fun _ => False)) (hy : ∀ a ob', I a ob' → TrA (d - b) ob' (y a) R) (hd : b ≤ d := by decide) : TrA d ob (x >>= fun f => DD.thenM f y) R :=
  TrA.st h (fun z ob' hz => by
    cases z with
    | nx a => exact hy a ob' hz
    | rt v => exact hz.elim) hd
theorem TrA.thB {A A' : Type} {x : Z (Fl A)} {y : A → Z (Fl A')} {b d : Nat} {I : A → List Cell → Prop} {R : Fl A' → List Cell → Prop} (h : TrA b ob x (PostA I fun _ => False)) (hy : ∀ a ob', I a ob' → TrA (d - b) ob' (y a) R) (hd : b ≤ d := by decide) : TrA d ob (x >>= fun f => DD.thenB f y) R :=
  TrA.st h (fun z ob' hz => by
    cases z with
    | nx a => exact hy a ob' hz
    | rt v => exact hz.elim) hd
theorem TrA.sat {x : Z D} {b : Nat} (h : TrA b [] x fun d _ => d = .bool true) (hb : b ≤ 2 ^ 40) : Mo.sat x 0 (fun d _ => d = .bool true) (fun _ _ => False) := h 0 (fun d _ => d = .bool true) (by omega) fun _ _ _ _ z => z
end
end DD
namespace DD
open PySem PySem.Spec PyProof.Rows L2
/-! ### mirrors over worlds that raise -/
def ZX (α : Type) : Type := Wd → (α → Wd → Prop) → (Exn → Wd → Prop) → Prop
instance : Mo ZX where
  pure := fun a n φ _ => φ a n
  bind := fun x f n φ ξ => x n (fun a n' => f a n' φ ξ) ξ
  sat := fun z n φ ξ => z n φ ξ
  lift := fun o n φ _ => ∃ a, o = some a ∧ φ a n
  sat_pure := fun h => h
  sat_bind := fun h => h
  sat_lift := fun ⟨a, e, h⟩ => ⟨a, e, h⟩
instance : OverZ ZX := ⟨fun z n φ _ => z n φ, fun h => h⟩
instance : MoX ZX := ⟨fun e n _ ξ => ξ e n, fun h => h⟩
instance : Up Z ZX := ⟨fun z n φ _ => z n φ, fun h => h⟩
instance : Tr ZX Z := ⟨fun x h n φ => x n φ fun e n' => h e n' φ, fun s => s⟩
abbrev upZ {α : Type} (z : Z α) : ZX α := Up.up (m' := Z) (m := ZX) z
def calmZ {α : Type} (x : ZX α) : Z α := fun n φ => x n φ fun _ _ => False
def hidX {α : Type} (g : List Sl) (x : Xo α) : ZX α := fun n φ ξ => okSl g = true ∧ ((∃ a, x = some (.ok a) ∧ φ a n) ∨ ∃ e, x = some (.error e) ∧ ξ e n)
section
variable {X : Cx} {EX : XR} {g : List Sl}
theorem ej_calmZ {e : Expr} {x : ZX D} (h : EJ (m := ZX) X (XN g) e g x) : EJ (m := Z) X EX e g (calmZ x) :=
  PE.weak h fun σ H Q ⟨B, G, n, φ, ξ, o, s, q, _⟩ => ⟨B, G, n, φ, fun _ _ => False, o, s, q, fun _ _ _ _ _ _ _ h => False.elim h⟩
theorem sj_up {m' m : Type → Type} [Mo m'] [Mo m] [Up m' m] {A : Type} {s : Stmt} {x : m' A} {P : A → List Sl} (h : SJ X EX s g x P) : SJ (m := m) X EX s g (Up.up x) P :=
  PS.weak h fun De σ H ⟨B, G, n, φ, ξ, o, s, q, xw⟩ => ⟨B, G, n, φ, ξ, o, Up.sat_up s, q, xw⟩
end
/-- f(a, *b): .. -/
theorem pe_xS {X : Cx} {k : Nat} {f : Addr} {fd : FuncData} {ps : List Str} {x : Str} {p pos : Pos} {e : Expr} {es : List Expr} {t : TA} {sp : Sp} {W : WX} (F : FnX X.prog X.w X.K X.mg X.base k f fd ps sp) (hr : Room k X.A) (gu : X.A.guards = some []) (tk : Takes X W) (hg : Gl X x) (hm : X.mg x = some (.ref f)) (hk : PySem.W.keepIn X.K (.ref f) = true) (hb : Binds X.K fd ps [])
    (ha : PA X (e :: es) t) (hd : (x == ("__debug__" : Str)) = false) (he : starEach (e :: es) X.env = (false, eval e X.env) :: starEach es X.env) (hst : (backTo pos (starEach es X.env)).any (·.1) = true) : PE X (.Call (.Name x p) (e :: es) [] pos) (fun σ H Q => t σ H fun vs H1 => sp vs H1 Q (WE W σ)) :=
  ⟨fun pins s σ H Q I h => wpAny_Call_Name_kw (ld_glob I hg hm (PySem.W.callWith_S2 (h₀ := X.base) I.ok.mod.kin hk (thn (ha.run pos pins s σ H _ I h) fun us s1 ⟨vs, H1, I1, r, q⟩ => ⟨I1.kIn, call_x F hr gu hb tk I1 r q⟩) he hst) hd)⟩
section
variable {X : Cx} {EX : XR} {g : List Sl}
/-- f(..), a plain def that may raise, of arguments that things that may change have given -/
theorem ej_callHXSt {k : Nat} {ps : List Str} {x : Str} {p pos : Pos} {e : Expr} {es : List Expr} {F : List Sl → Xo D} {y : ZX (List Sl)} (Fn : DefX X.prog X.w X.K X.mg X.base k x ps (spX X.K X.mg F)) (hr : Room k X.A) (gu : X.A.guards = some []) (tk : Takes X EX.w) (sb : Sub g EX.g)
    (ha : AJ X EX (e :: es) g y) (hg : Gl X x := by rfl) (hd : (x == ("__debug__" : Str)) = false := by decide) (he : starEach (e :: es) X.env = (false, eval e X.env) :: starEach es X.env := by rfl) (hpl : (backTo pos (starEach es X.env)).any (·.1) = true := by rfl) :
    EJ X EX (.Call (.Name x p) (e :: es) [] pos) g (y >>= fun as => hidX as (F as)) := by
  obtain ⟨f, fd, Fn, hm, hk, hb⟩ := Fn.ex
  exact (pe_xS Fn hr gu tk hg hm hk hb ha hd he hpl).weak fun σ H Q ⟨B, G, n, φ, ξ, o, s, q, xw⟩ => ⟨B, G, n, _, ξ, o, Mo.sat_bind s, fun vs H1 G1 as n1 o1 g1 a1 s1 => by
    obtain ⟨hs, sx⟩ := (show okSl as = true ∧ ((∃ a, F as = some (.ok a) ∧ φ a n1) ∨ ∃ e, F as = some (.error e) ∧ ξ e n1) from s1)
    have oh := o1.hide0 (g' := g.map fun _ => Sl.any) (sub_any (all_any g) (by rw [List.length_map])) (okSl_any g) (noOwns_any g)
    have sat : Mo.sat (F as) ⟨n1.n, []⟩ (fun a n' => n' = ⟨n1.n, []⟩ ∧ φ a n1) (fun e n' => n' = ⟨n1.n, []⟩ ∧ ξ e n1) := by
      refine ⟨rfl, ?_⟩
      rcases sx with ⟨a, ea, p⟩ | ⟨e, ee, p⟩
      · exact .inl ⟨a, ea, rfl, p⟩
      · exact .inr ⟨e, ee, rfl, p⟩
    refine ⟨hid G1, ⟨n1.n, []⟩, B.dk, as, _, _, argsHid (B := B) (B' := ⟨H1, hid G1, B.dk, hid G1⟩) rfl a1 hs, oh.fm, sat, fun v H' G' d n' f' dv ⟨hn, p⟩ => ?_, fun e' c od H' G' n' f' ex ⟨hn, p⟩ => ?_⟩
    · subst hn
      obtain ⟨o2, g2, g3⟩ := hidP_back o1 rfl f'
      exact q v H' _ d n1 o2 (g1.trans g2) (dv.mono g3) p
    · subst hn
      obtain ⟨o2, g2, g3⟩ := hidP_back o1 rfl f'
      obtain ⟨C, k1, k2, k3⟩ := ex
      exact xw e' n1 σ H' _ c od p (o2.forget sb) ⟨C, k1, k2, k3.mono g3⟩, xw⟩
end
/-! methods that raise -/
theorem pe_mX0 {X : Cx} {k : Nat} {C f : Addr} {fd : FuncData} {ps : List Str} {sp : Sp} {W : WX} {pos apos : Pos} {pl : Sem Bool} {o : Expr} {mn : Str} {ta : TE} (he : PE X o ta) (c : Cls X.K C) (hm : Meth X.K C mn f) (F : FnX X.prog X.w X.K X.mg X.base k f fd ps sp) (hr : Room k X.A) (gu : X.A.guards = some []) (tk : Takes X W) (hb : Binds X.K fd ps [])
    (ht : MethAt X o mn apos pos [] pl) : PE X (.Call (.Attribute o mn apos) [] [] pos) (tM C mn ta tNil sp fun σ => WE W σ) := by
  refine ⟨fun pins s σ H Q I h => PySem.W.methodCall_KW (pl := pl) (thn (he.run pins s σ H _ I h) fun u s1 ⟨x, H1, I1, rx, a, dx, fs, ex, ea, l, q⟩ => ?_) ht⟩
  subst ex
  obtain rfl : u = Value.ref a := rx
  exact getmeth_ok I1 ea c hm l (PySem.W.callWith_K0 (first := [.ref a]) I1.kIn hm.kp (call_x (us := [.ref a]) (vs := [.ref a]) F hr gu hb tk I1 (.cons rfl .nil) q))
theorem call_xD {X : Cx} {k : Nat} {f : Addr} {fd : FuncData} {ps : List Str} {pins : List (Addr × Obj)} {σ : L2.St} {H : Hp} {s : Shared} {Q : VK} {us ws : List Value} {vs dvs : List V} {sp : Sp} {W : WX} (F : FnX X.prog X.w X.K X.mg X.base k f fd ps sp) (hr : Room k X.A) (gu : X.A.guards = some []) (tk : Takes X W) (hb : Binds X.K fd ps ws)
    (I : Inv X pins σ H s) (r : Vals vs us) (rd : Vals dvs ws) (h : sp (vs ++ dvs) H Q (WE W σ)) : wpAny (model X.prog X.w) X.A (call (.ref f) us) (EP X pins σ Q) X.xe s := by
  have rr := r.append rd
  have bd := hb s us I.kIn (by rw [← rr.length]; exact F.len _ _ _ _ h)
  refine wpAny_call (codeAny_mono (F.run X.A X.stack s H ⟨us, []⟩ (us ++ ws) (vs ++ dvs) Q (WE W σ) hr gu I.env0 bd rr h) fun z s' hq => ?_)
  cases z with
  | error e => exact passAt tk σ pins H s e s' I hq
  | ok fl =>
    cases fl with
    | ret u => exact I.after hq
    | next => exact False.elim hq
    | brk => exact False.elim hq
    | cont => exact False.elim hq
section
variable (P : Program) (w : World) (K : PySem.W.Frag) (mg : Str → Option Value) (base : Heap) (k : Nat) (c : Str) (ps : List Str)
structure MthXD (mn : Str) (n : Nat) (ds : List D) (sp : Sp) : Prop where
  ex : ∃ C f fd dvs us, ClsOk K c C ∧ Meth K C mn f ∧ FnX P w K mg base k f fd ps sp ∧ Binds K fd ps us ∧ Vals dvs us ∧ ∀ G, DaAll K G dvs ds
end
section
variable {m : Type → Type} [Mo m] [OverZ m] {X : Cx} {EX : XR} {g : List Sl} {k : Nat} {ps : List Str} {p pos apos : Pos} {c mn : Str} {ob e a : Expr} {es : List Expr} {x : m D} {F : List Sl → m D}
theorem ej_newZX {y : m (List Sl)} (Fn : MkX X.prog X.w X.K X.mg X.base k c ps (spX X.K X.mg F)) (hr : Room (k + 1) X.A) (gu : X.A.guards = some []) (tk : Takes X EX.w) (sb : Sub g EX.g)
    (ha : AJ X EX (e :: es) g y) (hg : Gl X c := by rfl) (hd : (c == ("__debug__" : Str)) = false := by decide) (he : starEach (e :: es) X.env = (false, eval e X.env) :: starEach es X.env := by rfl) (hpl : (backTo pos (starEach es X.env)).any (·.1) = false := by rfl) :
    EJ X EX (.Call (.Name c p) (e :: es) [] pos) g (y >>= fun as => OverZ.up (newI c) >>= fun d => F (.val d :: as) >>= fun r => Mo.lift (nonO r) >>= fun _ => pure d) := by
  obtain ⟨C, f, fd, hcl, hm, M, Fn, hb⟩ := Fn.ex
  exact (pe_makeX M Fn hr gu tk hg hm hb ha hd he hpl).weak fun σ H Q ⟨B, G, n, φ, ξ, o, s, q, xw⟩ => ⟨B, G, n, _, ξ, o, Mo.sat_bind s, fun us H1 G1 as n1 o1 g1 a1 s1 => fun x dx hx hdx hne => by
    have s2 := OverZ.sat_up (Mo.sat_bind s1)
    have s2 : Mo.sat (F (.val (refD n1.ob.length) :: as) >>= fun r => Mo.lift (nonO r) >>= fun _ => pure (refD n1.ob.length)) ⟨n1.n, n1.ob ++ [.ins c []]⟩ φ ξ := s2
    obtain ⟨o2, g2⟩ := o1.insN hx hdx hne hcl
    refine ⟨_, _, B.dk, .val (refD n1.ob.length) :: as, _, ξ, .cons (.obj upd_same) (ArgsOk.base (B := B) (B' := ⟨upd (upd H1 dx (.own x)) x (.ins C dx []), upd G1 x (.own n1.ob.length), B.dk, upd G1 x (.own n1.ob.length)⟩) rfl (a1.mono g2)), o2.fm.at_call, Mo.sat_bind s2, fun v H' G' d' n' f' dv p => ?_, fun e' c' od H' G' n' f' ex hx => ?_⟩
    · obtain ⟨u, eu, p⟩ := Mo.sat_lift (Mo.sat_bind p)
      obtain ⟨o3, g3⟩ := Fm.back o2 (.inr rfl) f'
      exact ⟨dv.nonO eu, q _ H' G' _ n' o3 ((g1.trans g2).trans g3) (.obj (g3 _ _ upd_same)) (Mo.sat_pure p)⟩
    · obtain ⟨o3, g3⟩ := Fm.back o2 (.inr rfl) f'
      exact xw e' n' σ H' G' c' od hx (o3.forget sb) ex, xw⟩
/-- o.m(..) -/
theorem ej_methZX {pl : Sem Bool} {y : m (List Sl)} (Fn : MthX X.prog X.w X.K X.mg X.base k c mn ps (spX X.K X.mg F)) (hr : Room k X.A) (gu : X.A.guards = some []) (tk : Takes X EX.w) (sb : Sub g EX.g)
    (ho : EJ X EX ob g x) (ha : AJ X EX (e :: es) g y) (hst : starEach (e :: es) X.env = (false, eval e X.env) :: starEach es X.env := by rfl) (hpl : (backTo pos (starEach es X.env)).any (·.1) = false := by rfl) (ht : MethAt X ob mn apos pos (e :: es) pl := by rfl) :
    EJ X EX (.Call (.Attribute ob mn apos) (e :: es) [] pos) g (x >>= fun d => OverZ.up (selfZ c mn d) >>= fun _ => y >>= fun as => F (.val d :: as)) := by
  obtain ⟨C, f, fd, hcl, hm, Fn, hb⟩ := Fn.ex
  exact (pe_mX ho hcl.cl hm Fn hr gu tk hb ha hst hpl ht).weak fun σ H Q ⟨B, G, n, φ, ξ, o, s, q, xw⟩ => te_one o s (fun v H1 G1 d n1 o1 g1 d1 s1 => by
    have s2 : selfZ c mn d n1 _ := OverZ.sat_up (Mo.sat_bind s1)
    obtain ⟨k, fs, ek, hk, el, s2⟩ := selfZ_out s2
    obtain ⟨a, C', dx, vs, rfl, ga, ck, ea, hl, da⟩ := o1.insAt d1 ek hk
    obtain rfl := hcl.one ck
    refine ⟨a, dx, vs, rfl, ea, (lkp_da hl da).2 el, B, G1, n1, _, ξ, o1, Mo.sat_bind s2, fun us H2 G2 as n2 o2 g2 a2 s3 => ?_, xw⟩
    refine ⟨G2, n2, B.dk, .val d :: as, φ, ξ, .cons (d1.mono g2) (ArgsOk.base (B := B) (B' := ⟨H2, G2, B.dk, G2⟩) rfl a2), o2.fm.at_call, s3, fun v H' G' d' n' f' dv p => ?_, fun e' c' od H' G' n' f' ex hx => ?_⟩
    · obtain ⟨o3, g3⟩ := Fm.back o2 (.inr rfl) f'
      exact q v H' G' d' n' o3 ((g1.trans g2).trans g3) dv p
    · obtain ⟨o3, g3⟩ := Fm.back o2 (.inr rfl) f'
      exact xw e' n' σ H' G' c' od hx (o3.forget sb) ex) xw
/-- o.m() -/
theorem ej_methZX0 {pl : Sem Bool} (Fn : MthX X.prog X.w X.K X.mg X.base k c mn ps (spX X.K X.mg F)) (hr : Room k X.A) (gu : X.A.guards = some []) (tk : Takes X EX.w) (sb : Sub g EX.g) (ho : EJ X EX ob g x) (ht : MethAt X ob mn apos pos [] pl := by rfl) :
    EJ X EX (.Call (.Attribute ob mn apos) [] [] pos) g (x >>= fun d => OverZ.up (selfZ c mn d) >>= fun _ => F [.val d]) := by
  obtain ⟨C, f, fd, hcl, hm, Fn, hb⟩ := Fn.ex
  exact (pe_mX0 ho hcl.cl hm Fn hr gu tk hb ht).weak fun σ H Q ⟨B, G, n, φ, ξ, o, s, q, xw⟩ => te_one o s (fun v H1 G1 d n1 o1 g1 d1 s1 => by
    have s2 : selfZ c mn d n1 _ := OverZ.sat_up (Mo.sat_bind s1)
    obtain ⟨k, fs, ek, hk, el, s2⟩ := selfZ_out s2
    obtain ⟨a, C', dx, vs, rfl, ga, ck, ea, hl, da⟩ := o1.insAt d1 ek hk
    obtain rfl := hcl.one ck
    refine ⟨a, dx, vs, rfl, ea, (lkp_da hl da).2 el, G1, n1, B.dk, [.val d], φ, ξ, .cons d1 .nil, o1.fm.at_call, s2, fun v H' G' d' n' f' dv p => ?_, fun e' c' od H' G' n' f' ex hx => ?_⟩
    · obtain ⟨o3, g3⟩ := Fm.back o1 (.inr rfl) f'
      exact q v H' G' d' n' o3 (g1.trans g3) dv p
    · obtain ⟨o3, g3⟩ := Fm.back o1 (.inr rfl) f'
      exact xw e' n' σ H' G' c' od hx (o3.forget sb) ex) xw
theorem args_dats {K : PySem.W.Frag} {B : Bs} {G : Hp} : ∀ {vs : List V} {ds : List D}, DaAll K G vs ds → ArgsOk K B G vs (ds.map .val)
  | _, _, .nil => .nil
  | _, _, .cons a b => .cons a (args_dats b)
end
/-! raise C(), C without an __init__ of its own -/
structure Er0 (K : PySem.W.Frag) (mg : Str → Option Value) (c : Str) (C : Addr) : Prop where
  nm : mg c = some (.ref C)
  q : PySem.W.excIn K C [.type "ValueError", .type "Exception", .type "BaseException", .type "object"] "ValueError.__new__" = true
  kp : PySem.W.keepIn K (.ref C) = true
  rs : PySem.W.subIn K (.ref C) (.type "BaseException") = some true
  ty : PySem.W.typeIn K (.ref C) = some (.type "type")
section
variable {X : Cx} {C : Addr} {bmB : List Value} {B newId initId : String}
theorem pmk_own0 {x : Str} {p pos : Pos} (F : PySem.ExcBaseFacts B newId initId bmB) (q : PySem.W.excIn X.K C bmB newId = true) (gC : X.mg x = some (.ref C)) (kC : PySem.W.keepIn X.K (.ref C) = true) (r : Raises X (.ref C)) (hg : Gl X x)
    (hdb : (x == ("__debug__" : Str)) = false) : PMk X (.Call (.Name x p) [] [] pos) (fun _ H Q => Q (.ref C) none H) := by
  intro pins s σ H Q I h
  refine wpAny_Call_Name_kw (ld_glob I hg gC ?_ hdb)
  refine PySem.W.callWith_K0 (first := []) I.kIn kC ?_
  obtain ⟨bm, N, nm, qn, bs, hdct, sn, sub, ab, col, dd, k0, k1, k2, k3, k5, mN, hC, hN, hni, T⟩ := exc_obj I.kIn q
  refine wpAny_call_exc_subT F T hC hN hni (fun h' e hm => ?_) (by show 0 ≤ sizeLine; omega)
  exact mk_of I hm r h (I.hok.gone hm.new)
end
section
variable {m : Type → Type} [Mo m] [MoX m] {A : Type} {X : Cx} {EX : XR} {g : List Sl} {fall : Bool}
theorem raise0 {c : Str} {C : Addr} {p pos pos2 : Pos} (R : Er0 X.K X.mg c C) (hc : X.calm = true) (tk : Takes X EX.w) (sb : Sub g EX.g) (hg : Gl X c) (hd : (c == ("__debug__" : Str)) = false)
    {σ : L2.St} {H : Hp} {De : Ends} {α : Type} (h : ∃ B G n φ ξ, Ok X.K B g σ H G n ∧ Mo.sat (MoX.throw ⟨c, []⟩ : m α) n φ ξ ∧ Xw X B EX ξ) : ∃ t, PS X (.Raise (some (.Call (.Name c p) [] [] pos)) none pos2) t ∧ t De σ H := by
  refine ⟨_, ps_raise hc tk (pmk_own0 PySem.F.excBase_ValueError R.q R.nm R.kp (raises_own R.rs R.ty) hg hd), ?_⟩
  obtain ⟨B, G, n, φ, ξ, o, s, xw⟩ := h
  exact xw ⟨c, []⟩ n σ H G (.ref C) none (MoX.sat_throw s) (o.forget sb) ⟨C, R.nm, rfl, .inl ⟨rfl, rfl⟩⟩
theorem fj_raise0 {c : Str} {C : Addr} {p pos pos2 : Pos} {rest : List Stmt} (R : Er0 X.K X.mg c C) (hc : X.calm = true) (tk : Takes X EX.w) (sb : Sub g EX.g) (hg : Gl X c := by rfl) (hd : (c == ("__debug__" : Str)) = false := by decide) :
    FJ X EX fall (.Raise (some (.Call (.Name c p) [] [] pos)) none pos2 :: rest) g (MoX.throw (m := m) ⟨c, []⟩) :=
  ⟨fun pins s σ H De I ⟨B, G, n, φ, ξ, o, st, q1, q2, xw⟩ => by
    obtain ⟨t, h1, h2⟩ := raise0 (α := D) (De := { De with nx := fun _ _ => False }) R hc tk sb hg hd ⟨B, G, n, φ, ξ, o, st, xw⟩
    exact (pss_cons h1 (u := tNever) ⟨fun _ _ _ _ _ _ h => h.elim⟩).run pins s σ H De I h2⟩
end
section
variable {P : Program} {w : World} {K : PySem.W.Frag} {mg : Str → Option Value} {base : Heap} {k : Nat} {x qual : Str} {st : Stmt} {f : Addr} {fd : FuncData} {N ps : List Str} {m : Type → Type} [Mo m]
theorem fnx_ar4 {F : D → D → D → D → m D} (Fu : Fun K x qual st f fd) (S : FnScope N ps (defScope st)) (hl : ps.length = 4)
    (hb : ∀ (a0 a1 a2 a3 : D), ∀ (cdv : Value) (A : Around) (outer : List Env) (s : Shared) (H : Hp) (E : XK), Room k (A.deeper (envOfC qual (defScope st) s.heap.objs.size f cdv)) → A.guards = some [] →
      FJ (cxOf (L2.CX P w) P w K mg base N qual (defScope st) f cdv A outer s H E) (xrOf N E) true (defBody st) ([Sl.val a0, Sl.val a1, Sl.val a2, Sl.val a3] ++ List.replicate (N.length - 4) .any) (F a0 a1 a2 a3)) : FnX P w K mg base (k + 1) f fd ps (spX K mg (ar4 F)) := by
  refine fn_jx Fu S fun as n φ ξ s => ?_
  unfold ar4 at s
  split at s
  · exact ⟨hl.symm, hb _ _ _ _⟩
  · exact no_sat s
end
end DD
namespace DD
open PySem PySem.Spec PyProof.Rows L2
/-! ### reasoning about cells: mirrors that raise -/
def RunX {α : Type} (x : ZX α) (ob : List Cell) (a : α) (ob' : List Cell) : Prop := ∀ (n : Nat) (φ : α → Wd → Prop) (ξ : Exn → Wd → Prop), φ a ⟨n, ob'⟩ → x ⟨n, ob⟩ φ ξ
def ThrX {α : Type} (x : ZX α) (ob : List Cell) (e : Exn) (ob' : List Cell) : Prop := ∀ (n : Nat) (φ : α → Wd → Prop) (ξ : Exn → Wd → Prop), ξ e ⟨n, ob'⟩ → x ⟨n, ob⟩ φ ξ
section
variable {α β : Type} {ob ob1 ob2 : List Cell} {e : Exn}
theorem Run.rx {x : Z α} {a : α} (h : Run x ob a ob1) : RunX (upZ x) ob a ob1 := fun n φ ξ q => h n φ q
theorem Run.ox {x : Z α} {a : α} (h : Run x ob a ob1) : RunX (OverZ.up x) ob a ob1 := fun n φ ξ q => h n φ q
theorem Run.oz {x : Z α} {a : α} (h : Run (OverZ.up x : Z α) ob a ob1) : Run x ob a ob1 := h
theorem RunX.pure {a : α} : RunX (Pure.pure a) ob a ob := fun n φ ξ h => h
theorem RunX.bind {x : ZX α} {f : α → ZX β} {a : α} {b : β} (h : RunX x ob a ob1) (hf : RunX (f a) ob1 b ob2) : RunX (x >>= f) ob b ob2 := fun n φ ξ q => h n _ ξ (hf n φ ξ q)
theorem RunX.lift {o : Option α} {a : α} (e : o = some a) : RunX (Mo.lift o) ob a ob := fun n φ ξ q => ⟨a, e, q⟩
theorem RunX.bL {o : Option α} {a : α} {f : α → ZX β} {b : β} (e : o = some a) (hf : RunX (f a) ob b ob2) : RunX ((Mo.lift o : ZX α) >>= f) ob b ob2 := (RunX.lift e).bind hf
theorem RunX.bU {x : Z α} {f : α → ZX β} {a : α} {b : β} (h : Run x ob a ob1) (hf : RunX (f a) ob1 b ob2) : RunX (upZ x >>= f) ob b ob2 := h.rx.bind hf
theorem RunX.bO {x : Z α} {f : α → ZX β} {a : α} {b : β} (h : Run x ob a ob1) (hf : RunX (f a) ob1 b ob2) : RunX (OverZ.up x >>= f) ob b ob2 := h.ox.bind hf
theorem ThrX.throw : ThrX (MoX.throw e : ZX α) ob e ob := fun n φ ξ h => h
theorem ThrX.here {x : ZX α} {f : α → ZX β} (h : ThrX x ob e ob1) : ThrX (x >>= f) ob e ob1 := fun n φ ξ q => h n _ ξ q
theorem RunX.thr {x : ZX α} {f : α → ZX β} {a : α} (h : RunX x ob a ob1) (hf : ThrX (f a) ob1 e ob2) : ThrX (x >>= f) ob e ob2 := fun n φ ξ q => h n _ ξ (hf n φ ξ q)
theorem RunX.hid {g : List Sl} {x : Xo α} {a : α} (hs : okSl g = true) (e : x = some (.ok a)) : RunX (hidX g x) ob a ob := fun n φ ξ q => ⟨hs, .inl ⟨a, e, q⟩⟩
theorem ThrX.hid {g : List Sl} {x : Xo α} (hs : okSl g = true) (h : x = some (.error e)) : ThrX (hidX g x) ob e ob := fun n φ ξ q => ⟨hs, .inr ⟨e, h, q⟩⟩
theorem RunX.calm {x : ZX α} {a : α} (h : RunX x ob a ob1) : Run (calmZ x) ob a ob1 := fun n φ q => h n φ _ q
theorem TrA.calm {x : ZX α} {a : α} {f : α → Z β} {b : Nat} {R : β → List Cell → Prop} (h : RunX x ob a ob1) (hf : TrA b ob1 (f a) R) : TrA b ob (calmZ x >>= f) R := TrA.r h.calm hf
/-- what a mirror that raises does: the value and the cells, or the error, the cells as they were -/
def OutX (x : ZX α) (ob : List Cell) : Except Exn (α × List Cell) → Prop
  | .ok (a, ob') => RunX x ob a ob'
  | .error e => ThrX x ob e ob
theorem OutX.bind {x : ZX α} {f : α → ZX β} {a : α} {r : Except Exn (β × List Cell)} (h : RunX x ob a ob) (hf : OutX (f a) ob r) : OutX (x >>= f) ob r := by
  cases r with
  | ok p => exact h.bind hf
  | error e => exact h.thr hf
theorem OutX.bU {x : Z α} {f : α → ZX β} {a : α} {r : Except Exn (β × List Cell)} (h : Run x ob a ob) (hf : OutX (f a) ob r) : OutX (upZ x >>= f) ob r := OutX.bind h.rx hf
theorem OutX.bO {x : Z α} {f : α → ZX β} {a : α} {r : Except Exn (β × List Cell)} (h : Run x ob a ob) (hf : OutX (f a) ob r) : OutX (OverZ.up x >>= f) ob r := OutX.bind h.ox hf
theorem OutX.bL {o : Option α} {f : α → ZX β} {a : α} {r : Except Exn (β × List Cell)} (e : o = some a) (hf : OutX (f a) ob r) : OutX ((Mo.lift o : ZX α) >>= f) ob r := OutX.bind (RunX.lift e) hf
end
/-! two steps in order, for binds in Z written with the monad's own bind -/
section
variable {m : Type → Type}
theorem zx_assoc {α β γ : Type} (x : ZX α) (f : α → ZX β) (g : β → ZX γ) : (x >>= f) >>= g = x >>= fun a => f a >>= g := rfl
theorem zx_pure {α β : Type} (a : α) (f : α → ZX β) : (Pure.pure a >>= f) = f a := rfl
theorem zx_some {α β : Type} (a : α) (f : α → ZX β) : ((Mo.lift (some a) : ZX α) >>= f) = f a := by
  funext n φ ξ
  exact propext ⟨fun ⟨b, e, h⟩ => by cases e; exact h, fun h => ⟨a, rfl, h⟩⟩
theorem upz_pure {α : Type} (a : α) : (upZ (Pure.pure a) : ZX α) = Pure.pure a := rfl
end
end DD
namespace DD
open PySem PySem.Spec PyProof.Rows L2
/-! ### a, b = a tuple or a list -/
def pairA : D → Option (D × D)
  | .tuple [a, b] => some (a, b)
  | .list [a, b] => some (a, b)
  | _ => none
def tripA : D → Option (D × D × D)
  | .tuple [a, b, c] => some (a, b, c)
  | .list [a, b, c] => some (a, b, c)
  | _ => none
def quadA : D → Option (D × D × D × D)
  | .tuple [a, b, c, d] => some (a, b, c, d)
  | .list [a, b, c, d] => some (a, b, c, d)
  | _ => none
section
variable {m : Type → Type} [Mo m] {X : Cx} {EX : XR} {g : List Sl}
abbrev unp2A (x : m D) : m (D × D) := x >>= fun d => Mo.lift (pairA d)
abbrev unp3A (x : m D) : m (D × D × D) := x >>= fun d => Mo.lift (tripA d)
abbrev unp4A (x : m D) : m (D × D × D × D) := x >>= fun d => Mo.lift (quadA d)
theorem sj_unp2A (i j : Nat) {elts : List Expr} {kk : Nat} {tpos : Pos} {e : Expr} {pos : Pos} {x : m D} (h : EJ X EX e g x) (h1t : PG X (.Tuple elts kk tpos) (gTup X.K 2 (gCons (gName i) (gCons (gName j) gNil)))) (h1l : PG X (.Tuple elts kk tpos) (gUnl X.K 2 (gCons (gName i) (gCons (gName j) gNil))))
    (hs : swapsWithSole [.Tuple elts kk tpos] e pos.line X.env = pure false := by kernel_rfl) (hw : swappedStores [.Tuple elts kk tpos] e X.env = pure none := by kernel_rfl)
    (h1 : (assignEach [.Tuple elts kk tpos] X.env).map (·.2) = [assign (.Tuple elts kk tpos) X.env] := by rfl) : SJ X EX (.Assign [.Tuple elts kk tpos] e pos) g (unp2A x) (fun de => (g.set i (.val de.1)).set j (.val de.2)) := by
  have hor : PG X (.Tuple elts kk tpos) (fun v σ H Q => gTup X.K 2 (gCons (gName i) (gCons (gName j) gNil)) v σ H Q ∨ gUnl X.K 2 (gCons (gName i) (gCons (gName j) gNil)) v σ H Q) :=
    ⟨fun pins s σ H v u Q I r hw => hw.elim (fun hw => h1t.run pins s σ H v u Q I r hw) fun hw => h1l.run pins s σ H v u Q I r hw⟩
  refine (ps_asg h hor hs hw h1).weak fun De σ H ⟨B, G, n, φ, ξ, o, s, q, xw⟩ => te_one o s (fun v H1 G1 d n1 o1 g1 d1 s1 => ?_) xw
  obtain ⟨de, ed, pd⟩ := Mo.sat_lift s1
  unfold pairA at ed
  split at ed
  · cases ed
    cases d1 with
    | tup h da =>
        cases da with
        | cons e1 da =>
          cases da with
          | cons e2 da =>
            cases da
            exact .inl ⟨_, _, rfl, sameT o1.fm.sub h, rfl, _, _, rfl, _, _, rfl, rfl, q _ _ _ G1 n1 ((o1.setV e1).setV e2) g1 pd⟩
  · cases ed
    cases d1 with
    | lst h da =>
        cases da with
        | cons e1 da =>
          cases da with
          | cons e2 da =>
            cases da
            exact .inr ⟨_, _, rfl, .of (o1.fm.sub.h _ _ h rfl), rfl, _, _, rfl, _, _, rfl, rfl, q _ _ _ G1 n1 ((o1.setV e1).setV e2) g1 pd⟩
  · cases ed
end
end DD
namespace DD
open PySem PySem.Spec PyProof.Rows L2
/-! ### o.m(.., k = v) -/
/-! ### x == [], x != [], x a list that changes -/
section
variable {X : Cx} {EX : XR} {g : List Sl}
theorem da_last {K : PySem.W.Frag} {G : Hp} {d : D} : ∀ {xs : List V} {ds : List D}, DaAll K G xs ds → ds[ds.length - 1]? = some d → (∃ v, xs[xs.length - 1]? = some v ∧ Da K G v d) ∧ DaAll K G xs.dropLast ds.dropLast
  | [], [], _, h => by simp at h
  | [x], [e], .cons a .nil, h => by
    simp at h
    subst h
    exact ⟨⟨x, rfl, a⟩, .nil⟩
  | x :: x2 :: xs, e :: e2 :: ds, .cons a b, h => by
    have hl := b.length
    have h' : (e2 :: ds)[(e2 :: ds).length - 1]? = some d := by simpa using h
    obtain ⟨⟨v, h1, h2⟩, h3⟩ := da_last b h'
    exact ⟨⟨v, by simpa using h1, h2⟩, .cons a h3⟩
  | [_], _ :: _ :: _, .cons _ b, _ => by cases b
  | _ :: _ :: _, [_], .cons _ b, _ => by cases b
/-- o.pop() -/
theorem sj_popZ {o0 : Expr} {apos cpos pos : Pos} {y : Z D} (ho : EJ X EX o0 g y)
    (hbase : attributeBase o0 "pop" X.env (eval o0 X.env) = eval o0 X.env := by rfl) (hline : (apos.endLine == cpos.line) = true := by rfl) (hw : swapsWith (.Call (.Attribute o0 "pop" apos) [] [] cpos) none pos.line X.env = pure false := by rfl) :
    SJ X EX (.Expr (.Call (.Attribute o0 "pop" apos) [] [] cpos) pos) g (y >>= fun d => popZ d) (fun _ => g) :=
  (ps_expr (pe_bm0 PySem.F.plainAttrs_list PySem.F.slot_list_pop PySem.F.type_list_pop mt_pop ho hbase hline) hw).weak fun De σ H ⟨B, G, n, φ, ξ, o, s, q, xw⟩ => te_one o s (fun v H1 G1 d n1 o1 g1 d1 s1 => by
    obtain ⟨k, ek, ds, hk, e, he, p⟩ := (show ∃ k, celOf d = some k ∧ ∃ ds, n1.ob[k]? = some (.lst ds) ∧ ∃ e, ds[ds.length - 1]? = some e ∧ φ e ⟨n1.n, n1.ob.set k (.lst ds.dropLast)⟩ from s1)
    obtain ⟨a, ds', xs, rfl, ga, h1, hH, da⟩ := o1.cellAt d1 ek
    rw [hk] at h1
    cases h1
    obtain ⟨⟨y, hy, dy⟩, dl⟩ := da_last da he
    exact ⟨.inl ⟨rfl, xs, .inl (.inl hH)⟩, a, xs, y, rfl, rfl, hH, hy, q e _ _ G1 _ (o1.putC ga dl) g1 p⟩) xw
end
end DD
namespace DD
open PySem PySem.Spec PyProof.Rows L2
/-! ### try: body, several clauses: except C as n, except (C, C2) as n -/
/-- the test of a clause -/
inductive ClT (X : Cx) : Expr → List Value → Prop
  | one {x : Str} {c : Value} {p : Pos} : Names X x c → ClT X (.Name x p) [c]
  | two {x1 x2 : Str} {c1 c2 : Value} {p1 p2 p : Pos} {j : Nat} : Names X x1 c1 → Names X x2 c2 → ClT X (.Tuple [.Name x1 p1, .Name x2 p2] j p) [c1, c2]
  | three {x1 x2 x3 : Str} {c1 c2 c3 : Value} {p1 p2 p3 p : Pos} {j : Nat} : Names X x1 c1 → Names X x2 c2 → Names X x3 c3 → ClT X (.Tuple [.Name x1 p1, .Name x2 p2, .Name x3 p3] j p) [c1, c2, c3]
  | four {x1 x2 x3 x4 : Str} {c1 c2 c3 c4 : Value} {p1 p2 p3 p4 p : Pos} {j : Nat} : Names X x1 c1 → Names X x2 c2 → Names X x3 c3 → Names X x4 c4 → ClT X (.Tuple [.Name x1 p1, .Name x2 p2, .Name x3 p3, .Name x4 p4] j p) [c1, c2, c3, c4]
/-- what a clause's name holds behind its suite: nothing -/
def off (i : Nat) (De : Ends) : Ends := { nx := fun τ H => De.nx (τ.set i none) H, rt := De.rt, bk := fun τ H => De.bk (τ.set i none) H, ct := fun τ H => De.ct (τ.set i none) H }
abbrev Cls : Type := List Value × Nat × (Addr → Value → Option Addr → TS)
inductive HdL (X : Cx) : List ExceptHandler → List Cls → Prop
  | nil : HdL X [] []
  | cons {te : Expr} {cs : List Value} {n : Str} {i : Nat} {ts : Addr → Value → Option Addr → TS} {b0 : Stmt} {bs : List Stmt} {p : Pos} {hds : List ExceptHandler} {l : List Cls} (t : ClT X te cs) (hi : X.N[i]? = some n) (hl : X.env.kindOf n = some .local)
      (su : ∀ (a : Addr) (ob : Obj) (cls : Value) (d : Option Addr) (pn : List (Addr × Obj)), Zc cls d ob → (∃ vs, ob.data = .fields vs) → PSs (X.suite a ((a, ob) :: pn)) (b0 :: bs) (ts a cls d)) (r : HdL X hds l) :
      HdL X (.ExceptHandler (some te) (some n) (b0 :: bs) p :: hds) ((cs, i, ts) :: l)
end DD
namespace DD
open PySem PySem.Spec PyProof.Rows L2
/-! ### mirrors of try with several clauses -/
section
variable {m₁ m : Type → Type} [Mo m₁] [Mo m] [Tr m₁ m] {A : Type} {X : Cx} {EX : XR} {g gk : List Sl}
inductive HdJ (X : Cx) (i : Nat) (gk : List Sl) (h : Exn → m (Fl A)) (P : A → List Sl) : List ExceptHandler → List (List Value) → Prop
  | nil : HdJ X i gk h P [] []
  | cons {te : Expr} {cs : List Value} {n : Str} {b0 : Stmt} {bs : List Stmt} {p : Pos} {hds : List ExceptHandler} {css : List (List Value)} (t : ClT X te cs) (hi : X.N[i]? = some n) (hl : X.env.kindOf n = some .local)
      (su : ∀ (e : Exn) (a : Addr) (oe : Obj) (od : Option Addr) (C : Addr) (pn : List (Addr × Obj)), Held X e a oe od C → PySem.W.exmAny X.K (.ref C) cs = some true → BJ (X.suite a ((a, oe) :: pn)) X0 (b0 :: bs) (gk.set i (.exn a od e.fs)) (h e) P) (r : HdJ X i gk h P hds css) :
      HdJ X i gk h P (.ExceptHandler (some te) (some n) (b0 :: bs) p :: hds) (cs :: css)
def tsJ2 (X : Cx) (i : Nat) (gk : List Sl) (h : Exn → m (Fl A)) (P : A → List Sl) (cs : List Value) : Addr → Value → Option Addr → TS := fun a cls od De σ H =>
  ∃ t : { t : Exn × Addr // X.mg t.1.cls = some (.ref t.2) ∧ cls = .ref t.2 ∧ PySem.W.exmAny X.K cls cs = some true }, tbJ X X0 (gk.set i (.exn a od t.1.1.fs)) (h t.1.1) P De σ H
theorem HdJ.list {i : Nat} {h : Exn → m (Fl A)} {P : A → List Sl} : ∀ {hds : List ExceptHandler} {css : List (List Value)}, HdJ X i gk h P hds css → HdL X hds (css.map fun cs => (cs, i, tsJ2 X i gk h P cs))
  | _, _, .nil => .nil
  | _, _, .cons t hi hl su r => .cons t hi hl (fun a ob cls od pn hz hd => pss_any fun t => by
    obtain ⟨⟨e, C⟩, h1, h2, h3⟩ := t
    dsimp only at h1 h2
    subst h2
    exact su e a ob od C pn ⟨h1, hz, hd⟩ h3) r.list
end
/-! x.pop(), x a list of one's own -/
end DD
namespace DD
open PySem PySem.Spec PyProof.Rows L2
/-! ### try whose body raises nothing; finally -/
def nxM {m : Type → Type} [Mo m] {A A' : Type} (f : Fl A) (z : A → m (Fl A')) : m (Fl A') := match f with
  | .nx a => z a
  | .rt _ => Mo.lift none
theorem ps_fin0 {X : Cx} {body : List Stmt} {f₀ : Stmt} {fs : List Stmt} {pos : Pos} {tb tf : TS} (hb : PSs X.nox body tb) (hf : PSs X.nox (f₀ :: fs) tf) :
    PS X (.Try body [] [] (f₀ :: fs) pos) (fun D σ H => tb { nx := fun σ' H' => tf D σ' H', rt := fun _ _ => False } σ H) := by
  refine ⟨fun pins s σ H D I h => ?_⟩
  refine wpAny_Try_finally (wpAny_mono (hb.run pins s σ H { nx := fun σ' H' => tf D σ' H', rt := fun _ _ => False } (I.wish _) h) (fun f s1 q => ?_) fun _ _ z => False.elim z)
  have q' : SP X pins { nx := fun σ' H' => tf D σ' H', rt := fun _ _ => False } f s1 := q.unwish
  cases f with
  | next =>
    obtain ⟨σ', H', I', q2⟩ := q'
    refine wpAny_execs_nil (wpAny_mono (hf.run pins s1 σ' H' D (I'.wish _) q2) (fun g s2 z => ?_) fun _ _ z => False.elim z)
    have z' : SP X pins D g s2 := z.unwish
    cases g <;> exact z'
  | brk =>
    obtain ⟨_, _, _, z⟩ := q'
    exact False.elim z
  | cont =>
    obtain ⟨_, _, _, z⟩ := q'
    exact False.elim z
  | ret u =>
    obtain ⟨_, _, _, _, _, z⟩ := q'
    exact False.elim z
section
variable {m : Type → Type} [Mo m] [OverZ m] {A A' : Type} {X : Cx} {EX : XR} {g : List Sl}
theorem try_calm {body : List Stmt} {h0 : ExceptHandler} {hds : List ExceptHandler} {pos : Pos} {P : A → List Sl} {y : ZX (Fl A)} (hb : BJ (m := ZX) X.nox (XN g) body g y P) :
    PS X (.Try body (h0 :: hds) [] [] pos) (tbJ (m := m) X EX g (OverZ.up (calmZ y)) P) :=
  (ps_try_thru0 hb).weak fun De σ H ⟨B, G, n, φ, ξ, o, s, q1, q2, xw⟩ => ⟨B, G, n, φ, fun _ _ => False, o, OverZ.sat_up s, q1, q2, fun _ _ _ _ _ _ _ h => False.elim h⟩
theorem try_fin {body : List Stmt} {f₀ : Stmt} {fs : List Stmt} {pos : Pos} {P : A → List Sl} {Q : A' → List Sl} {y : ZX (Fl A)} {z : A → ZX (Fl A')} (hb : BJ (m := ZX) X.nox (XN g) body g y P) (hf : ∀ a, BJ (m := ZX) X.nox (XN g) (f₀ :: fs) (P a) (z a) Q) :
    PS X (.Try body [] [] (f₀ :: fs) pos) (tbJ (m := m) X EX g (OverZ.up (calmZ (y >>= fun f => nxM f z))) Q) :=
  (ps_fin0 hb (pss_any hf)).weak fun De σ H ⟨B, G, n, φ, ξ, o, s, q1, q2, xw⟩ =>
    ⟨B, G, n, _, fun _ _ => False, o, (show y n (fun f n' => nxM f z n' φ fun _ _ => False) (fun _ _ => False) from OverZ.sat_up s), fun a σ' H' G' n' o' g' s' => ⟨a, B, G', n', φ, fun _ _ => False, o', s', fun c τ K' L' k oc gc pc => q1 c τ K' L' k oc (g'.trans gc) pc, q2, fun _ _ _ _ _ _ _ h => False.elim h⟩,
      fun v H' G' d n' f' d' p => (by obtain ⟨_, e, _⟩ := p; cases e), fun _ _ _ _ _ _ _ h => False.elim h⟩
end
/-! ### isinstance(x, (list, tuple)) -/
def isLT (d : D) : Option D := if isRl d = true then none else some (.bool (typeN d == "list" || typeN d == "tuple"))
theorem kit_lt {K : PySem.W.Frag} {t : String} (h : t ∈ ["NoneType", "bool", "int", "str", "list", "tuple", "dict"]) : PySem.W.kitAny K (.type t) [.type "list", .type "tuple"] = some (t == "list" || t == "tuple") := by
  simp only [List.mem_cons, List.not_mem_nil, or_false] at h
  rcases h with h | h | h | h | h | h | h <;> subst h
  all_goals first
    | exact kitAny_cons (b := false) (kit_ty (by decide +kernel)) (fun _ => kitAny_cons (b := false) (kit_ty (by decide +kernel)) (fun _ => kitAny_nil) (fun z => by cases z)) (fun z => by cases z)
    | exact kitAny_cons (b := false) (kit_ty (by decide +kernel)) (fun _ => kitAny_cons (b := true) (kit_ty (by decide +kernel)) (fun z => by cases z) (fun _ => rfl)) (fun z => by cases z)
    | exact kitAny_cons (b := true) (kit_ty (by decide +kernel)) (fun z => by cases z) (fun _ => rfl)
section
variable {m : Type → Type} [Mo m] {X : Cx} {EX : XR} {g : List Sl}
theorem ej_isLT {a : Expr} {p p1 p2 p3 pos : Pos} {j} {x : m D} (ha : EJ X EX a g x) (hm : X.mg "isinstance" = none) (ml : X.mg "list" = none) (mt : X.mg "tuple" = none) (gl : Gl X "list" := by rfl) (gt : Gl X "tuple" := by rfl) (hg : Gl X "isinstance" := by rfl)
    (hs : starEach [a, .Tuple [.Name "list" p1, .Name "tuple" p2] j p3] X.env = (false, eval a X.env) :: starEach [.Tuple [.Name "list" p1, .Name "tuple" p2] j p3] X.env := by rfl)
    (hs2 : starEach [.Tuple [.Name "list" p1, .Name "tuple" p2] j p3] X.env = (false, eval (.Tuple [.Name "list" p1, .Name "tuple" p2] j p3) X.env) :: starEach [] X.env := by rfl)
    (hl1 : starEach [.Name "list" p1, .Name "tuple" p2] X.env = (false, eval (.Name "list" p1) X.env) :: starEach [.Name "tuple" p2] X.env := by rfl) (hl2 : starEach [.Name "tuple" p2] X.env = (false, eval (.Name "tuple" p2) X.env) :: starEach [] X.env := by rfl) :
    EJ X EX (.Call (.Name "isinstance" p) [a, .Tuple [.Name "list" p1, .Name "tuple" p2] j p3] [] pos) g (x >>= fun d => Mo.lift (isLT d)) :=
  have hc : PClss X [.Name "list" p1, .Name "tuple" p2] [.type "list", .type "tuple"] := .cons ⟨gl, by decide, .inr ⟨ml, by decide +kernel, by decide⟩⟩ (.ty _) hl1 (.cons ⟨gt, by decide, .inr ⟨mt, by decide +kernel, by decide⟩⟩ (.ty _) hl2 .nil)
  (pe_callB call_isiT hg hm (by decide +kernel) (pa_cons ha (pa_cons (pe_tup (PClss.pa hc)) pa_nil hs2) hs) (by decide) (by decide) hs (by rw [hs2]; rfl)).weak fun σ H Q ⟨B, G, n, φ, ξ, o, s, q, xw⟩ => te_one o s (fun v H1 G1 d n1 o1 g1 d1 s1 => by
    obtain ⟨z, ez, pz⟩ := Mo.sat_lift s1
    unfold isLT at ez
    split at ez
    · cases ez
    rename_i hn
    cases ez
    refine tClss_run ⟨by rw [List.length_map]; exact le_line (by decide), fun tp hp => ?_⟩
    obtain ⟨o2, g2⟩ := o1.alloc (u := .tup ([Value.type "list", .type "tuple"].map clsV)) hp
    have fin := q _ _ _ _ n1 o2 (g1.trans g2) (.bl (typeN d == "list" || typeN d == "tuple")) pz
    rcases (d1.mono g2).ty o2.fm with ⟨t1, _⟩ | ⟨t0, t1, t2⟩ | ⟨_, t1, c, C, ck, t2⟩
    · exact ⟨v, tp, _, .type (typeN d), _, _, rfl, upd_same, hc.vs, t1, kit_lt (typeN_mem d), fin⟩
    · exact absurd t0 hn
    · refine ⟨v, tp, _, .ref C, _, _, rfl, upd_same, hc.vs, t2, ?_, fin⟩
      rw [t1]
      exact kitAny_cons (b := false) (ck.kitF (by decide)) (fun _ => kitAny_cons (b := false) (ck.kitF (by decide)) (fun _ => kitAny_nil) (fun z => by cases z)) (fun z => by cases z)) xw
end
/-! ### a dict of the module: texts to ints -/
def cellE (e : DictEntry) : Option ((Str × Int) × Int) := match e.key, e.val with
  | .str x _, .int i _ => some ((x, e.hash), i)
  | _, _ => none
def tabW (K : PySem.W.Frag) (a : Addr) : Option (List (Option ((Str × Int) × Int))) := match K.lookup a with
  | some ⟨.type c, none, .dict es _, sl⟩ => (match decide (c = "dict") && (sl.isEmpty && !(a == sysModules)) with
    | true => some (es.toList.map cellE)
    | false => none)
  | _ => none
def tabIn (P : Params) (kvs : List (Str × Int)) : List (Option ((Str × Int) × Int)) := kvs.map fun p => some ((p.1, PyData.keyHash P p.1), p.2)
structure TabK (K : PySem.W.Frag) (w : World) (a : Addr) (kvs : List (Str × Int)) : Prop where
  ex : ∃ es n, K.lookup a = some ⟨.type "dict", none, .dict es n, #[]⟩ ∧ PySem.W.KeysLit w.params es.toList ∧ (a == sysModules) = false ∧
    ∀ x, (∀ i, kvs.lookup x = some i → ∃ t, findBy Value.isStrOf es x = some (.int i t)) ∧ (kvs.lookup x = none → findBy Value.isStrOf es x = none)
theorem cellE_some {e : DictEntry} {x : Str} {h i : Int} (q : cellE e = some ((x, h), i)) : (∃ t, e.key = .str x t) ∧ e.hash = h ∧ ∃ t, e.val = .int i t := by
  unfold cellE at q
  split at q
  · rename_i x' t' i' t2 h1 h2
    cases q
    exact ⟨⟨_, h1⟩, rfl, _, h2⟩
  · cases q
theorem tab_lit {P : Params} : ∀ {l : List DictEntry} {kvs : List (Str × Int)}, l.map cellE = tabIn P kvs → PySem.W.KeysLit P l
  | [], _, _ => trivial
  | e :: r, [], h => by cases h
  | e :: r, p :: ks, h => by
    have h1 : cellE e :: r.map cellE = some ((p.1, PyData.keyHash P p.1), p.2) :: tabIn P ks := h
    injection h1 with h2 h3
    obtain ⟨⟨t, h4⟩, h5, _⟩ := cellE_some h2
    exact ⟨⟨_, t, h4, h5⟩, tab_lit h3⟩
theorem tab_find {P : Params} (x : Str) : ∀ {l : List DictEntry} {kvs : List (Str × Int)}, l.map cellE = tabIn P kvs →
    (∀ i, kvs.lookup x = some i → ∃ t, (l.find? fun d => d.key.isStr x).map (·.val) = some (.int i t)) ∧ (kvs.lookup x = none → (l.find? fun d => d.key.isStr x).map (·.val) = none)
  | [], [], _ => ⟨fun i h => (by cases h), fun _ => rfl⟩
  | [], _ :: _, h => by cases h
  | e :: r, [], h => by cases h
  | e :: r, (k, j) :: ks, h => by
    have h1 : cellE e :: r.map cellE = some ((k, PyData.keyHash P k), j) :: tabIn P ks := h
    injection h1 with h2 h3
    obtain ⟨⟨t, h4⟩, _, t2, h6⟩ := cellE_some h2
    have ih := tab_find x h3
    have hk : e.key.isStr x = (x == k) := by
      rw [h4]
      show (k == x) = (x == k)
      exact Bool.beq_comm
    rw [List.find?_cons, List.lookup_cons, hk]
    cases hx : x == k with
    | true =>
      refine ⟨fun i hi => ?_, fun hi => (by cases hi)⟩
      cases hi
      exact ⟨t2, by rw [← h6]; rfl⟩
    | false => exact ih
theorem TabK.of {K : PySem.W.Frag} {w : World} {a : Addr} {kvs : List (Str × Int)} (h : tabW K a = some (tabIn w.params kvs)) : TabK K w a kvs := by
  unfold tabW at h
  split at h
  · rename_i c es n sl hl
    split at h
    · rename_i hz
      have hz := hz
      simp only [Bool.and_eq_true, decide_eq_true_eq, Bool.not_eq_true'] at hz
      obtain ⟨z1, z2, z3⟩ := hz
      have e2 : sl = #[] := Array.isEmpty_iff.mp z2
      subst z1 e2
      have h := Option.some.inj h
      refine ⟨es, n, hl, tab_lit h, z3, fun x => ?_⟩
      have := tab_find x h
      have ef : findBy Value.isStrOf es x = (es.toList.find? fun d => d.key.isStr x).map (·.val) := by
        obtain ⟨l⟩ := es
        unfold findBy
        have q : (fun d : DictEntry => Value.isStrOf x d.key) = fun d => d.key.isStr x := funext fun d => (PySem.W.isStr_of x d.key).symm
        rw [List.find?_toArray, q]
      rw [ef]
      exact this
    · cases h
  · cases h
def inTab (kvs : List (Str × Int)) : D → Option D
  | .str x => some (.bool (kvs.lookup x).isSome)
  | _ => none
def atTab (kvs : List (Str × Int)) : D → Option D
  | .str x => (kvs.lookup x).map .int
  | _ => none
section
variable {m : Type → Type} [Mo m] {X : Cx} {EX : XR} {g : List Sl} {a : Addr} {kvs : List (Str × Int)} {e : Expr} {n : Str} {p pos : Pos} {x : m D}
theorem op_inTab (T : TabK X.K X.w a kvs) : OpR X (compareOp .In) (fun x y H Q => ∃ z, x = .str z ∧ y = .ref a ∧ Q (.bl (kvs.lookup z).isSome) H) := by
  intro pins s σ H x y v u Q I rx ry ⟨z, ex, ey, q⟩
  subst ex ey
  obtain rfl : u = Value.ref a := ry
  obtain ⟨t, rfl⟩ := rx
  obtain ⟨es, n, hl, hk, lo, hf⟩ := T.ex
  refine wpAny_in_of (strKind_is X.prog X.w z t) lo (PySem.W.mapOf_K (prog := X.prog) (w := X.w) I.kIn hl hk) ⟨.bl (kvs.lookup z).isSome, H, I.tok _, ?_, q⟩
  cases hz : kvs.lookup z with
  | none => rw [(hf z).2 hz]; rfl
  | some i =>
    obtain ⟨t', h⟩ := (hf z).1 i hz
    rw [h]; rfl
theorem ix_tab (T : TabK X.K X.w a kvs) : IxR X (fun x y H Q => ∃ z i, x = .ref a ∧ y = .str z ∧ kvs.lookup z = some i ∧ Q (.int i) H) := by
  intro value slice pins s σ H x y v u Q I rx ry h hs
  obtain ⟨z, i, rfl, rfl, hz, q⟩ := h
  obtain rfl : v = Value.ref a := rx
  obtain ⟨t, rfl⟩ := ry
  obtain ⟨es, n, hl, hk, lo, hf⟩ := T.ex
  obtain ⟨t', h'⟩ := (hf z).1 i hz
  have hm := PySem.W.mapOf_K (prog := X.prog) (w := X.w) I.kIn hl hk
  exact tail_any hm.typeIs slot_dict_getitem.lookup (wpAny_getItem_of (strKind_is X.prog X.w z t) hm h' ⟨.int i, H, I.tok _, ⟨_, rfl⟩, q⟩) hs
theorem ej_inTab (T : TabK X.K X.w a kvs) (hm : X.mg n = some (.ref a)) (he : EJ X EX e g x) (hg : Gl X n := by rfl) (hd : (n == ("__debug__" : Str)) = false := by decide) (hb : behindInMarks .In (.Name n p) = false := by rfl) :
    EJ X EX (.Compare e [.In] [.Name n p] pos) g (x >>= fun d => Mo.lift (inTab kvs d)) :=
  (pe_cmpR (op_inTab T) he (pe_glob (v := .ref a) hg hm rfl hd) hb).weak fun σ H Q ⟨B, G, n, φ, ξ, o, s, q, xw⟩ => te_one o s (fun v H1 G1 d n1 o1 g1 d1 s1 => by
    obtain ⟨z, ez, pz⟩ := Mo.sat_lift s1
    cases d with
    | str t =>
      cases d1
      cases ez
      exact ⟨t, rfl, rfl, q _ H1 G1 _ n1 o1 g1 (.bl _) pz⟩
    | _ => cases ez) xw
theorem ej_atTab (T : TabK X.K X.w a kvs) (hm : X.mg n = some (.ref a)) (he : EJ X EX e g x) (hs : NoSl e := by exact fun _ _ => rfl) (hg : Gl X n := by rfl) (hd : (n == ("__debug__" : Str)) = false := by decide) :
    EJ X EX (.Subscript (.Name n p) e pos) g (x >>= fun d => Mo.lift (atTab kvs d)) :=
  (pe_ix (ix_tab T) (pe_glob (v := .ref a) hg hm rfl hd) he hs).weak fun σ H Q ⟨B, G, n, φ, ξ, o, s, q, xw⟩ => te_one o s (fun v H1 G1 d n1 o1 g1 d1 s1 => by
    obtain ⟨z, ez, pz⟩ := Mo.sat_lift s1
    cases d with
    | str t =>
      cases d1
      have ez : (kvs.lookup t).map PyData.int = some z := ez
      obtain ⟨i, hi, rfl⟩ := Option.map_eq_some_iff.mp ez
      exact ⟨t, i, rfl, rfl, hi, q _ H1 G1 _ n1 o1 g1 (.int i) pz⟩
    | _ => cases ez) xw
end
/-! ### o.m(a, ..), the last parameters by their defaults -/
theorem ArgsOk.app {K : PySem.W.Frag} {B : Bs} {G : Hp} : ∀ {vs : List V} {as : List Sl} {ws : List V} {bs : List Sl}, ArgsOk K B G vs as → ArgsOk K B G ws bs → ArgsOk K B G (vs ++ ws) (as ++ bs)
  | [], [], _, _, _, h => h
  | _ :: _, _ :: _, _, _, .cons a r, h => .cons a (r.app h)
theorem pe_mXDA {X : Cx} {k : Nat} {C f : Addr} {fd : FuncData} {ps : List Str} {sp : Sp} {ws : List Value} {dvs : List V} {W : WX} {pos apos : Pos} {pl : Sem Bool} {o e : Expr} {es : List Expr} {mn : Str} {ta : TE} {t : TA} (he : PE X o ta) (c : L2.Cls X.K C) (hm : Meth X.K C mn f) (F : FnX X.prog X.w X.K X.mg X.base k f fd ps sp) (hr : Room k X.A) (gu : X.A.guards = some [])
    (tk : Takes X W) (hb : Binds X.K fd ps ws) (rd : Vals dvs ws) (ha : PA X (e :: es) t) (hst : starEach (e :: es) X.env = (false, eval e X.env) :: starEach es X.env) (hpl : (backTo pos (starEach es X.env)).any (·.1) = false) (ht : MethAt X o mn apos pos (e :: es) pl) :
    PE X (.Call (.Attribute o mn apos) (e :: es) [] pos) (fun σ H Q => ta σ H fun x H1 => ∃ a dx fs, x = .ref a ∧ H1 a = some (.ins C dx fs) ∧ fs.lookup mn = none ∧ t σ H1 fun vs H2 => sp ((.ref a :: vs) ++ dvs) H2 Q (WE W σ)) := by
  refine ⟨fun pins s σ H Q I h => PySem.W.methodCall_KW (pl := pl) (thn (he.run pins s σ H _ I h) fun u s1 ⟨x, H1, I1, rx, a, dx, fs, ex, ea, l, q⟩ => ?_) ht⟩
  subst ex
  obtain rfl : u = Value.ref a := rx
  refine getmeth_ok I1 ea c hm l (PySem.W.callWith_K (first := [.ref a]) (h₀ := X.base) I.ok.mod.kin hm.kp (thn (ha.run pos pins s1 σ H1 _ I1 q) fun us s2 ⟨vs, H2, I2, r, q2⟩ => ⟨I2.kIn, ?_⟩) hst hpl)
  exact call_xD (us := .ref a :: us) (vs := .ref a :: vs) F hr gu tk hb I2 (.cons rfl r) rd q2
section
variable {m : Type → Type} [Mo m] [OverZ m] {X : Cx} {EX : XR} {g : List Sl} {k : Nat} {ps : List Str} {pos apos : Pos} {c mn : Str} {ob e : Expr} {es : List Expr} {x : m D} {F : List Sl → m D}
theorem ej_methZXDA {pl : Sem Bool} {nn : Nat} {ds : List D} {y : m (List Sl)} (Fn : MthXD X.prog X.w X.K X.mg X.base k c ps mn nn ds (spX X.K X.mg F)) (hr : Room k X.A) (gu : X.A.guards = some []) (tk : Takes X EX.w) (sb : Sub g EX.g) (ho : EJ X EX ob g x) (ha : AJ X EX (e :: es) g y)
    (hst : starEach (e :: es) X.env = (false, eval e X.env) :: starEach es X.env := by rfl) (hpl : (backTo pos (starEach es X.env)).any (·.1) = false := by rfl) (ht : MethAt X ob mn apos pos (e :: es) pl := by rfl) :
    EJ X EX (.Call (.Attribute ob mn apos) (e :: es) [] pos) g (x >>= fun d => OverZ.up (selfZ c mn d) >>= fun _ => y >>= fun as => F (.val d :: as ++ ds.map .val)) := by
  obtain ⟨C, f, fd, dvs, ws, hcl, hm, Fn, hb, rd, hda⟩ := Fn.ex
  exact (pe_mXDA ho hcl.cl hm Fn hr gu tk hb rd ha hst hpl ht).weak fun σ H Q ⟨B, G, n, φ, ξ, o, s, q, xw⟩ => te_one o s (fun v H1 G1 d n1 o1 g1 d1 s1 => by
    have s2 : selfZ c mn d n1 _ := OverZ.sat_up (Mo.sat_bind s1)
    obtain ⟨k, fs, ek, hk, el, s2⟩ := selfZ_out s2
    obtain ⟨a, C', dx, vs, rfl, ga, ck, ea, hl, da⟩ := o1.insAt d1 ek hk
    obtain rfl := hcl.one ck
    refine ⟨a, dx, vs, rfl, ea, (lkp_da hl da).2 el, B, G1, n1, _, ξ, o1, Mo.sat_bind s2, fun us H2 G2 as n2 o2 g2 a2 s3 => ?_, xw⟩
    refine ⟨G2, n2, B.dk, .val d :: as ++ ds.map .val, φ, ξ, ArgsOk.app (.cons (d1.mono g2) (ArgsOk.base (B := B) (B' := ⟨H2, G2, B.dk, G2⟩) rfl a2)) (args_dats (hda G2)), o2.fm.at_call, s3, fun v H' G' d' n' f' dv p => ?_, fun e' c' od H' G' n' f' ex hx => ?_⟩
    · obtain ⟨o3, g3⟩ := Fm.back o2 (.inr rfl) f'
      exact q v H' G' d' n' o3 ((g1.trans g2).trans g3) dv p
    · obtain ⟨o3, g3⟩ := Fm.back o2 (.inr rfl) f'
      exact xw e' n' σ H' G' c' od hx (o3.forget sb) ex) xw
end
/-! ### range(a, -1, -1) -/
end DD
namespace DD
open PySem PySem.Spec PyProof.Rows L2
def top (i : Nat) : Stmt := PySem.Challenge.pw_darkdrawers_k53_whole_things_more_and_le.main.body.getD i (.Pass ⟨0, 0, 0, 0⟩)
abbrev i_TooMuch : Stmt := (clsBody (top 15)).getD 0 (.Pass ⟨0, 0, 0, 0⟩)
theorem sci_TooMuch : FnScope ["self", "total"] ["self", "total"] (defScope i_TooMuch) := ⟨rfl, rfl, rfl, by decide +kernel, rfl, by decide +kernel, by decide +kernel⟩
abbrev i_TooFew : Stmt := (clsBody (top 16)).getD 0 (.Pass ⟨0, 0, 0, 0⟩)
theorem sci_TooFew : FnScope ["self", "kind"] ["self", "kind"] (defScope i_TooFew) := ⟨rfl, rfl, rfl, by decide +kernel, rfl, by decide +kernel, by decide +kernel⟩
abbrev i_NoKind : Stmt := (clsBody (top 24)).getD 0 (.Pass ⟨0, 0, 0, 0⟩)
theorem sci_NoKind : FnScope ["self", "value"] ["self", "value"] (defScope i_NoKind) := ⟨rfl, rfl, rfl, by decide +kernel, rfl, by decide +kernel, by decide +kernel⟩
abbrev i_NoDrawer : Stmt := (clsBody (top 25)).getD 0 (.Pass ⟨0, 0, 0, 0⟩)
theorem sci_NoDrawer : FnScope ["self", "value"] ["self", "value"] (defScope i_NoDrawer) := ⟨rfl, rfl, rfl, by decide +kernel, rfl, by decide +kernel, by decide +kernel⟩
abbrev i_NoCollection : Stmt := (clsBody (top 26)).getD 0 (.Pass ⟨0, 0, 0, 0⟩)
theorem sci_NoCollection : FnScope ["self", "value"] ["self", "value"] (defScope i_NoCollection) := ⟨rfl, rfl, rfl, by decide +kernel, rfl, by decide +kernel, by decide +kernel⟩
abbrev i_BadWish : Stmt := (clsBody (top 17)).getD 0 (.Pass ⟨0, 0, 0, 0⟩)
theorem sci_BadWish : FnScope ["self", "value"] ["self", "value"] (defScope i_BadWish) := ⟨rfl, rfl, rfl, by decide +kernel, rfl, by decide +kernel, by decide +kernel⟩
abbrev i_BadStock : Stmt := (clsBody (top 18)).getD 0 (.Pass ⟨0, 0, 0, 0⟩)
theorem sci_BadStock : FnScope ["self", "error"] ["self", "error"] (defScope i_BadStock) := ⟨rfl, rfl, rfl, by decide +kernel, rfl, by decide +kernel, by decide +kernel⟩
abbrev i_BadEdit : Stmt := (clsBody (top 21)).getD 0 (.Pass ⟨0, 0, 0, 0⟩)
theorem sci_BadEdit : FnScope ["self", "index"] ["self", "index"] (defScope i_BadEdit) := ⟨rfl, rfl, rfl, by decide +kernel, rfl, by decide +kernel, by decide +kernel⟩
abbrev i_BadCount : Stmt := (clsBody (top 19)).getD 0 (.Pass ⟨0, 0, 0, 0⟩)
theorem sci_BadCount : FnScope ["self", "value"] ["self", "value"] (defScope i_BadCount) := ⟨rfl, rfl, rfl, by decide +kernel, rfl, by decide +kernel, by decide +kernel⟩
abbrev i_BadCollection : Stmt := (clsBody (top 20)).getD 0 (.Pass ⟨0, 0, 0, 0⟩)
theorem sci_BadCollection : FnScope ["self", "value"] ["self", "value"] (defScope i_BadCollection) := ⟨rfl, rfl, rfl, by decide +kernel, rfl, by decide +kernel, by decide +kernel⟩
section
variable {P : Program} {w : World} {K : PySem.W.Frag} {mg : Str → Option Value} {base : Heap}
abbrev s__law_deck : Stmt := top 67
theorem sc__law_deck : FnScope ["_law_script", "_law_cell"] ["_law_script"] (defScope s__law_deck) := ⟨rfl, rfl, rfl, by decide +kernel, rfl, by decide +kernel, by decide +kernel⟩
theorem ok__law_deck {f : Addr} {fd : FuncData} (F : Fun K "_law_deck" "_law_deck" s__law_deck f fd) (ma : mg "abs" = none) : FnG P w K mg base 1 f fd ["_law_script"] (spDeck K) := by
  have sc := sc__law_deck
  refine fng_of F sc (fun vs H Q E ⟨a, ns, e, _⟩ => by rw [e]; rfl) fun cdv A outer s H vs Q E hr gu ⟨a, ns, e, hS, q⟩ => ?_
  subst e
  exact ⟨deckT K 63, pss_one (ps_ret (pe_lst (pa_cons (pe_lc (own := [("_law_cell", 1)]) rfl sc.nd (pi_list (pe_slice sl_list (pv 0) po_none (po_some pe_int))) (blk_of (by kernel_rfl))
    (fun _ _ _ _ _ => pg_name (i := 1) sc.nd rfl (.inl rfl)) (fun _ _ _ _ _ => pts_nil) (fun _ _ _ _ _ => pe_callB call_abs rfl ma boot_abs (pa_cons (pv 1) pa_nil))) (pa_cons pe_int pa_nil)))), deck_ok (by decide) (by decide) (Nat.lt_succ_self 1) rfl hS q⟩
abbrev s__law_draw : Stmt := top 68
theorem sc__law_draw : FnScope ["_law_deck_here", "_law_many", "_law_cell", "_law_place"] ["_law_deck_here", "_law_many"] (defScope s__law_draw) := ⟨rfl, rfl, rfl, by decide +kernel, rfl, by decide +kernel, by decide +kernel⟩
theorem ok__law_draw {f : Addr} {fd : FuncData} (F : Fun K "_law_draw" "_law_draw" s__law_draw f fd) (ml : mg "len" = none) : FnG P w K mg base 1 f fd ["_law_deck_here", "_law_many"] spDraw := by
  have sc := sc__law_draw
  refine fng_of F sc (fun vs H Q E ⟨a, b, n, many, e, _⟩ => by rw [e]; rfl) fun cdv A outer s H vs Q E hr gu ⟨a, b, n, many, e, dk, m0, m1, hn, q⟩ => ?_
  subst e
  exact ⟨drawT3 K, pss_cons (ps_asg (pe_op op_add (pe_ix ix_list (pv 0) pe_int (fun _ _ => rfl)) pe_int) (pg_sub (pv 0) pe_int set_list))
    (pss_cons (ps_set (i := 2) sc.nd rfl (Or.inl rfl) pe_int) (pss_cons (ps_set (i := 3) sc.nd rfl (Or.inl rfl) (pe_un un_neg pe_int))
    (pss_cons (ps_if (pt_cmpR op_gt (pe_callB call_len_seq rfl ml PySem.boot_len (pa_cons (pe_ix ix_list (pv 0) pe_int (fun _ _ => rfl)) pa_nil)) pe_int (nomark _))
        (pss_cons (ps_set (i := 3) sc.nd rfl (Or.inl rfl) (pe_op op_mod (pe_ix ix_list (pv 0) pe_int (fun _ _ => rfl)) (pe_callB call_len_seq rfl ml PySem.boot_len (pa_cons (pe_ix ix_list (pv 0) pe_int (fun _ _ => rfl)) pa_nil)))) (pss_one (ps_set (i := 2) sc.nd rfl (Or.inl rfl) (pe_ix ix_list (pe_ix ix_list (pv 0) pe_int (fun _ _ => rfl)) (pv 3) (fun _ _ => rfl))))) pss_nil)
    (pss_cons (ps_if (pt_cmpR op_ge (pv 2) (pe_op op_pow pe_int pe_int) (nomark _))
        (pss_cons (ps_asg (pe_op op_fdiv (pv 2) (pv 1)) (pg_sub (pe_ix ix_list (pv 0) pe_int (fun _ _ => rfl)) (pv 3) set_list)) (pss_one (ps_ret (pe_op op_mod (pv 2) (pv 1))))) pss_nil)
    (pss_one (ps_ret (pe_op op_mod (pe_op op_mod (pe_op op_pow (pe_op op_add (pe_op op_add (pe_op op_mod (pv 2) pe_int) (pe_op op_mul pe_int (pe_ix ix_list (pv 0) pe_int (fun _ _ => rfl)))) pe_int) pe_int) pe_int) (pv 1)))))))), draw3_ok dk m0 m1 hn q⟩
abbrev s_is_number : Stmt := top 28
theorem sc_is_number : FnScope ["value", "low", "high"] ["value", "low", "high"] (defScope s_is_number) := ⟨rfl, rfl, rfl, by decide +kernel, rfl, by decide +kernel, by decide +kernel⟩
def m_is_number (p_value p_low p_high : D) : Option D := (andD (isiM "int" (pure p_value)) (andD (op1 notD (isiM "bool" (pure p_value))) (chain3 leD leD (pure p_low) (pure p_value) (pure p_high))))
def M_is_number : List Sl → Option D := ar3 m_is_number
theorem ok_is_number {f : Addr} {fd : FuncData} (F : Fun K "is_number" "is_number" s_is_number f fd) (hy : SysAt base) (mb_bool : mg "bool" = none) (mb_int : mg "int" = none) (mb_isinstance : mg "isinstance" = none) : FnG P w K mg base 1 f fd ["value", "low", "high"] (spJ K M_is_number) := by
  have sc := sc_is_number
  exact fn_ar3 F sc rfl fun p_value p_low p_high cdv A outer s H E hr gu => (fj_ret (ej_and (ej_isi "int" (ej_vk 0) mb_isinstance mb_int) (ej_and (ej_not (ej_isi "bool" (ej_vk 0) mb_isinstance mb_bool)) (ej_one (ej_chain op_le rd_le op_le rd_le (ej_vk 1) (ej_vk 0) (ej_vk 2))))))
abbrev s_totals_of : Stmt := top 31
theorem sc_totals_of : FnScope ["stock", "counts"] ["stock"] (defScope s_totals_of) := ⟨rfl, rfl, rfl, by decide +kernel, rfl, by decide +kernel, by decide +kernel⟩
def m_totals_of (p_stock : D) : Option D := (op1 tupleD (lstM (comp1 (zipSM (pure p_stock)) (fun c126 => (op1 sumD (pure c126))))))
def M_totals_of : List Sl → Option D := ar1 m_totals_of
theorem ok_totals_of {f : Addr} {fd : FuncData} (F : Fun K "totals_of" "totals_of" s_totals_of f fd) (hy : SysAt base) (mb_sum : mg "sum" = none) (mb_tuple : mg "tuple" = none) (mb_zip : mg "zip" = none) : FnG P w K mg base 1 f fd ["stock"] (spJ K M_totals_of) := by
  have sc := sc_totals_of
  exact fn_ar1 F sc rfl fun p_stock cdv A outer s H E hr gu => (fj_ret (ej_callT call_tuple_of rc_tuple mb_tuple (ej_l (LcP.expr (lj_lc1 [("counts", 1)] 1 sc.nd (ij_zipS mb_zip (ej_vk 0)) (blk_of (by kernel_rfl)) (fun _ _ _ _ _ => pg_name (i := 1) sc.nd rfl (by first | exact Or.inl rfl | exact Or.inr rfl)) (fun _ _ _ _ _ c126 => (ej_call1 (call_sumD rfl) rc_sum mb_sum (ej_vk 1))))))))
abbrev s_contains : Stmt := top 36
theorem sc_contains : FnScope ["counts", "collection", "number", "needed"] ["counts", "collection"] (defScope s_contains) := ⟨rfl, rfl, rfl, by decide +kernel, rfl, by decide +kernel, by decide +kernel⟩
def m_contains (p_counts p_collection : D) : Option D := (op1 allD (lstM (comp2 (zip2M (pure p_counts) (pure p_collection)) (fun c127 c128 => (op2 geD (pure c127) (pure c128))))))
def M_contains : List Sl → Option D := ar2 m_contains
theorem ok_contains {f : Addr} {fd : FuncData} (F : Fun K "contains" "contains" s_contains f fd) (hy : SysAt base) (mb_all : mg "all" = none) (mb_zip : mg "zip" = none) : FnG P w K mg base 1 f fd ["counts", "collection"] (spJ K M_contains) := by
  have sc := sc_contains
  exact fn_ar2 F sc rfl fun p_counts p_collection cdv A outer s H E hr gu => (fj_ret (ej_call1 (cr_all rfl) rc_all mb_all (ej_l (LcP.expr (lj_lc2 [("number", 2), ("needed", 3)] 2 3 sc.nd (ij_zip2 mb_zip (ej_vk 0) (ej_vk 1)) (blk_of (by kernel_rfl)) (fun _ _ _ _ _ => pg_tup rfl (pgs_cons (pg_name (i := 2) sc.nd rfl (by first | exact Or.inl rfl | exact Or.inr rfl)) (pgs_cons (pg_name (i := 3) sc.nd rfl (by first | exact Or.inl rfl | exact Or.inr rfl)) pgs_nil))) (fun _ _ _ _ _ c127 c128 => (ej_cmp op_ge rd_ge (ej_vk 2) (ej_vk 3))))))))
abbrev s_spoilings_of : Stmt := top 38
theorem sc_spoilings_of : FnScope ["collections", "found", "collection", "kinds", "kind", "needed", "begun"] ["collections"] (defScope s_spoilings_of) := ⟨rfl, rfl, rfl, by decide +kernel, rfl, by decide +kernel, by decide +kernel⟩
def m_spoilings_of (p_collections : D) : Option D := ((lstM (consM (tupM (pure [])) (pure []))) >>= fun v129 => (forM1 (seqM (pure p_collections)) v129 (fun x131 (a130 : D) => ((lstM (comp2i (enumM (pure x131)) (fun c133 c134 => (cmp2 gtD (pure c134) (pure (.int 0)))) (fun c133 c134 => (pure c133)))) >>= fun v132 => ((comp11 (seqM (pure a130)) (fun c136 => (seqM (pure v132))) (fun c136 c137 => (tupSM (starM (pure c136) (consM (pure c137) (pure [])))))) >>= fun v135 => (pure (.nx (PyData.list v135)))))) >>= fun f => thenM f fun (a138 : D) => (op1 tupleD (pure a138))))
def M_spoilings_of : List Sl → Option D := ar1 m_spoilings_of
theorem ok_spoilings_of {f : Addr} {fd : FuncData} (F : Fun K "spoilings_of" "spoilings_of" s_spoilings_of f fd) (hy : SysAt base) (mb_enumerate : mg "enumerate" = none) (mb_tuple : mg "tuple" = none) : FnG P w K mg base 1 f fd ["collections"] (spJ K M_spoilings_of) := by
  have sc := sc_spoilings_of
  exact fn_ar1 F sc rfl fun p_collections cdv A outer s H E hr gu => (fj_seq (sj_set 1 sc.nd (ej_l (lj_lst (dj_cons (ej_tup dj_nil) dj_nil)))) (fun v129 => (fj_of_for (for1 2 (P := fun (a130 : D) => [.val p_collections, .val a130, .any, .any, .any, .any, .any]) (a0 := v129) PassesOwn.never (ij_seq (ej_vk 0)) (pg_name (i := 2) sc.nd rfl (by first | exact Or.inl rfl | exact Or.inr rfl)) (fun x131 a130 => (bj_seq (sj_set 3 sc.nd (ej_l (LcP.expr (lj_lc2i [("kind", 4), ("needed", 5)] 4 5 sc.nd (ij_enum mb_enumerate (ej_vk 2)) (blk_of (by kernel_rfl)) (fun _ _ _ _ _ => pg_tup rfl (pgs_cons (pg_name (i := 4) sc.nd rfl (by first | exact Or.inl rfl | exact Or.inr rfl)) (pgs_cons (pg_name (i := 5) sc.nd rfl (by first | exact Or.inl rfl | exact Or.inr rfl)) pgs_nil))) (fun _ _ _ _ _ c133 c134 => (tj_cmp op_gt rd_gt (ej_vk 5) ej_int)) (fun _ _ _ _ _ c133 c134 => (ej_vk 4)))))) (fun v132 => (bj_seq (sj_lcV 1 sc.nd (lj_lc11 [("begun", 6), ("kind", 4)] 6 4 sc.nd (ij_seq (ej_vk 1)) (blk_of (by kernel_rfl)) (fun _ _ _ _ _ => pg_name (i := 6) sc.nd rfl (by first | exact Or.inl rfl | exact Or.inr rfl)) (fun _ _ _ _ _ c136 => (ij_seq (ej_vk 3))) (fun _ _ _ _ _ => pg_name (i := 4) sc.nd rfl (by first | exact Or.inl rfl | exact Or.inr rfl)) (fun _ _ _ _ _ c136 c137 => (ej_tupS (dj_star (ej_vk 6) (dj_cons (ej_vk 4) dj_nil))))) (by kernel_rfl)) (fun v135 => (bj_nil (a := (PyData.list v135)) ⟨.inr rfl, .inr rfl, .inl rfl, .inl rfl, .inl rfl, .inl rfl, .inl rfl, trivial⟩)))))) ⟨.inr rfl, .inr rfl, .inl rfl, .inl rfl, .inl rfl, .inl rfl, .inl rfl, trivial⟩) (fun a138 => (fj_ret (ej_callT call_tuple_of rc_tuple mb_tuple (ej_vk 1)))))))
abbrev s_caps_of : Stmt := top 39
theorem sc_caps_of : FnScope ["collections", "spoiling", "found", "collection", "kind", "cap"] ["collections", "spoiling"] (defScope s_caps_of) := ⟨rfl, rfl, rfl, by decide +kernel, rfl, by decide +kernel, by decide +kernel⟩
def m_caps_of (p_collections p_spoiling : D) : Option D := ((repM (consM (pure PyData.none) (pure [])) (op1 lenD (op2 getD (pure p_collections) (pure (.int 0))))) >>= fun v139 => (forM2 (zip2M (pure p_collections) (pure p_spoiling)) v139 (fun x141 x142 (a140 : List D) => ((op2 subD (op2 getD (pure x141) (pure x142)) (pure (.int 1))) >>= fun v143 => (((rdM (iteM (cmp2 isD (op2 getD (pure (PyData.list a140)) (pure x142)) (pure PyData.none)) (pure v143) (op2 min2D (op2 getD (pure (PyData.list a140)) (pure x142)) (pure v143)))) >>= fun d => (pure x142) >>= fun j => Mo.lift (putD a140 j d)) >>= fun v144 => (pure (.nx v144))))) >>= fun f => thenM f fun (a145 : List D) => (op1 tupleD (pure (PyData.list a145)))))
def M_caps_of : List Sl → Option D := ar2 m_caps_of
theorem ok_caps_of {f : Addr} {fd : FuncData} (F : Fun K "caps_of" "caps_of" s_caps_of f fd) (hy : SysAt base) (mb_len : mg "len" = none) (mb_min : mg "min" = none) (mb_tuple : mg "tuple" = none) (mb_zip : mg "zip" = none) : FnG P w K mg base 1 f fd ["collections", "spoiling"] (spJ K M_caps_of) := by
  have sc := sc_caps_of
  exact fn_ar2 F sc rfl fun p_collections p_spoiling cdv A outer s H E hr gu => (fj_seq (sj_setO 2 sc.nd (lj_rep (lj_lst (dj_cons ej_non dj_nil)) (ej_call1 call_lenD' rc_len mb_len (ej_ix ix_seq rd_ix (ej_vk 0) ej_int (fun _ _ => rfl))))) (fun v139 => (fj_of_for (for2 3 4 (P := fun (a140 : List D) => [.val p_collections, .val p_spoiling, .own a140, .any, .any, .any]) (a0 := v139) PassesOwn.never (ij_zip2 mb_zip (ej_vk 0) (ej_vk 1)) (pg_tup rfl (pgs_cons (pg_name (i := 3) sc.nd rfl (by first | exact Or.inl rfl | exact Or.inr rfl)) (pgs_cons (pg_name (i := 4) sc.nd rfl (by first | exact Or.inl rfl | exact Or.inr rfl)) pgs_nil))) (fun x141 x142 a140 => (bj_seq (sj_set 5 sc.nd (ej_bin op_sub rd_sub (ej_ix ix_seq rd_ix (ej_vk 3) (ej_vk 4) (fun _ _ => rfl)) ej_int)) (fun v143 => (bj_seq (sj_put 2 (ej_rd (ej_if (tj_cmp op_isN rd_is (ej_ix ix_seq rd_ix (ej_vk 2) (ej_vk 4) (fun _ _ => rfl)) ej_non) (ej_vk 5) (ej_call2 (call_min2 rfl) rc_min2 mb_min (ej_ix ix_seq rd_ix (ej_vk 2) (ej_vk 4) (fun _ _ => rfl)) (ej_vk 5)))) (ej_vk 4)) (fun v144 => (bj_nil (a := v144) ⟨.inr rfl, .inr rfl, .inr rfl, .inl rfl, .inl rfl, .inl rfl, trivial⟩)))))) ⟨.inr rfl, .inr rfl, .inr rfl, .inl rfl, .inl rfl, .inl rfl, trivial⟩) (fun a145 => (fj_fr 2 (fj_ret (ej_callT call_tuple_of rc_tuple mb_tuple (ej_vk 2))))))))
abbrev s_room_in : Stmt := top 41
theorem sc_room_in : FnScope ["stock", "caps", "drawers", "found", "kind", "cap", "many", "drawer"] ["stock", "caps", "drawers"] (defScope s_room_in) := ⟨rfl, rfl, rfl, by decide +kernel, rfl, by decide +kernel, by decide +kernel⟩
def m_room_in (p_stock p_caps p_drawers : D) : Option D := ((pure (.int 0)) >>= fun v146 => (forM2 (enumM (pure p_caps)) v146 (fun x148 x149 (a147 : D) => ((op1 sumD (lstM (comp1 (seqM (pure p_drawers)) (fun c151 => (op2 getD (op2 getD (pure p_stock) (pure c151)) (pure x148)))))) >>= fun v150 => (((iteM (cmp2 isD (pure x149) (pure PyData.none)) (pure v150) (op2 min2D (pure v150) (pure x149))) >>= fun d => Mo.lift (addI a147 d)) >>= fun v152 => (pure (.nx v152))))) >>= fun f => thenM f fun (a153 : D) => (pure a153)))
def M_room_in : List Sl → Option D := ar3 m_room_in
theorem ok_room_in {f : Addr} {fd : FuncData} (F : Fun K "room_in" "room_in" s_room_in f fd) (hy : SysAt base) (mb_enumerate : mg "enumerate" = none) (mb_min : mg "min" = none) (mb_sum : mg "sum" = none) : FnG P w K mg base 1 f fd ["stock", "caps", "drawers"] (spJ K M_room_in) := by
  have sc := sc_room_in
  exact fn_ar3 F sc rfl fun p_stock p_caps p_drawers cdv A outer s H E hr gu => (fj_seq (sj_set 3 sc.nd ej_int) (fun v146 => (fj_of_for (for2 4 5 (P := fun (a147 : D) => [.val p_stock, .val p_caps, .val p_drawers, .val a147, .any, .any, .any, .any]) (a0 := v146) PassesOwn.never (ij_enum mb_enumerate (ej_vk 1)) (pg_tup rfl (pgs_cons (pg_name (i := 4) sc.nd rfl (by first | exact Or.inl rfl | exact Or.inr rfl)) (pgs_cons (pg_name (i := 5) sc.nd rfl (by first | exact Or.inl rfl | exact Or.inr rfl)) pgs_nil))) (fun x148 x149 a147 => (bj_seq (sj_set 6 sc.nd (ej_call1 (call_sumD rfl) rc_sum mb_sum (ej_l (LcP.expr (lj_lc1 [("drawer", 7)] 7 sc.nd (ij_seq (ej_vk 2)) (blk_of (by kernel_rfl)) (fun _ _ _ _ _ => pg_name (i := 7) sc.nd rfl (by first | exact Or.inl rfl | exact Or.inr rfl)) (fun _ _ _ _ _ c151 => (ej_ix ix_seq rd_ix (ej_ix ix_seq rd_ix (ej_vk 0) (ej_vk 7) (fun _ _ => rfl)) (ej_vk 4) (fun _ _ => rfl)))))))) (fun v150 => (bj_seq (sj_aug 3 sc.nd ip_add rd_addI (ej_if (tj_cmp op_isN rd_is (ej_vk 5) ej_non) (ej_vk 6) (ej_call2 (call_min2 rfl) rc_min2 mb_min (ej_vk 6) (ej_vk 5)))) (fun v152 => (bj_nil (a := v152) ⟨.inr rfl, .inr rfl, .inr rfl, .inr rfl, .inl rfl, .inl rfl, .inl rfl, .inl rfl, trivial⟩)))))) ⟨.inr rfl, .inr rfl, .inr rfl, .inr rfl, .inl rfl, .inl rfl, .inl rfl, .inl rfl, trivial⟩) (fun a153 => (fj_ret (ej_vk 3))))))
abbrev s_is_within : Stmt := top 56
theorem sc_is_within : FnScope ["value", "low", "high"] ["value", "low", "high"] (defScope s_is_within) := ⟨rfl, rfl, rfl, by decide +kernel, rfl, by decide +kernel, by decide +kernel⟩
def m_is_within (p_value p_low p_high : D) : Option D := (andD (isiM "int" (pure p_value)) (andD (op1 notD (isiM "bool" (pure p_value))) (chain3 leD leD (pure p_low) (pure p_value) (pure p_high))))
def M_is_within : List Sl → Option D := ar3 m_is_within
theorem ok_is_within {f : Addr} {fd : FuncData} (F : Fun K "is_within" "is_within" s_is_within f fd) (hy : SysAt base) (mb_bool : mg "bool" = none) (mb_int : mg "int" = none) (mb_isinstance : mg "isinstance" = none) : FnG P w K mg base 1 f fd ["value", "low", "high"] (spJ K M_is_within) := by
  have sc := sc_is_within
  exact fn_ar3 F sc rfl fun p_value p_low p_high cdv A outer s H E hr gu => (fj_ret (ej_and (ej_isi "int" (ej_vk 0) mb_isinstance mb_int) (ej_and (ej_not (ej_isi "bool" (ej_vk 0) mb_isinstance mb_bool)) (ej_one (ej_chain op_le rd_le op_le rd_le (ej_vk 1) (ej_vk 0) (ej_vk 2))))))
abbrev s_is_edit : Stmt := top 57
theorem sc_is_edit : FnScope ["value", "name", "values"] ["value"] (defScope s_is_edit) := ⟨rfl, rfl, rfl, by decide +kernel, rfl, by decide +kernel, by decide +kernel⟩
def m_is_edit (p_value : D) : Option D := (iteM (orB (notB (tst (isiM "tuple" (pure p_value)))) (orB (cmp2 eqD (pure p_value) (tupM (pure []))) (notB (tst (isiM "str" (op2 getD (pure p_value) (pure (.int 0)))))))) (pure (.bool false)) ((unpS (pure p_value)) >>= fun v154 => (andD ((pure v154.1) >>= fun d => Mo.lift (inTab [("put", 3), ("remove", 3), ("wish", 1), ("drop", 1)] d)) (op2 eqD ((pure v154.1) >>= fun d => Mo.lift (atTab [("put", 3), ("remove", 3), ("wish", 1), ("drop", 1)] d)) (op1 lenD (pure (PyData.list v154.2)))))))
def M_is_edit : List Sl → Option D := ar1 m_is_edit
theorem ok_is_edit {f : Addr} {fd : FuncData} (F : Fun K "is_edit" "is_edit" s_is_edit f fd) (hy : SysAt base) (mC_SIZES : mg "SIZES" = some (.ref c_SIZES)) (tb_SIZES : TabK K w c_SIZES [("put", 3), ("remove", 3), ("wish", 1), ("drop", 1)]) (mb_isinstance : mg "isinstance" = none) (mb_len : mg "len" = none) (mb_str : mg "str" = none) (mb_tuple : mg "tuple" = none) : FnG P w K mg base 1 f fd ["value"] (spJ K M_is_edit) := by
  have sc := sc_is_edit
  exact fn_ar1 F sc rfl fun p_value cdv A outer s H E hr gu => (fj_ifr (tj_w (wj_or (tj_not (tj_val (ej_isi "tuple" (ej_vk 0) mb_isinstance mb_tuple))) (wj_or (tj_cmp (by exact op_eqA hy (units_of hr)) rd_eq (ej_vk 0) (ej_tup dj_nil)) (wj_or1 (tj_not (tj_val (ej_isi "str" (ej_ix ix_seq rd_ix (ej_vk 0) ej_int (fun _ _ => rfl)) mb_isinstance mb_str))))))) (fj_ret ej_bl) (fj_seq (sj_unpS 1 2 sc.nd (ej_vk 0)) (fun v154 => (fj_ret (ej_and (ej_inTab tb_SIZES mC_SIZES (ej_vk 1)) (ej_one (ej_cmp (by exact op_eqA hy (units_of hr)) rd_eq (ej_atTab tb_SIZES mC_SIZES (ej_vk 1)) (ej_call1 call_lenD' rc_len mb_len (ej_vk 2)))))))))
abbrev s_with_number : Stmt := top 59
theorem sc_with_number : FnScope ["stock", "drawer", "kind", "number", "row"] ["stock", "drawer", "kind", "number"] (defScope s_with_number) := ⟨rfl, rfl, rfl, by decide +kernel, rfl, by decide +kernel, by decide +kernel⟩
def m_with_number (p_stock p_drawer p_kind p_number : D) : Option D := ((op2 getD (pure p_stock) (pure p_drawer)) >>= fun v155 => (tupSM (starM (slcM (pure p_stock) (pure none) (partM (pure p_drawer))) (consM (tupSM (starM (slcM (pure v155) (pure none) (partM (pure p_kind))) (consM (pure p_number) (starM (slcM (pure v155) (partM (op2 addD (pure p_kind) (pure (.int 1)))) (pure none)) (pure []))))) (starM (slcM (pure p_stock) (partM (op2 addD (pure p_drawer) (pure (.int 1)))) (pure none)) (pure []))))))
def M_with_number : List Sl → Option D := ar4 m_with_number
theorem ok_with_number {f : Addr} {fd : FuncData} (F : Fun K "with_number" "with_number" s_with_number f fd) (hy : SysAt base) : FnG P w K mg base 1 f fd ["stock", "drawer", "kind", "number"] (spJ K M_with_number) := by
  have sc := sc_with_number
  exact fn_ar4 F sc rfl fun p_stock p_drawer p_kind p_number cdv A outer s H E hr gu => (fj_seq (sj_set 4 sc.nd (ej_ix ix_seq rd_ix (ej_vk 0) (ej_vk 1) (fun _ _ => rfl))) (fun v155 => (fj_ret (ej_tupS (dj_star (ej_slice (ej_vk 0) oj_none (oj_some (ej_vk 1))) (dj_cons (ej_tupS (dj_star (ej_slice (ej_vk 4) oj_none (oj_some (ej_vk 2))) (dj_cons (ej_vk 3) (dj_star (ej_slice (ej_vk 4) (oj_some (ej_bin op_addD rd_add (ej_vk 2) ej_int)) oj_none) dj_nil)))) (dj_star (ej_slice (ej_vk 0) (oj_some (ej_bin op_addD rd_add (ej_vk 1) ej_int)) oj_none) dj_nil)))))))
abbrev s_Cabinet__stock : Stmt := (clsBody (top 65)).getD 3 (.Pass ⟨0, 0, 0, 0⟩)
theorem sc_Cabinet__stock : FnScope ["self"] ["self"] (defScope s_Cabinet__stock) := ⟨rfl, rfl, rfl, by decide +kernel, rfl, by decide +kernel, by decide +kernel⟩
def m_Cabinet__stock (p_self : D) : Z D := ((((pure p_self) >>= fun d => OverZ.up (attrZ "Cabinet" "states" d)) >>= fun d => (op1 negD (pure (.int 1))) >>= fun j => ixZ d j) >>= fun d => (pure (.int 0)) >>= fun j => ixZ d j)
def M_Cabinet__stock : List Sl → Z D := ar1 m_Cabinet__stock
theorem ok_Cabinet__stock {f : Addr} {fd : FuncData} (F : Fun K "stock" "Cabinet.stock" s_Cabinet__stock f fd) (hy : SysAt base) (hn_Cabinet_states : HasNo K "Cabinet" "states") : FnG P w K mg base 1 f fd ["self"] (spJ K M_Cabinet__stock) := by
  have sc := sc_Cabinet__stock
  exact fn_ar1 F sc rfl fun p_self cdv A outer s H E hr gu => (fj_ret (ej_ixZ (ej_ixZ (ej_attrZ hn_Cabinet_states (ej_vk 0)) (ej_un un_neg ru_neg ej_int) (fun _ _ => rfl)) ej_int (fun _ _ => rfl)))
abbrev s_Cabinet__collections : Stmt := (clsBody (top 65)).getD 4 (.Pass ⟨0, 0, 0, 0⟩)
theorem sc_Cabinet__collections : FnScope ["self"] ["self"] (defScope s_Cabinet__collections) := ⟨rfl, rfl, rfl, by decide +kernel, rfl, by decide +kernel, by decide +kernel⟩
def m_Cabinet__collections (p_self : D) : Z D := ((((pure p_self) >>= fun d => OverZ.up (attrZ "Cabinet" "states" d)) >>= fun d => (op1 negD (pure (.int 1))) >>= fun j => ixZ d j) >>= fun d => (pure (.int 1)) >>= fun j => ixZ d j)
def M_Cabinet__collections : List Sl → Z D := ar1 m_Cabinet__collections
theorem ok_Cabinet__collections {f : Addr} {fd : FuncData} (F : Fun K "collections" "Cabinet.collections" s_Cabinet__collections f fd) (hy : SysAt base) (hn_Cabinet_states : HasNo K "Cabinet" "states") : FnG P w K mg base 1 f fd ["self"] (spJ K M_Cabinet__collections) := by
  have sc := sc_Cabinet__collections
  exact fn_ar1 F sc rfl fun p_self cdv A outer s H E hr gu => (fj_ret (ej_ixZ (ej_ixZ (ej_attrZ hn_Cabinet_states (ej_vk 0)) (ej_un un_neg ru_neg ej_int) (fun _ _ => rfl)) ej_int (fun _ _ => rfl)))
abbrev s_Cabinet__sure : Stmt := (clsBody (top 65)).getD 5 (.Pass ⟨0, 0, 0, 0⟩)
theorem sc_Cabinet__sure : FnScope ["self"] ["self"] (defScope s_Cabinet__sure) := ⟨rfl, rfl, rfl, by decide +kernel, rfl, by decide +kernel, by decide +kernel⟩
def m_Cabinet__sure (p_self : D) : Z D := (((pure p_self) >>= fun d => OverZ.up (attrZ "Cabinet" "numbers" d)) >>= fun d => (op1 negD (pure (.int 1))) >>= fun j => ixZ d j)
def M_Cabinet__sure : List Sl → Z D := ar1 m_Cabinet__sure
theorem ok_Cabinet__sure {f : Addr} {fd : FuncData} (F : Fun K "sure" "Cabinet.sure" s_Cabinet__sure f fd) (hy : SysAt base) (hn_Cabinet_numbers : HasNo K "Cabinet" "numbers") : FnG P w K mg base 1 f fd ["self"] (spJ K M_Cabinet__sure) := by
  have sc := sc_Cabinet__sure
  exact fn_ar1 F sc rfl fun p_self cdv A outer s H E hr gu => (fj_ret (ej_ixZ (ej_attrZ hn_Cabinet_numbers (ej_vk 0)) (ej_un un_neg ru_neg ej_int) (fun _ _ => rfl)))
abbrev s_Cabinet__accept : Stmt := (clsBody (top 65)).getD 7 (.Pass ⟨0, 0, 0, 0⟩)
theorem sc_Cabinet__accept : FnScope ["self", "number"] ["self", "number"] (defScope s_Cabinet__accept) := ⟨rfl, rfl, rfl, by decide +kernel, rfl, by decide +kernel, by decide +kernel⟩
def m_Cabinet__accept (p_self p_number : D) : Z D := (pure () >>= fun _ => pure .none)
def M_Cabinet__accept : List Sl → Z D := ar2 m_Cabinet__accept
theorem ok_Cabinet__accept {f : Addr} {fd : FuncData} (F : Fun K "accept" "Cabinet.accept" s_Cabinet__accept f fd) (hy : SysAt base) : FnG P w K mg base 1 f fd ["self", "number"] (spJ K M_Cabinet__accept) := by
  have sc := sc_Cabinet__accept
  exact fn_ar2 F sc rfl fun p_self p_number cdv A outer s H E hr gu => (fj_seq sj_pass (fun _ => fj_nil))
abbrev s_Cabinet____len__ : Stmt := (clsBody (top 65)).getD 8 (.Pass ⟨0, 0, 0, 0⟩)
theorem sc_Cabinet____len__ : FnScope ["self"] ["self"] (defScope s_Cabinet____len__) := ⟨rfl, rfl, rfl, by decide +kernel, rfl, by decide +kernel, by decide +kernel⟩
def m_Cabinet____len__ (p_self : D) : Z D := (((pure p_self) >>= fun d => OverZ.up (attrZ "Cabinet" "standing" d)) >>= fun d => lenZ d)
def M_Cabinet____len__ : List Sl → Z D := ar1 m_Cabinet____len__
theorem ok_Cabinet____len__ {f : Addr} {fd : FuncData} (F : Fun K "__len__" "Cabinet.__len__" s_Cabinet____len__ f fd) (hy : SysAt base) (hn_Cabinet_standing : HasNo K "Cabinet" "standing") (mb_len : mg "len" = none) : FnG P w K mg base 1 f fd ["self"] (spJ K M_Cabinet____len__) := by
  have sc := sc_Cabinet____len__
  exact fn_ar1 F sc rfl fun p_self cdv A outer s H E hr gu => (fj_ret (ej_lenZ mb_len (ej_attrZ hn_Cabinet_standing (ej_vk 0))))
abbrev s_are_numbers : Stmt := top 29
theorem sc_are_numbers : FnScope ["value", "count", "high", "number"] ["value", "count", "high"] (defScope s_are_numbers) := ⟨rfl, rfl, rfl, by decide +kernel, rfl, by decide +kernel, by decide +kernel⟩
def m_are_numbers (p_value p_count p_high : D) : Option D := (iteM (orB (notB (tst (isiM "tuple" (pure p_value)))) (cmp2 neD (op1 lenD (pure p_value)) (pure p_count))) (pure (.bool false)) (op1 allD (lstM (comp1 (seqM (pure p_value)) (fun c156 => ((argV (pure c156) (argV (pure (.int 0)) (argV (pure p_high) (pure [])))) >>= M_is_number))))))
def M_are_numbers : List Sl → Option D := ar3 m_are_numbers
theorem ok_are_numbers {f : Addr} {fd : FuncData} (F : Fun K "are_numbers" "are_numbers" s_are_numbers f fd) (hy : SysAt base) (d_is_number : Def P w K mg base 1 "is_number" ["value", "low", "high"] (spJ K M_is_number)) (mb_all : mg "all" = none) (mb_isinstance : mg "isinstance" = none) (mb_len : mg "len" = none) (mb_tuple : mg "tuple" = none) : FnG P w K mg base 2 f fd ["value", "count", "high"] (spJ K M_are_numbers) := by
  have sc := sc_are_numbers
  exact fn_ar3 F sc rfl fun p_value p_count p_high cdv A outer s H E hr gu => (fj_ifr (tj_w (wj_or (tj_not (tj_val (ej_isi "tuple" (ej_vk 0) mb_isinstance mb_tuple))) (wj_or1 (tj_cmp (by exact op_neA hy (units_of hr)) rd_ne (ej_call1 call_lenD' rc_len mb_len (ej_vk 0)) (ej_vk 1))))) (fj_ret ej_bl) (fj_ret (ej_call1 (cr_all rfl) rc_all mb_all (ej_l (LcP.expr (lj_lc1 [("number", 3)] 3 sc.nd (ij_seq (ej_vk 0)) (blk_of (by kernel_rfl)) (fun _ _ _ _ _ => pg_name (i := 3) sc.nd rfl (by first | exact Or.inl rfl | exact Or.inr rfl)) (fun _ _ _ _ _ c156 => (ej_callD d_is_number (hr.mono (by decide)) gu (aj_cons (ej_vk 3) (aj_cons ej_int (aj_cons (ej_vk 2) aj_nil)))))))))))
abbrev s_fulfilled_by : Stmt := top 37
theorem sc_fulfilled_by : FnScope ["collections", "counts", "index", "collection"] ["collections", "counts"] (defScope s_fulfilled_by) := ⟨rfl, rfl, rfl, by decide +kernel, rfl, by decide +kernel, by decide +kernel⟩
def m_fulfilled_by (p_collections p_counts : D) : Option D := (forM2 (enumM (pure p_collections)) () (fun x158 x159 (a157 : Unit) => (iteM (tst ((argV (pure p_counts) (argV (pure x159) (pure []))) >>= M_contains)) (rtM (pure x158)) (pure (.nx ())))) >>= fun f => thenM f fun (a160 : Unit) => (pure PyData.none))
def M_fulfilled_by : List Sl → Option D := ar2 m_fulfilled_by
theorem ok_fulfilled_by {f : Addr} {fd : FuncData} (F : Fun K "fulfilled_by" "fulfilled_by" s_fulfilled_by f fd) (hy : SysAt base) (d_contains : Def P w K mg base 1 "contains" ["counts", "collection"] (spJ K M_contains)) (mb_enumerate : mg "enumerate" = none) : FnG P w K mg base 2 f fd ["collections", "counts"] (spJ K M_fulfilled_by) := by
  have sc := sc_fulfilled_by
  exact fn_ar2 F sc rfl fun p_collections p_counts cdv A outer s H E hr gu => (fj_of_for (for2 2 3 (P := fun (a157 : Unit) => [.val p_collections, .val p_counts, .any, .any]) (a0 := ()) PassesOwn.never (ij_enum mb_enumerate (ej_vk 0)) (pg_tup rfl (pgs_cons (pg_name (i := 2) sc.nd rfl (by first | exact Or.inl rfl | exact Or.inr rfl)) (pgs_cons (pg_name (i := 3) sc.nd rfl (by first | exact Or.inl rfl | exact Or.inr rfl)) pgs_nil))) (fun x158 x159 a157 => (bj_ifr (tj_val (ej_callD d_contains (hr.mono (by decide)) gu (aj_cons (ej_vk 1) (aj_cons (ej_vk 3) aj_nil)))) (fj_ret (ej_vk 2)) (bj_nil (a := ()) ⟨.inr rfl, .inr rfl, .inl rfl, .inl rfl, trivial⟩))) ⟨.inr rfl, .inr rfl, .inl rfl, .inl rfl, trivial⟩) (fun a160 => (fj_ret ej_non)))
abbrev s__law_stock : Stmt := top 69
theorem sc__law_stock : FnScope ["_law_deck_here", "_law_drawers", "_law_most", "_law_kinds", "_law_way", "_law_found", "_law_k", "_law_row", "_law_kind", "_law_number"] ["_law_deck_here", "_law_drawers", "_law_most"] (defScope s__law_stock) := ⟨rfl, rfl, rfl, by decide +kernel, rfl, by decide +kernel, by decide +kernel⟩
def m__law_stock (p_drawers p_most : D) : W D := ((parM (op2 addD (pure (.int 1)) ((argK (argV (pure (.int 4)) (pure []))) >>= drawW)) ((argK (argV (pure (.int 4)) (pure []))) >>= drawW)) >>= fun v161 => ((pure []) >>= fun v162 => (forM1 (rng1 (op2 addD (pure (.int 1)) ((argK (argV (pure p_drawers) (pure []))) >>= drawW))) v162 (fun x164 (a163 : List D) => ((comp1 (rng1 (pure v161.1)) (fun c166 => ((argK (argV (op2 addD (pure p_most) (pure (.int 1))) (pure []))) >>= drawW))) >>= fun v165 => ((cmp2 eqD (pure v161.2) (pure (.int 0))) >>= fun k => (if k = true then ((comp1 (seqM (pure (PyData.list v165))) (fun c169 => (op2 mulD ((argK (argV (pure (.int 2)) (pure []))) >>= drawW) (pure c169)))) >>= fun v168 => (pure (.nx (PyData.list v168)))) else (pure (.nx (PyData.list v165)))) >>= fun f => thenB f fun (a167 : D) => ((cmp2 eqD (pure v161.2) (pure (.int 1))) >>= fun k => (if k = true then ((comp1 (seqM (pure a167)) (fun c172 => (op2 min2D (pure c172) (pure (.int 2))))) >>= fun v171 => (pure (.nx (PyData.list v171)))) else (pure (.nx a167))) >>= fun f => thenB f fun (a170 : D) => (((op1 tupleD (pure a170)) >>= fun d => Mo.lift (fits a163.length) >>= fun _ => pure d) >>= fun v173 => (pure (.nx (a163 ++ [v173])))))))) >>= fun f => thenM f fun (a174 : List D) => (op1 tupleD (pure (PyData.list a174))))))
def M__law_stock : List Sl → W D := dk2 m__law_stock
theorem ok__law_stock {f : Addr} {fd : FuncData} (F : Fun K "_law_stock" "_law_stock" s__law_stock f fd) (hy : SysAt base) (d__law_draw : Def P w K mg base 1 "_law_draw" ["_law_deck_here", "_law_many"] (spJ K drawW)) (mb_min : mg "min" = none) (mb_range : mg "range" = none) (mb_tuple : mg "tuple" = none) : FnG P w K mg base 2 f fd ["_law_deck_here", "_law_drawers", "_law_most"] (spJ K M__law_stock) := by
  have sc := sc__law_stock
  exact fn_dk2 F sc rfl fun p_drawers p_most cdv A outer s H E hr gu => (fj_seq (sj_par 3 4 sc.nd (ej_bin op_addD rd_add ej_int (ej_callD d__law_draw (hr.mono (by decide)) gu (aj_dk 0 (aj_cons ej_int aj_nil)))) (ej_callD d__law_draw (hr.mono (by decide)) gu (aj_dk 0 (aj_cons ej_int aj_nil)))) (fun v161 => (fj_seq (sj_setO 5 sc.nd (lj_lst dj_nil)) (fun v162 => (fj_of_for (for1 6 (P := fun (a163 : List D) => [.deck, .val p_drawers, .val p_most, .val v161.1, .val v161.2, .own a163, .any, .any, .any, .any]) (a0 := v162) PassesOwn.never (ij_range1 mb_range (ej_bin op_addD rd_add ej_int (ej_callD d__law_draw (hr.mono (by decide)) gu (aj_dk 0 (aj_cons (ej_vk 1) aj_nil))))) (pg_name (i := 6) sc.nd rfl (by first | exact Or.inl rfl | exact Or.inr rfl)) (fun x164 a163 => (bj_seq (sj_lcV 7 sc.nd (lj_lc1 [("_law_kind", 8)] 8 sc.nd (ij_range1 mb_range (ej_vk 3)) (blk_of (by kernel_rfl)) (fun _ _ _ _ _ => pg_name (i := 8) sc.nd rfl (by first | exact Or.inl rfl | exact Or.inr rfl)) (fun _ _ _ _ _ c166 => (ej_callD d__law_draw (hr.mono (by decide)) gu (aj_dk 0 (aj_cons (ej_bin op_addD rd_add (ej_vk 2) ej_int) aj_nil))))) (by kernel_rfl)) (fun v165 => (bj_if (P := fun (a167 : D) => [.deck, .val p_drawers, .val p_most, .val v161.1, .val v161.2, .own a163, .val x164, .val a167, .any, .any]) (tj_cmp (by exact op_eqA hy (units_of hr)) rd_eq (ej_vk 4) ej_int) (bj_seq (sj_lcV 7 sc.nd (lj_lc1 [("_law_number", 9)] 9 sc.nd (ij_seq (ej_vk 7)) (blk_of (by kernel_rfl)) (fun _ _ _ _ _ => pg_name (i := 9) sc.nd rfl (by first | exact Or.inl rfl | exact Or.inr rfl)) (fun _ _ _ _ _ c169 => (ej_bin op_mulD rd_mul (ej_callD d__law_draw (hr.mono (by decide)) gu (aj_dk 0 (aj_cons ej_int aj_nil))) (ej_vk 9)))) (by kernel_rfl)) (fun v168 => (bj_nil (a := (PyData.list v168)) ⟨.inr rfl, .inr rfl, .inr rfl, .inr rfl, .inr rfl, .inr rfl, .inr rfl, .inr rfl, .inl rfl, .inl rfl, trivial⟩))) (bj_nil (a := (PyData.list v165)) ⟨.inr rfl, .inr rfl, .inr rfl, .inr rfl, .inr rfl, .inr rfl, .inr rfl, .inr rfl, .inl rfl, .inl rfl, trivial⟩) (fun a167 => (bj_if (P := fun (a170 : D) => [.deck, .val p_drawers, .val p_most, .val v161.1, .val v161.2, .own a163, .val x164, .val a170, .any, .any]) (tj_cmp (by exact op_eqA hy (units_of hr)) rd_eq (ej_vk 4) ej_int) (bj_seq (sj_lcV 7 sc.nd (lj_lc1 [("_law_number", 9)] 9 sc.nd (ij_seq (ej_vk 7)) (blk_of (by kernel_rfl)) (fun _ _ _ _ _ => pg_name (i := 9) sc.nd rfl (by first | exact Or.inl rfl | exact Or.inr rfl)) (fun _ _ _ _ _ c172 => (ej_call2 (call_min2 rfl) rc_min2 mb_min (ej_vk 9) ej_int))) (by kernel_rfl)) (fun v171 => (bj_nil (a := (PyData.list v171)) ⟨.inr rfl, .inr rfl, .inr rfl, .inr rfl, .inr rfl, .inr rfl, .inr rfl, .inr rfl, .inl rfl, .inl rfl, trivial⟩))) (bj_nil (a := a167) ⟨.inr rfl, .inr rfl, .inr rfl, .inr rfl, .inr rfl, .inr rfl, .inr rfl, .inr rfl, .inl rfl, .inl rfl, trivial⟩) (fun a170 => (bj_seq (sj_append 5 (ej_callT call_tuple_of rc_tuple mb_tuple (ej_vk 7))) (fun v173 => (bj_nil (a := (a163 ++ [v173])) ⟨.inr rfl, .inr rfl, .inr rfl, .inr rfl, .inr rfl, .inr rfl, .inl rfl, .inl rfl, .inl rfl, .inl rfl, trivial⟩)))))))))) ⟨.inr rfl, .inr rfl, .inr rfl, .inr rfl, .inr rfl, .inr rfl, .inl rfl, .inl rfl, .inl rfl, .inl rfl, trivial⟩) (fun a174 => (fj_fr 5 (fj_ret (ej_callT call_tuple_of rc_tuple mb_tuple (ej_vk 5))))))))))
abbrev s__law_collection : Stmt := top 70
theorem sc__law_collection : FnScope ["_law_deck_here", "_law_kinds", "_law_most", "_law_found", "_law_at", "_law_kind"] ["_law_deck_here", "_law_kinds", "_law_most"] (defScope s__law_collection) := ⟨rfl, rfl, rfl, by decide +kernel, rfl, by decide +kernel, by decide +kernel⟩
def m__law_collection (p_kinds p_most : D) : W D := ((comp1 (rng1 (pure p_kinds)) (fun c176 => (op2 mulD ((argK (argV (op2 addD (pure p_most) (pure (.int 1))) (pure []))) >>= drawW) ((argK (argV (pure (.int 2)) (pure []))) >>= drawW)))) >>= fun v175 => (((argK (argV (pure p_kinds) (pure []))) >>= drawW) >>= fun v177 => (((rdM (op2 max2D (pure (.int 1)) (op2 getD (pure (PyData.list v175)) (pure v177)))) >>= fun d => (pure v177) >>= fun j => Mo.lift (putD v175 j d)) >>= fun v178 => (op1 tupleD (pure (PyData.list v178))))))
def M__law_collection : List Sl → W D := dk2 m__law_collection
theorem ok__law_collection {f : Addr} {fd : FuncData} (F : Fun K "_law_collection" "_law_collection" s__law_collection f fd) (hy : SysAt base) (d__law_draw : Def P w K mg base 1 "_law_draw" ["_law_deck_here", "_law_many"] (spJ K drawW)) (mb_max : mg "max" = none) (mb_range : mg "range" = none) (mb_tuple : mg "tuple" = none) : FnG P w K mg base 2 f fd ["_law_deck_here", "_law_kinds", "_law_most"] (spJ K M__law_collection) := by
  have sc := sc__law_collection
  exact fn_dk2 F sc rfl fun p_kinds p_most cdv A outer s H E hr gu => (fj_seq (sj_lcO 3 sc.nd (lj_lc1 [("_law_kind", 5)] 5 sc.nd (ij_range1 mb_range (ej_vk 1)) (blk_of (by kernel_rfl)) (fun _ _ _ _ _ => pg_name (i := 5) sc.nd rfl (by first | exact Or.inl rfl | exact Or.inr rfl)) (fun _ _ _ _ _ c176 => (ej_bin op_mulD rd_mul (ej_callD d__law_draw (hr.mono (by decide)) gu (aj_dk 0 (aj_cons (ej_bin op_addD rd_add (ej_vk 2) ej_int) aj_nil))) (ej_callD d__law_draw (hr.mono (by decide)) gu (aj_dk 0 (aj_cons ej_int aj_nil)))))) (by kernel_rfl)) (fun v175 => (fj_seq (sj_set 4 sc.nd (ej_callD d__law_draw (hr.mono (by decide)) gu (aj_dk 0 (aj_cons (ej_vk 1) aj_nil)))) (fun v177 => (fj_seq (sj_put 3 (ej_rd (ej_call2 (call_max2 rfl) rc_max2 mb_max ej_int (ej_ix ix_seq rd_ix (ej_vk 3) (ej_vk 4) (fun _ _ => rfl)))) (ej_vk 4)) (fun v178 => (fj_fr 3 (fj_ret (ej_callT call_tuple_of rc_tuple mb_tuple (ej_vk 3))))))))))
abbrev s_stock_error : Stmt := top 30
theorem sc_stock_error : FnScope ["value", "index", "drawer"] ["value"] (defScope s_stock_error) := ⟨rfl, rfl, rfl, by decide +kernel, rfl, by decide +kernel, by decide +kernel⟩
def m_stock_error (p_value : D) : Option D := (iteM (orB (notB (tst (isiM "tuple" (pure p_value)))) (notB (tst (chain3 leD leD (pure (.int 1)) (op1 lenD (pure p_value)) (pure (.int 4)))))) (tupM (consM (pure PyData.none) (consM (pure (.str "stock")) (pure [])))) (iteM (orB (notB (tst (isiM "tuple" (op2 getD (pure p_value) (pure (.int 0)))))) (notB (tst (chain3 leD leD (pure (.int 1)) (op1 lenD (op2 getD (pure p_value) (pure (.int 0)))) (pure (.int 4)))))) (tupM (consM (pure (.int 0)) (consM (pure (.str "drawer")) (pure [])))) (forM2 (enumM (pure p_value)) () (fun x180 x181 (a179 : Unit) => (iteM (notB (tst ((argV (pure x181) (argV (op1 lenD (op2 getD (pure p_value) (pure (.int 0)))) (argV (pure (.int 50)) (pure [])))) >>= M_are_numbers))) (rtM (tupM (consM (pure x180) (consM (pure (.str "drawer")) (pure []))))) (pure (.nx ())))) >>= fun f => thenM f fun (a182 : Unit) => (pure PyData.none))))
def M_stock_error : List Sl → Option D := ar1 m_stock_error
theorem ok_stock_error {f : Addr} {fd : FuncData} (F : Fun K "stock_error" "stock_error" s_stock_error f fd) (hy : SysAt base) (d_are_numbers : Def P w K mg base 2 "are_numbers" ["value", "count", "high"] (spJ K M_are_numbers)) (mb_enumerate : mg "enumerate" = none) (mb_isinstance : mg "isinstance" = none) (mb_len : mg "len" = none) (mb_tuple : mg "tuple" = none) {tc_MAX_COUNT : Tok} (mc_MAX_COUNT : mg "MAX_COUNT" = some (.int 50 tc_MAX_COUNT)) {tc_MAX_DRAWERS : Tok} (mc_MAX_DRAWERS : mg "MAX_DRAWERS" = some (.int 4 tc_MAX_DRAWERS)) {tc_MAX_KINDS : Tok} (mc_MAX_KINDS : mg "MAX_KINDS" = some (.int 4 tc_MAX_KINDS)) : FnG P w K mg base 3 f fd ["value"] (spJ K M_stock_error) := by
  have sc := sc_stock_error
  exact fn_ar1 F sc rfl fun p_value cdv A outer s H E hr gu => (fj_ifr (tj_w (wj_or (tj_not (tj_val (ej_isi "tuple" (ej_vk 0) mb_isinstance mb_tuple))) (wj_or1 (tj_not (tj_chain op_le rd_le op_le rd_le ej_int (ej_call1 call_lenD' rc_len mb_len (ej_vk 0)) (ej_gint mc_MAX_DRAWERS)))))) (fj_ret (ej_tup (dj_cons ej_non (dj_cons ej_str dj_nil)))) (fj_ifr (tj_w (wj_or (tj_not (tj_val (ej_isi "tuple" (ej_ix ix_seq rd_ix (ej_vk 0) ej_int (fun _ _ => rfl)) mb_isinstance mb_tuple))) (wj_or1 (tj_not (tj_chain op_le rd_le op_le rd_le ej_int (ej_call1 call_lenD' rc_len mb_len (ej_ix ix_seq rd_ix (ej_vk 0) ej_int (fun _ _ => rfl))) (ej_gint mc_MAX_KINDS)))))) (fj_ret (ej_tup (dj_cons ej_int (dj_cons ej_str dj_nil)))) (fj_of_for (for2 1 2 (P := fun (a179 : Unit) => [.val p_value, .any, .any]) (a0 := ()) PassesOwn.never (ij_enum mb_enumerate (ej_vk 0)) (pg_tup rfl (pgs_cons (pg_name (i := 1) sc.nd rfl (by first | exact Or.inl rfl | exact Or.inr rfl)) (pgs_cons (pg_name (i := 2) sc.nd rfl (by first | exact Or.inl rfl | exact Or.inr rfl)) pgs_nil))) (fun x180 x181 a179 => (bj_ifr (tj_not (tj_val (ej_callD d_are_numbers (hr.mono (by decide)) gu (aj_cons (ej_vk 2) (aj_cons (ej_call1 call_lenD' rc_len mb_len (ej_ix ix_seq rd_ix (ej_vk 0) ej_int (fun _ _ => rfl))) (aj_cons (ej_gint mc_MAX_COUNT) aj_nil)))))) (fj_ret (ej_tup (dj_cons (ej_vk 1) (dj_cons ej_str dj_nil)))) (bj_nil (a := ()) ⟨.inr rfl, .inl rfl, .inl rfl, trivial⟩))) ⟨.inr rfl, .inl rfl, .inl rfl, trivial⟩) (fun a182 => (fj_ret ej_non)))))
abbrev s_is_collection : Stmt := top 34
theorem sc_is_collection : FnScope ["kinds", "value"] ["kinds", "value"] (defScope s_is_collection) := ⟨rfl, rfl, rfl, by decide +kernel, rfl, by decide +kernel, by decide +kernel⟩
def m_is_collection (p_kinds p_value : D) : Option D := (andD ((argV (pure p_value) (argV (pure p_kinds) (argV (pure (.int 50)) (pure [])))) >>= M_are_numbers) (op2 gtD (op1 maxD (pure p_value)) (pure (.int 0))))
def M_is_collection : List Sl → Option D := ar2 m_is_collection
theorem ok_is_collection {f : Addr} {fd : FuncData} (F : Fun K "is_collection" "is_collection" s_is_collection f fd) (hy : SysAt base) (d_are_numbers : Def P w K mg base 2 "are_numbers" ["value", "count", "high"] (spJ K M_are_numbers)) (mb_max : mg "max" = none) {tc_MAX_COUNT : Tok} (mc_MAX_COUNT : mg "MAX_COUNT" = some (.int 50 tc_MAX_COUNT)) : FnG P w K mg base 3 f fd ["kinds", "value"] (spJ K M_is_collection) := by
  have sc := sc_is_collection
  exact fn_ar2 F sc rfl fun p_kinds p_value cdv A outer s H E hr gu => (fj_ret (ej_and (ej_callD d_are_numbers (hr.mono (by decide)) gu (aj_cons (ej_vk 1) (aj_cons (ej_vk 0) (aj_cons (ej_gint mc_MAX_COUNT) aj_nil)))) (ej_one (ej_cmp op_gt rd_gt (ej_call1 (call_maxD rfl) rc_max mb_max (ej_vk 1)) ej_int))))
abbrev s_sure_total : Stmt := top 42
theorem sc_sure_total : FnScope ["stock", "collections", "drawers", "rooms", "spoiling"] ["stock", "collections"] (defScope s_sure_total) := ⟨rfl, rfl, rfl, by decide +kernel, rfl, by decide +kernel, by decide +kernel⟩
def m_sure_total (p_stock p_collections : D) : Option D := (iteM (cmp2 isD ((argV (pure p_collections) (argV ((argV (pure p_stock) (pure [])) >>= M_totals_of) (pure []))) >>= M_fulfilled_by) (pure PyData.none)) (pure PyData.none) ((op1 tupleD (lstM (lrg1M (op1 lenD (pure p_stock))))) >>= fun v183 => ((comp1 (seqM ((argV (pure p_collections) (pure [])) >>= M_spoilings_of)) (fun c185 => ((argV (pure p_stock) (argV ((argV (pure p_collections) (argV (pure c185) (pure []))) >>= M_caps_of) (argV (pure v183) (pure [])))) >>= M_room_in))) >>= fun v184 => (op2 addD (op1 maxD (pure (PyData.list v184))) (pure (.int 1))))))
def M_sure_total : List Sl → Option D := ar2 m_sure_total
theorem ok_sure_total {f : Addr} {fd : FuncData} (F : Fun K "sure_total" "sure_total" s_sure_total f fd) (hy : SysAt base) (d_caps_of : Def P w K mg base 1 "caps_of" ["collections", "spoiling"] (spJ K M_caps_of)) (d_fulfilled_by : Def P w K mg base 2 "fulfilled_by" ["collections", "counts"] (spJ K M_fulfilled_by)) (d_room_in : Def P w K mg base 1 "room_in" ["stock", "caps", "drawers"] (spJ K M_room_in)) (d_spoilings_of : Def P w K mg base 1 "spoilings_of" ["collections"] (spJ K M_spoilings_of)) (d_totals_of : Def P w K mg base 1 "totals_of" ["stock"] (spJ K M_totals_of)) (mb_len : mg "len" = none) (mb_list : mg "list" = none) (mb_max : mg "max" = none) (mb_range : mg "range" = none) (mb_tuple : mg "tuple" = none) : FnG P w K mg base 3 f fd ["stock", "collections"] (spJ K M_sure_total) := by
  have sc := sc_sure_total
  exact fn_ar2 F sc rfl fun p_stock p_collections cdv A outer s H E hr gu => (fj_ifr (tj_cmp op_isN rd_is (ej_callD d_fulfilled_by (hr.mono (by decide)) gu (aj_cons (ej_vk 1) (aj_cons (ej_callD d_totals_of (hr.mono (by decide)) gu (aj_cons (ej_vk 0) aj_nil)) aj_nil))) ej_non) (fj_ret ej_non) (fj_seq (sj_set 2 sc.nd (ej_callT call_tuple_of rc_tuple mb_tuple (ej_l (lj_lrg1 mb_list mb_range (ej_call1 call_lenD' rc_len mb_len (ej_vk 0)))))) (fun v183 => (fj_seq (sj_lcV 3 sc.nd (lj_lc1 [("spoiling", 4)] 4 sc.nd (ij_seq (ej_callD d_spoilings_of (hr.mono (by decide)) gu (aj_cons (ej_vk 1) aj_nil))) (blk_of (by kernel_rfl)) (fun _ _ _ _ _ => pg_name (i := 4) sc.nd rfl (by first | exact Or.inl rfl | exact Or.inr rfl)) (fun _ _ _ _ _ c185 => (ej_callD d_room_in (hr.mono (by decide)) gu (aj_cons (ej_vk 0) (aj_cons (ej_callD d_caps_of (hr.mono (by decide)) gu (aj_cons (ej_vk 1) (aj_cons (ej_vk 4) aj_nil))) (aj_cons (ej_vk 2) aj_nil)))))) (by kernel_rfl)) (fun v184 => (fj_ret (ej_bin op_addD rd_add (ej_call1 (call_maxD rfl) rc_max mb_max (ej_vk 3)) ej_int)))))))
abbrev s_require_things : Stmt := top 58
theorem sc_require_things : FnScope ["stock", "drawer", "kind", "count"] ["stock", "drawer", "kind", "count"] (defScope s_require_things) := ⟨rfl, rfl, rfl, by decide +kernel, rfl, by decide +kernel, by decide +kernel⟩
def mx_require_things (p_stock p_drawer p_kind p_count : D) : Xo D := (iteM (upX (notB (tst ((argV (pure p_drawer) (argV (pure (.int 0)) (argV (op2 subD (op1 lenD (pure p_stock)) (pure (.int 1))) (pure [])))) >>= M_is_within)))) ((upX (pure p_drawer)) >>= fun d => MoX.throw ⟨"NoDrawer", [("value", d)]⟩) (iteM (upX (notB (tst ((argV (pure p_kind) (argV (pure (.int 0)) (argV (op2 subD (op1 lenD (op2 getD (pure p_stock) (pure (.int 0)))) (pure (.int 1))) (pure [])))) >>= M_is_within)))) ((upX (pure p_kind)) >>= fun d => MoX.throw ⟨"NoKind", [("value", d)]⟩) (iteM (upX (notB (tst ((argV (pure p_count) (argV (pure (.int 1)) (argV (pure (.int 50)) (pure [])))) >>= M_is_within)))) ((upX (pure p_count)) >>= fun d => MoX.throw ⟨"BadCount", [("value", d)]⟩) (pure .none))))
def MX_require_things : List Sl → Xo D := ar4 mx_require_things
theorem okx_require_things {f : Addr} {fd : FuncData} (F : Fun K "require_things" "require_things" s_require_things f fd) (hy : SysAt base) {c_BadCount c_NoDrawer c_NoKind : Addr} (e1_BadCount : Er1 P w K mg base "BadCount" "value" c_BadCount) (e1_NoDrawer : Er1L P w K mg base "NoDrawer" "value" c_NoDrawer) (e1_NoKind : Er1L P w K mg base "NoKind" "value" c_NoKind) (d_is_within : Def P w K mg base 1 "is_within" ["value", "low", "high"] (spJ K M_is_within)) (mb_len : mg "len" = none) {tc_MAX_COUNT : Tok} (mc_MAX_COUNT : mg "MAX_COUNT" = some (.int 50 tc_MAX_COUNT)) : FnX P w K mg base 3 f fd ["stock", "drawer", "kind", "count"] (spX K mg MX_require_things) := by
  have sc := sc_require_things
  exact fnx_ar4 F sc rfl fun p_stock p_drawer p_kind p_count cdv A outer s H E hr gu => (fj_ifr (tj_up (m' := Option) (tj_not (tj_val (ej_callD d_is_within (hr.mono (by decide)) gu (aj_cons (ej_vk 1) (aj_cons ej_int (aj_cons (ej_bin op_sub rd_sub (ej_call1 call_lenD' rc_len mb_len (ej_vk 0)) ej_int) aj_nil))))))) (fj_raise1L e1_NoDrawer (hr.mono (by decide)) rfl takesX (sub_any rfl rfl) (ej_up (m' := Option) (ej_vk 1))) (fj_ifr (tj_up (m' := Option) (tj_not (tj_val (ej_callD d_is_within (hr.mono (by decide)) gu (aj_cons (ej_vk 2) (aj_cons ej_int (aj_cons (ej_bin op_sub rd_sub (ej_call1 call_lenD' rc_len mb_len (ej_ix ix_seq rd_ix (ej_vk 0) ej_int (fun _ _ => rfl))) ej_int) aj_nil))))))) (fj_raise1L e1_NoKind (hr.mono (by decide)) rfl takesX (sub_any rfl rfl) (ej_up (m' := Option) (ej_vk 2))) (fj_ifr (tj_up (m' := Option) (tj_not (tj_val (ej_callD d_is_within (hr.mono (by decide)) gu (aj_cons (ej_vk 3) (aj_cons ej_int (aj_cons (ej_gint mc_MAX_COUNT) aj_nil))))))) (fj_raise1 e1_BadCount (hr.mono (by decide)) rfl takesX (sub_any rfl rfl) (ej_up (m' := Option) (ej_vk 3))) fj_nil)))
abbrev s_without_collection : Stmt := top 63
theorem sc_without_collection : FnScope ["collections", "index"] ["collections", "index"] (defScope s_without_collection) := ⟨rfl, rfl, rfl, by decide +kernel, rfl, by decide +kernel, by decide +kernel⟩
def mx_without_collection (p_collections p_index : D) : Xo D := (iteM (upX (notB (tst ((argV (pure p_index) (argV (pure (.int 0)) (argV (op2 subD (op1 lenD (pure p_collections)) (pure (.int 1))) (pure [])))) >>= M_is_within)))) ((upX (pure p_index)) >>= fun d => MoX.throw ⟨"NoCollection", [("value", d)]⟩) (iteM (upX (cmp2 eqD (op1 lenD (pure p_collections)) (pure (.int 1)))) (MoX.throw ⟨"LastCollection", []⟩) (upX (tupSM (starM (slcM (pure p_collections) (pure none) (partM (pure p_index))) (starM (slcM (pure p_collections) (partM (op2 addD (pure p_index) (pure (.int 1)))) (pure none)) (pure [])))))))
def MX_without_collection : List Sl → Xo D := ar2 mx_without_collection
theorem okx_without_collection {f : Addr} {fd : FuncData} (F : Fun K "without_collection" "without_collection" s_without_collection f fd) (hy : SysAt base) {c_LastCollection c_NoCollection : Addr} (e0_LastCollection : Er0 K mg "LastCollection" c_LastCollection) (e1_NoCollection : Er1L P w K mg base "NoCollection" "value" c_NoCollection) (d_is_within : Def P w K mg base 1 "is_within" ["value", "low", "high"] (spJ K M_is_within)) (mb_len : mg "len" = none) : FnX P w K mg base 3 f fd ["collections", "index"] (spX K mg MX_without_collection) := by
  have sc := sc_without_collection
  exact fnx_ar2 F sc rfl fun p_collections p_index cdv A outer s H E hr gu => (fj_ifr (tj_up (m' := Option) (tj_not (tj_val (ej_callD d_is_within (hr.mono (by decide)) gu (aj_cons (ej_vk 1) (aj_cons ej_int (aj_cons (ej_bin op_sub rd_sub (ej_call1 call_lenD' rc_len mb_len (ej_vk 0)) ej_int) aj_nil))))))) (fj_raise1L e1_NoCollection (hr.mono (by decide)) rfl takesX (sub_any rfl rfl) (ej_up (m' := Option) (ej_vk 1))) (fj_ifr (tj_up (m' := Option) (tj_cmp (by exact op_eqA hy (units_of hr)) rd_eq (ej_call1 call_lenD' rc_len mb_len (ej_vk 0)) ej_int)) (fj_raise0 e0_LastCollection rfl takesX (sub_any rfl rfl)) (fj_ret (ej_up (m' := Option) (ej_tupS (dj_star (ej_slice (ej_vk 0) oj_none (oj_some (ej_vk 1))) (dj_star (ej_slice (ej_vk 0) (oj_some (ej_bin op_addD rd_add (ej_vk 1) ej_int)) oj_none) dj_nil)))))))
abbrev s_Cabinet__require_idle : Stmt := (clsBody (top 65)).getD 11 (.Pass ⟨0, 0, 0, 0⟩)
theorem sc_Cabinet__require_idle : FnScope ["self"] ["self"] (defScope s_Cabinet__require_idle) := ⟨rfl, rfl, rfl, by decide +kernel, rfl, by decide +kernel, by decide +kernel⟩
def mx_Cabinet__require_idle (p_self : D) : ZX D := (iteM (upZ (tst ((pure p_self) >>= fun d => OverZ.up (attrZ "Cabinet" "watching" d)))) (MoX.throw ⟨"Busy", []⟩) (pure .none))
def MX_Cabinet__require_idle : List Sl → ZX D := ar1 mx_Cabinet__require_idle
theorem okx_Cabinet__require_idle {f : Addr} {fd : FuncData} (F : Fun K "require_idle" "Cabinet.require_idle" s_Cabinet__require_idle f fd) (hy : SysAt base) {c_Busy : Addr} (e0_Busy : Er0 K mg "Busy" c_Busy) (hn_Cabinet_watching : HasNo K "Cabinet" "watching") : FnX P w K mg base 3 f fd ["self"] (spX K mg MX_Cabinet__require_idle) := by
  have sc := sc_Cabinet__require_idle
  exact fnx_ar1 F sc rfl fun p_self cdv A outer s H E hr gu => (fj_ifr (tj_up (m' := Z) (tj_val (ej_attrZ hn_Cabinet_watching (ej_vk 0)))) (fj_raise0 e0_Busy rfl takesX (sub_any rfl rfl)) fj_nil)
abbrev s__law_wish : Stmt := top 71
theorem sc__law_wish : FnScope ["_law_deck_here", "_law_kinds", "_law_most", "_law_k"] ["_law_deck_here", "_law_kinds", "_law_most"] (defScope s__law_wish) := ⟨rfl, rfl, rfl, by decide +kernel, rfl, by decide +kernel, by decide +kernel⟩
def m__law_wish (p_kinds p_most : D) : W D := (op1 tupleD (lstM (comp1 (rng1 (op2 addD (pure (.int 1)) ((argK (argV (pure (.int 4)) (pure []))) >>= drawW))) (fun c186 => ((argK (argV (pure p_kinds) (argV (pure p_most) (pure [])))) >>= M__law_collection)))))
def M__law_wish : List Sl → W D := dk2 m__law_wish
theorem ok__law_wish {f : Addr} {fd : FuncData} (F : Fun K "_law_wish" "_law_wish" s__law_wish f fd) (hy : SysAt base) (d__law_collection : Def P w K mg base 2 "_law_collection" ["_law_deck_here", "_law_kinds", "_law_most"] (spJ K M__law_collection)) (d__law_draw : Def P w K mg base 1 "_law_draw" ["_law_deck_here", "_law_many"] (spJ K drawW)) (mb_range : mg "range" = none) (mb_tuple : mg "tuple" = none) : FnG P w K mg base 3 f fd ["_law_deck_here", "_law_kinds", "_law_most"] (spJ K M__law_wish) := by
  have sc := sc__law_wish
  exact fn_dk2 F sc rfl fun p_kinds p_most cdv A outer s H E hr gu => (fj_ret (ej_callT call_tuple_of rc_tuple mb_tuple (ej_l (LcP.expr (lj_lc1 [("_law_k", 3)] 3 sc.nd (ij_range1 mb_range (ej_bin op_addD rd_add ej_int (ej_callD d__law_draw (hr.mono (by decide)) gu (aj_dk 0 (aj_cons ej_int aj_nil))))) (blk_of (by kernel_rfl)) (fun _ _ _ _ _ => pg_name (i := 3) sc.nd rfl (by first | exact Or.inl rfl | exact Or.inr rfl)) (fun _ _ _ _ _ c186 => (ej_callD d__law_collection (hr.mono (by decide)) gu (aj_dk 0 (aj_cons (ej_vk 1) (aj_cons (ej_vk 2) aj_nil))))))))))
abbrev s_are_collections : Stmt := top 35
theorem sc_are_collections : FnScope ["kinds", "value", "collection"] ["kinds", "value"] (defScope s_are_collections) := ⟨rfl, rfl, rfl, by decide +kernel, rfl, by decide +kernel, by decide +kernel⟩
def m_are_collections (p_kinds p_value : D) : Option D := (iteM (orB (notB (tst (isiM "tuple" (pure p_value)))) (notB (tst (chain3 leD leD (pure (.int 1)) (op1 lenD (pure p_value)) (pure (.int 4)))))) (pure (.bool false)) (op1 allD (lstM (comp1 (seqM (pure p_value)) (fun c187 => ((argV (pure p_kinds) (argV (pure c187) (pure []))) >>= M_is_collection))))))
def M_are_collections : List Sl → Option D := ar2 m_are_collections
theorem ok_are_collections {f : Addr} {fd : FuncData} (F : Fun K "are_collections" "are_collections" s_are_collections f fd) (hy : SysAt base) (d_is_collection : Def P w K mg base 3 "is_collection" ["kinds", "value"] (spJ K M_is_collection)) (mb_all : mg "all" = none) (mb_isinstance : mg "isinstance" = none) (mb_len : mg "len" = none) (mb_tuple : mg "tuple" = none) {tc_MAX_COLLECTIONS : Tok} (mc_MAX_COLLECTIONS : mg "MAX_COLLECTIONS" = some (.int 4 tc_MAX_COLLECTIONS)) : FnG P w K mg base 4 f fd ["kinds", "value"] (spJ K M_are_collections) := by
  have sc := sc_are_collections
  exact fn_ar2 F sc rfl fun p_kinds p_value cdv A outer s H E hr gu => (fj_ifr (tj_w (wj_or (tj_not (tj_val (ej_isi "tuple" (ej_vk 1) mb_isinstance mb_tuple))) (wj_or1 (tj_not (tj_chain op_le rd_le op_le rd_le ej_int (ej_call1 call_lenD' rc_len mb_len (ej_vk 1)) (ej_gint mc_MAX_COLLECTIONS)))))) (fj_ret ej_bl) (fj_ret (ej_call1 (cr_all rfl) rc_all mb_all (ej_l (LcP.expr (lj_lc1 [("collection", 2)] 2 sc.nd (ij_seq (ej_vk 1)) (blk_of (by kernel_rfl)) (fun _ _ _ _ _ => pg_name (i := 2) sc.nd rfl (by first | exact Or.inl rfl | exact Or.inr rfl)) (fun _ _ _ _ _ c187 => (ej_callD d_is_collection (hr.mono (by decide)) gu (aj_cons (ej_vk 0) (aj_cons (ej_vk 2) aj_nil))))))))))
abbrev s_with_things : Stmt := top 60
theorem sc_with_things : FnScope ["stock", "drawer", "kind", "count", "total"] ["stock", "drawer", "kind", "count"] (defScope s_with_things) := ⟨rfl, rfl, rfl, by decide +kernel, rfl, by decide +kernel, by decide +kernel⟩
def mx_with_things (p_stock p_drawer p_kind p_count : D) : Xo D := (((argV (upX (pure p_stock)) (argV (upX (pure p_drawer)) (argV (upX (pure p_kind)) (argV (upX (pure p_count)) (pure []))))) >>= MX_require_things) >>= fun v190 => ((upX (op2 addD (op2 getD (op2 getD (pure p_stock) (pure p_drawer)) (pure p_kind)) (pure p_count))) >>= fun v191 => (upX (pure (.int 50))) >>= fun c => Mo.lift ((gtD v191 c).bind boolD) >>= fun k => if k = true then ((upX (pure v191)) >>= fun d => MoX.throw ⟨"TooMuch", [("total", d)]⟩) else (upX ((argV (pure p_stock) (argV (pure p_drawer) (argV (pure p_kind) (argV (pure v191) (pure []))))) >>= M_with_number))))
def MX_with_things : List Sl → Xo D := ar4 mx_with_things
theorem okx_with_things {f : Addr} {fd : FuncData} (F : Fun K "with_things" "with_things" s_with_things f fd) (hy : SysAt base) {c_TooMuch : Addr} (e1_TooMuch : Er1 P w K mg base "TooMuch" "total" c_TooMuch) (d_with_number : Def P w K mg base 1 "with_number" ["stock", "drawer", "kind", "number"] (spJ K M_with_number)) (dx_require_things : DefX P w K mg base 3 "require_things" ["stock", "drawer", "kind", "count"] (spX K mg MX_require_things)) {tc_MAX_COUNT : Tok} (mc_MAX_COUNT : mg "MAX_COUNT" = some (.int 50 tc_MAX_COUNT)) : FnX P w K mg base 4 f fd ["stock", "drawer", "kind", "count"] (spX K mg MX_with_things) := by
  have sc := sc_with_things
  exact fnx_ar4 F sc rfl fun p_stock p_drawer p_kind p_count cdv A outer s H E hr gu => (fj_seq (sj_expr (ej_callXD dx_require_things (hr.mono (by decide)) gu takesX (sub_any rfl rfl) (aj_cons (ej_up (m' := Option) (ej_vk 0)) (aj_cons (ej_up (m' := Option) (ej_vk 1)) (aj_cons (ej_up (m' := Option) (ej_vk 2)) (aj_cons (ej_up (m' := Option) (ej_vk 3)) aj_nil)))))) (fun v190 => (fj_ifw 4 sc.nd op_gt rd_gt (ej_up (m' := Option) (ej_bin op_addD rd_add (ej_ix ix_seq rd_ix (ej_ix ix_seq rd_ix (ej_vk 0) (ej_vk 1) (fun _ _ => rfl)) (ej_vk 2) (fun _ _ => rfl)) (ej_vk 3))) (fun v191 => (ej_up (m' := Option) (ej_gint mc_MAX_COUNT))) (fun v191 => (fj_raise1 e1_TooMuch (hr.mono (by decide)) rfl takesX (sub_any rfl rfl) (ej_up (m' := Option) (ej_vk 4)))) (fun v191 => (fj_ret (ej_up (m' := Option) (ej_callD d_with_number (hr.mono (by decide)) gu (aj_cons (ej_vk 0) (aj_cons (ej_vk 1) (aj_cons (ej_vk 2) (aj_cons (ej_vk 4) aj_nil)))))))))))
abbrev s_without_things : Stmt := top 61
theorem sc_without_things : FnScope ["stock", "drawer", "kind", "count"] ["stock", "drawer", "kind", "count"] (defScope s_without_things) := ⟨rfl, rfl, rfl, by decide +kernel, rfl, by decide +kernel, by decide +kernel⟩
def mx_without_things (p_stock p_drawer p_kind p_count : D) : Xo D := (((argV (upX (pure p_stock)) (argV (upX (pure p_drawer)) (argV (upX (pure p_kind)) (argV (upX (pure p_count)) (pure []))))) >>= MX_require_things) >>= fun v193 => (iteM (upX (cmp2 ltD (op2 getD (op2 getD (pure p_stock) (pure p_drawer)) (pure p_kind)) (pure p_count))) ((upX (pure p_kind)) >>= fun d => MoX.throw ⟨"TooFew", [("kind", d)]⟩) (upX ((argV (pure p_stock) (argV (pure p_drawer) (argV (pure p_kind) (argV (op2 subD (op2 getD (op2 getD (pure p_stock) (pure p_drawer)) (pure p_kind)) (pure p_count)) (pure []))))) >>= M_with_number))))
def MX_without_things : List Sl → Xo D := ar4 mx_without_things
theorem okx_without_things {f : Addr} {fd : FuncData} (F : Fun K "without_things" "without_things" s_without_things f fd) (hy : SysAt base) {c_TooFew : Addr} (e1_TooFew : Er1 P w K mg base "TooFew" "kind" c_TooFew) (d_with_number : Def P w K mg base 1 "with_number" ["stock", "drawer", "kind", "number"] (spJ K M_with_number)) (dx_require_things : DefX P w K mg base 3 "require_things" ["stock", "drawer", "kind", "count"] (spX K mg MX_require_things)) : FnX P w K mg base 4 f fd ["stock", "drawer", "kind", "count"] (spX K mg MX_without_things) := by
  have sc := sc_without_things
  exact fnx_ar4 F sc rfl fun p_stock p_drawer p_kind p_count cdv A outer s H E hr gu => (fj_seq (sj_expr (ej_callXD dx_require_things (hr.mono (by decide)) gu takesX (sub_any rfl rfl) (aj_cons (ej_up (m' := Option) (ej_vk 0)) (aj_cons (ej_up (m' := Option) (ej_vk 1)) (aj_cons (ej_up (m' := Option) (ej_vk 2)) (aj_cons (ej_up (m' := Option) (ej_vk 3)) aj_nil)))))) (fun v193 => (fj_ifr (tj_up (m' := Option) (tj_cmp op_lt rd_lt (ej_ix ix_seq rd_ix (ej_ix ix_seq rd_ix (ej_vk 0) (ej_vk 1) (fun _ _ => rfl)) (ej_vk 2) (fun _ _ => rfl)) (ej_vk 3))) (fj_raise1 e1_TooFew (hr.mono (by decide)) rfl takesX (sub_any rfl rfl) (ej_up (m' := Option) (ej_vk 2))) (fj_ret (ej_up (m' := Option) (ej_callD d_with_number (hr.mono (by decide)) gu (aj_cons (ej_vk 0) (aj_cons (ej_vk 1) (aj_cons (ej_vk 2) (aj_cons (ej_bin op_sub rd_sub (ej_ix ix_seq rd_ix (ej_ix ix_seq rd_ix (ej_vk 0) (ej_vk 1) (fun _ _ => rfl)) (ej_vk 2) (fun _ _ => rfl)) (ej_vk 3)) aj_nil))))))))))
abbrev s_Cabinet__undo : Stmt := (clsBody (top 65)).getD 18 (.Pass ⟨0, 0, 0, 0⟩)
theorem sc_Cabinet__undo : FnScope ["self"] ["self"] (defScope s_Cabinet__undo) := ⟨rfl, rfl, rfl, by decide +kernel, rfl, by decide +kernel, by decide +kernel⟩
def mx_Cabinet__undo (p_self : D) : ZX D := (((upZ (pure p_self)) >>= fun d => OverZ.up (selfZ "Cabinet" "require_idle" d) >>= fun _ => MX_Cabinet__require_idle [.val d]) >>= fun v198 => (iteM (upZ (cmp2 eqD (((pure p_self) >>= fun d => OverZ.up (attrZ "Cabinet" "standing" d)) >>= fun d => lenZ d) (pure (.int 0)))) (MoX.throw ⟨"NothingToUndo", []⟩) ((upZ (((pure p_self) >>= fun d => OverZ.up (attrZ "Cabinet" "standing" d)) >>= fun d => popZ d)) >>= fun v199 => ((upZ (((pure p_self) >>= fun d => OverZ.up (attrZ "Cabinet" "states" d)) >>= fun d => popZ d)) >>= fun v200 => ((upZ (((pure p_self) >>= fun d => OverZ.up (attrZ "Cabinet" "numbers" d)) >>= fun d => popZ d)) >>= fun v201 => (upZ (((pure p_self) >>= fun d => OverZ.up (attrZ "Cabinet" "standing" d)) >>= fun d => lenZ d)))))))
def MX_Cabinet__undo : List Sl → ZX D := ar1 mx_Cabinet__undo
theorem okx_Cabinet__undo {f : Addr} {fd : FuncData} (F : Fun K "undo" "Cabinet.undo" s_Cabinet__undo f fd) (hy : SysAt base) {c_NothingToUndo : Addr} (e0_NothingToUndo : Er0 K mg "NothingToUndo" c_NothingToUndo) (hn_Cabinet_numbers : HasNo K "Cabinet" "numbers") (hn_Cabinet_standing : HasNo K "Cabinet" "standing") (hn_Cabinet_states : HasNo K "Cabinet" "states") (dx_Cabinet__require_idle : MthX P w K mg base 3 "Cabinet" "require_idle" ["self"] (spX K mg MX_Cabinet__require_idle)) (mb_len : mg "len" = none) : FnX P w K mg base 4 f fd ["self"] (spX K mg MX_Cabinet__undo) := by
  have sc := sc_Cabinet__undo
  exact fnx_ar1 F sc rfl fun p_self cdv A outer s H E hr gu => (fj_seq (sj_expr (ej_methZX0 dx_Cabinet__require_idle (hr.mono (by decide)) gu takesX (sub_any rfl rfl) (ej_up (m' := Z) (ej_vk 0)))) (fun v198 => (fj_ifr (tj_up (m' := Z) (tj_cmp (by exact op_eqA hy (units_of hr)) rd_eq (ej_lenZ mb_len (ej_attrZ hn_Cabinet_standing (ej_vk 0))) ej_int)) (fj_raise0 e0_NothingToUndo rfl takesX (sub_any rfl rfl)) (fj_seq (sj_up (m' := Z) (sj_popZ (ej_attrZ hn_Cabinet_standing (ej_vk 0)))) (fun v199 => (fj_seq (sj_up (m' := Z) (sj_popZ (ej_attrZ hn_Cabinet_states (ej_vk 0)))) (fun v200 => (fj_seq (sj_up (m' := Z) (sj_popZ (ej_attrZ hn_Cabinet_numbers (ej_vk 0)))) (fun v201 => (fj_ret (ej_up (m' := Z) (ej_lenZ mb_len (ej_attrZ hn_Cabinet_standing (ej_vk 0))))))))))))))
abbrev s__law_begun : Stmt := top 72
theorem sc__law_begun : FnScope ["_law_deck_here", "_law_most", "_law_stock_here"] ["_law_deck_here", "_law_most"] (defScope s__law_begun) := ⟨rfl, rfl, rfl, by decide +kernel, rfl, by decide +kernel, by decide +kernel⟩
def m__law_begun (p_most : D) : W D := (((argK (argV (pure (.int 4)) (argV (pure p_most) (pure [])))) >>= M__law_stock) >>= fun v202 => (lstM (consM (pure v202) (consM ((argK (argV (op1 lenD (op2 getD (pure v202) (pure (.int 0)))) (argV (pure (.int 6)) (pure [])))) >>= M__law_wish) (pure [])))))
def M__law_begun : List Sl → W D := dk1 m__law_begun
theorem ok__law_begun {f : Addr} {fd : FuncData} (F : Fun K "_law_begun" "_law_begun" s__law_begun f fd) (hy : SysAt base) (d__law_stock : Def P w K mg base 2 "_law_stock" ["_law_deck_here", "_law_drawers", "_law_most"] (spJ K M__law_stock)) (d__law_wish : Def P w K mg base 3 "_law_wish" ["_law_deck_here", "_law_kinds", "_law_most"] (spJ K M__law_wish)) (mb_len : mg "len" = none) : FnG P w K mg base 4 f fd ["_law_deck_here", "_law_most"] (spJ K M__law_begun) := by
  have sc := sc__law_begun
  exact fn_dk1 F sc rfl fun p_most cdv A outer s H E hr gu => (fj_seq (sj_set 2 sc.nd (ej_callD d__law_stock (hr.mono (by decide)) gu (aj_dk 0 (aj_cons ej_int (aj_cons (ej_vk 1) aj_nil))))) (fun v202 => (fj_ret (ej_l (lj_lst (dj_cons (ej_vk 2) (dj_cons (ej_callD d__law_wish (hr.mono (by decide)) gu (aj_dk 0 (aj_cons (ej_call1 call_lenD' rc_len mb_len (ej_ix ix_seq rd_ix (ej_vk 2) ej_int (fun _ _ => rfl))) (aj_cons ej_int aj_nil)))) dj_nil)))))))
abbrev s_with_collection : Stmt := top 62
theorem sc_with_collection : FnScope ["kinds", "collections", "collection"] ["kinds", "collections", "collection"] (defScope s_with_collection) := ⟨rfl, rfl, rfl, by decide +kernel, rfl, by decide +kernel, by decide +kernel⟩
def mx_with_collection (p_kinds p_collections p_collection : D) : Xo D := (iteM (upX (notB (tst ((argV (pure p_kinds) (argV (tupM (consM (pure p_collection) (pure []))) (pure []))) >>= M_are_collections)))) ((upX (pure p_collection)) >>= fun d => MoX.throw ⟨"BadCollection", [("value", d)]⟩) (iteM (upX (cmp2 geD (op1 lenD (pure p_collections)) (pure (.int 4)))) (MoX.throw ⟨"TooManyCollections", []⟩) (upX (tupSM (starM (pure p_collections) (consM (pure p_collection) (pure [])))))))
def MX_with_collection : List Sl → Xo D := ar3 mx_with_collection
theorem okx_with_collection {f : Addr} {fd : FuncData} (F : Fun K "with_collection" "with_collection" s_with_collection f fd) (hy : SysAt base) {c_BadCollection c_TooManyCollections : Addr} (e0_TooManyCollections : Er0 K mg "TooManyCollections" c_TooManyCollections) (e1_BadCollection : Er1 P w K mg base "BadCollection" "value" c_BadCollection) (d_are_collections : Def P w K mg base 4 "are_collections" ["kinds", "value"] (spJ K M_are_collections)) (mb_len : mg "len" = none) {tc_MAX_COLLECTIONS : Tok} (mc_MAX_COLLECTIONS : mg "MAX_COLLECTIONS" = some (.int 4 tc_MAX_COLLECTIONS)) : FnX P w K mg base 5 f fd ["kinds", "collections", "collection"] (spX K mg MX_with_collection) := by
  have sc := sc_with_collection
  exact fnx_ar3 F sc rfl fun p_kinds p_collections p_collection cdv A outer s H E hr gu => (fj_ifr (tj_up (m' := Option) (tj_not (tj_val (ej_callD d_are_collections (hr.mono (by decide)) gu (aj_cons (ej_vk 0) (aj_cons (ej_tup (dj_cons (ej_vk 2) dj_nil)) aj_nil)))))) (fj_raise1 e1_BadCollection (hr.mono (by decide)) rfl takesX (sub_any rfl rfl) (ej_up (m' := Option) (ej_vk 2))) (fj_ifr (tj_up (m' := Option) (tj_cmp op_ge rd_ge (ej_call1 call_lenD' rc_len mb_len (ej_vk 1)) (ej_gint mc_MAX_COLLECTIONS))) (fj_raise0 e0_TooManyCollections rfl takesX (sub_any rfl rfl)) (fj_ret (ej_up (m' := Option) (ej_tupS (dj_star (ej_vk 1) (dj_cons (ej_vk 2) dj_nil)))))))
abbrev s_Cabinet____init__ : Stmt := (clsBody (top 65)).getD 1 (.Pass ⟨0, 0, 0, 0⟩)
theorem sc_Cabinet____init__ : FnScope ["self", "stock", "collections", "error"] ["self", "stock", "collections"] (defScope s_Cabinet____init__) := ⟨rfl, rfl, rfl, by decide +kernel, rfl, by decide +kernel, by decide +kernel⟩
def mx_Cabinet____init__ (p_self p_stock p_collections : D) : ZX D := ((upZ (OverZ.up (hidP (m' := Option) [.any, .val p_stock, .any, .any] ((argV (pure p_stock) (pure [])) >>= M_stock_error)))) >>= fun v208 => (iteM (upZ (cmp2 isnD (pure v208) (pure PyData.none))) ((upZ (pure v208)) >>= fun d => MoX.throw ⟨"BadStock", [("error", d)]⟩) (iteM (upZ (OverZ.up (hidP (m' := Option) [.any, .val p_stock, .val p_collections, .any] (notB (tst ((argV (op1 lenD (op2 getD (pure p_stock) (pure (.int 0)))) (argV (pure p_collections) (pure []))) >>= M_are_collections)))))) ((upZ (pure p_collections)) >>= fun d => MoX.throw ⟨"BadWish", [("value", d)]⟩) ((upZ (((consM (tupM (consM (pure p_stock) (consM (pure p_collections) (pure [])))) (pure [])) >>= newZ) >>= fun v => (pure p_self) >>= fun d => OverZ.up (setAZ "Cabinet" "states" d v))) >>= fun v209 => ((upZ (((OverZ.up (hidP (m' := Option) [.any, .val p_stock, .val p_collections, .any] (consM ((argV (pure p_stock) (argV (pure p_collections) (pure []))) >>= M_sure_total) (pure [])))) >>= newZ) >>= fun v => (pure p_self) >>= fun d => OverZ.up (setAZ "Cabinet" "numbers" d v))) >>= fun v210 => ((upZ (((pure []) >>= newZ) >>= fun v => (pure p_self) >>= fun d => OverZ.up (setAZ "Cabinet" "standing" d v))) >>= fun v211 => ((upZ ((pure (.bool false)) >>= fun v => (pure p_self) >>= fun d => OverZ.up (setAZ "Cabinet" "watching" d v))) >>= fun v212 => (pure .none))))))))
def MX_Cabinet____init__ : List Sl → ZX D := ar3 mx_Cabinet____init__
theorem okx_Cabinet____init__ {f : Addr} {fd : FuncData} (F : Fun K "__init__" "Cabinet.__init__" s_Cabinet____init__ f fd) (hy : SysAt base) {c_BadStock c_BadWish : Addr} (e1_BadStock : Er1 P w K mg base "BadStock" "error" c_BadStock) (e1_BadWish : Er1 P w K mg base "BadWish" "value" c_BadWish) (hn_Cabinet_numbers : HasNo K "Cabinet" "numbers") (hn_Cabinet_standing : HasNo K "Cabinet" "standing") (hn_Cabinet_states : HasNo K "Cabinet" "states") (hn_Cabinet_watching : HasNo K "Cabinet" "watching") (d_are_collections : Def P w K mg base 4 "are_collections" ["kinds", "value"] (spJ K M_are_collections)) (d_stock_error : Def P w K mg base 3 "stock_error" ["value"] (spJ K M_stock_error)) (d_sure_total : Def P w K mg base 3 "sure_total" ["stock", "collections"] (spJ K M_sure_total)) (mb_len : mg "len" = none) : FnX P w K mg base 5 f fd ["self", "stock", "collections"] (spX K mg MX_Cabinet____init__) := by
  have sc := sc_Cabinet____init__
  exact fnx_ar3 F sc rfl fun p_self p_stock p_collections cdv A outer s H E hr gu => (fj_seq (sj_set 3 sc.nd (ej_up (m' := Z) (ej_hidP (m' := Option) (g := [.val p_self, .val p_stock, .val p_collections, .any]) [.any, .val p_stock, .any, .any] (ej_callD d_stock_error (hr.mono (by decide)) gu (aj_cons (ej_vk 1) aj_nil)) ⟨.inl rfl, .inr rfl, .inl rfl, .inl rfl, trivial⟩))) (fun v208 => (fj_ifr (tj_up (m' := Z) (tj_cmp op_notN rd_isn (ej_vk 3) ej_non)) (fj_raise1 e1_BadStock (hr.mono (by decide)) rfl takesX (sub_any rfl rfl) (ej_up (m' := Z) (ej_vk 3))) (fj_ifr (tj_up (m' := Z) (tj_hidP (m' := Option) (g := [.val p_self, .val p_stock, .val p_collections, .val v208]) [.any, .val p_stock, .val p_collections, .any] (tj_not (tj_val (ej_callD d_are_collections (hr.mono (by decide)) gu (aj_cons (ej_call1 call_lenD' rc_len mb_len (ej_ix ix_seq rd_ix (ej_vk 1) ej_int (fun _ _ => rfl))) (aj_cons (ej_vk 2) aj_nil))))) ⟨.inl rfl, .inr rfl, .inr rfl, .inl rfl, trivial⟩)) (fj_raise1 e1_BadWish (hr.mono (by decide)) rfl takesX (sub_any rfl rfl) (ej_up (m' := Z) (ej_vk 2))) (fj_seq (sj_up (m' := Z) (sj_attrZ hn_Cabinet_states (ej_cel (lj_lst (dj_cons (ej_tup (dj_cons (ej_vk 1) (dj_cons (ej_vk 2) dj_nil))) dj_nil))) (ej_vk 0))) (fun v209 => (fj_seq (sj_up (m' := Z) (sj_attrZ hn_Cabinet_numbers (ej_cel (lj_hidP (m' := Option) (g := [.val p_self, .val p_stock, .val p_collections, .val v208]) [.any, .val p_stock, .val p_collections, .any] (lj_lst (dj_cons (ej_callD d_sure_total (hr.mono (by decide)) gu (aj_cons (ej_vk 1) (aj_cons (ej_vk 2) aj_nil))) dj_nil)) ⟨.inl rfl, .inr rfl, .inr rfl, .inl rfl, trivial⟩)) (ej_vk 0))) (fun v210 => (fj_seq (sj_up (m' := Z) (sj_attrZ hn_Cabinet_standing (ej_cel (lj_lst dj_nil)) (ej_vk 0))) (fun v211 => (fj_seq (sj_up (m' := Z) (sj_attrZ hn_Cabinet_watching ej_bl (ej_vk 0))) (fun v212 => fj_nil))))))))))))
abbrev s_Cabinet__state_after : Stmt := (clsBody (top 65)).getD 12 (.Pass ⟨0, 0, 0, 0⟩)
theorem sc_Cabinet__state_after : FnScope ["self", "edit", "stock", "collections", "word", "values"] ["self", "edit"] (defScope s_Cabinet__state_after) := ⟨rfl, rfl, rfl, by decide +kernel, rfl, by decide +kernel, by decide +kernel⟩
def mx_Cabinet__state_after (p_self p_edit : D) : ZX D := ((unp2A (upZ (((pure p_self) >>= fun d => OverZ.up (attrZ "Cabinet" "states" d)) >>= fun d => (op1 negD (pure (.int 1))) >>= fun j => ixZ d j))) >>= fun v220 => ((unpS (upZ (pure p_edit))) >>= fun v221 => (((upZ (pure v221.1)) >>= fun d => Mo.lift (strOnly d) >>= fun s => (if s = "put" then (((argV (upZ (pure v220.1)) ((upZ (pure (PyData.list v221.2))) >>= fun d => Mo.lift (itemsD d) >>= fun ds => (pure []) >>= fun as => pure (ds.map .val ++ as))) >>= fun as => hidX as (MX_with_things as)) >>= fun v226 => (pure (.nx (v226, v220.2)))) else (if s = "remove" then (((argV (upZ (pure v220.1)) ((upZ (pure (PyData.list v221.2))) >>= fun d => Mo.lift (itemsD d) >>= fun ds => (pure []) >>= fun as => pure (ds.map .val ++ as))) >>= fun as => hidX as (MX_without_things as)) >>= fun v225 => (pure (.nx (v225, v220.2)))) else (if s = "wish" then (((argV (upZ (op1 lenD (op2 getD (pure v220.1) (pure (.int 0))))) (argV (upZ (pure v220.2)) ((upZ (pure (PyData.list v221.2))) >>= fun d => Mo.lift (itemsD d) >>= fun ds => (pure []) >>= fun as => pure (ds.map .val ++ as)))) >>= fun as => hidX as (MX_with_collection as)) >>= fun v224 => (pure (.nx (v220.1, v224)))) else (((argV (upZ (pure v220.2)) ((upZ (pure (PyData.list v221.2))) >>= fun d => Mo.lift (itemsD d) >>= fun ds => (pure []) >>= fun as => pure (ds.map .val ++ as))) >>= fun as => hidX as (MX_without_collection as)) >>= fun v223 => (pure (.nx (v220.1, v223)))))))) >>= fun f => thenM f fun (a222 : D × D) => (upZ (tupM (consM (pure a222.1) (consM (pure a222.2) (pure []))))))))
def MX_Cabinet__state_after : List Sl → ZX D := ar2 mx_Cabinet__state_after
theorem okx_Cabinet__state_after {f : Addr} {fd : FuncData} (F : Fun K "state_after" "Cabinet.state_after" s_Cabinet__state_after f fd) (hy : SysAt base) (hn_Cabinet_states : HasNo K "Cabinet" "states") (dx_with_collection : DefX P w K mg base 5 "with_collection" ["kinds", "collections", "collection"] (spX K mg MX_with_collection)) (dx_with_things : DefX P w K mg base 4 "with_things" ["stock", "drawer", "kind", "count"] (spX K mg MX_with_things)) (dx_without_collection : DefX P w K mg base 3 "without_collection" ["collections", "index"] (spX K mg MX_without_collection)) (dx_without_things : DefX P w K mg base 4 "without_things" ["stock", "drawer", "kind", "count"] (spX K mg MX_without_things)) (mb_len : mg "len" = none) : FnX P w K mg base 6 f fd ["self", "edit"] (spX K mg MX_Cabinet__state_after) := by
  have sc := sc_Cabinet__state_after
  exact fnx_ar2 F sc rfl fun p_self p_edit cdv A outer s H E hr gu => (fj_seq (sj_unp2A 2 3 (ej_up (m' := Z) (ej_ixZ (ej_attrZ hn_Cabinet_states (ej_vk 0)) (ej_un un_neg ru_neg ej_int) (fun _ _ => rfl))) (pg_tup rfl (pgs_cons (pg_name (i := 2) sc.nd rfl (by first | exact Or.inl rfl | exact Or.inr rfl)) (pgs_cons (pg_name (i := 3) sc.nd rfl (by first | exact Or.inl rfl | exact Or.inr rfl)) pgs_nil))) (pg_unl rfl (pgs_cons (pg_name (i := 2) sc.nd rfl (by first | exact Or.inl rfl | exact Or.inr rfl)) (pgs_cons (pg_name (i := 3) sc.nd rfl (by first | exact Or.inl rfl | exact Or.inr rfl)) pgs_nil)))) (fun v220 => (fj_seq (sj_unpS 4 5 sc.nd (ej_up (m' := Z) (ej_vk 1))) (fun v221 => (fj_of_for (match_j (P := fun (a222 : D × D) => [.val p_self, .val p_edit, .val a222.1, .val a222.2, .val v221.1, .val (PyData.list v221.2)]) (ej_up (m' := Z) (ej_vk 4)) (.one (bj_seq (sj_set 2 sc.nd (ej_callHXSt dx_with_things (hr.mono (by decide)) gu takesX (sub_any rfl rfl) (aj_cons (ej_up (m' := Z) (ej_vk 2)) (aj_star (ej_up (m' := Z) (ej_vk 5)) aj_nil)))) (fun v226 => (bj_nil (a := (v226, v220.2)) ⟨.inr rfl, .inr rfl, .inr rfl, .inr rfl, .inr rfl, .inr rfl, trivial⟩))) (.one (bj_seq (sj_set 2 sc.nd (ej_callHXSt dx_without_things (hr.mono (by decide)) gu takesX (sub_any rfl rfl) (aj_cons (ej_up (m' := Z) (ej_vk 2)) (aj_star (ej_up (m' := Z) (ej_vk 5)) aj_nil)))) (fun v225 => (bj_nil (a := (v225, v220.2)) ⟨.inr rfl, .inr rfl, .inr rfl, .inr rfl, .inr rfl, .inr rfl, trivial⟩))) (.one (bj_seq (sj_set 3 sc.nd (ej_callHXSt dx_with_collection (hr.mono (by decide)) gu takesX (sub_any rfl rfl) (aj_cons (ej_up (m' := Z) (ej_call1 call_lenD' rc_len mb_len (ej_ix ix_seq rd_ix (ej_vk 2) ej_int (fun _ _ => rfl)))) (aj_cons (ej_up (m' := Z) (ej_vk 3)) (aj_star (ej_up (m' := Z) (ej_vk 5)) aj_nil))))) (fun v224 => (bj_nil (a := (v220.1, v224)) ⟨.inr rfl, .inr rfl, .inr rfl, .inr rfl, .inr rfl, .inr rfl, trivial⟩))) (.last (bj_seq (sj_set 3 sc.nd (ej_callHXSt dx_without_collection (hr.mono (by decide)) gu takesX (sub_any rfl rfl) (aj_cons (ej_up (m' := Z) (ej_vk 3)) (aj_star (ej_up (m' := Z) (ej_vk 5)) aj_nil)))) (fun v223 => (bj_nil (a := (v220.1, v223)) ⟨.inr rfl, .inr rfl, .inr rfl, .inr rfl, .inr rfl, .inr rfl, trivial⟩)))))))) (fun a222 => (fj_ret (ej_up (m' := Z) (ej_tup (dj_cons (ej_vk 2) (dj_cons (ej_vk 3) dj_nil)))))))))))
abbrev s_Cabinet__perform : Stmt := (clsBody (top 65)).getD 13 (.Pass ⟨0, 0, 0, 0⟩)
theorem sc_Cabinet__perform : FnScope ["self", "edit", "stock", "collections", "number"] ["self", "edit"] (defScope s_Cabinet__perform) := ⟨rfl, rfl, rfl, by decide +kernel, rfl, by decide +kernel, by decide +kernel⟩
def mx_Cabinet__perform (p_self p_edit : D) : ZX D := (iteM (upZ (cmp2 geD (((pure p_self) >>= fun d => OverZ.up (attrZ "Cabinet" "standing" d)) >>= fun d => lenZ d) (pure (.int 60)))) (MoX.throw ⟨"TooManyEdits", []⟩) ((unp2A ((upZ (pure p_self)) >>= fun d => OverZ.up (selfZ "Cabinet" "state_after" d) >>= fun _ => (argV (upZ (pure p_edit)) (pure [])) >>= fun as => MX_Cabinet__state_after (.val d :: as))) >>= fun v233 => ((upZ (OverZ.up (hidP (m' := Option) [.any, .any, .val v233.1, .val v233.2, .any] ((argV (pure v233.1) (argV (pure v233.2) (pure []))) >>= M_sure_total)))) >>= fun v234 => ((upZ ((pure p_self) >>= fun d => OverZ.up (selfZ "Cabinet" "accept" d) >>= fun _ => (argV (pure v234) (pure [])) >>= fun as => M_Cabinet__accept (.val d :: as))) >>= fun v235 => ((upZ (((pure p_self) >>= fun d => OverZ.up (attrZ "Cabinet" "states" d)) >>= fun d => onlyZ d >>= fun k => (tupM (consM (pure v233.1) (consM (pure v233.2) (pure [])))) >>= fun v => appZ (refL k) v)) >>= fun v236 => ((upZ (((pure p_self) >>= fun d => OverZ.up (attrZ "Cabinet" "numbers" d)) >>= fun d => onlyZ d >>= fun k => (pure v234) >>= fun v => appZ (refL k) v)) >>= fun v237 => ((upZ (((pure p_self) >>= fun d => OverZ.up (attrZ "Cabinet" "standing" d)) >>= fun d => onlyZ d >>= fun k => (pure p_edit) >>= fun v => appZ (refL k) v)) >>= fun v238 => (upZ (((pure p_self) >>= fun d => OverZ.up (attrZ "Cabinet" "standing" d)) >>= fun d => lenZ d)))))))))
def MX_Cabinet__perform : List Sl → ZX D := ar2 mx_Cabinet__perform
theorem okx_Cabinet__perform {f : Addr} {fd : FuncData} (F : Fun K "perform" "Cabinet.perform" s_Cabinet__perform f fd) (hy : SysAt base) {c_TooManyEdits : Addr} (e0_TooManyEdits : Er0 K mg "TooManyEdits" c_TooManyEdits) (hn_Cabinet_numbers : HasNo K "Cabinet" "numbers") (hn_Cabinet_standing : HasNo K "Cabinet" "standing") (hn_Cabinet_states : HasNo K "Cabinet" "states") (d_Cabinet__accept : MthG P w K mg base 1 "Cabinet" "accept" ["self", "number"] (spJ K M_Cabinet__accept)) (d_sure_total : Def P w K mg base 3 "sure_total" ["stock", "collections"] (spJ K M_sure_total)) (dx_Cabinet__state_after : MthX P w K mg base 6 "Cabinet" "state_after" ["self", "edit"] (spX K mg MX_Cabinet__state_after)) (mb_len : mg "len" = none) {tc_MAX_EDITS : Tok} (mc_MAX_EDITS : mg "MAX_EDITS" = some (.int 60 tc_MAX_EDITS)) : FnX P w K mg base 7 f fd ["self", "edit"] (spX K mg MX_Cabinet__perform) := by
  have sc := sc_Cabinet__perform
  exact fnx_ar2 F sc rfl fun p_self p_edit cdv A outer s H E hr gu => (fj_ifr (tj_up (m' := Z) (tj_cmp op_ge rd_ge (ej_lenZ mb_len (ej_attrZ hn_Cabinet_standing (ej_vk 0))) (ej_gint mc_MAX_EDITS))) (fj_raise0 e0_TooManyEdits rfl takesX (sub_any rfl rfl)) (fj_seq (sj_unp2A 2 3 (ej_methZX dx_Cabinet__state_after (hr.mono (by decide)) gu takesX (sub_any rfl rfl) (ej_up (m' := Z) (ej_vk 0)) (aj_cons (ej_up (m' := Z) (ej_vk 1)) aj_nil)) (pg_tup rfl (pgs_cons (pg_name (i := 2) sc.nd rfl (by first | exact Or.inl rfl | exact Or.inr rfl)) (pgs_cons (pg_name (i := 3) sc.nd rfl (by first | exact Or.inl rfl | exact Or.inr rfl)) pgs_nil))) (pg_unl rfl (pgs_cons (pg_name (i := 2) sc.nd rfl (by first | exact Or.inl rfl | exact Or.inr rfl)) (pgs_cons (pg_name (i := 3) sc.nd rfl (by first | exact Or.inl rfl | exact Or.inr rfl)) pgs_nil)))) (fun v233 => (fj_seq (sj_set 4 sc.nd (ej_up (m' := Z) (ej_hidP (m' := Option) (g := [.val p_self, .val p_edit, .val v233.1, .val v233.2, .any]) [.any, .any, .val v233.1, .val v233.2, .any] (ej_callD d_sure_total (hr.mono (by decide)) gu (aj_cons (ej_vk 2) (aj_cons (ej_vk 3) aj_nil))) ⟨.inl rfl, .inl rfl, .inr rfl, .inr rfl, .inl rfl, trivial⟩))) (fun v234 => (fj_seq (sj_up (m' := Z) (sj_expr (ej_methZ d_Cabinet__accept (hr.mono (by decide)) gu (ej_vk 0) (aj_cons (ej_vk 4) aj_nil)))) (fun v235 => (fj_seq (sj_up (m' := Z) (sj_appendZ (ej_attrZ hn_Cabinet_states (ej_vk 0)) (ej_tup (dj_cons (ej_vk 2) (dj_cons (ej_vk 3) dj_nil))))) (fun v236 => (fj_seq (sj_up (m' := Z) (sj_appendZ (ej_attrZ hn_Cabinet_numbers (ej_vk 0)) (ej_vk 4))) (fun v237 => (fj_seq (sj_up (m' := Z) (sj_appendZ (ej_attrZ hn_Cabinet_standing (ej_vk 0)) (ej_vk 1))) (fun v238 => (fj_ret (ej_up (m' := Z) (ej_lenZ mb_len (ej_attrZ hn_Cabinet_standing (ej_vk 0))))))))))))))))))
abbrev s_Cabinet__put : Stmt := (clsBody (top 65)).getD 14 (.Pass ⟨0, 0, 0, 0⟩)
theorem sc_Cabinet__put : FnScope ["self", "drawer", "kind", "count"] ["self", "drawer", "kind", "count"] (defScope s_Cabinet__put) := ⟨rfl, rfl, rfl, by decide +kernel, rfl, by decide +kernel, by decide +kernel⟩
def mx_Cabinet__put (p_self p_drawer p_kind p_count : D) : ZX D := (((upZ (pure p_self)) >>= fun d => OverZ.up (selfZ "Cabinet" "require_idle" d) >>= fun _ => MX_Cabinet__require_idle [.val d]) >>= fun v240 => ((upZ (pure p_self)) >>= fun d => OverZ.up (selfZ "Cabinet" "perform" d) >>= fun _ => (argV (upZ (tupM (consM (pure (.str "put")) (consM (pure p_drawer) (consM (pure p_kind) (consM (pure p_count) (pure []))))))) (pure [])) >>= fun as => MX_Cabinet__perform (.val d :: as)))
def MX_Cabinet__put : List Sl → ZX D := ar4 mx_Cabinet__put
theorem okx_Cabinet__put {f : Addr} {fd : FuncData} (F : Fun K "put" "Cabinet.put" s_Cabinet__put f fd) (hy : SysAt base) (dx_Cabinet__perform : MthX P w K mg base 7 "Cabinet" "perform" ["self", "edit"] (spX K mg MX_Cabinet__perform)) (dx_Cabinet__require_idle : MthX P w K mg base 3 "Cabinet" "require_idle" ["self"] (spX K mg MX_Cabinet__require_idle)) : FnX P w K mg base 8 f fd ["self", "drawer", "kind", "count"] (spX K mg MX_Cabinet__put) := by
  have sc := sc_Cabinet__put
  exact fnx_ar4 F sc rfl fun p_self p_drawer p_kind p_count cdv A outer s H E hr gu => (fj_seq (sj_expr (ej_methZX0 dx_Cabinet__require_idle (hr.mono (by decide)) gu takesX (sub_any rfl rfl) (ej_up (m' := Z) (ej_vk 0)))) (fun v240 => (fj_ret (ej_methZX dx_Cabinet__perform (hr.mono (by decide)) gu takesX (sub_any rfl rfl) (ej_up (m' := Z) (ej_vk 0)) (aj_cons (ej_up (m' := Z) (ej_tup (dj_cons ej_str (dj_cons (ej_vk 1) (dj_cons (ej_vk 2) (dj_cons (ej_vk 3) dj_nil)))))) aj_nil)))))
abbrev s_Cabinet__remove : Stmt := (clsBody (top 65)).getD 15 (.Pass ⟨0, 0, 0, 0⟩)
theorem sc_Cabinet__remove : FnScope ["self", "drawer", "kind", "count"] ["self", "drawer", "kind", "count"] (defScope s_Cabinet__remove) := ⟨rfl, rfl, rfl, by decide +kernel, rfl, by decide +kernel, by decide +kernel⟩
def mx_Cabinet__remove (p_self p_drawer p_kind p_count : D) : ZX D := (((upZ (pure p_self)) >>= fun d => OverZ.up (selfZ "Cabinet" "require_idle" d) >>= fun _ => MX_Cabinet__require_idle [.val d]) >>= fun v242 => ((upZ (pure p_self)) >>= fun d => OverZ.up (selfZ "Cabinet" "perform" d) >>= fun _ => (argV (upZ (tupM (consM (pure (.str "remove")) (consM (pure p_drawer) (consM (pure p_kind) (consM (pure p_count) (pure []))))))) (pure [])) >>= fun as => MX_Cabinet__perform (.val d :: as)))
def MX_Cabinet__remove : List Sl → ZX D := ar4 mx_Cabinet__remove
theorem okx_Cabinet__remove {f : Addr} {fd : FuncData} (F : Fun K "remove" "Cabinet.remove" s_Cabinet__remove f fd) (hy : SysAt base) (dx_Cabinet__perform : MthX P w K mg base 7 "Cabinet" "perform" ["self", "edit"] (spX K mg MX_Cabinet__perform)) (dx_Cabinet__require_idle : MthX P w K mg base 3 "Cabinet" "require_idle" ["self"] (spX K mg MX_Cabinet__require_idle)) : FnX P w K mg base 8 f fd ["self", "drawer", "kind", "count"] (spX K mg MX_Cabinet__remove) := by
  have sc := sc_Cabinet__remove
  exact fnx_ar4 F sc rfl fun p_self p_drawer p_kind p_count cdv A outer s H E hr gu => (fj_seq (sj_expr (ej_methZX0 dx_Cabinet__require_idle (hr.mono (by decide)) gu takesX (sub_any rfl rfl) (ej_up (m' := Z) (ej_vk 0)))) (fun v242 => (fj_ret (ej_methZX dx_Cabinet__perform (hr.mono (by decide)) gu takesX (sub_any rfl rfl) (ej_up (m' := Z) (ej_vk 0)) (aj_cons (ej_up (m' := Z) (ej_tup (dj_cons ej_str (dj_cons (ej_vk 1) (dj_cons (ej_vk 2) (dj_cons (ej_vk 3) dj_nil)))))) aj_nil)))))
abbrev s_Cabinet__wish : Stmt := (clsBody (top 65)).getD 16 (.Pass ⟨0, 0, 0, 0⟩)
theorem sc_Cabinet__wish : FnScope ["self", "collection"] ["self", "collection"] (defScope s_Cabinet__wish) := ⟨rfl, rfl, rfl, by decide +kernel, rfl, by decide +kernel, by decide +kernel⟩
def mx_Cabinet__wish (p_self p_collection : D) : ZX D := (((upZ (pure p_self)) >>= fun d => OverZ.up (selfZ "Cabinet" "require_idle" d) >>= fun _ => MX_Cabinet__require_idle [.val d]) >>= fun v244 => ((upZ (pure p_self)) >>= fun d => OverZ.up (selfZ "Cabinet" "perform" d) >>= fun _ => (argV (upZ (tupM (consM (pure (.str "wish")) (consM (pure p_collection) (pure []))))) (pure [])) >>= fun as => MX_Cabinet__perform (.val d :: as)))
def MX_Cabinet__wish : List Sl → ZX D := ar2 mx_Cabinet__wish
theorem okx_Cabinet__wish {f : Addr} {fd : FuncData} (F : Fun K "wish" "Cabinet.wish" s_Cabinet__wish f fd) (hy : SysAt base) (dx_Cabinet__perform : MthX P w K mg base 7 "Cabinet" "perform" ["self", "edit"] (spX K mg MX_Cabinet__perform)) (dx_Cabinet__require_idle : MthX P w K mg base 3 "Cabinet" "require_idle" ["self"] (spX K mg MX_Cabinet__require_idle)) : FnX P w K mg base 8 f fd ["self", "collection"] (spX K mg MX_Cabinet__wish) := by
  have sc := sc_Cabinet__wish
  exact fnx_ar2 F sc rfl fun p_self p_collection cdv A outer s H E hr gu => (fj_seq (sj_expr (ej_methZX0 dx_Cabinet__require_idle (hr.mono (by decide)) gu takesX (sub_any rfl rfl) (ej_up (m' := Z) (ej_vk 0)))) (fun v244 => (fj_ret (ej_methZX dx_Cabinet__perform (hr.mono (by decide)) gu takesX (sub_any rfl rfl) (ej_up (m' := Z) (ej_vk 0)) (aj_cons (ej_up (m' := Z) (ej_tup (dj_cons ej_str (dj_cons (ej_vk 1) dj_nil)))) aj_nil)))))
abbrev s_Cabinet__perform_all : Stmt := (clsBody (top 65)).getD 19 (.Pass ⟨0, 0, 0, 0⟩)
theorem sc_Cabinet__perform_all : FnScope ["self", "batch", "watch", "index", "edit", "error", "found"] ["self", "batch", "watch"] (defScope s_Cabinet__perform_all) := ⟨rfl, rfl, rfl, by decide +kernel, rfl, by decide +kernel, by decide +kernel⟩
def m_Cabinet__perform_all (p_self p_batch p_watch : D) : Z D := (forM2 (enumM (pure p_batch)) () (fun x246 x247 (a245 : Unit) => ((OverZ.up (calmZ (((upZ (pure p_self)) >>= fun d => OverZ.up (selfZ "Cabinet" "perform" d) >>= fun _ => (argV (upZ (pure x247)) (pure [])) >>= fun as => MX_Cabinet__perform (.val d :: as)) >>= fun v249 => (pure (.nx ()))))) >>= fun f => thenB f fun (a248 : Unit) => (iteM (cmp2 isnD (pure p_watch) (pure PyData.none)) (rtM (Mo.lift none)) (pure (.nx ()))))) >>= fun f => thenM f fun (a250 : Unit) => (op1 lenD (pure p_batch)))
def M_Cabinet__perform_all : List Sl → Z D := ar3 m_Cabinet__perform_all
theorem ok_Cabinet__perform_all {f : Addr} {fd : FuncData} (F : Fun K "perform_all" "Cabinet.perform_all" s_Cabinet__perform_all f fd) (hy : SysAt base) (dx_Cabinet__perform : MthX P w K mg base 7 "Cabinet" "perform" ["self", "edit"] (spX K mg MX_Cabinet__perform)) (mb_enumerate : mg "enumerate" = none) (mb_len : mg "len" = none) : FnG P w K mg base 8 f fd ["self", "batch", "watch"] (spJ K M_Cabinet__perform_all) := by
  have sc := sc_Cabinet__perform_all
  exact fn_ar3 F sc rfl fun p_self p_batch p_watch cdv A outer s H E hr gu => (fj_of_for (for2 3 4 (P := fun (a245 : Unit) => [.val p_self, .val p_batch, .val p_watch, .any, .any, .any, .any]) (a0 := ()) PassesOwn.never (ij_enum mb_enumerate (ej_vk 1)) (pg_tup rfl (pgs_cons (pg_name (i := 3) sc.nd rfl (by first | exact Or.inl rfl | exact Or.inr rfl)) (pgs_cons (pg_name (i := 4) sc.nd rfl (by first | exact Or.inl rfl | exact Or.inr rfl)) pgs_nil))) (fun x246 x247 a245 => (bj_of_for (try_calm (P := fun (a248 : Unit) => [.val p_self, .val p_batch, .val p_watch, .val x246, .val x247, .any, .any]) (bj_seq (sj_expr (ej_methZX dx_Cabinet__perform (hr.mono (by decide)) gu takes00 (sub_self _) (ej_up (m' := Z) (ej_vk 0)) (aj_cons (ej_up (m' := Z) (ej_vk 4)) aj_nil))) (fun v249 => (bj_nil (a := ()) ⟨.inr rfl, .inr rfl, .inr rfl, .inr rfl, .inr rfl, .inl rfl, .inl rfl, trivial⟩)))) (fun a248 => (bj_ifr (tj_cmp op_notN rd_isn (ej_vk 2) ej_non) fj_dead (bj_nil (a := ()) ⟨.inr rfl, .inr rfl, .inr rfl, .inl rfl, .inl rfl, .inl rfl, .inl rfl, trivial⟩))))) ⟨.inr rfl, .inr rfl, .inr rfl, .inl rfl, .inl rfl, .inl rfl, .inl rfl, trivial⟩) (fun a250 => (fj_ret (ej_call1 call_lenD' rc_len mb_len (ej_vk 1)))))
abbrev s_Cabinet__attempt : Stmt := (clsBody (top 65)).getD 20 (.Pass ⟨0, 0, 0, 0⟩)
theorem sc_Cabinet__attempt : FnScope ["self", "edits", "watch", "batch", "index", "edit", "standing", "states", "numbers", "result"] ["self", "edits", "watch"] (defScope s_Cabinet__attempt) := ⟨rfl, rfl, rfl, by decide +kernel, rfl, by decide +kernel, by decide +kernel⟩
def mx_Cabinet__attempt (p_self p_edits p_watch : D) : ZX D := (((upZ (pure p_self)) >>= fun d => OverZ.up (selfZ "Cabinet" "require_idle" d) >>= fun _ => MX_Cabinet__require_idle [.val d]) >>= fun v262 => (iteM (upZ (orB (notB (tst ((pure p_edits) >>= fun d => Mo.lift (isLT d)))) (cmp2 gtD (op1 lenD (pure p_edits)) (pure (.int 20))))) (MoX.throw ⟨"BadEdits", []⟩) ((upZ (op1 tupleD (pure p_edits))) >>= fun v263 => (forM2 (upZ (enumM (pure v263))) () (fun x265 x266 (a264 : Unit) => (iteM (upZ (OverZ.up (hidP (m' := Option) [.any, .any, .any, .any, .any, .val x266, .any, .any, .any, .any] (notB (tst ((argV (pure x266) (pure [])) >>= M_is_edit)))))) (rtM ((upZ (pure x265)) >>= fun d => MoX.throw ⟨"BadEdit", [("index", d)]⟩)) (pure (.nx ())))) >>= fun f => thenM f fun (a267 : Unit) => ((par3M (upZ ((((pure p_self) >>= fun d => OverZ.up (attrZ "Cabinet" "standing" d)) >>= fun d => listZ d) >>= newZ)) (upZ ((((pure p_self) >>= fun d => OverZ.up (attrZ "Cabinet" "states" d)) >>= fun d => listZ d) >>= newZ)) (upZ ((((pure p_self) >>= fun d => OverZ.up (attrZ "Cabinet" "numbers" d)) >>= fun d => listZ d) >>= newZ))) >>= fun v268 => ((upZ (pure PyData.none)) >>= fun v269 => ((OverZ.up (calmZ (((upZ ((pure p_self) >>= fun d => OverZ.up (selfZ "Cabinet" "perform_all" d) >>= fun _ => (argV (pure v263) (argV (pure p_watch) (pure []))) >>= fun as => M_Cabinet__perform_all (.val d :: as))) >>= fun v271 => (pure (.nx v271))) >>= fun f => nxM f fun (a270 : D) => (iteM (upZ (cmp2 isD (pure a270) (pure PyData.none))) (rtM (Mo.lift none)) (pure (.nx a270)))))) >>= fun f => thenM f fun (a272 : D) => (upZ (pure a272)))))))))
def MX_Cabinet__attempt : List Sl → ZX D := ar3 mx_Cabinet__attempt
theorem okx_Cabinet__attempt {f : Addr} {fd : FuncData} (F : Fun K "attempt" "Cabinet.attempt" s_Cabinet__attempt f fd) (hy : SysAt base) {c_BadEdit c_BadEdits : Addr} (e0_BadEdits : Er0 K mg "BadEdits" c_BadEdits) (e1_BadEdit : Er1 P w K mg base "BadEdit" "index" c_BadEdit) (hn_Cabinet_numbers : HasNo K "Cabinet" "numbers") (hn_Cabinet_standing : HasNo K "Cabinet" "standing") (hn_Cabinet_states : HasNo K "Cabinet" "states") (d_Cabinet__perform_all : MthG P w K mg base 8 "Cabinet" "perform_all" ["self", "batch", "watch"] (spJ K M_Cabinet__perform_all)) (d_is_edit : Def P w K mg base 1 "is_edit" ["value"] (spJ K M_is_edit)) (dx_Cabinet__require_idle : MthX P w K mg base 3 "Cabinet" "require_idle" ["self"] (spX K mg MX_Cabinet__require_idle)) (mb_enumerate : mg "enumerate" = none) (mb_isinstance : mg "isinstance" = none) (mb_len : mg "len" = none) (mb_list : mg "list" = none) (mb_tuple : mg "tuple" = none) {tc_BATCH : Tok} (mc_BATCH : mg "BATCH" = some (.int 20 tc_BATCH)) : FnX P w K mg base 9 f fd ["self", "edits", "watch"] (spX K mg MX_Cabinet__attempt) := by
  have sc := sc_Cabinet__attempt
  exact fnx_ar3 F sc rfl fun p_self p_edits p_watch cdv A outer s H E hr gu => (fj_seq (sj_expr (ej_methZX0 dx_Cabinet__require_idle (hr.mono (by decide)) gu takesX (sub_any rfl rfl) (ej_up (m' := Z) (ej_vk 0)))) (fun v262 => (fj_ifr (tj_up (m' := Z) (tj_w (wj_or (tj_not (tj_val (ej_isLT (ej_vk 1) mb_isinstance mb_list mb_tuple))) (wj_or1 (tj_cmp op_gt rd_gt (ej_call1 call_lenD' rc_len mb_len (ej_vk 1)) (ej_gint mc_BATCH)))))) (fj_raise0 e0_BadEdits rfl takesX (sub_any rfl rfl)) (fj_seq (sj_set 3 sc.nd (ej_up (m' := Z) (ej_callT call_tuple_of rc_tuple mb_tuple (ej_vk 1)))) (fun v263 => (fj_of_for (for2 4 5 (P := fun (a264 : Unit) => [.val p_self, .val p_edits, .val p_watch, .val v263, .any, .any, .any, .any, .any, .any]) (a0 := ()) passX (ij_up (m' := Z) (ij_enum mb_enumerate (ej_vk 3))) (pg_tup rfl (pgs_cons (pg_name (i := 4) sc.nd rfl (by first | exact Or.inl rfl | exact Or.inr rfl)) (pgs_cons (pg_name (i := 5) sc.nd rfl (by first | exact Or.inl rfl | exact Or.inr rfl)) pgs_nil))) (fun x265 x266 a264 => (bj_ifr (tj_up (m' := Z) (tj_hidP (m' := Option) (g := [.val p_self, .val p_edits, .val p_watch, .val v263, .val x265, .val x266, .any, .any, .any, .any]) [.any, .any, .any, .any, .any, .val x266, .any, .any, .any, .any] (tj_not (tj_val (ej_callD d_is_edit (hr.mono (by decide)) gu (aj_cons (ej_vk 5) aj_nil)))) ⟨.inl rfl, .inl rfl, .inl rfl, .inl rfl, .inl rfl, .inr rfl, .inl rfl, .inl rfl, .inl rfl, .inl rfl, trivial⟩)) (fj_raise1 e1_BadEdit (hr.mono (by decide)) rfl takesX (sub_any rfl rfl) (ej_up (m' := Z) (ej_vk 4))) (bj_nil (a := ()) ⟨.inr rfl, .inr rfl, .inr rfl, .inr rfl, .inl rfl, .inl rfl, .inl rfl, .inl rfl, .inl rfl, .inl rfl, trivial⟩))) ⟨.inr rfl, .inr rfl, .inr rfl, .inr rfl, .inl rfl, .inl rfl, .inl rfl, .inl rfl, .inl rfl, .inl rfl, trivial⟩) (fun a267 => (fj_seq (sj_par3 6 7 8 sc.nd (ej_up (m' := Z) (ej_cel (lj_listZ mb_list (ej_attrZ hn_Cabinet_standing (ej_vk 0))))) (ej_up (m' := Z) (ej_cel (lj_listZ mb_list (ej_attrZ hn_Cabinet_states (ej_vk 0))))) (ej_up (m' := Z) (ej_cel (lj_listZ mb_list (ej_attrZ hn_Cabinet_numbers (ej_vk 0)))))) (fun v268 => (fj_seq (sj_set 9 sc.nd (ej_up (m' := Z) ej_non)) (fun v269 => (fj_of_for (try_fin (P := fun (a270 : D) => [.val p_self, .val p_edits, .val p_watch, .val v263, .any, .any, .val v268.1, .val v268.2.1, .val v268.2.2, .val a270]) (Q := fun (a272 : D) => [.val p_self, .val p_edits, .val p_watch, .val v263, .any, .any, .val v268.1, .val v268.2.1, .val v268.2.2, .val a272]) (bj_seq (sj_set 9 sc.nd (ej_up (m' := Z) (ej_methZ d_Cabinet__perform_all (hr.mono (by decide)) gu (ej_vk 0) (aj_cons (ej_vk 3) (aj_cons (ej_vk 2) aj_nil))))) (fun v271 => (bj_nil (a := v271) ⟨.inr rfl, .inr rfl, .inr rfl, .inr rfl, .inl rfl, .inl rfl, .inr rfl, .inr rfl, .inr rfl, .inr rfl, trivial⟩))) (fun a270 => (bj_ifr (tj_up (m' := Z) (tj_cmp op_isN rd_is (ej_vk 9) ej_non)) fj_dead (bj_nil (a := a270) ⟨.inr rfl, .inr rfl, .inr rfl, .inr rfl, .inl rfl, .inl rfl, .inr rfl, .inr rfl, .inr rfl, .inr rfl, trivial⟩)))) (fun a272 => (fj_ret (ej_up (m' := Z) (ej_vk 9))))))))))))))))
abbrev s__law_wishes_right : Stmt := top 74
theorem sc__law_wishes_right : FnScope ["_law_table", "_law_needs", "_law_harder", "_law_before", "_law_many"] ["_law_table", "_law_needs", "_law_harder"] (defScope s__law_wishes_right) := ⟨rfl, rfl, rfl, by decide +kernel, rfl, by decide +kernel, by decide +kernel⟩
def mx__law_wishes_right (p_table p_needs p_harder : D) : ZX D := ((parM (upZ ((pure p_table) >>= fun d => OverZ.up (thisZ "Cabinet" d) >>= fun _ => M_Cabinet__sure [.val d])) (upZ ((pure p_table) >>= fun d => OverZ.up (thisZ "Cabinet" d) >>= fun _ => M_Cabinet____len__ [.val d] >>= fun r => Mo.lift (natD r)))) >>= fun v274 => (iteM (upZ (cmp2 eqD (op1 lenD ((pure p_table) >>= fun d => OverZ.up (thisZ "Cabinet" d) >>= fun _ => M_Cabinet__collections [.val d])) (pure (.int 4)))) (upZ (pure (.bool true))) (iteM (orB (cmp2 neD ((upZ (pure p_table)) >>= fun d => OverZ.up (selfZ "Cabinet" "wish" d) >>= fun _ => (argV (upZ (pure p_needs)) (pure [])) >>= fun as => MX_Cabinet__wish (.val d :: as)) (upZ (op2 addD (pure v274.2) (pure (.int 1))))) (orB (upZ (cmp2 neD ((pure p_table) >>= fun d => OverZ.up (thisZ "Cabinet" d) >>= fun _ => M_Cabinet__sure [.val d]) (pure v274.1))) (cmp2 neD ((upZ (pure p_table)) >>= fun d => OverZ.up (selfZ "Cabinet" "undo" d) >>= fun _ => MX_Cabinet__undo [.val d]) (upZ (pure v274.2))))) (upZ (pure (.bool false))) (andD (op2 eqD ((upZ (pure p_table)) >>= fun d => OverZ.up (selfZ "Cabinet" "wish" d) >>= fun _ => (argV (upZ (pure p_harder)) (pure [])) >>= fun as => MX_Cabinet__wish (.val d :: as)) (upZ (op2 addD (pure v274.2) (pure (.int 1))))) (andD (upZ (op2 eqD ((pure p_table) >>= fun d => OverZ.up (thisZ "Cabinet" d) >>= fun _ => M_Cabinet__sure [.val d]) (pure v274.1))) (op2 eqD ((upZ (pure p_table)) >>= fun d => OverZ.up (selfZ "Cabinet" "undo" d) >>= fun _ => MX_Cabinet__undo [.val d]) (upZ (pure v274.2))))))))
def MX__law_wishes_right : List Sl → ZX D := ar3 mx__law_wishes_right
theorem okx__law_wishes_right {f : Addr} {fd : FuncData} (F : Fun K "_law_wishes_right" "_law_wishes_right" s__law_wishes_right f fd) (hy : SysAt base) (d_Cabinet____len__ : MthG P w K mg base 1 "Cabinet" "__len__" ["self"] (spJ K M_Cabinet____len__)) (dp_Cabinet__collections : PrpG P w K mg base 1 "Cabinet" "collections" ["self"] (spJ K M_Cabinet__collections)) (dp_Cabinet__sure : PrpG P w K mg base 1 "Cabinet" "sure" ["self"] (spJ K M_Cabinet__sure)) (dx_Cabinet__undo : MthX P w K mg base 4 "Cabinet" "undo" ["self"] (spX K mg MX_Cabinet__undo)) (dx_Cabinet__wish : MthX P w K mg base 8 "Cabinet" "wish" ["self", "collection"] (spX K mg MX_Cabinet__wish)) (mb_len : mg "len" = none) : FnX P w K mg base 9 f fd ["_law_table", "_law_needs", "_law_harder"] (spX K mg MX__law_wishes_right) := by
  have sc := sc__law_wishes_right
  exact fnx_ar3 F sc rfl fun p_table p_needs p_harder cdv A outer s H E hr gu => (fj_seq (sj_par 3 4 sc.nd (ej_up (m' := Z) (ej_propZ dp_Cabinet__sure (hr.mono (by decide)) gu (ej_vk 0))) (ej_up (m' := Z) (ej_lenOZ d_Cabinet____len__ (hr.mono (by decide)) gu mb_len (ej_vk 0)))) (fun v274 => (fj_ifr (tj_up (m' := Z) (tj_cmp (by exact op_eqA hy (units_of hr)) rd_eq (ej_call1 call_lenD' rc_len mb_len (ej_propZ dp_Cabinet__collections (hr.mono (by decide)) gu (ej_vk 0))) ej_int)) (fj_ret (ej_up (m' := Z) ej_bl)) (fj_ifr (tj_w (wj_or (tj_cmp (by exact op_neA hy (units_of hr)) rd_ne (ej_methZX dx_Cabinet__wish (hr.mono (by decide)) gu takesX (sub_any rfl rfl) (ej_up (m' := Z) (ej_vk 0)) (aj_cons (ej_up (m' := Z) (ej_vk 1)) aj_nil)) (ej_up (m' := Z) (ej_bin op_addD rd_add (ej_vk 4) ej_int))) (wj_or (tj_up (m' := Z) (tj_cmp (by exact op_neA hy (units_of hr)) rd_ne (ej_propZ dp_Cabinet__sure (hr.mono (by decide)) gu (ej_vk 0)) (ej_vk 3))) (wj_or1 (tj_cmp (by exact op_neA hy (units_of hr)) rd_ne (ej_methZX0 dx_Cabinet__undo (hr.mono (by decide)) gu takesX (sub_any rfl rfl) (ej_up (m' := Z) (ej_vk 0))) (ej_up (m' := Z) (ej_vk 4))))))) (fj_ret (ej_up (m' := Z) ej_bl)) (fj_ret (ej_and (ej_cmp (by exact op_eqA hy (units_of hr)) rd_eq (ej_methZX dx_Cabinet__wish (hr.mono (by decide)) gu takesX (sub_any rfl rfl) (ej_up (m' := Z) (ej_vk 0)) (aj_cons (ej_up (m' := Z) (ej_vk 2)) aj_nil)) (ej_up (m' := Z) (ej_bin op_addD rd_add (ej_vk 4) ej_int))) (ej_and (ej_up (m' := Z) (ej_cmp (by exact op_eqA hy (units_of hr)) rd_eq (ej_propZ dp_Cabinet__sure (hr.mono (by decide)) gu (ej_vk 0)) (ej_vk 3))) (ej_one (ej_cmp (by exact op_eqA hy (units_of hr)) rd_eq (ej_methZX0 dx_Cabinet__undo (hr.mono (by decide)) gu takesX (sub_any rfl rfl) (ej_up (m' := Z) (ej_vk 0))) (ej_up (m' := Z) (ej_vk 4)))))))))))
abbrev s__law_moved_right : Stmt := top 73
theorem sc__law_moved_right : FnScope ["_law_table", "_law_drawer", "_law_kind", "_law_before", "_law_many", "_law_to"] ["_law_table", "_law_drawer", "_law_kind"] (defScope s__law_moved_right) := ⟨rfl, rfl, rfl, by decide +kernel, rfl, by decide +kernel, by decide +kernel⟩
def mx__law_moved_right (p_table p_drawer p_kind : D) : ZX D := ((par3M (upZ ((pure p_table) >>= fun d => OverZ.up (thisZ "Cabinet" d) >>= fun _ => M_Cabinet__sure [.val d])) (upZ ((pure p_table) >>= fun d => OverZ.up (thisZ "Cabinet" d) >>= fun _ => M_Cabinet____len__ [.val d] >>= fun r => Mo.lift (natD r))) (upZ (op2 modD (op2 addD (pure p_drawer) (pure (.int 1))) (op1 lenD ((pure p_table) >>= fun d => OverZ.up (thisZ "Cabinet" d) >>= fun _ => M_Cabinet__stock [.val d]))))) >>= fun v276 => (iteM (upZ (orB (cmp2 eqD ((((pure p_table) >>= fun d => OverZ.up (thisZ "Cabinet" d) >>= fun _ => M_Cabinet__stock [.val d]) >>= fun d => (pure p_drawer) >>= fun j => ixZ d j) >>= fun d => (pure p_kind) >>= fun j => ixZ d j) (pure (.int 0))) (orB (cmp2 eqD ((((pure p_table) >>= fun d => OverZ.up (thisZ "Cabinet" d) >>= fun _ => M_Cabinet__stock [.val d]) >>= fun d => (pure v276.2.2) >>= fun j => ixZ d j) >>= fun d => (pure p_kind) >>= fun j => ixZ d j) (pure (.int 50))) (cmp2 eqD (pure v276.2.2) (pure p_drawer))))) (upZ (pure (.bool true))) (iteM (orB (cmp2 neD ((upZ (pure p_table)) >>= fun d => OverZ.up (selfZ "Cabinet" "attempt" d) >>= fun _ => (argV (upZ (lstM (consM (tupM (consM (pure (.str "remove")) (consM (pure p_drawer) (consM (pure p_kind) (consM (pure (.int 1)) (pure [])))))) (consM (tupM (consM (pure (.str "put")) (consM (pure v276.2.2) (consM (pure p_kind) (consM (pure (.int 1)) (pure [])))))) (pure []))))) (pure [])) >>= fun as => MX_Cabinet__attempt (.val d :: as ++ ([.none] : List D).map .val)) (upZ (pure (.int 2)))) (upZ (cmp2 neD ((pure p_table) >>= fun d => OverZ.up (thisZ "Cabinet" d) >>= fun _ => M_Cabinet__sure [.val d]) (pure v276.1)))) (upZ (pure (.bool false))) (andD (op2 eqD ((upZ (pure p_table)) >>= fun d => OverZ.up (selfZ "Cabinet" "undo" d) >>= fun _ => MX_Cabinet__undo [.val d]) (upZ (op2 addD (pure v276.2.1) (pure (.int 1))))) (op2 eqD ((upZ (pure p_table)) >>= fun d => OverZ.up (selfZ "Cabinet" "undo" d) >>= fun _ => MX_Cabinet__undo [.val d]) (upZ (pure v276.2.1)))))))
def MX__law_moved_right : List Sl → ZX D := ar3 mx__law_moved_right
theorem okx__law_moved_right {f : Addr} {fd : FuncData} (F : Fun K "_law_moved_right" "_law_moved_right" s__law_moved_right f fd) (hy : SysAt base) (d_Cabinet____len__ : MthG P w K mg base 1 "Cabinet" "__len__" ["self"] (spJ K M_Cabinet____len__)) (dkx_Cabinet__attempt : MthXD P w K mg base 9 "Cabinet" ["self", "edits", "watch"] "attempt" 1 [.none] (spX K mg MX_Cabinet__attempt)) (dp_Cabinet__stock : PrpG P w K mg base 1 "Cabinet" "stock" ["self"] (spJ K M_Cabinet__stock)) (dp_Cabinet__sure : PrpG P w K mg base 1 "Cabinet" "sure" ["self"] (spJ K M_Cabinet__sure)) (dx_Cabinet__undo : MthX P w K mg base 4 "Cabinet" "undo" ["self"] (spX K mg MX_Cabinet__undo)) (mb_len : mg "len" = none) : FnX P w K mg base 10 f fd ["_law_table", "_law_drawer", "_law_kind"] (spX K mg MX__law_moved_right) := by
  have sc := sc__law_moved_right
  exact fnx_ar3 F sc rfl fun p_table p_drawer p_kind cdv A outer s H E hr gu => (fj_seq (sj_par3 3 4 5 sc.nd (ej_up (m' := Z) (ej_propZ dp_Cabinet__sure (hr.mono (by decide)) gu (ej_vk 0))) (ej_up (m' := Z) (ej_lenOZ d_Cabinet____len__ (hr.mono (by decide)) gu mb_len (ej_vk 0))) (ej_up (m' := Z) (ej_bin op_mod rd_mod (ej_bin op_addD rd_add (ej_vk 1) ej_int) (ej_call1 call_lenD' rc_len mb_len (ej_propZ dp_Cabinet__stock (hr.mono (by decide)) gu (ej_vk 0)))))) (fun v276 => (fj_ifr (tj_up (m' := Z) (tj_w (wj_or (tj_cmp (by exact op_eqA hy (units_of hr)) rd_eq (ej_ixZ (ej_ixZ (ej_propZ dp_Cabinet__stock (hr.mono (by decide)) gu (ej_vk 0)) (ej_vk 1) (fun _ _ => rfl)) (ej_vk 2) (fun _ _ => rfl)) ej_int) (wj_or (tj_cmp (by exact op_eqA hy (units_of hr)) rd_eq (ej_ixZ (ej_ixZ (ej_propZ dp_Cabinet__stock (hr.mono (by decide)) gu (ej_vk 0)) (ej_vk 5) (fun _ _ => rfl)) (ej_vk 2) (fun _ _ => rfl)) ej_int) (wj_or1 (tj_cmp (by exact op_eqA hy (units_of hr)) rd_eq (ej_vk 5) (ej_vk 1))))))) (fj_ret (ej_up (m' := Z) ej_bl)) (fj_ifr (tj_w (wj_or (tj_cmp (by exact op_neA hy (units_of hr)) rd_ne (ej_methZXDA dkx_Cabinet__attempt (hr.mono (by decide)) gu takesX (sub_any rfl rfl) (ej_up (m' := Z) (ej_vk 0)) (aj_cons (ej_up (m' := Z) (ej_l (lj_lst (dj_cons (ej_tup (dj_cons ej_str (dj_cons (ej_vk 1) (dj_cons (ej_vk 2) (dj_cons ej_int dj_nil))))) (dj_cons (ej_tup (dj_cons ej_str (dj_cons (ej_vk 5) (dj_cons (ej_vk 2) (dj_cons ej_int dj_nil))))) dj_nil))))) aj_nil)) (ej_up (m' := Z) ej_int)) (wj_or1 (tj_up (m' := Z) (tj_cmp (by exact op_neA hy (units_of hr)) rd_ne (ej_propZ dp_Cabinet__sure (hr.mono (by decide)) gu (ej_vk 0)) (ej_vk 3)))))) (fj_ret (ej_up (m' := Z) ej_bl)) (fj_ret (ej_and (ej_cmp (by exact op_eqA hy (units_of hr)) rd_eq (ej_methZX0 dx_Cabinet__undo (hr.mono (by decide)) gu takesX (sub_any rfl rfl) (ej_up (m' := Z) (ej_vk 0))) (ej_up (m' := Z) (ej_bin op_addD rd_add (ej_vk 4) ej_int))) (ej_one (ej_cmp (by exact op_eqA hy (units_of hr)) rd_eq (ej_methZX0 dx_Cabinet__undo (hr.mono (by decide)) gu takesX (sub_any rfl rfl) (ej_up (m' := Z) (ej_vk 0))) (ej_up (m' := Z) (ej_vk 4))))))))))
abbrev s_law : Stmt := top 75
theorem sc_law : FnScope ["_law_script", "_law_deck_here", "_law_turn", "_law_stock_here", "_law_collections", "_law_table", "_law_kinds", "_law_before", "_law_time", "_law_drawer", "_law_kind", "_law_needs", "_law_harder", "_law_number"] ["_law_script"] (defScope s_law) := ⟨rfl, rfl, rfl, by decide +kernel, rfl, by decide +kernel, by decide +kernel⟩
def m_law : Z D := (forM1 (rng1 (pure (.int 2))) () (fun x278 (a277 : Unit) => ((unp2A (OverZ.up (hidP (m' := W) [.any, .deck, .any, .any, .any, .any, .any, .any, .any, .any, .any, .any, .any, .any] ((argK (argV (pure (.int 9)) (pure []))) >>= M__law_begun)))) >>= fun v279 => ((parM (calmZ ((argV (upZ (pure v279.1)) (argV (upZ (pure v279.2)) (pure []))) >>= fun as => OverZ.up (newI "Cabinet") >>= fun d => MX_Cabinet____init__ (.val d :: as) >>= fun r => Mo.lift (nonO r) >>= fun _ => pure d)) (op1 lenD (op2 getD (pure v279.1) (pure (.int 0))))) >>= fun v280 => (((pure v280.1) >>= fun d => OverZ.up (thisZ "Cabinet" d) >>= fun _ => M_Cabinet__sure [.val d]) >>= fun v281 => (iteM (cmp2 neD ((calmZ ((argV (upZ (op1 revD (pure v279.1))) (argV (upZ (op1 revD (pure v279.2))) (pure []))) >>= fun as => OverZ.up (newI "Cabinet") >>= fun d => MX_Cabinet____init__ (.val d :: as) >>= fun r => Mo.lift (nonO r) >>= fun _ => pure d)) >>= fun d => OverZ.up (thisZ "Cabinet" d) >>= fun _ => M_Cabinet__sure [.val d]) (pure v281)) (rtM (pure (.bool false))) (forM1 (rng1 (pure (.int 4))) v280.1 (fun x283 (a282 : D) => ((parM (OverZ.up (hidP (m' := W) [.any, .deck, .any, .val v279.1, .any, .any, .any, .any, .any, .any, .any, .any, .any, .any] ((argK (argV (op1 lenD (pure v279.1)) (pure []))) >>= drawW))) (OverZ.up (hidP (m' := W) [.any, .deck, .any, .any, .any, .any, .val v280.2, .any, .any, .any, .any, .any, .any, .any] ((argK (argV (pure v280.2) (pure []))) >>= drawW)))) >>= fun v284 => (iteM (orB (cmp2 neD (calmZ ((upZ (pure a282)) >>= fun d => OverZ.up (selfZ "Cabinet" "put" d) >>= fun _ => (argV (upZ (pure v284.1)) (argV (upZ (pure v284.2)) (argV (upZ (pure (.int 1))) (pure [])))) >>= fun as => MX_Cabinet__put (.val d :: as))) (pure (.int 1))) (andB (cmp2 isnD (pure v281) (pure PyData.none)) (cmp2 ninD ((pure a282) >>= fun d => OverZ.up (thisZ "Cabinet" d) >>= fun _ => M_Cabinet__sure [.val d]) (tupM (consM (pure v281) (consM (op2 addD (pure v281) (pure (.int 1))) (pure []))))))) (rtM (pure (.bool false))) (iteM (orB (cmp2 neD (calmZ ((upZ (pure a282)) >>= fun d => OverZ.up (selfZ "Cabinet" "undo" d) >>= fun _ => MX_Cabinet__undo [.val d])) (pure (.int 0))) (notB (tst (calmZ ((argV (upZ (pure a282)) (argV (upZ (pure v284.1)) (argV (upZ (pure v284.2)) (pure [])))) >>= MX__law_moved_right))))) (rtM (pure (.bool false))) ((cmp2 gtD (op2 getD (op2 getD (pure v279.1) (pure v284.1)) (pure v284.2)) (pure (.int 0))) >>= fun k => (if k = true then (iteM (orB (cmp2 neD (calmZ ((upZ (pure a282)) >>= fun d => OverZ.up (selfZ "Cabinet" "remove" d) >>= fun _ => (argV (upZ (pure v284.1)) (argV (upZ (pure v284.2)) (argV (upZ (pure (.int 1))) (pure [])))) >>= fun as => MX_Cabinet__remove (.val d :: as))) (pure (.int 1))) (orB (cmp2 neD (calmZ ((upZ (pure a282)) >>= fun d => OverZ.up (selfZ "Cabinet" "undo" d) >>= fun _ => MX_Cabinet__undo [.val d])) (pure (.int 0))) (cmp2 neD (calmZ ((upZ (pure a282)) >>= fun d => OverZ.up (selfZ "Cabinet" "remove" d) >>= fun _ => (argV (upZ (pure v284.1)) (argV (upZ (pure v284.2)) (argV (upZ (pure (.int 1))) (pure [])))) >>= fun as => MX_Cabinet__remove (.val d :: as))) (pure (.int 1))))) (rtM (pure (.bool false))) (iteM (andB (cmp2 ninD ((pure a282) >>= fun d => OverZ.up (thisZ "Cabinet" d) >>= fun _ => M_Cabinet__sure [.val d]) (tupM (consM (pure PyData.none) (consM (pure v281) (pure []))))) (orB (cmp2 isD (pure v281) (pure PyData.none)) (cmp2 neD ((pure a282) >>= fun d => OverZ.up (thisZ "Cabinet" d) >>= fun _ => M_Cabinet__sure [.val d]) (op2 subD (pure v281) (pure (.int 1)))))) (rtM (pure (.bool false))) (iteM (cmp2 neD (calmZ ((upZ (pure a282)) >>= fun d => OverZ.up (selfZ "Cabinet" "undo" d) >>= fun _ => MX_Cabinet__undo [.val d])) (pure (.int 0))) (rtM (pure (.bool false))) (pure (.nx ()))))) else (pure (.nx ()))) >>= fun f => thenB f fun (a285 : Unit) => (pure (.nx a282))))))) >>= fun f => thenB f fun (a286 : D) => ((OverZ.up (hidP (m' := W) [.any, .deck, .any, .any, .val v279.2, .any, .any, .any, .any, .any, .any, .any, .any, .any] (op2 getD (pure v279.2) ((argK (argV (op1 lenD (pure v279.2)) (pure []))) >>= drawW)))) >>= fun v287 => ((OverZ.up (hidP (m' := W) [.any, .deck, .any, .any, .any, .any, .any, .any, .any, .any, .any, .val v287, .any, .any] (op1 tupleD (lstM (comp1 (seqM (pure v287)) (fun c289 => (op2 min2D (pure (.int 50)) (op2 addD (pure c289) ((argK (argV (pure (.int 3)) (pure []))) >>= drawW))))))))) >>= fun v288 => (iteM (notB (tst (calmZ ((argV (upZ (pure a286)) (argV (upZ (pure v287)) (argV (upZ (pure v288)) (pure [])))) >>= MX__law_wishes_right)))) (rtM (pure (.bool false))) ((andB (cmp2 ltD (op1 lenD (pure v279.2)) (pure (.int 4))) (cmp2 isnD (pure v281) (pure PyData.none))) >>= fun k => (if k = true then (iteM (orB (cmp2 neD (calmZ ((upZ (pure a286)) >>= fun d => OverZ.up (selfZ "Cabinet" "wish" d) >>= fun _ => (argV (upZ (OverZ.up (hidP (m' := W) [.any, .deck, .any, .any, .any, .any, .val v280.2, .any, .any, .any, .any, .any, .any, .any] ((argK (argV (pure v280.2) (argV (pure (.int 9)) (pure [])))) >>= M__law_collection)))) (pure [])) >>= fun as => MX_Cabinet__wish (.val d :: as))) (pure (.int 1))) (orB (cmp2 isD ((pure a286) >>= fun d => OverZ.up (thisZ "Cabinet" d) >>= fun _ => M_Cabinet__sure [.val d]) (pure PyData.none)) (cmp2 gtD ((pure a286) >>= fun d => OverZ.up (thisZ "Cabinet" d) >>= fun _ => M_Cabinet__sure [.val d]) (pure v281)))) (rtM (pure (.bool false))) (pure (.nx ()))) else (pure (.nx ()))) >>= fun f => thenB f fun (a290 : Unit) => (pure (.nx ())))))))))))) >>= fun f => thenM f fun (a291 : Unit) => (pure (.bool true)))
theorem ok_law {f : Addr} {fd : FuncData} (F : Fun K "law" "law" s_law f fd) (hy : SysAt base) (d__law_begun : Def P w K mg base 4 "_law_begun" ["_law_deck_here", "_law_most"] (spJ K M__law_begun)) (d__law_collection : Def P w K mg base 2 "_law_collection" ["_law_deck_here", "_law_kinds", "_law_most"] (spJ K M__law_collection)) (d__law_draw : Def P w K mg base 1 "_law_draw" ["_law_deck_here", "_law_many"] (spJ K drawW)) (dp_Cabinet__sure : PrpG P w K mg base 1 "Cabinet" "sure" ["self"] (spJ K M_Cabinet__sure)) (dx_Cabinet____init__ : MkX P w K mg base 5 "Cabinet" ["self", "stock", "collections"] (spX K mg MX_Cabinet____init__)) (dx_Cabinet__put : MthX P w K mg base 8 "Cabinet" "put" ["self", "drawer", "kind", "count"] (spX K mg MX_Cabinet__put)) (dx_Cabinet__remove : MthX P w K mg base 8 "Cabinet" "remove" ["self", "drawer", "kind", "count"] (spX K mg MX_Cabinet__remove)) (dx_Cabinet__undo : MthX P w K mg base 4 "Cabinet" "undo" ["self"] (spX K mg MX_Cabinet__undo)) (dx_Cabinet__wish : MthX P w K mg base 8 "Cabinet" "wish" ["self", "collection"] (spX K mg MX_Cabinet__wish)) (dx__law_moved_right : DefX P w K mg base 10 "_law_moved_right" ["_law_table", "_law_drawer", "_law_kind"] (spX K mg MX__law_moved_right)) (dx__law_wishes_right : DefX P w K mg base 9 "_law_wishes_right" ["_law_table", "_law_needs", "_law_harder"] (spX K mg MX__law_wishes_right)) (mb_len : mg "len" = none) (mb_min : mg "min" = none) (mb_range : mg "range" = none) (mb_tuple : mg "tuple" = none) (d__law_deck : Def P w K mg base 1 "_law_deck" ["_law_script"] (spDeck K)) (hM : Mo.sat m_law 0 (fun d _ => d = .bool true) (fun _ _ => False)) : FnG P w K mg base 11 f fd ["_law_script"] (spLaw K) := by
  have sc := sc_law
  obtain ⟨fk, fkd, h1, h2, h3, h4⟩ := d__law_deck.ex
  exact law_j (M := m_law) F sc (h1.mono (by decide)) h4 h2 rfl rfl rfl
    (fun cdv A outer s H E hr gu => ps_set (i := 1) sc.nd rfl (by first | exact Or.inl rfl | exact Or.inr rfl) (pe_g h1 (hr.mono (by decide)) gu (by rfl) h2 h3 h4 (pa_cons (pv 0) pa_nil) (by decide) (by rfl) (by rfl)))
    (fun cdv A outer s H E hr gu => (fj_of_for (for1 2 (P := fun (a277 : Unit) => [.any, .deck, .any, .any, .any, .any, .any, .any, .any, .any, .any, .any, .any, .any]) (a0 := ()) PassesOwn.never (ij_range1 mb_range ej_int) (pg_name (i := 2) sc.nd rfl (by first | exact Or.inl rfl | exact Or.inr rfl)) (fun x278 a277 => (bj_seq (sj_unp2A 3 4 (ej_hidP (m' := W) (g := [.any, .deck, .val x278, .any, .any, .any, .any, .any, .any, .any, .any, .any, .any, .any]) [.any, .deck, .any, .any, .any, .any, .any, .any, .any, .any, .any, .any, .any, .any] (ej_callD d__law_begun (hr.mono (by decide)) gu (aj_dk 1 (aj_cons ej_int aj_nil))) ⟨.inl rfl, .inr rfl, .inl rfl, .inl rfl, .inl rfl, .inl rfl, .inl rfl, .inl rfl, .inl rfl, .inl rfl, .inl rfl, .inl rfl, .inl rfl, .inl rfl, trivial⟩) (pg_tup rfl (pgs_cons (pg_name (i := 3) sc.nd rfl (by first | exact Or.inl rfl | exact Or.inr rfl)) (pgs_cons (pg_name (i := 4) sc.nd rfl (by first | exact Or.inl rfl | exact Or.inr rfl)) pgs_nil))) (pg_unl rfl (pgs_cons (pg_name (i := 3) sc.nd rfl (by first | exact Or.inl rfl | exact Or.inr rfl)) (pgs_cons (pg_name (i := 4) sc.nd rfl (by first | exact Or.inl rfl | exact Or.inr rfl)) pgs_nil)))) (fun v279 => (bj_seq (sj_par 5 6 sc.nd (ej_calmZ (ej_newZX dx_Cabinet____init__ (hr.mono (by decide)) gu takes00 (sub_self _) (aj_cons (ej_up (m' := Z) (ej_vk 3)) (aj_cons (ej_up (m' := Z) (ej_vk 4)) aj_nil)))) (ej_call1 call_lenD' rc_len mb_len (ej_ix ix_seq rd_ix (ej_vk 3) ej_int (fun _ _ => rfl)))) (fun v280 => (bj_seq (sj_set 7 sc.nd (ej_propZ dp_Cabinet__sure (hr.mono (by decide)) gu (ej_vk 5))) (fun v281 => (bj_ifr (tj_cmp (by exact op_neA hy (units_of hr)) rd_ne (ej_propZ dp_Cabinet__sure (hr.mono (by decide)) gu (ej_calmZ (ej_newZX dx_Cabinet____init__ (hr.mono (by decide)) gu takes00 (sub_self _) (aj_cons (ej_up (m' := Z) (ej_rev (ej_vk 3))) (aj_cons (ej_up (m' := Z) (ej_rev (ej_vk 4))) aj_nil))))) (ej_vk 7)) (fj_ret ej_bl) (bj_of_for (for1 8 (P := fun (a282 : D) => [.any, .deck, .val x278, .val v279.1, .val v279.2, .val a282, .val v280.2, .val v281, .any, .any, .any, .any, .any, .any]) (a0 := v280.1) PassesOwn.never (ij_range1 mb_range ej_int) (pg_name (i := 8) sc.nd rfl (by first | exact Or.inl rfl | exact Or.inr rfl)) (fun x283 a282 => (bj_seq (sj_par 9 10 sc.nd (ej_hidP (m' := W) (g := [.any, .deck, .val x278, .val v279.1, .val v279.2, .val a282, .val v280.2, .val v281, .val x283, .any, .any, .any, .any, .any]) [.any, .deck, .any, .val v279.1, .any, .any, .any, .any, .any, .any, .any, .any, .any, .any] (ej_callD d__law_draw (hr.mono (by decide)) gu (aj_dk 1 (aj_cons (ej_call1 call_lenD' rc_len mb_len (ej_vk 3)) aj_nil))) ⟨.inl rfl, .inr rfl, .inl rfl, .inr rfl, .inl rfl, .inl rfl, .inl rfl, .inl rfl, .inl rfl, .inl rfl, .inl rfl, .inl rfl, .inl rfl, .inl rfl, trivial⟩) (ej_hidP (m' := W) (g := [.any, .deck, .val x278, .val v279.1, .val v279.2, .val a282, .val v280.2, .val v281, .val x283, .any, .any, .any, .any, .any]) [.any, .deck, .any, .any, .any, .any, .val v280.2, .any, .any, .any, .any, .any, .any, .any] (ej_callD d__law_draw (hr.mono (by decide)) gu (aj_dk 1 (aj_cons (ej_vk 6) aj_nil))) ⟨.inl rfl, .inr rfl, .inl rfl, .inl rfl, .inl rfl, .inl rfl, .inr rfl, .inl rfl, .inl rfl, .inl rfl, .inl rfl, .inl rfl, .inl rfl, .inl rfl, trivial⟩)) (fun v284 => (bj_ifr (tj_w (wj_or (tj_cmp (by exact op_neA hy (units_of hr)) rd_ne (ej_calmZ (ej_methZX dx_Cabinet__put (hr.mono (by decide)) gu takes00 (sub_self _) (ej_up (m' := Z) (ej_vk 5)) (aj_cons (ej_up (m' := Z) (ej_vk 9)) (aj_cons (ej_up (m' := Z) (ej_vk 10)) (aj_cons (ej_up (m' := Z) ej_int) aj_nil))))) ej_int) (wj_or1 (tj_w (wj_and (tj_cmp op_notN rd_isn (ej_vk 7) ej_non) (wj_and1 (tj_cmp (by exact op_ninB hy (units65 hr)) rd_nin (ej_propZ dp_Cabinet__sure (hr.mono (by decide)) gu (ej_vk 5)) (ej_tup (dj_cons (ej_vk 7) (dj_cons (ej_bin op_addD rd_add (ej_vk 7) ej_int) dj_nil)))))))))) (fj_ret ej_bl) (bj_ifr (tj_w (wj_or (tj_cmp (by exact op_neA hy (units_of hr)) rd_ne (ej_calmZ (ej_methZX0 dx_Cabinet__undo (hr.mono (by decide)) gu takes00 (sub_self _) (ej_up (m' := Z) (ej_vk 5)))) ej_int) (wj_or1 (tj_not (tj_val (ej_calmZ (ej_callXD dx__law_moved_right (hr.mono (by decide)) gu takes00 (sub_self _) (aj_cons (ej_up (m' := Z) (ej_vk 5)) (aj_cons (ej_up (m' := Z) (ej_vk 9)) (aj_cons (ej_up (m' := Z) (ej_vk 10)) aj_nil)))))))))) (fj_ret ej_bl) (bj_if (P := fun (a285 : Unit) => [.any, .deck, .val x278, .val v279.1, .val v279.2, .val a282, .val v280.2, .val v281, .val x283, .val v284.1, .val v284.2, .any, .any, .any]) (tj_cmp op_gt rd_gt (ej_ix ix_seq rd_ix (ej_ix ix_seq rd_ix (ej_vk 3) (ej_vk 9) (fun _ _ => rfl)) (ej_vk 10) (fun _ _ => rfl)) ej_int) (bj_ifr (tj_w (wj_or (tj_cmp (by exact op_neA hy (units_of hr)) rd_ne (ej_calmZ (ej_methZX dx_Cabinet__remove (hr.mono (by decide)) gu takes00 (sub_self _) (ej_up (m' := Z) (ej_vk 5)) (aj_cons (ej_up (m' := Z) (ej_vk 9)) (aj_cons (ej_up (m' := Z) (ej_vk 10)) (aj_cons (ej_up (m' := Z) ej_int) aj_nil))))) ej_int) (wj_or (tj_cmp (by exact op_neA hy (units_of hr)) rd_ne (ej_calmZ (ej_methZX0 dx_Cabinet__undo (hr.mono (by decide)) gu takes00 (sub_self _) (ej_up (m' := Z) (ej_vk 5)))) ej_int) (wj_or1 (tj_cmp (by exact op_neA hy (units_of hr)) rd_ne (ej_calmZ (ej_methZX dx_Cabinet__remove (hr.mono (by decide)) gu takes00 (sub_self _) (ej_up (m' := Z) (ej_vk 5)) (aj_cons (ej_up (m' := Z) (ej_vk 9)) (aj_cons (ej_up (m' := Z) (ej_vk 10)) (aj_cons (ej_up (m' := Z) ej_int) aj_nil))))) ej_int))))) (fj_ret ej_bl) (bj_ifr (tj_w (wj_and (tj_cmp (by exact op_ninB hy (units65 hr)) rd_nin (ej_propZ dp_Cabinet__sure (hr.mono (by decide)) gu (ej_vk 5)) (ej_tup (dj_cons ej_non (dj_cons (ej_vk 7) dj_nil)))) (wj_and1 (tj_w (wj_or (tj_cmp op_isN rd_is (ej_vk 7) ej_non) (wj_or1 (tj_cmp (by exact op_neA hy (units_of hr)) rd_ne (ej_propZ dp_Cabinet__sure (hr.mono (by decide)) gu (ej_vk 5)) (ej_bin op_sub rd_sub (ej_vk 7) ej_int)))))))) (fj_ret ej_bl) (bj_ifr (tj_cmp (by exact op_neA hy (units_of hr)) rd_ne (ej_calmZ (ej_methZX0 dx_Cabinet__undo (hr.mono (by decide)) gu takes00 (sub_self _) (ej_up (m' := Z) (ej_vk 5)))) ej_int) (fj_ret ej_bl) (bj_nil (a := ()) ⟨.inl rfl, .inr rfl, .inr rfl, .inr rfl, .inr rfl, .inr rfl, .inr rfl, .inr rfl, .inr rfl, .inr rfl, .inr rfl, .inl rfl, .inl rfl, .inl rfl, trivial⟩)))) (bj_nil (a := ()) ⟨.inl rfl, .inr rfl, .inr rfl, .inr rfl, .inr rfl, .inr rfl, .inr rfl, .inr rfl, .inr rfl, .inr rfl, .inr rfl, .inl rfl, .inl rfl, .inl rfl, trivial⟩) (fun a285 => (bj_nil (a := a282) ⟨.inl rfl, .inr rfl, .inr rfl, .inr rfl, .inr rfl, .inr rfl, .inr rfl, .inr rfl, .inl rfl, .inl rfl, .inl rfl, .inl rfl, .inl rfl, .inl rfl, trivial⟩)))))))) ⟨.inl rfl, .inr rfl, .inr rfl, .inr rfl, .inr rfl, .inr rfl, .inr rfl, .inr rfl, .inl rfl, .inl rfl, .inl rfl, .inl rfl, .inl rfl, .inl rfl, trivial⟩) (fun a286 => (bj_seq (sj_set 11 sc.nd (ej_hidP (m' := W) (g := [.any, .deck, .val x278, .val v279.1, .val v279.2, .val a286, .val v280.2, .val v281, .any, .any, .any, .any, .any, .any]) [.any, .deck, .any, .any, .val v279.2, .any, .any, .any, .any, .any, .any, .any, .any, .any] (ej_ix ix_seq rd_ix (ej_vk 4) (ej_callD d__law_draw (hr.mono (by decide)) gu (aj_dk 1 (aj_cons (ej_call1 call_lenD' rc_len mb_len (ej_vk 4)) aj_nil))) (fun _ _ => rfl)) ⟨.inl rfl, .inr rfl, .inl rfl, .inl rfl, .inr rfl, .inl rfl, .inl rfl, .inl rfl, .inl rfl, .inl rfl, .inl rfl, .inl rfl, .inl rfl, .inl rfl, trivial⟩)) (fun v287 => (bj_seq (sj_set 12 sc.nd (ej_hidP (m' := W) (g := [.any, .deck, .val x278, .val v279.1, .val v279.2, .val a286, .val v280.2, .val v281, .any, .any, .any, .val v287, .any, .any]) [.any, .deck, .any, .any, .any, .any, .any, .any, .any, .any, .any, .val v287, .any, .any] (ej_callT call_tuple_of rc_tuple mb_tuple (ej_l (LcP.expr (lj_lc1 [("_law_number", 13)] 13 sc.nd (ij_seq (ej_vk 11)) (blk_of (by kernel_rfl)) (fun _ _ _ _ _ => pg_name (i := 13) sc.nd rfl (by first | exact Or.inl rfl | exact Or.inr rfl)) (fun _ _ _ _ _ c289 => (ej_call2 (call_min2 rfl) rc_min2 mb_min ej_int (ej_bin op_addD rd_add (ej_vk 13) (ej_callD d__law_draw (hr.mono (by decide)) gu (aj_dk 1 (aj_cons ej_int aj_nil)))))))))) ⟨.inl rfl, .inr rfl, .inl rfl, .inl rfl, .inl rfl, .inl rfl, .inl rfl, .inl rfl, .inl rfl, .inl rfl, .inl rfl, .inr rfl, .inl rfl, .inl rfl, trivial⟩)) (fun v288 => (bj_ifr (tj_not (tj_val (ej_calmZ (ej_callXD dx__law_wishes_right (hr.mono (by decide)) gu takes00 (sub_self _) (aj_cons (ej_up (m' := Z) (ej_vk 5)) (aj_cons (ej_up (m' := Z) (ej_vk 11)) (aj_cons (ej_up (m' := Z) (ej_vk 12)) aj_nil))))))) (fj_ret ej_bl) (bj_if (P := fun (a290 : Unit) => [.any, .deck, .val x278, .val v279.1, .val v279.2, .val a286, .val v280.2, .val v281, .any, .any, .any, .val v287, .val v288, .any]) (tj_w (wj_and (tj_cmp op_lt rd_lt (ej_call1 call_lenD' rc_len mb_len (ej_vk 4)) ej_int) (wj_and1 (tj_cmp op_notN rd_isn (ej_vk 7) ej_non)))) (bj_ifr (tj_w (wj_or (tj_cmp (by exact op_neA hy (units_of hr)) rd_ne (ej_calmZ (ej_methZX dx_Cabinet__wish (hr.mono (by decide)) gu takes00 (sub_self _) (ej_up (m' := Z) (ej_vk 5)) (aj_cons (ej_up (m' := Z) (ej_hidP (m' := W) (g := [.any, .deck, .val x278, .val v279.1, .val v279.2, .val a286, .val v280.2, .val v281, .any, .any, .any, .val v287, .val v288, .any]) [.any, .deck, .any, .any, .any, .any, .val v280.2, .any, .any, .any, .any, .any, .any, .any] (ej_callD d__law_collection (hr.mono (by decide)) gu (aj_dk 1 (aj_cons (ej_vk 6) (aj_cons ej_int aj_nil)))) ⟨.inl rfl, .inr rfl, .inl rfl, .inl rfl, .inl rfl, .inl rfl, .inr rfl, .inl rfl, .inl rfl, .inl rfl, .inl rfl, .inl rfl, .inl rfl, .inl rfl, trivial⟩)) aj_nil))) ej_int) (wj_or (tj_cmp op_isN rd_is (ej_propZ dp_Cabinet__sure (hr.mono (by decide)) gu (ej_vk 5)) ej_non) (wj_or1 (tj_cmp op_gt rd_gt (ej_propZ dp_Cabinet__sure (hr.mono (by decide)) gu (ej_vk 5)) (ej_vk 7)))))) (fj_ret ej_bl) (bj_nil (a := ()) ⟨.inl rfl, .inr rfl, .inr rfl, .inr rfl, .inr rfl, .inr rfl, .inr rfl, .inr rfl, .inl rfl, .inl rfl, .inl rfl, .inr rfl, .inr rfl, .inl rfl, trivial⟩)) (bj_nil (a := ()) ⟨.inl rfl, .inr rfl, .inr rfl, .inr rfl, .inr rfl, .inr rfl, .inr rfl, .inr rfl, .inl rfl, .inl rfl, .inl rfl, .inr rfl, .inr rfl, .inl rfl, trivial⟩) (fun a290 => (bj_nil (a := ()) ⟨.inl rfl, .inr rfl, .inl rfl, .inl rfl, .inl rfl, .inl rfl, .inl rfl, .inl rfl, .inl rfl, .inl rfl, .inl rfl, .inl rfl, .inl rfl, .inl rfl, trivial⟩)))))))))))))))))) ⟨.inl rfl, .inr rfl, .inl rfl, .inl rfl, .inl rfl, .inl rfl, .inl rfl, .inl rfl, .inl rfl, .inl rfl, .inl rfl, .inl rfl, .inl rfl, .inl rfl, trivial⟩) (fun a291 => (fj_ret ej_bl)))) hM
end
theorem all_mk {l : PySem.W.OpenLaw} {w : World} {K : PySem.W.Frag} {h : Heap} {mg : Str → Option Value} {fa : Addr} (X : K.In h) (G : h.Ns mainGlobals mg) (hfa : mg "law" = some (.ref fa)) (hM : Mo.sat m_law 0 (fun d _ => d = .bool true) (fun _ _ => False))
    {f0 : Addr} {od0 an0 : Option Addr} {sl0 : Array (Option Value)} {oc0 kV0 dc0 pm0 cd0 ct0 : Value} (a0 : PySem.W.nsIn K mainGlobals "is_number" = some (some (.ref f0))) (l0 : K.lookup f0 = some ⟨oc0, od0, .func (PySem.W.fnOf "is_number" "is_number" (defArgs s_is_number) (defBody s_is_number) (defScope s_is_number) .none kV0 dc0 pm0 an0 cd0 ct0), sl0⟩) (c0 : PySem.W.codeIn K cd0 "is_number" = true) (k0 : PySem.W.keepIn K (.ref f0) = true)
    {f1 : Addr} {od1 an1 : Option Addr} {sl1 : Array (Option Value)} {oc1 kV1 dc1 pm1 cd1 ct1 : Value} (a1 : PySem.W.nsIn K mainGlobals "totals_of" = some (some (.ref f1))) (l1 : K.lookup f1 = some ⟨oc1, od1, .func (PySem.W.fnOf "totals_of" "totals_of" (defArgs s_totals_of) (defBody s_totals_of) (defScope s_totals_of) .none kV1 dc1 pm1 an1 cd1 ct1), sl1⟩) (c1 : PySem.W.codeIn K cd1 "totals_of" = true) (k1 : PySem.W.keepIn K (.ref f1) = true)
    {f2 : Addr} {od2 an2 : Option Addr} {sl2 : Array (Option Value)} {oc2 kV2 dc2 pm2 cd2 ct2 : Value} (a2 : PySem.W.nsIn K mainGlobals "contains" = some (some (.ref f2))) (l2 : K.lookup f2 = some ⟨oc2, od2, .func (PySem.W.fnOf "contains" "contains" (defArgs s_contains) (defBody s_contains) (defScope s_contains) .none kV2 dc2 pm2 an2 cd2 ct2), sl2⟩) (c2 : PySem.W.codeIn K cd2 "contains" = true) (k2 : PySem.W.keepIn K (.ref f2) = true)
    {f3 : Addr} {od3 an3 : Option Addr} {sl3 : Array (Option Value)} {oc3 kV3 dc3 pm3 cd3 ct3 : Value} (a3 : PySem.W.nsIn K mainGlobals "spoilings_of" = some (some (.ref f3))) (l3 : K.lookup f3 = some ⟨oc3, od3, .func (PySem.W.fnOf "spoilings_of" "spoilings_of" (defArgs s_spoilings_of) (defBody s_spoilings_of) (defScope s_spoilings_of) .none kV3 dc3 pm3 an3 cd3 ct3), sl3⟩) (c3 : PySem.W.codeIn K cd3 "spoilings_of" = true) (k3 : PySem.W.keepIn K (.ref f3) = true)
    {f4 : Addr} {od4 an4 : Option Addr} {sl4 : Array (Option Value)} {oc4 kV4 dc4 pm4 cd4 ct4 : Value} (a4 : PySem.W.nsIn K mainGlobals "caps_of" = some (some (.ref f4))) (l4 : K.lookup f4 = some ⟨oc4, od4, .func (PySem.W.fnOf "caps_of" "caps_of" (defArgs s_caps_of) (defBody s_caps_of) (defScope s_caps_of) .none kV4 dc4 pm4 an4 cd4 ct4), sl4⟩) (c4 : PySem.W.codeIn K cd4 "caps_of" = true) (k4 : PySem.W.keepIn K (.ref f4) = true)
    {f5 : Addr} {od5 an5 : Option Addr} {sl5 : Array (Option Value)} {oc5 kV5 dc5 pm5 cd5 ct5 : Value} (a5 : PySem.W.nsIn K mainGlobals "room_in" = some (some (.ref f5))) (l5 : K.lookup f5 = some ⟨oc5, od5, .func (PySem.W.fnOf "room_in" "room_in" (defArgs s_room_in) (defBody s_room_in) (defScope s_room_in) .none kV5 dc5 pm5 an5 cd5 ct5), sl5⟩) (c5 : PySem.W.codeIn K cd5 "room_in" = true) (k5 : PySem.W.keepIn K (.ref f5) = true)
    {f6 : Addr} {od6 an6 : Option Addr} {sl6 : Array (Option Value)} {oc6 kV6 dc6 pm6 cd6 ct6 : Value} (a6 : PySem.W.nsIn K mainGlobals "is_within" = some (some (.ref f6))) (l6 : K.lookup f6 = some ⟨oc6, od6, .func (PySem.W.fnOf "is_within" "is_within" (defArgs s_is_within) (defBody s_is_within) (defScope s_is_within) .none kV6 dc6 pm6 an6 cd6 ct6), sl6⟩) (c6 : PySem.W.codeIn K cd6 "is_within" = true) (k6 : PySem.W.keepIn K (.ref f6) = true)
    {f7 : Addr} {od7 an7 : Option Addr} {sl7 : Array (Option Value)} {oc7 kV7 dc7 pm7 cd7 ct7 : Value} (a7 : PySem.W.nsIn K mainGlobals "is_edit" = some (some (.ref f7))) (l7 : K.lookup f7 = some ⟨oc7, od7, .func (PySem.W.fnOf "is_edit" "is_edit" (defArgs s_is_edit) (defBody s_is_edit) (defScope s_is_edit) .none kV7 dc7 pm7 an7 cd7 ct7), sl7⟩) (c7 : PySem.W.codeIn K cd7 "is_edit" = true) (k7 : PySem.W.keepIn K (.ref f7) = true)
    {f8 : Addr} {od8 an8 : Option Addr} {sl8 : Array (Option Value)} {oc8 kV8 dc8 pm8 cd8 ct8 : Value} (a8 : PySem.W.nsIn K mainGlobals "with_number" = some (some (.ref f8))) (l8 : K.lookup f8 = some ⟨oc8, od8, .func (PySem.W.fnOf "with_number" "with_number" (defArgs s_with_number) (defBody s_with_number) (defScope s_with_number) .none kV8 dc8 pm8 an8 cd8 ct8), sl8⟩) (c8 : PySem.W.codeIn K cd8 "with_number" = true) (k8 : PySem.W.keepIn K (.ref f8) = true)
    {f14 : Addr} {od14 an14 : Option Addr} {sl14 : Array (Option Value)} {oc14 kV14 dc14 pm14 cd14 ct14 : Value} (a14 : PySem.W.nsIn K mainGlobals "_law_deck" = some (some (.ref f14))) (l14 : K.lookup f14 = some ⟨oc14, od14, .func (PySem.W.fnOf "_law_deck" "_law_deck" (defArgs s__law_deck) (defBody s__law_deck) (defScope s__law_deck) .none kV14 dc14 pm14 an14 cd14 ct14), sl14⟩) (c14 : PySem.W.codeIn K cd14 "_law_deck" = true) (k14 : PySem.W.keepIn K (.ref f14) = true)
    {f15 : Addr} {od15 an15 : Option Addr} {sl15 : Array (Option Value)} {oc15 kV15 dc15 pm15 cd15 ct15 : Value} (a15 : PySem.W.nsIn K mainGlobals "_law_draw" = some (some (.ref f15))) (l15 : K.lookup f15 = some ⟨oc15, od15, .func (PySem.W.fnOf "_law_draw" "_law_draw" (defArgs s__law_draw) (defBody s__law_draw) (defScope s__law_draw) .none kV15 dc15 pm15 an15 cd15 ct15), sl15⟩) (c15 : PySem.W.codeIn K cd15 "_law_draw" = true) (k15 : PySem.W.keepIn K (.ref f15) = true)
    {f16 : Addr} {od16 an16 : Option Addr} {sl16 : Array (Option Value)} {oc16 kV16 dc16 pm16 cd16 ct16 : Value} (a16 : PySem.W.nsIn K mainGlobals "are_numbers" = some (some (.ref f16))) (l16 : K.lookup f16 = some ⟨oc16, od16, .func (PySem.W.fnOf "are_numbers" "are_numbers" (defArgs s_are_numbers) (defBody s_are_numbers) (defScope s_are_numbers) .none kV16 dc16 pm16 an16 cd16 ct16), sl16⟩) (c16 : PySem.W.codeIn K cd16 "are_numbers" = true) (k16 : PySem.W.keepIn K (.ref f16) = true)
    {f17 : Addr} {od17 an17 : Option Addr} {sl17 : Array (Option Value)} {oc17 kV17 dc17 pm17 cd17 ct17 : Value} (a17 : PySem.W.nsIn K mainGlobals "fulfilled_by" = some (some (.ref f17))) (l17 : K.lookup f17 = some ⟨oc17, od17, .func (PySem.W.fnOf "fulfilled_by" "fulfilled_by" (defArgs s_fulfilled_by) (defBody s_fulfilled_by) (defScope s_fulfilled_by) .none kV17 dc17 pm17 an17 cd17 ct17), sl17⟩) (c17 : PySem.W.codeIn K cd17 "fulfilled_by" = true) (k17 : PySem.W.keepIn K (.ref f17) = true)
    {f18 : Addr} {od18 an18 : Option Addr} {sl18 : Array (Option Value)} {oc18 kV18 dc18 pm18 cd18 ct18 : Value} (a18 : PySem.W.nsIn K mainGlobals "_law_stock" = some (some (.ref f18))) (l18 : K.lookup f18 = some ⟨oc18, od18, .func (PySem.W.fnOf "_law_stock" "_law_stock" (defArgs s__law_stock) (defBody s__law_stock) (defScope s__law_stock) .none kV18 dc18 pm18 an18 cd18 ct18), sl18⟩) (c18 : PySem.W.codeIn K cd18 "_law_stock" = true) (k18 : PySem.W.keepIn K (.ref f18) = true)
    {f19 : Addr} {od19 an19 : Option Addr} {sl19 : Array (Option Value)} {oc19 kV19 dc19 pm19 cd19 ct19 : Value} (a19 : PySem.W.nsIn K mainGlobals "_law_collection" = some (some (.ref f19))) (l19 : K.lookup f19 = some ⟨oc19, od19, .func (PySem.W.fnOf "_law_collection" "_law_collection" (defArgs s__law_collection) (defBody s__law_collection) (defScope s__law_collection) .none kV19 dc19 pm19 an19 cd19 ct19), sl19⟩) (c19 : PySem.W.codeIn K cd19 "_law_collection" = true) (k19 : PySem.W.keepIn K (.ref f19) = true)
    {f20 : Addr} {od20 an20 : Option Addr} {sl20 : Array (Option Value)} {oc20 kV20 dc20 pm20 cd20 ct20 : Value} (a20 : PySem.W.nsIn K mainGlobals "stock_error" = some (some (.ref f20))) (l20 : K.lookup f20 = some ⟨oc20, od20, .func (PySem.W.fnOf "stock_error" "stock_error" (defArgs s_stock_error) (defBody s_stock_error) (defScope s_stock_error) .none kV20 dc20 pm20 an20 cd20 ct20), sl20⟩) (c20 : PySem.W.codeIn K cd20 "stock_error" = true) (k20 : PySem.W.keepIn K (.ref f20) = true)
    {f21 : Addr} {od21 an21 : Option Addr} {sl21 : Array (Option Value)} {oc21 kV21 dc21 pm21 cd21 ct21 : Value} (a21 : PySem.W.nsIn K mainGlobals "is_collection" = some (some (.ref f21))) (l21 : K.lookup f21 = some ⟨oc21, od21, .func (PySem.W.fnOf "is_collection" "is_collection" (defArgs s_is_collection) (defBody s_is_collection) (defScope s_is_collection) .none kV21 dc21 pm21 an21 cd21 ct21), sl21⟩) (c21 : PySem.W.codeIn K cd21 "is_collection" = true) (k21 : PySem.W.keepIn K (.ref f21) = true)
    {f22 : Addr} {od22 an22 : Option Addr} {sl22 : Array (Option Value)} {oc22 kV22 dc22 pm22 cd22 ct22 : Value} (a22 : PySem.W.nsIn K mainGlobals "sure_total" = some (some (.ref f22))) (l22 : K.lookup f22 = some ⟨oc22, od22, .func (PySem.W.fnOf "sure_total" "sure_total" (defArgs s_sure_total) (defBody s_sure_total) (defScope s_sure_total) .none kV22 dc22 pm22 an22 cd22 ct22), sl22⟩) (c22 : PySem.W.codeIn K cd22 "sure_total" = true) (k22 : PySem.W.keepIn K (.ref f22) = true)
    {f23 : Addr} {od23 an23 : Option Addr} {sl23 : Array (Option Value)} {oc23 kV23 dc23 pm23 cd23 ct23 : Value} (a23 : PySem.W.nsIn K mainGlobals "require_things" = some (some (.ref f23))) (l23 : K.lookup f23 = some ⟨oc23, od23, .func (PySem.W.fnOf "require_things" "require_things" (defArgs s_require_things) (defBody s_require_things) (defScope s_require_things) .none kV23 dc23 pm23 an23 cd23 ct23), sl23⟩) (c23 : PySem.W.codeIn K cd23 "require_things" = true) (k23 : PySem.W.keepIn K (.ref f23) = true)
    {f24 : Addr} {od24 an24 : Option Addr} {sl24 : Array (Option Value)} {oc24 kV24 dc24 pm24 cd24 ct24 : Value} (a24 : PySem.W.nsIn K mainGlobals "without_collection" = some (some (.ref f24))) (l24 : K.lookup f24 = some ⟨oc24, od24, .func (PySem.W.fnOf "without_collection" "without_collection" (defArgs s_without_collection) (defBody s_without_collection) (defScope s_without_collection) .none kV24 dc24 pm24 an24 cd24 ct24), sl24⟩) (c24 : PySem.W.codeIn K cd24 "without_collection" = true) (k24 : PySem.W.keepIn K (.ref f24) = true)
    {f26 : Addr} {od26 an26 : Option Addr} {sl26 : Array (Option Value)} {oc26 kV26 dc26 pm26 cd26 ct26 : Value} (a26 : PySem.W.nsIn K mainGlobals "_law_wish" = some (some (.ref f26))) (l26 : K.lookup f26 = some ⟨oc26, od26, .func (PySem.W.fnOf "_law_wish" "_law_wish" (defArgs s__law_wish) (defBody s__law_wish) (defScope s__law_wish) .none kV26 dc26 pm26 an26 cd26 ct26), sl26⟩) (c26 : PySem.W.codeIn K cd26 "_law_wish" = true) (k26 : PySem.W.keepIn K (.ref f26) = true)
    {f27 : Addr} {od27 an27 : Option Addr} {sl27 : Array (Option Value)} {oc27 kV27 dc27 pm27 cd27 ct27 : Value} (a27 : PySem.W.nsIn K mainGlobals "are_collections" = some (some (.ref f27))) (l27 : K.lookup f27 = some ⟨oc27, od27, .func (PySem.W.fnOf "are_collections" "are_collections" (defArgs s_are_collections) (defBody s_are_collections) (defScope s_are_collections) .none kV27 dc27 pm27 an27 cd27 ct27), sl27⟩) (c27 : PySem.W.codeIn K cd27 "are_collections" = true) (k27 : PySem.W.keepIn K (.ref f27) = true)
    {f28 : Addr} {od28 an28 : Option Addr} {sl28 : Array (Option Value)} {oc28 kV28 dc28 pm28 cd28 ct28 : Value} (a28 : PySem.W.nsIn K mainGlobals "with_things" = some (some (.ref f28))) (l28 : K.lookup f28 = some ⟨oc28, od28, .func (PySem.W.fnOf "with_things" "with_things" (defArgs s_with_things) (defBody s_with_things) (defScope s_with_things) .none kV28 dc28 pm28 an28 cd28 ct28), sl28⟩) (c28 : PySem.W.codeIn K cd28 "with_things" = true) (k28 : PySem.W.keepIn K (.ref f28) = true)
    {f29 : Addr} {od29 an29 : Option Addr} {sl29 : Array (Option Value)} {oc29 kV29 dc29 pm29 cd29 ct29 : Value} (a29 : PySem.W.nsIn K mainGlobals "without_things" = some (some (.ref f29))) (l29 : K.lookup f29 = some ⟨oc29, od29, .func (PySem.W.fnOf "without_things" "without_things" (defArgs s_without_things) (defBody s_without_things) (defScope s_without_things) .none kV29 dc29 pm29 an29 cd29 ct29), sl29⟩) (c29 : PySem.W.codeIn K cd29 "without_things" = true) (k29 : PySem.W.keepIn K (.ref f29) = true)
    {f31 : Addr} {od31 an31 : Option Addr} {sl31 : Array (Option Value)} {oc31 kV31 dc31 pm31 cd31 ct31 : Value} (a31 : PySem.W.nsIn K mainGlobals "_law_begun" = some (some (.ref f31))) (l31 : K.lookup f31 = some ⟨oc31, od31, .func (PySem.W.fnOf "_law_begun" "_law_begun" (defArgs s__law_begun) (defBody s__law_begun) (defScope s__law_begun) .none kV31 dc31 pm31 an31 cd31 ct31), sl31⟩) (c31 : PySem.W.codeIn K cd31 "_law_begun" = true) (k31 : PySem.W.keepIn K (.ref f31) = true)
    {f32 : Addr} {od32 an32 : Option Addr} {sl32 : Array (Option Value)} {oc32 kV32 dc32 pm32 cd32 ct32 : Value} (a32 : PySem.W.nsIn K mainGlobals "with_collection" = some (some (.ref f32))) (l32 : K.lookup f32 = some ⟨oc32, od32, .func (PySem.W.fnOf "with_collection" "with_collection" (defArgs s_with_collection) (defBody s_with_collection) (defScope s_with_collection) .none kV32 dc32 pm32 an32 cd32 ct32), sl32⟩) (c32 : PySem.W.codeIn K cd32 "with_collection" = true) (k32 : PySem.W.keepIn K (.ref f32) = true)
    {f41 : Addr} {od41 an41 : Option Addr} {sl41 : Array (Option Value)} {oc41 kV41 dc41 pm41 cd41 ct41 : Value} (a41 : PySem.W.nsIn K mainGlobals "_law_wishes_right" = some (some (.ref f41))) (l41 : K.lookup f41 = some ⟨oc41, od41, .func (PySem.W.fnOf "_law_wishes_right" "_law_wishes_right" (defArgs s__law_wishes_right) (defBody s__law_wishes_right) (defScope s__law_wishes_right) .none kV41 dc41 pm41 an41 cd41 ct41), sl41⟩) (c41 : PySem.W.codeIn K cd41 "_law_wishes_right" = true) (k41 : PySem.W.keepIn K (.ref f41) = true)
    {f42 : Addr} {od42 an42 : Option Addr} {sl42 : Array (Option Value)} {oc42 kV42 dc42 pm42 cd42 ct42 : Value} (a42 : PySem.W.nsIn K mainGlobals "_law_moved_right" = some (some (.ref f42))) (l42 : K.lookup f42 = some ⟨oc42, od42, .func (PySem.W.fnOf "_law_moved_right" "_law_moved_right" (defArgs s__law_moved_right) (defBody s__law_moved_right) (defScope s__law_moved_right) .none kV42 dc42 pm42 an42 cd42 ct42), sl42⟩) (c42 : PySem.W.codeIn K cd42 "_law_moved_right" = true) (k42 : PySem.W.keepIn K (.ref f42) = true)
    {f43 : Addr} {od43 an43 : Option Addr} {sl43 : Array (Option Value)} {oc43 kV43 dc43 pm43 cd43 ct43 : Value} (a43 : PySem.W.nsIn K mainGlobals "law" = some (some (.ref f43))) (l43 : K.lookup f43 = some ⟨oc43, od43, .func (PySem.W.fnOf "law" "law" (defArgs s_law) (defBody s_law) (defScope s_law) .none kV43 dc43 pm43 an43 cd43 ct43), sl43⟩) (c43 : PySem.W.codeIn K cd43 "law" = true) (k43 : PySem.W.keepIn K (.ref f43) = true)
    (z0 : PySem.W.nsIn K mainGlobals "abs" = some none)
    (z1 : PySem.W.nsIn K mainGlobals "all" = some none)
    (z2 : PySem.W.nsIn K mainGlobals "bool" = some none)
    (z3 : PySem.W.nsIn K mainGlobals "enumerate" = some none)
    (z4 : PySem.W.nsIn K mainGlobals "int" = some none)
    (z5 : PySem.W.nsIn K mainGlobals "isinstance" = some none)
    (z6 : PySem.W.nsIn K mainGlobals "len" = some none)
    (z7 : PySem.W.nsIn K mainGlobals "list" = some none)
    (z8 : PySem.W.nsIn K mainGlobals "max" = some none)
    (z9 : PySem.W.nsIn K mainGlobals "min" = some none)
    (z10 : PySem.W.nsIn K mainGlobals "range" = some none)
    (z11 : PySem.W.nsIn K mainGlobals "str" = some none)
    (z12 : PySem.W.nsIn K mainGlobals "sum" = some none)
    (z13 : PySem.W.nsIn K mainGlobals "tuple" = some none)
    (z14 : PySem.W.nsIn K mainGlobals "zip" = some none)
    {tc0 : Tok} (y0 : PySem.W.nsIn K mainGlobals "BATCH" = some (some (.int 20 tc0)))
    {tc1 : Tok} (y1 : PySem.W.nsIn K mainGlobals "MAX_COLLECTIONS" = some (some (.int 4 tc1)))
    {tc2 : Tok} (y2 : PySem.W.nsIn K mainGlobals "MAX_COUNT" = some (some (.int 50 tc2)))
    {tc3 : Tok} (y3 : PySem.W.nsIn K mainGlobals "MAX_DRAWERS" = some (some (.int 4 tc3)))
    {tc4 : Tok} (y4 : PySem.W.nsIn K mainGlobals "MAX_EDITS" = some (some (.int 60 tc4)))
    {tc5 : Tok} (y5 : PySem.W.nsIn K mainGlobals "MAX_KINDS" = some (some (.int 4 tc5)))
    {c_BadCollection : Addr} (aC_BadCollection : PySem.W.nsIn K mainGlobals "BadCollection" = some (some (.ref c_BadCollection)))
    {c_BadCount : Addr} (aC_BadCount : PySem.W.nsIn K mainGlobals "BadCount" = some (some (.ref c_BadCount)))
    {c_BadEdit : Addr} (aC_BadEdit : PySem.W.nsIn K mainGlobals "BadEdit" = some (some (.ref c_BadEdit)))
    {c_BadEdits : Addr} (aC_BadEdits : PySem.W.nsIn K mainGlobals "BadEdits" = some (some (.ref c_BadEdits)))
    {c_BadStock : Addr} (aC_BadStock : PySem.W.nsIn K mainGlobals "BadStock" = some (some (.ref c_BadStock)))
    {c_BadWish : Addr} (aC_BadWish : PySem.W.nsIn K mainGlobals "BadWish" = some (some (.ref c_BadWish)))
    {c_Busy : Addr} (aC_Busy : PySem.W.nsIn K mainGlobals "Busy" = some (some (.ref c_Busy)))
    {c_Cabinet : Addr} (aC_Cabinet : PySem.W.nsIn K mainGlobals "Cabinet" = some (some (.ref c_Cabinet)))
    {c_LastCollection : Addr} (aC_LastCollection : PySem.W.nsIn K mainGlobals "LastCollection" = some (some (.ref c_LastCollection)))
    {c_NoCollection : Addr} (aC_NoCollection : PySem.W.nsIn K mainGlobals "NoCollection" = some (some (.ref c_NoCollection)))
    {c_NoDrawer : Addr} (aC_NoDrawer : PySem.W.nsIn K mainGlobals "NoDrawer" = some (some (.ref c_NoDrawer)))
    {c_NoKind : Addr} (aC_NoKind : PySem.W.nsIn K mainGlobals "NoKind" = some (some (.ref c_NoKind)))
    {c_NothingToUndo : Addr} (aC_NothingToUndo : PySem.W.nsIn K mainGlobals "NothingToUndo" = some (some (.ref c_NothingToUndo)))
    {c_SIZES : Addr} (aC_SIZES : PySem.W.nsIn K mainGlobals "SIZES" = some (some (.ref c_SIZES)))
    {c_TooFew : Addr} (aC_TooFew : PySem.W.nsIn K mainGlobals "TooFew" = some (some (.ref c_TooFew)))
    {c_TooManyCollections : Addr} (aC_TooManyCollections : PySem.W.nsIn K mainGlobals "TooManyCollections" = some (some (.ref c_TooManyCollections)))
    {c_TooManyEdits : Addr} (aC_TooManyEdits : PySem.W.nsIn K mainGlobals "TooManyEdits" = some (some (.ref c_TooManyEdits)))
    {c_TooMuch : Addr} (aC_TooMuch : PySem.W.nsIn K mainGlobals "TooMuch" = some (some (.ref c_TooMuch)))
    {fi_BadCollection : Addr} {odi_BadCollection ani_BadCollection : Option Addr} {sli_BadCollection : Array (Option Value)} {oci_BadCollection kVi_BadCollection dci_BadCollection pmi_BadCollection cdi_BadCollection cti_BadCollection : Value} (iC_BadCollection : PySem.W.findIn K (.ref c_BadCollection) "__init__" = some (some (.ref fi_BadCollection))) (iT_BadCollection : PySem.W.typeIn K (.ref fi_BadCollection) = some (.type "function")) (iL_BadCollection : K.lookup fi_BadCollection = some ⟨oci_BadCollection, odi_BadCollection, .func (PySem.W.fnOf "__init__" "BadCollection.__init__" (defArgs i_BadCollection) (defBody i_BadCollection) (defScope i_BadCollection) .none kVi_BadCollection dci_BadCollection pmi_BadCollection ani_BadCollection cdi_BadCollection cti_BadCollection), sli_BadCollection⟩) (iD_BadCollection : PySem.W.codeIn K cdi_BadCollection "BadCollection.__init__" = true) (iK_BadCollection : PySem.W.keepIn K (.ref fi_BadCollection) = true) (iO_BadCollection : oexC0 K c_BadCollection = true) (iA_BadCollection : PySem.W.findIn K (.ref c_BadCollection) "__setattr__" = some (some (.builtin "object.__setattr__"))) (iB_BadCollection : PySem.W.subIn K (.ref c_BadCollection) (.type "BaseException") = some true) (iY_BadCollection : PySem.W.typeIn K (.ref c_BadCollection) = some (.type "type")) (iE_BadCollection : PySem.W.keepIn K (.ref c_BadCollection) = true) (iN_BadCollection : PySem.W.findIn K (.ref c_BadCollection) "value" = some none)
    {fi_BadCount : Addr} {odi_BadCount ani_BadCount : Option Addr} {sli_BadCount : Array (Option Value)} {oci_BadCount kVi_BadCount dci_BadCount pmi_BadCount cdi_BadCount cti_BadCount : Value} (iC_BadCount : PySem.W.findIn K (.ref c_BadCount) "__init__" = some (some (.ref fi_BadCount))) (iT_BadCount : PySem.W.typeIn K (.ref fi_BadCount) = some (.type "function")) (iL_BadCount : K.lookup fi_BadCount = some ⟨oci_BadCount, odi_BadCount, .func (PySem.W.fnOf "__init__" "BadCount.__init__" (defArgs i_BadCount) (defBody i_BadCount) (defScope i_BadCount) .none kVi_BadCount dci_BadCount pmi_BadCount ani_BadCount cdi_BadCount cti_BadCount), sli_BadCount⟩) (iD_BadCount : PySem.W.codeIn K cdi_BadCount "BadCount.__init__" = true) (iK_BadCount : PySem.W.keepIn K (.ref fi_BadCount) = true) (iO_BadCount : oexC0 K c_BadCount = true) (iA_BadCount : PySem.W.findIn K (.ref c_BadCount) "__setattr__" = some (some (.builtin "object.__setattr__"))) (iB_BadCount : PySem.W.subIn K (.ref c_BadCount) (.type "BaseException") = some true) (iY_BadCount : PySem.W.typeIn K (.ref c_BadCount) = some (.type "type")) (iE_BadCount : PySem.W.keepIn K (.ref c_BadCount) = true) (iN_BadCount : PySem.W.findIn K (.ref c_BadCount) "value" = some none)
    {fi_BadEdit : Addr} {odi_BadEdit ani_BadEdit : Option Addr} {sli_BadEdit : Array (Option Value)} {oci_BadEdit kVi_BadEdit dci_BadEdit pmi_BadEdit cdi_BadEdit cti_BadEdit : Value} (iC_BadEdit : PySem.W.findIn K (.ref c_BadEdit) "__init__" = some (some (.ref fi_BadEdit))) (iT_BadEdit : PySem.W.typeIn K (.ref fi_BadEdit) = some (.type "function")) (iL_BadEdit : K.lookup fi_BadEdit = some ⟨oci_BadEdit, odi_BadEdit, .func (PySem.W.fnOf "__init__" "BadEdit.__init__" (defArgs i_BadEdit) (defBody i_BadEdit) (defScope i_BadEdit) .none kVi_BadEdit dci_BadEdit pmi_BadEdit ani_BadEdit cdi_BadEdit cti_BadEdit), sli_BadEdit⟩) (iD_BadEdit : PySem.W.codeIn K cdi_BadEdit "BadEdit.__init__" = true) (iK_BadEdit : PySem.W.keepIn K (.ref fi_BadEdit) = true) (iO_BadEdit : oexC0 K c_BadEdit = true) (iA_BadEdit : PySem.W.findIn K (.ref c_BadEdit) "__setattr__" = some (some (.builtin "object.__setattr__"))) (iB_BadEdit : PySem.W.subIn K (.ref c_BadEdit) (.type "BaseException") = some true) (iY_BadEdit : PySem.W.typeIn K (.ref c_BadEdit) = some (.type "type")) (iE_BadEdit : PySem.W.keepIn K (.ref c_BadEdit) = true) (iN_BadEdit : PySem.W.findIn K (.ref c_BadEdit) "index" = some none)
    {fi_BadStock : Addr} {odi_BadStock ani_BadStock : Option Addr} {sli_BadStock : Array (Option Value)} {oci_BadStock kVi_BadStock dci_BadStock pmi_BadStock cdi_BadStock cti_BadStock : Value} (iC_BadStock : PySem.W.findIn K (.ref c_BadStock) "__init__" = some (some (.ref fi_BadStock))) (iT_BadStock : PySem.W.typeIn K (.ref fi_BadStock) = some (.type "function")) (iL_BadStock : K.lookup fi_BadStock = some ⟨oci_BadStock, odi_BadStock, .func (PySem.W.fnOf "__init__" "BadStock.__init__" (defArgs i_BadStock) (defBody i_BadStock) (defScope i_BadStock) .none kVi_BadStock dci_BadStock pmi_BadStock ani_BadStock cdi_BadStock cti_BadStock), sli_BadStock⟩) (iD_BadStock : PySem.W.codeIn K cdi_BadStock "BadStock.__init__" = true) (iK_BadStock : PySem.W.keepIn K (.ref fi_BadStock) = true) (iO_BadStock : oexC0 K c_BadStock = true) (iA_BadStock : PySem.W.findIn K (.ref c_BadStock) "__setattr__" = some (some (.builtin "object.__setattr__"))) (iB_BadStock : PySem.W.subIn K (.ref c_BadStock) (.type "BaseException") = some true) (iY_BadStock : PySem.W.typeIn K (.ref c_BadStock) = some (.type "type")) (iE_BadStock : PySem.W.keepIn K (.ref c_BadStock) = true) (iN_BadStock : PySem.W.findIn K (.ref c_BadStock) "error" = some none)
    {fi_BadWish : Addr} {odi_BadWish ani_BadWish : Option Addr} {sli_BadWish : Array (Option Value)} {oci_BadWish kVi_BadWish dci_BadWish pmi_BadWish cdi_BadWish cti_BadWish : Value} (iC_BadWish : PySem.W.findIn K (.ref c_BadWish) "__init__" = some (some (.ref fi_BadWish))) (iT_BadWish : PySem.W.typeIn K (.ref fi_BadWish) = some (.type "function")) (iL_BadWish : K.lookup fi_BadWish = some ⟨oci_BadWish, odi_BadWish, .func (PySem.W.fnOf "__init__" "BadWish.__init__" (defArgs i_BadWish) (defBody i_BadWish) (defScope i_BadWish) .none kVi_BadWish dci_BadWish pmi_BadWish ani_BadWish cdi_BadWish cti_BadWish), sli_BadWish⟩) (iD_BadWish : PySem.W.codeIn K cdi_BadWish "BadWish.__init__" = true) (iK_BadWish : PySem.W.keepIn K (.ref fi_BadWish) = true) (iO_BadWish : oexC0 K c_BadWish = true) (iA_BadWish : PySem.W.findIn K (.ref c_BadWish) "__setattr__" = some (some (.builtin "object.__setattr__"))) (iB_BadWish : PySem.W.subIn K (.ref c_BadWish) (.type "BaseException") = some true) (iY_BadWish : PySem.W.typeIn K (.ref c_BadWish) = some (.type "type")) (iE_BadWish : PySem.W.keepIn K (.ref c_BadWish) = true) (iN_BadWish : PySem.W.findIn K (.ref c_BadWish) "value" = some none)
    {fi_NoCollection : Addr} {odi_NoCollection ani_NoCollection : Option Addr} {sli_NoCollection : Array (Option Value)} {oci_NoCollection kVi_NoCollection dci_NoCollection pmi_NoCollection cdi_NoCollection cti_NoCollection : Value} (iC_NoCollection : PySem.W.findIn K (.ref c_NoCollection) "__init__" = some (some (.ref fi_NoCollection))) (iT_NoCollection : PySem.W.typeIn K (.ref fi_NoCollection) = some (.type "function")) (iL_NoCollection : K.lookup fi_NoCollection = some ⟨oci_NoCollection, odi_NoCollection, .func (PySem.W.fnOf "__init__" "NoCollection.__init__" (defArgs i_NoCollection) (defBody i_NoCollection) (defScope i_NoCollection) .none kVi_NoCollection dci_NoCollection pmi_NoCollection ani_NoCollection cdi_NoCollection cti_NoCollection), sli_NoCollection⟩) (iD_NoCollection : PySem.W.codeIn K cdi_NoCollection "NoCollection.__init__" = true) (iK_NoCollection : PySem.W.keepIn K (.ref fi_NoCollection) = true) (iO_NoCollection : oexL0 K c_NoCollection = true) (iA_NoCollection : PySem.W.findIn K (.ref c_NoCollection) "__setattr__" = some (some (.builtin "object.__setattr__"))) (iB_NoCollection : PySem.W.subIn K (.ref c_NoCollection) (.type "BaseException") = some true) (iY_NoCollection : PySem.W.typeIn K (.ref c_NoCollection) = some (.type "type")) (iE_NoCollection : PySem.W.keepIn K (.ref c_NoCollection) = true) (iN_NoCollection : PySem.W.findIn K (.ref c_NoCollection) "value" = some none)
    {fi_NoDrawer : Addr} {odi_NoDrawer ani_NoDrawer : Option Addr} {sli_NoDrawer : Array (Option Value)} {oci_NoDrawer kVi_NoDrawer dci_NoDrawer pmi_NoDrawer cdi_NoDrawer cti_NoDrawer : Value} (iC_NoDrawer : PySem.W.findIn K (.ref c_NoDrawer) "__init__" = some (some (.ref fi_NoDrawer))) (iT_NoDrawer : PySem.W.typeIn K (.ref fi_NoDrawer) = some (.type "function")) (iL_NoDrawer : K.lookup fi_NoDrawer = some ⟨oci_NoDrawer, odi_NoDrawer, .func (PySem.W.fnOf "__init__" "NoDrawer.__init__" (defArgs i_NoDrawer) (defBody i_NoDrawer) (defScope i_NoDrawer) .none kVi_NoDrawer dci_NoDrawer pmi_NoDrawer ani_NoDrawer cdi_NoDrawer cti_NoDrawer), sli_NoDrawer⟩) (iD_NoDrawer : PySem.W.codeIn K cdi_NoDrawer "NoDrawer.__init__" = true) (iK_NoDrawer : PySem.W.keepIn K (.ref fi_NoDrawer) = true) (iO_NoDrawer : oexL0 K c_NoDrawer = true) (iA_NoDrawer : PySem.W.findIn K (.ref c_NoDrawer) "__setattr__" = some (some (.builtin "object.__setattr__"))) (iB_NoDrawer : PySem.W.subIn K (.ref c_NoDrawer) (.type "BaseException") = some true) (iY_NoDrawer : PySem.W.typeIn K (.ref c_NoDrawer) = some (.type "type")) (iE_NoDrawer : PySem.W.keepIn K (.ref c_NoDrawer) = true) (iN_NoDrawer : PySem.W.findIn K (.ref c_NoDrawer) "value" = some none)
    {fi_NoKind : Addr} {odi_NoKind ani_NoKind : Option Addr} {sli_NoKind : Array (Option Value)} {oci_NoKind kVi_NoKind dci_NoKind pmi_NoKind cdi_NoKind cti_NoKind : Value} (iC_NoKind : PySem.W.findIn K (.ref c_NoKind) "__init__" = some (some (.ref fi_NoKind))) (iT_NoKind : PySem.W.typeIn K (.ref fi_NoKind) = some (.type "function")) (iL_NoKind : K.lookup fi_NoKind = some ⟨oci_NoKind, odi_NoKind, .func (PySem.W.fnOf "__init__" "NoKind.__init__" (defArgs i_NoKind) (defBody i_NoKind) (defScope i_NoKind) .none kVi_NoKind dci_NoKind pmi_NoKind ani_NoKind cdi_NoKind cti_NoKind), sli_NoKind⟩) (iD_NoKind : PySem.W.codeIn K cdi_NoKind "NoKind.__init__" = true) (iK_NoKind : PySem.W.keepIn K (.ref fi_NoKind) = true) (iO_NoKind : oexL0 K c_NoKind = true) (iA_NoKind : PySem.W.findIn K (.ref c_NoKind) "__setattr__" = some (some (.builtin "object.__setattr__"))) (iB_NoKind : PySem.W.subIn K (.ref c_NoKind) (.type "BaseException") = some true) (iY_NoKind : PySem.W.typeIn K (.ref c_NoKind) = some (.type "type")) (iE_NoKind : PySem.W.keepIn K (.ref c_NoKind) = true) (iN_NoKind : PySem.W.findIn K (.ref c_NoKind) "value" = some none)
    {fi_TooFew : Addr} {odi_TooFew ani_TooFew : Option Addr} {sli_TooFew : Array (Option Value)} {oci_TooFew kVi_TooFew dci_TooFew pmi_TooFew cdi_TooFew cti_TooFew : Value} (iC_TooFew : PySem.W.findIn K (.ref c_TooFew) "__init__" = some (some (.ref fi_TooFew))) (iT_TooFew : PySem.W.typeIn K (.ref fi_TooFew) = some (.type "function")) (iL_TooFew : K.lookup fi_TooFew = some ⟨oci_TooFew, odi_TooFew, .func (PySem.W.fnOf "__init__" "TooFew.__init__" (defArgs i_TooFew) (defBody i_TooFew) (defScope i_TooFew) .none kVi_TooFew dci_TooFew pmi_TooFew ani_TooFew cdi_TooFew cti_TooFew), sli_TooFew⟩) (iD_TooFew : PySem.W.codeIn K cdi_TooFew "TooFew.__init__" = true) (iK_TooFew : PySem.W.keepIn K (.ref fi_TooFew) = true) (iO_TooFew : oexC0 K c_TooFew = true) (iA_TooFew : PySem.W.findIn K (.ref c_TooFew) "__setattr__" = some (some (.builtin "object.__setattr__"))) (iB_TooFew : PySem.W.subIn K (.ref c_TooFew) (.type "BaseException") = some true) (iY_TooFew : PySem.W.typeIn K (.ref c_TooFew) = some (.type "type")) (iE_TooFew : PySem.W.keepIn K (.ref c_TooFew) = true) (iN_TooFew : PySem.W.findIn K (.ref c_TooFew) "kind" = some none)
    {fi_TooMuch : Addr} {odi_TooMuch ani_TooMuch : Option Addr} {sli_TooMuch : Array (Option Value)} {oci_TooMuch kVi_TooMuch dci_TooMuch pmi_TooMuch cdi_TooMuch cti_TooMuch : Value} (iC_TooMuch : PySem.W.findIn K (.ref c_TooMuch) "__init__" = some (some (.ref fi_TooMuch))) (iT_TooMuch : PySem.W.typeIn K (.ref fi_TooMuch) = some (.type "function")) (iL_TooMuch : K.lookup fi_TooMuch = some ⟨oci_TooMuch, odi_TooMuch, .func (PySem.W.fnOf "__init__" "TooMuch.__init__" (defArgs i_TooMuch) (defBody i_TooMuch) (defScope i_TooMuch) .none kVi_TooMuch dci_TooMuch pmi_TooMuch ani_TooMuch cdi_TooMuch cti_TooMuch), sli_TooMuch⟩) (iD_TooMuch : PySem.W.codeIn K cdi_TooMuch "TooMuch.__init__" = true) (iK_TooMuch : PySem.W.keepIn K (.ref fi_TooMuch) = true) (iO_TooMuch : oexC0 K c_TooMuch = true) (iA_TooMuch : PySem.W.findIn K (.ref c_TooMuch) "__setattr__" = some (some (.builtin "object.__setattr__"))) (iB_TooMuch : PySem.W.subIn K (.ref c_TooMuch) (.type "BaseException") = some true) (iY_TooMuch : PySem.W.typeIn K (.ref c_TooMuch) = some (.type "type")) (iE_TooMuch : PySem.W.keepIn K (.ref c_TooMuch) = true) (iN_TooMuch : PySem.W.findIn K (.ref c_TooMuch) "total" = some none)
    (xq_BadEdits : PySem.W.excIn K c_BadEdits [.type "ValueError", .type "Exception", .type "BaseException", .type "object"] "ValueError.__new__" = true)
    (xk_BadEdits : PySem.W.keepIn K (.ref c_BadEdits) = true)
    (xs_BadEdits : PySem.W.subIn K (.ref c_BadEdits) (.type "BaseException") = some true)
    (xt_BadEdits : PySem.W.typeIn K (.ref c_BadEdits) = some (.type "type"))
    (xq_Busy : PySem.W.excIn K c_Busy [.type "ValueError", .type "Exception", .type "BaseException", .type "object"] "ValueError.__new__" = true)
    (xk_Busy : PySem.W.keepIn K (.ref c_Busy) = true)
    (xs_Busy : PySem.W.subIn K (.ref c_Busy) (.type "BaseException") = some true)
    (xt_Busy : PySem.W.typeIn K (.ref c_Busy) = some (.type "type"))
    (xq_LastCollection : PySem.W.excIn K c_LastCollection [.type "ValueError", .type "Exception", .type "BaseException", .type "object"] "ValueError.__new__" = true)
    (xk_LastCollection : PySem.W.keepIn K (.ref c_LastCollection) = true)
    (xs_LastCollection : PySem.W.subIn K (.ref c_LastCollection) (.type "BaseException") = some true)
    (xt_LastCollection : PySem.W.typeIn K (.ref c_LastCollection) = some (.type "type"))
    (xq_NothingToUndo : PySem.W.excIn K c_NothingToUndo [.type "ValueError", .type "Exception", .type "BaseException", .type "object"] "ValueError.__new__" = true)
    (xk_NothingToUndo : PySem.W.keepIn K (.ref c_NothingToUndo) = true)
    (xs_NothingToUndo : PySem.W.subIn K (.ref c_NothingToUndo) (.type "BaseException") = some true)
    (xt_NothingToUndo : PySem.W.typeIn K (.ref c_NothingToUndo) = some (.type "type"))
    (xq_TooManyCollections : PySem.W.excIn K c_TooManyCollections [.type "ValueError", .type "Exception", .type "BaseException", .type "object"] "ValueError.__new__" = true)
    (xk_TooManyCollections : PySem.W.keepIn K (.ref c_TooManyCollections) = true)
    (xs_TooManyCollections : PySem.W.subIn K (.ref c_TooManyCollections) (.type "BaseException") = some true)
    (xt_TooManyCollections : PySem.W.typeIn K (.ref c_TooManyCollections) = some (.type "type"))
    (xq_TooManyEdits : PySem.W.excIn K c_TooManyEdits [.type "ValueError", .type "Exception", .type "BaseException", .type "object"] "ValueError.__new__" = true)
    (xk_TooManyEdits : PySem.W.keepIn K (.ref c_TooManyEdits) = true)
    (xs_TooManyEdits : PySem.W.subIn K (.ref c_TooManyEdits) (.type "BaseException") = some true)
    (xt_TooManyEdits : PySem.W.typeIn K (.ref c_TooManyEdits) = some (.type "type"))
    (tw_SIZES : tabW K c_SIZES = some (tabIn w.params [("put", 3), ("remove", 3), ("wish", 1), ("drop", 1)]))
    (pg_Cabinet : PySem.W.plainGet K c_Cabinet Str.empty = true)
    (hd_Cabinet : PySem.W.hasDictIn K c_Cabinet = true)
    (po_Cabinet : PySem.W.plainOver K c_Cabinet = true)
    (sa_Cabinet : PySem.W.findIn K (.ref c_Cabinet) "__setattr__" = some (some (.builtin "object.__setattr__")))
    (oa_Cabinet : PySem.W.findIn K (.ref c_Cabinet) "__class__" = some (some (.builtin "object.__class__")))
    (on_Cabinet : PySem.W.specialIn K (.builtin "object.__class__") "__get__" = some (some (.builtin "getset_descriptor.__get__")))
    (ot_Cabinet : PySem.W.takesIn K (.builtin "object.__class__") = some true)
    (om_Cabinet : PySem.W.mroIn K c_Cabinet (.type "object") = some true)
    (ok_Cabinet : (["NoneType", "bool", "int", "str", "list", "tuple", "dict"].all fun T => PySem.W.kitOne K (.ref c_Cabinet) (.type T) == some false) = true)
    (mk_Cabinet : PySem.W.makesIn K c_Cabinet = true)
    (kc_Cabinet : PySem.W.keepIn K (.ref c_Cabinet) = true)
    {f9 : Addr} {od9 an9 : Option Addr} {sl9 : Array (Option Value)} {oc9 kV9 dc9 pm9 cd9 ct9 : Value} {p9 : Addr} {r9 : List Value} (m9 : PySem.W.findIn K (.ref c_Cabinet) "stock" = some (some (.ref p9))) (g9 : PySem.W.specialIn K (.ref p9) "__get__" = some (some (.builtin "property.__get__"))) (t9 : PySem.W.takesIn K (.ref p9) = some true) (q9 : PySem.W.recIn K p9 "property" = some (.ref f9 :: r9)) (l9 : K.lookup f9 = some ⟨oc9, od9, .func (PySem.W.fnOf "stock" "Cabinet.stock" (defArgs s_Cabinet__stock) (defBody s_Cabinet__stock) (defScope s_Cabinet__stock) .none kV9 dc9 pm9 an9 cd9 ct9), sl9⟩) (c9 : PySem.W.codeIn K cd9 "Cabinet.stock" = true) (k9 : PySem.W.keepIn K (.ref f9) = true)
    {f10 : Addr} {od10 an10 : Option Addr} {sl10 : Array (Option Value)} {oc10 kV10 dc10 pm10 cd10 ct10 : Value} {p10 : Addr} {r10 : List Value} (m10 : PySem.W.findIn K (.ref c_Cabinet) "collections" = some (some (.ref p10))) (g10 : PySem.W.specialIn K (.ref p10) "__get__" = some (some (.builtin "property.__get__"))) (t10 : PySem.W.takesIn K (.ref p10) = some true) (q10 : PySem.W.recIn K p10 "property" = some (.ref f10 :: r10)) (l10 : K.lookup f10 = some ⟨oc10, od10, .func (PySem.W.fnOf "collections" "Cabinet.collections" (defArgs s_Cabinet__collections) (defBody s_Cabinet__collections) (defScope s_Cabinet__collections) .none kV10 dc10 pm10 an10 cd10 ct10), sl10⟩) (c10 : PySem.W.codeIn K cd10 "Cabinet.collections" = true) (k10 : PySem.W.keepIn K (.ref f10) = true)
    {f11 : Addr} {od11 an11 : Option Addr} {sl11 : Array (Option Value)} {oc11 kV11 dc11 pm11 cd11 ct11 : Value} {p11 : Addr} {r11 : List Value} (m11 : PySem.W.findIn K (.ref c_Cabinet) "sure" = some (some (.ref p11))) (g11 : PySem.W.specialIn K (.ref p11) "__get__" = some (some (.builtin "property.__get__"))) (t11 : PySem.W.takesIn K (.ref p11) = some true) (q11 : PySem.W.recIn K p11 "property" = some (.ref f11 :: r11)) (l11 : K.lookup f11 = some ⟨oc11, od11, .func (PySem.W.fnOf "sure" "Cabinet.sure" (defArgs s_Cabinet__sure) (defBody s_Cabinet__sure) (defScope s_Cabinet__sure) .none kV11 dc11 pm11 an11 cd11 ct11), sl11⟩) (c11 : PySem.W.codeIn K cd11 "Cabinet.sure" = true) (k11 : PySem.W.keepIn K (.ref f11) = true)
    {f12 : Addr} {od12 an12 : Option Addr} {sl12 : Array (Option Value)} {oc12 kV12 dc12 pm12 cd12 ct12 : Value} (m12 : PySem.W.findIn K (.ref c_Cabinet) "accept" = some (some (.ref f12))) (t12 : PySem.W.isFn K (.ref f12) = true) (l12 : K.lookup f12 = some ⟨oc12, od12, .func (PySem.W.fnOf "accept" "Cabinet.accept" (defArgs s_Cabinet__accept) (defBody s_Cabinet__accept) (defScope s_Cabinet__accept) .none kV12 dc12 pm12 an12 cd12 ct12), sl12⟩) (c12 : PySem.W.codeIn K cd12 "Cabinet.accept" = true) (k12 : PySem.W.keepIn K (.ref f12) = true)
    {f13 : Addr} {od13 an13 : Option Addr} {sl13 : Array (Option Value)} {oc13 kV13 dc13 pm13 cd13 ct13 : Value} (m13 : PySem.W.findIn K (.ref c_Cabinet) "__len__" = some (some (.ref f13))) (t13 : PySem.W.isFn K (.ref f13) = true) (l13 : K.lookup f13 = some ⟨oc13, od13, .func (PySem.W.fnOf "__len__" "Cabinet.__len__" (defArgs s_Cabinet____len__) (defBody s_Cabinet____len__) (defScope s_Cabinet____len__) .none kV13 dc13 pm13 an13 cd13 ct13), sl13⟩) (c13 : PySem.W.codeIn K cd13 "Cabinet.__len__" = true) (k13 : PySem.W.keepIn K (.ref f13) = true)
    {f25 : Addr} {od25 an25 : Option Addr} {sl25 : Array (Option Value)} {oc25 kV25 dc25 pm25 cd25 ct25 : Value} (m25 : PySem.W.findIn K (.ref c_Cabinet) "require_idle" = some (some (.ref f25))) (t25 : PySem.W.isFn K (.ref f25) = true) (l25 : K.lookup f25 = some ⟨oc25, od25, .func (PySem.W.fnOf "require_idle" "Cabinet.require_idle" (defArgs s_Cabinet__require_idle) (defBody s_Cabinet__require_idle) (defScope s_Cabinet__require_idle) .none kV25 dc25 pm25 an25 cd25 ct25), sl25⟩) (c25 : PySem.W.codeIn K cd25 "Cabinet.require_idle" = true) (k25 : PySem.W.keepIn K (.ref f25) = true)
    {f30 : Addr} {od30 an30 : Option Addr} {sl30 : Array (Option Value)} {oc30 kV30 dc30 pm30 cd30 ct30 : Value} (m30 : PySem.W.findIn K (.ref c_Cabinet) "undo" = some (some (.ref f30))) (t30 : PySem.W.isFn K (.ref f30) = true) (l30 : K.lookup f30 = some ⟨oc30, od30, .func (PySem.W.fnOf "undo" "Cabinet.undo" (defArgs s_Cabinet__undo) (defBody s_Cabinet__undo) (defScope s_Cabinet__undo) .none kV30 dc30 pm30 an30 cd30 ct30), sl30⟩) (c30 : PySem.W.codeIn K cd30 "Cabinet.undo" = true) (k30 : PySem.W.keepIn K (.ref f30) = true)
    {f33 : Addr} {od33 an33 : Option Addr} {sl33 : Array (Option Value)} {oc33 kV33 dc33 pm33 cd33 ct33 : Value} (m33 : PySem.W.findIn K (.ref c_Cabinet) "__init__" = some (some (.ref f33))) (t33 : PySem.W.isFn K (.ref f33) = true) (l33 : K.lookup f33 = some ⟨oc33, od33, .func (PySem.W.fnOf "__init__" "Cabinet.__init__" (defArgs s_Cabinet____init__) (defBody s_Cabinet____init__) (defScope s_Cabinet____init__) .none kV33 dc33 pm33 an33 cd33 ct33), sl33⟩) (c33 : PySem.W.codeIn K cd33 "Cabinet.__init__" = true) (k33 : PySem.W.keepIn K (.ref f33) = true)
    {f34 : Addr} {od34 an34 : Option Addr} {sl34 : Array (Option Value)} {oc34 kV34 dc34 pm34 cd34 ct34 : Value} (m34 : PySem.W.findIn K (.ref c_Cabinet) "state_after" = some (some (.ref f34))) (t34 : PySem.W.isFn K (.ref f34) = true) (l34 : K.lookup f34 = some ⟨oc34, od34, .func (PySem.W.fnOf "state_after" "Cabinet.state_after" (defArgs s_Cabinet__state_after) (defBody s_Cabinet__state_after) (defScope s_Cabinet__state_after) .none kV34 dc34 pm34 an34 cd34 ct34), sl34⟩) (c34 : PySem.W.codeIn K cd34 "Cabinet.state_after" = true) (k34 : PySem.W.keepIn K (.ref f34) = true)
    {f35 : Addr} {od35 an35 : Option Addr} {sl35 : Array (Option Value)} {oc35 kV35 dc35 pm35 cd35 ct35 : Value} (m35 : PySem.W.findIn K (.ref c_Cabinet) "perform" = some (some (.ref f35))) (t35 : PySem.W.isFn K (.ref f35) = true) (l35 : K.lookup f35 = some ⟨oc35, od35, .func (PySem.W.fnOf "perform" "Cabinet.perform" (defArgs s_Cabinet__perform) (defBody s_Cabinet__perform) (defScope s_Cabinet__perform) .none kV35 dc35 pm35 an35 cd35 ct35), sl35⟩) (c35 : PySem.W.codeIn K cd35 "Cabinet.perform" = true) (k35 : PySem.W.keepIn K (.ref f35) = true)
    {f36 : Addr} {od36 an36 : Option Addr} {sl36 : Array (Option Value)} {oc36 kV36 dc36 pm36 cd36 ct36 : Value} (m36 : PySem.W.findIn K (.ref c_Cabinet) "put" = some (some (.ref f36))) (t36 : PySem.W.isFn K (.ref f36) = true) (l36 : K.lookup f36 = some ⟨oc36, od36, .func (PySem.W.fnOf "put" "Cabinet.put" (defArgs s_Cabinet__put) (defBody s_Cabinet__put) (defScope s_Cabinet__put) .none kV36 dc36 pm36 an36 cd36 ct36), sl36⟩) (c36 : PySem.W.codeIn K cd36 "Cabinet.put" = true) (k36 : PySem.W.keepIn K (.ref f36) = true)
    {f37 : Addr} {od37 an37 : Option Addr} {sl37 : Array (Option Value)} {oc37 kV37 dc37 pm37 cd37 ct37 : Value} (m37 : PySem.W.findIn K (.ref c_Cabinet) "remove" = some (some (.ref f37))) (t37 : PySem.W.isFn K (.ref f37) = true) (l37 : K.lookup f37 = some ⟨oc37, od37, .func (PySem.W.fnOf "remove" "Cabinet.remove" (defArgs s_Cabinet__remove) (defBody s_Cabinet__remove) (defScope s_Cabinet__remove) .none kV37 dc37 pm37 an37 cd37 ct37), sl37⟩) (c37 : PySem.W.codeIn K cd37 "Cabinet.remove" = true) (k37 : PySem.W.keepIn K (.ref f37) = true)
    {f38 : Addr} {od38 an38 : Option Addr} {sl38 : Array (Option Value)} {oc38 kV38 dc38 pm38 cd38 ct38 : Value} (m38 : PySem.W.findIn K (.ref c_Cabinet) "wish" = some (some (.ref f38))) (t38 : PySem.W.isFn K (.ref f38) = true) (l38 : K.lookup f38 = some ⟨oc38, od38, .func (PySem.W.fnOf "wish" "Cabinet.wish" (defArgs s_Cabinet__wish) (defBody s_Cabinet__wish) (defScope s_Cabinet__wish) .none kV38 dc38 pm38 an38 cd38 ct38), sl38⟩) (c38 : PySem.W.codeIn K cd38 "Cabinet.wish" = true) (k38 : PySem.W.keepIn K (.ref f38) = true)
    {f39 : Addr} {od39 an39 : Option Addr} {sl39 : Array (Option Value)} {oc39 kV39 dc39 pm39 cd39 ct39 : Value} (m39 : PySem.W.findIn K (.ref c_Cabinet) "perform_all" = some (some (.ref f39))) (t39 : PySem.W.isFn K (.ref f39) = true) (l39 : K.lookup f39 = some ⟨oc39, od39, .func (PySem.W.fnOf "perform_all" "Cabinet.perform_all" (defArgs s_Cabinet__perform_all) (defBody s_Cabinet__perform_all) (defScope s_Cabinet__perform_all) .none kV39 dc39 pm39 an39 cd39 ct39), sl39⟩) (c39 : PySem.W.codeIn K cd39 "Cabinet.perform_all" = true) (k39 : PySem.W.keepIn K (.ref f39) = true)
    {f40 : Addr} {od40 an40 : Option Addr} {sl40 : Array (Option Value)} {kd40 : Addr} {oc40 dc40 pm40 cd40 ct40 : Value} (m40 : PySem.W.findIn K (.ref c_Cabinet) "attempt" = some (some (.ref f40))) (t40 : PySem.W.isFn K (.ref f40) = true) (l40 : K.lookup f40 = some ⟨oc40, od40, .func (PySem.W.fnOf "attempt" "Cabinet.attempt" (defArgs s_Cabinet__attempt) (defBody s_Cabinet__attempt) (defScope s_Cabinet__attempt) .none (.ref kd40) dc40 pm40 an40 cd40 ct40), sl40⟩) (c40 : PySem.W.codeIn K cd40 "Cabinet.attempt" = true) (k40 : PySem.W.keepIn K (.ref f40) = true) (kn40 : PySem.W.nsIn K kd40 "watch" = some (some .none))
    (no_Cabinet_numbers : PySem.W.findIn K (.ref c_Cabinet) "numbers" = some none)
    (no_Cabinet_standing : PySem.W.findIn K (.ref c_Cabinet) "standing" = some none)
    (no_Cabinet_states : PySem.W.findIn K (.ref c_Cabinet) "states" = some none)
    (no_Cabinet_watching : PySem.W.findIn K (.ref c_Cabinet) "watching" = some none)
    : ∃ fd : FuncData, (∀ (s : Shared) (v : Value), BindsTo s fd ⟨[v], []⟩ [("_law_script", v)]) ∧ ∀ base : Heap, K.In base → base.Ns mainGlobals mg → SysAt base → FnG l.prog w K mg base 11 fa fd ["_law_script"] (spLaw K) := by
  have e := hfa.symm.trans (PySem.W.mg_of X G a43)
  cases e
  have F0 := fun_mk (st := s_is_number) l0 c0 k0
  have b0 := F0.binds (ps := ["value", "low", "high"]) fun _ _ _ _ _ _ us hl => match us, hl with | [_, _, _], _ => rfl
  have e0 := PySem.W.mg_of X G a0
  have F1 := fun_mk (st := s_totals_of) l1 c1 k1
  have b1 := F1.binds (ps := ["stock"]) fun _ _ _ _ _ _ us hl => match us, hl with | [_], _ => rfl
  have e1 := PySem.W.mg_of X G a1
  have F2 := fun_mk (st := s_contains) l2 c2 k2
  have b2 := F2.binds (ps := ["counts", "collection"]) fun _ _ _ _ _ _ us hl => match us, hl with | [_, _], _ => rfl
  have e2 := PySem.W.mg_of X G a2
  have F3 := fun_mk (st := s_spoilings_of) l3 c3 k3
  have b3 := F3.binds (ps := ["collections"]) fun _ _ _ _ _ _ us hl => match us, hl with | [_], _ => rfl
  have e3 := PySem.W.mg_of X G a3
  have F4 := fun_mk (st := s_caps_of) l4 c4 k4
  have b4 := F4.binds (ps := ["collections", "spoiling"]) fun _ _ _ _ _ _ us hl => match us, hl with | [_, _], _ => rfl
  have e4 := PySem.W.mg_of X G a4
  have F5 := fun_mk (st := s_room_in) l5 c5 k5
  have b5 := F5.binds (ps := ["stock", "caps", "drawers"]) fun _ _ _ _ _ _ us hl => match us, hl with | [_, _, _], _ => rfl
  have e5 := PySem.W.mg_of X G a5
  have F6 := fun_mk (st := s_is_within) l6 c6 k6
  have b6 := F6.binds (ps := ["value", "low", "high"]) fun _ _ _ _ _ _ us hl => match us, hl with | [_, _, _], _ => rfl
  have e6 := PySem.W.mg_of X G a6
  have F7 := fun_mk (st := s_is_edit) l7 c7 k7
  have b7 := F7.binds (ps := ["value"]) fun _ _ _ _ _ _ us hl => match us, hl with | [_], _ => rfl
  have e7 := PySem.W.mg_of X G a7
  have F8 := fun_mk (st := s_with_number) l8 c8 k8
  have b8 := F8.binds (ps := ["stock", "drawer", "kind", "number"]) fun _ _ _ _ _ _ us hl => match us, hl with | [_, _, _, _], _ => rfl
  have e8 := PySem.W.mg_of X G a8
  have F9 := fun_mk (st := s_Cabinet__stock) l9 c9 k9
  have b9 := F9.binds (ps := ["self"]) fun _ _ _ _ _ _ us hl => match us, hl with | [_], _ => rfl
  have F10 := fun_mk (st := s_Cabinet__collections) l10 c10 k10
  have b10 := F10.binds (ps := ["self"]) fun _ _ _ _ _ _ us hl => match us, hl with | [_], _ => rfl
  have F11 := fun_mk (st := s_Cabinet__sure) l11 c11 k11
  have b11 := F11.binds (ps := ["self"]) fun _ _ _ _ _ _ us hl => match us, hl with | [_], _ => rfl
  have F12 := fun_mk (st := s_Cabinet__accept) l12 c12 k12
  have b12 := F12.binds (ps := ["self", "number"]) fun _ _ _ _ _ _ us hl => match us, hl with | [_, _], _ => rfl
  have F13 := fun_mk (st := s_Cabinet____len__) l13 c13 k13
  have b13 := F13.binds (ps := ["self"]) fun _ _ _ _ _ _ us hl => match us, hl with | [_], _ => rfl
  have F14 := fun_mk (st := s__law_deck) l14 c14 k14
  have b14 := F14.binds (ps := ["_law_script"]) fun _ _ _ _ _ _ us hl => match us, hl with | [_], _ => rfl
  have e14 := PySem.W.mg_of X G a14
  have F15 := fun_mk (st := s__law_draw) l15 c15 k15
  have b15 := F15.binds (ps := ["_law_deck_here", "_law_many"]) fun _ _ _ _ _ _ us hl => match us, hl with | [_, _], _ => rfl
  have e15 := PySem.W.mg_of X G a15
  have F16 := fun_mk (st := s_are_numbers) l16 c16 k16
  have b16 := F16.binds (ps := ["value", "count", "high"]) fun _ _ _ _ _ _ us hl => match us, hl with | [_, _, _], _ => rfl
  have e16 := PySem.W.mg_of X G a16
  have F17 := fun_mk (st := s_fulfilled_by) l17 c17 k17
  have b17 := F17.binds (ps := ["collections", "counts"]) fun _ _ _ _ _ _ us hl => match us, hl with | [_, _], _ => rfl
  have e17 := PySem.W.mg_of X G a17
  have F18 := fun_mk (st := s__law_stock) l18 c18 k18
  have b18 := F18.binds (ps := ["_law_deck_here", "_law_drawers", "_law_most"]) fun _ _ _ _ _ _ us hl => match us, hl with | [_, _, _], _ => rfl
  have e18 := PySem.W.mg_of X G a18
  have F19 := fun_mk (st := s__law_collection) l19 c19 k19
  have b19 := F19.binds (ps := ["_law_deck_here", "_law_kinds", "_law_most"]) fun _ _ _ _ _ _ us hl => match us, hl with | [_, _, _], _ => rfl
  have e19 := PySem.W.mg_of X G a19
  have F20 := fun_mk (st := s_stock_error) l20 c20 k20
  have b20 := F20.binds (ps := ["value"]) fun _ _ _ _ _ _ us hl => match us, hl with | [_], _ => rfl
  have e20 := PySem.W.mg_of X G a20
  have F21 := fun_mk (st := s_is_collection) l21 c21 k21
  have b21 := F21.binds (ps := ["kinds", "value"]) fun _ _ _ _ _ _ us hl => match us, hl with | [_, _], _ => rfl
  have e21 := PySem.W.mg_of X G a21
  have F22 := fun_mk (st := s_sure_total) l22 c22 k22
  have b22 := F22.binds (ps := ["stock", "collections"]) fun _ _ _ _ _ _ us hl => match us, hl with | [_, _], _ => rfl
  have e22 := PySem.W.mg_of X G a22
  have F23 := fun_mk (st := s_require_things) l23 c23 k23
  have b23 := F23.binds (ps := ["stock", "drawer", "kind", "count"]) fun _ _ _ _ _ _ us hl => match us, hl with | [_, _, _, _], _ => rfl
  have e23 := PySem.W.mg_of X G a23
  have F24 := fun_mk (st := s_without_collection) l24 c24 k24
  have b24 := F24.binds (ps := ["collections", "index"]) fun _ _ _ _ _ _ us hl => match us, hl with | [_, _], _ => rfl
  have e24 := PySem.W.mg_of X G a24
  have F25 := fun_mk (st := s_Cabinet__require_idle) l25 c25 k25
  have b25 := F25.binds (ps := ["self"]) fun _ _ _ _ _ _ us hl => match us, hl with | [_], _ => rfl
  have F26 := fun_mk (st := s__law_wish) l26 c26 k26
  have b26 := F26.binds (ps := ["_law_deck_here", "_law_kinds", "_law_most"]) fun _ _ _ _ _ _ us hl => match us, hl with | [_, _, _], _ => rfl
  have e26 := PySem.W.mg_of X G a26
  have F27 := fun_mk (st := s_are_collections) l27 c27 k27
  have b27 := F27.binds (ps := ["kinds", "value"]) fun _ _ _ _ _ _ us hl => match us, hl with | [_, _], _ => rfl
  have e27 := PySem.W.mg_of X G a27
  have F28 := fun_mk (st := s_with_things) l28 c28 k28
  have b28 := F28.binds (ps := ["stock", "drawer", "kind", "count"]) fun _ _ _ _ _ _ us hl => match us, hl with | [_, _, _, _], _ => rfl
  have e28 := PySem.W.mg_of X G a28
  have F29 := fun_mk (st := s_without_things) l29 c29 k29
  have b29 := F29.binds (ps := ["stock", "drawer", "kind", "count"]) fun _ _ _ _ _ _ us hl => match us, hl with | [_, _, _, _], _ => rfl
  have e29 := PySem.W.mg_of X G a29
  have F30 := fun_mk (st := s_Cabinet__undo) l30 c30 k30
  have b30 := F30.binds (ps := ["self"]) fun _ _ _ _ _ _ us hl => match us, hl with | [_], _ => rfl
  have F31 := fun_mk (st := s__law_begun) l31 c31 k31
  have b31 := F31.binds (ps := ["_law_deck_here", "_law_most"]) fun _ _ _ _ _ _ us hl => match us, hl with | [_, _], _ => rfl
  have e31 := PySem.W.mg_of X G a31
  have F32 := fun_mk (st := s_with_collection) l32 c32 k32
  have b32 := F32.binds (ps := ["kinds", "collections", "collection"]) fun _ _ _ _ _ _ us hl => match us, hl with | [_, _, _], _ => rfl
  have e32 := PySem.W.mg_of X G a32
  have F33 := fun_mk (st := s_Cabinet____init__) l33 c33 k33
  have b33 := F33.binds (ps := ["self", "stock", "collections"]) fun _ _ _ _ _ _ us hl => match us, hl with | [_, _, _], _ => rfl
  have F34 := fun_mk (st := s_Cabinet__state_after) l34 c34 k34
  have b34 := F34.binds (ps := ["self", "edit"]) fun _ _ _ _ _ _ us hl => match us, hl with | [_, _], _ => rfl
  have F35 := fun_mk (st := s_Cabinet__perform) l35 c35 k35
  have b35 := F35.binds (ps := ["self", "edit"]) fun _ _ _ _ _ _ us hl => match us, hl with | [_, _], _ => rfl
  have F36 := fun_mk (st := s_Cabinet__put) l36 c36 k36
  have b36 := F36.binds (ps := ["self", "drawer", "kind", "count"]) fun _ _ _ _ _ _ us hl => match us, hl with | [_, _, _, _], _ => rfl
  have F37 := fun_mk (st := s_Cabinet__remove) l37 c37 k37
  have b37 := F37.binds (ps := ["self", "drawer", "kind", "count"]) fun _ _ _ _ _ _ us hl => match us, hl with | [_, _, _, _], _ => rfl
  have F38 := fun_mk (st := s_Cabinet__wish) l38 c38 k38
  have b38 := F38.binds (ps := ["self", "collection"]) fun _ _ _ _ _ _ us hl => match us, hl with | [_, _], _ => rfl
  have F39 := fun_mk (st := s_Cabinet__perform_all) l39 c39 k39
  have b39 := F39.binds (ps := ["self", "batch", "watch"]) fun _ _ _ _ _ _ us hl => match us, hl with | [_, _, _], _ => rfl
  have F40 := fun_mk (st := s_Cabinet__attempt) l40 c40 k40
  have F41 := fun_mk (st := s__law_wishes_right) l41 c41 k41
  have b41 := F41.binds (ps := ["_law_table", "_law_needs", "_law_harder"]) fun _ _ _ _ _ _ us hl => match us, hl with | [_, _, _], _ => rfl
  have e41 := PySem.W.mg_of X G a41
  have F42 := fun_mk (st := s__law_moved_right) l42 c42 k42
  have b42 := F42.binds (ps := ["_law_table", "_law_drawer", "_law_kind"]) fun _ _ _ _ _ _ us hl => match us, hl with | [_, _, _], _ => rfl
  have e42 := PySem.W.mg_of X G a42
  have F43 := fun_mk (st := s_law) l43 c43 k43
  have mb_abs := PySem.W.mg_none_of X G z0
  have mb_all := PySem.W.mg_none_of X G z1
  have mb_bool := PySem.W.mg_none_of X G z2
  have mb_enumerate := PySem.W.mg_none_of X G z3
  have mb_int := PySem.W.mg_none_of X G z4
  have mb_isinstance := PySem.W.mg_none_of X G z5
  have mb_len := PySem.W.mg_none_of X G z6
  have mb_list := PySem.W.mg_none_of X G z7
  have mb_max := PySem.W.mg_none_of X G z8
  have mb_min := PySem.W.mg_none_of X G z9
  have mb_range := PySem.W.mg_none_of X G z10
  have mb_str := PySem.W.mg_none_of X G z11
  have mb_sum := PySem.W.mg_none_of X G z12
  have mb_tuple := PySem.W.mg_none_of X G z13
  have mb_zip := PySem.W.mg_none_of X G z14
  have mc_BATCH := PySem.W.mg_of X G y0
  have mc_MAX_COLLECTIONS := PySem.W.mg_of X G y1
  have mc_MAX_COUNT := PySem.W.mg_of X G y2
  have mc_MAX_DRAWERS := PySem.W.mg_of X G y3
  have mc_MAX_EDITS := PySem.W.mg_of X G y4
  have mc_MAX_KINDS := PySem.W.mg_of X G y5
  have mC_BadCollection := PySem.W.mg_of X G aC_BadCollection
  have mC_BadCount := PySem.W.mg_of X G aC_BadCount
  have mC_BadEdit := PySem.W.mg_of X G aC_BadEdit
  have mC_BadEdits := PySem.W.mg_of X G aC_BadEdits
  have mC_BadStock := PySem.W.mg_of X G aC_BadStock
  have mC_BadWish := PySem.W.mg_of X G aC_BadWish
  have mC_Busy := PySem.W.mg_of X G aC_Busy
  have mC_Cabinet := PySem.W.mg_of X G aC_Cabinet
  have mC_LastCollection := PySem.W.mg_of X G aC_LastCollection
  have mC_NoCollection := PySem.W.mg_of X G aC_NoCollection
  have mC_NoDrawer := PySem.W.mg_of X G aC_NoDrawer
  have mC_NoKind := PySem.W.mg_of X G aC_NoKind
  have mC_NothingToUndo := PySem.W.mg_of X G aC_NothingToUndo
  have mC_SIZES := PySem.W.mg_of X G aC_SIZES
  have mC_TooFew := PySem.W.mg_of X G aC_TooFew
  have mC_TooManyCollections := PySem.W.mg_of X G aC_TooManyCollections
  have mC_TooManyEdits := PySem.W.mg_of X G aC_TooManyEdits
  have mC_TooMuch := PySem.W.mg_of X G aC_TooMuch
  have cl_Cabinet : ClsOk K "Cabinet" c_Cabinet := ⟨aC_Cabinet, ⟨pg_Cabinet, hd_Cabinet, po_Cabinet, sa_Cabinet⟩, oa_Cabinet, on_Cabinet, ot_Cabinet, om_Cabinet, ok_Cabinet⟩
  have hn_Cabinet_numbers : HasNo K "Cabinet" "numbers" := ⟨c_Cabinet, cl_Cabinet, no_Cabinet_numbers⟩
  have hn_Cabinet_standing : HasNo K "Cabinet" "standing" := ⟨c_Cabinet, cl_Cabinet, no_Cabinet_standing⟩
  have hn_Cabinet_states : HasNo K "Cabinet" "states" := ⟨c_Cabinet, cl_Cabinet, no_Cabinet_states⟩
  have hn_Cabinet_watching : HasNo K "Cabinet" "watching" := ⟨c_Cabinet, cl_Cabinet, no_Cabinet_watching⟩
  have tb_SIZES : TabK K w c_SIZES [("put", 3), ("remove", 3), ("wish", 1), ("drop", 1)] := TabK.of tw_SIZES
  have e0_BadEdits : Er0 K mg "BadEdits" c_BadEdits := ⟨mC_BadEdits, xq_BadEdits, xk_BadEdits, xs_BadEdits, xt_BadEdits⟩
  have e0_Busy : Er0 K mg "Busy" c_Busy := ⟨mC_Busy, xq_Busy, xk_Busy, xs_Busy, xt_Busy⟩
  have e0_LastCollection : Er0 K mg "LastCollection" c_LastCollection := ⟨mC_LastCollection, xq_LastCollection, xk_LastCollection, xs_LastCollection, xt_LastCollection⟩
  have e0_NothingToUndo : Er0 K mg "NothingToUndo" c_NothingToUndo := ⟨mC_NothingToUndo, xq_NothingToUndo, xk_NothingToUndo, xs_NothingToUndo, xt_NothingToUndo⟩
  have e0_TooManyCollections : Er0 K mg "TooManyCollections" c_TooManyCollections := ⟨mC_TooManyCollections, xq_TooManyCollections, xk_TooManyCollections, xs_TooManyCollections, xt_TooManyCollections⟩
  have e0_TooManyEdits : Er0 K mg "TooManyEdits" c_TooManyEdits := ⟨mC_TooManyEdits, xq_TooManyEdits, xk_TooManyEdits, xs_TooManyEdits, xt_TooManyEdits⟩
  have oe_BadCollection := oex_mk iO_BadCollection iA_BadCollection iB_BadCollection iY_BadCollection iE_BadCollection
  have Fi_BadCollection := fun_mk (st := i_BadCollection) iL_BadCollection iD_BadCollection iK_BadCollection
  have bi_BadCollection := Fi_BadCollection.binds (ps := ["self", "value"]) fun _ _ _ _ _ _ us hl => match us, hl with | [_, _], _ => rfl
  have oe_BadCount := oex_mk iO_BadCount iA_BadCount iB_BadCount iY_BadCount iE_BadCount
  have Fi_BadCount := fun_mk (st := i_BadCount) iL_BadCount iD_BadCount iK_BadCount
  have bi_BadCount := Fi_BadCount.binds (ps := ["self", "value"]) fun _ _ _ _ _ _ us hl => match us, hl with | [_, _], _ => rfl
  have oe_BadEdit := oex_mk iO_BadEdit iA_BadEdit iB_BadEdit iY_BadEdit iE_BadEdit
  have Fi_BadEdit := fun_mk (st := i_BadEdit) iL_BadEdit iD_BadEdit iK_BadEdit
  have bi_BadEdit := Fi_BadEdit.binds (ps := ["self", "index"]) fun _ _ _ _ _ _ us hl => match us, hl with | [_, _], _ => rfl
  have oe_BadStock := oex_mk iO_BadStock iA_BadStock iB_BadStock iY_BadStock iE_BadStock
  have Fi_BadStock := fun_mk (st := i_BadStock) iL_BadStock iD_BadStock iK_BadStock
  have bi_BadStock := Fi_BadStock.binds (ps := ["self", "error"]) fun _ _ _ _ _ _ us hl => match us, hl with | [_, _], _ => rfl
  have oe_BadWish := oex_mk iO_BadWish iA_BadWish iB_BadWish iY_BadWish iE_BadWish
  have Fi_BadWish := fun_mk (st := i_BadWish) iL_BadWish iD_BadWish iK_BadWish
  have bi_BadWish := Fi_BadWish.binds (ps := ["self", "value"]) fun _ _ _ _ _ _ us hl => match us, hl with | [_, _], _ => rfl
  have oe_NoCollection := oexL_mk iO_NoCollection iA_NoCollection iB_NoCollection iY_NoCollection iE_NoCollection
  have Fi_NoCollection := fun_mk (st := i_NoCollection) iL_NoCollection iD_NoCollection iK_NoCollection
  have bi_NoCollection := Fi_NoCollection.binds (ps := ["self", "value"]) fun _ _ _ _ _ _ us hl => match us, hl with | [_, _], _ => rfl
  have oe_NoDrawer := oexL_mk iO_NoDrawer iA_NoDrawer iB_NoDrawer iY_NoDrawer iE_NoDrawer
  have Fi_NoDrawer := fun_mk (st := i_NoDrawer) iL_NoDrawer iD_NoDrawer iK_NoDrawer
  have bi_NoDrawer := Fi_NoDrawer.binds (ps := ["self", "value"]) fun _ _ _ _ _ _ us hl => match us, hl with | [_, _], _ => rfl
  have oe_NoKind := oexL_mk iO_NoKind iA_NoKind iB_NoKind iY_NoKind iE_NoKind
  have Fi_NoKind := fun_mk (st := i_NoKind) iL_NoKind iD_NoKind iK_NoKind
  have bi_NoKind := Fi_NoKind.binds (ps := ["self", "value"]) fun _ _ _ _ _ _ us hl => match us, hl with | [_, _], _ => rfl
  have oe_TooFew := oex_mk iO_TooFew iA_TooFew iB_TooFew iY_TooFew iE_TooFew
  have Fi_TooFew := fun_mk (st := i_TooFew) iL_TooFew iD_TooFew iK_TooFew
  have bi_TooFew := Fi_TooFew.binds (ps := ["self", "kind"]) fun _ _ _ _ _ _ us hl => match us, hl with | [_, _], _ => rfl
  have oe_TooMuch := oex_mk iO_TooMuch iA_TooMuch iB_TooMuch iY_TooMuch iE_TooMuch
  have Fi_TooMuch := fun_mk (st := i_TooMuch) iL_TooMuch iD_TooMuch iK_TooMuch
  have bi_TooMuch := Fi_TooMuch.binds (ps := ["self", "total"]) fun _ _ _ _ _ _ us hl => match us, hl with | [_, _], _ => rfl
  refine ⟨PySem.W.fnOf "law" "law" (defArgs s_law) (defBody s_law) (defScope s_law) .none kV43 dc43 pm43 an43 cd43 ct43, fun s v => .of_eq rfl, fun base _ _ hy => ?_⟩
  have e1_BadCollection : Er1 l.prog w K mg base "BadCollection" "value" c_BadCollection := er1_mk mC_BadCollection oe_BadCollection iC_BadCollection iT_BadCollection (init_ok Fi_BadCollection sci_BadCollection rfl oe_BadCollection iN_BadCollection fun cdv A outer s H E => pss_one (ps_ost (pv 0) (pv 1))) bi_BadCollection
  have e1_BadCount : Er1 l.prog w K mg base "BadCount" "value" c_BadCount := er1_mk mC_BadCount oe_BadCount iC_BadCount iT_BadCount (init_ok Fi_BadCount sci_BadCount rfl oe_BadCount iN_BadCount fun cdv A outer s H E => pss_one (ps_ost (pv 0) (pv 1))) bi_BadCount
  have e1_BadEdit : Er1 l.prog w K mg base "BadEdit" "index" c_BadEdit := er1_mk mC_BadEdit oe_BadEdit iC_BadEdit iT_BadEdit (init_ok Fi_BadEdit sci_BadEdit rfl oe_BadEdit iN_BadEdit fun cdv A outer s H E => pss_one (ps_ost (pv 0) (pv 1))) bi_BadEdit
  have e1_BadStock : Er1 l.prog w K mg base "BadStock" "error" c_BadStock := er1_mk mC_BadStock oe_BadStock iC_BadStock iT_BadStock (init_ok Fi_BadStock sci_BadStock rfl oe_BadStock iN_BadStock fun cdv A outer s H E => pss_one (ps_ost (pv 0) (pv 1))) bi_BadStock
  have e1_BadWish : Er1 l.prog w K mg base "BadWish" "value" c_BadWish := er1_mk mC_BadWish oe_BadWish iC_BadWish iT_BadWish (init_ok Fi_BadWish sci_BadWish rfl oe_BadWish iN_BadWish fun cdv A outer s H E => pss_one (ps_ost (pv 0) (pv 1))) bi_BadWish
  have e1_NoCollection : Er1L l.prog w K mg base "NoCollection" "value" c_NoCollection := er1L_mk mC_NoCollection oe_NoCollection iC_NoCollection iT_NoCollection (init_lk Fi_NoCollection sci_NoCollection oe_NoCollection iN_NoCollection fun cdv A outer s H E => pss_one (ps_putL (pv 0) (pv 1))) bi_NoCollection
  have e1_NoDrawer : Er1L l.prog w K mg base "NoDrawer" "value" c_NoDrawer := er1L_mk mC_NoDrawer oe_NoDrawer iC_NoDrawer iT_NoDrawer (init_lk Fi_NoDrawer sci_NoDrawer oe_NoDrawer iN_NoDrawer fun cdv A outer s H E => pss_one (ps_putL (pv 0) (pv 1))) bi_NoDrawer
  have e1_NoKind : Er1L l.prog w K mg base "NoKind" "value" c_NoKind := er1L_mk mC_NoKind oe_NoKind iC_NoKind iT_NoKind (init_lk Fi_NoKind sci_NoKind oe_NoKind iN_NoKind fun cdv A outer s H E => pss_one (ps_putL (pv 0) (pv 1))) bi_NoKind
  have e1_TooFew : Er1 l.prog w K mg base "TooFew" "kind" c_TooFew := er1_mk mC_TooFew oe_TooFew iC_TooFew iT_TooFew (init_ok Fi_TooFew sci_TooFew rfl oe_TooFew iN_TooFew fun cdv A outer s H E => pss_one (ps_ost (pv 0) (pv 1))) bi_TooFew
  have e1_TooMuch : Er1 l.prog w K mg base "TooMuch" "total" c_TooMuch := er1_mk mC_TooMuch oe_TooMuch iC_TooMuch iT_TooMuch (init_ok Fi_TooMuch sci_TooMuch rfl oe_TooMuch iN_TooMuch fun cdv A outer s H E => pss_one (ps_ost (pv 0) (pv 1))) bi_TooMuch
  have d_is_number : Def l.prog w K mg base 1 "is_number" ["value", "low", "high"] (spJ K M_is_number) := ⟨f0, _, ok_is_number F0 hy mb_bool mb_int mb_isinstance, e0, k0, b0⟩
  have d_totals_of : Def l.prog w K mg base 1 "totals_of" ["stock"] (spJ K M_totals_of) := ⟨f1, _, ok_totals_of F1 hy mb_sum mb_tuple mb_zip, e1, k1, b1⟩
  have d_contains : Def l.prog w K mg base 1 "contains" ["counts", "collection"] (spJ K M_contains) := ⟨f2, _, ok_contains F2 hy mb_all mb_zip, e2, k2, b2⟩
  have d_spoilings_of : Def l.prog w K mg base 1 "spoilings_of" ["collections"] (spJ K M_spoilings_of) := ⟨f3, _, ok_spoilings_of F3 hy mb_enumerate mb_tuple, e3, k3, b3⟩
  have d_caps_of : Def l.prog w K mg base 1 "caps_of" ["collections", "spoiling"] (spJ K M_caps_of) := ⟨f4, _, ok_caps_of F4 hy mb_len mb_min mb_tuple mb_zip, e4, k4, b4⟩
  have d_room_in : Def l.prog w K mg base 1 "room_in" ["stock", "caps", "drawers"] (spJ K M_room_in) := ⟨f5, _, ok_room_in F5 hy mb_enumerate mb_min mb_sum, e5, k5, b5⟩
  have d_is_within : Def l.prog w K mg base 1 "is_within" ["value", "low", "high"] (spJ K M_is_within) := ⟨f6, _, ok_is_within F6 hy mb_bool mb_int mb_isinstance, e6, k6, b6⟩
  have d_is_edit : Def l.prog w K mg base 1 "is_edit" ["value"] (spJ K M_is_edit) := ⟨f7, _, ok_is_edit F7 hy mC_SIZES tb_SIZES mb_isinstance mb_len mb_str mb_tuple, e7, k7, b7⟩
  have d_with_number : Def l.prog w K mg base 1 "with_number" ["stock", "drawer", "kind", "number"] (spJ K M_with_number) := ⟨f8, _, ok_with_number F8 hy, e8, k8, b8⟩
  have dp_Cabinet__stock : PrpG l.prog w K mg base 1 "Cabinet" "stock" ["self"] (spJ K M_Cabinet__stock) := ⟨c_Cabinet, p9, f9, _, cl_Cabinet, ⟨m9, g9, t9, ⟨r9, q9⟩⟩, ok_Cabinet__stock F9 hy hn_Cabinet_states, b9⟩
  have dp_Cabinet__collections : PrpG l.prog w K mg base 1 "Cabinet" "collections" ["self"] (spJ K M_Cabinet__collections) := ⟨c_Cabinet, p10, f10, _, cl_Cabinet, ⟨m10, g10, t10, ⟨r10, q10⟩⟩, ok_Cabinet__collections F10 hy hn_Cabinet_states, b10⟩
  have dp_Cabinet__sure : PrpG l.prog w K mg base 1 "Cabinet" "sure" ["self"] (spJ K M_Cabinet__sure) := ⟨c_Cabinet, p11, f11, _, cl_Cabinet, ⟨m11, g11, t11, ⟨r11, q11⟩⟩, ok_Cabinet__sure F11 hy hn_Cabinet_numbers, b11⟩
  have d_Cabinet__accept : MthG l.prog w K mg base 1 "Cabinet" "accept" ["self", "number"] (spJ K M_Cabinet__accept) := ⟨c_Cabinet, f12, _, cl_Cabinet, ⟨m12, t12, k12⟩, ok_Cabinet__accept F12 hy, b12⟩
  have d_Cabinet____len__ : MthG l.prog w K mg base 1 "Cabinet" "__len__" ["self"] (spJ K M_Cabinet____len__) := ⟨c_Cabinet, f13, _, cl_Cabinet, ⟨m13, t13, k13⟩, ok_Cabinet____len__ F13 hy hn_Cabinet_standing mb_len, b13⟩
  have d__law_deck : Def l.prog w K mg base 1 "_law_deck" ["_law_script"] (spDeck K) := ⟨f14, _, ok__law_deck F14 mb_abs, e14, k14, b14⟩
  have d__law_draw : Def l.prog w K mg base 1 "_law_draw" ["_law_deck_here", "_law_many"] (spJ K drawW) := ⟨f15, _, drawn (ok__law_draw F15 mb_len), e15, k15, b15⟩
  have d_are_numbers : Def l.prog w K mg base 2 "are_numbers" ["value", "count", "high"] (spJ K M_are_numbers) := ⟨f16, _, ok_are_numbers F16 hy d_is_number mb_all mb_isinstance mb_len mb_tuple, e16, k16, b16⟩
  have d_fulfilled_by : Def l.prog w K mg base 2 "fulfilled_by" ["collections", "counts"] (spJ K M_fulfilled_by) := ⟨f17, _, ok_fulfilled_by F17 hy d_contains mb_enumerate, e17, k17, b17⟩
  have d__law_stock : Def l.prog w K mg base 2 "_law_stock" ["_law_deck_here", "_law_drawers", "_law_most"] (spJ K M__law_stock) := ⟨f18, _, ok__law_stock F18 hy d__law_draw mb_min mb_range mb_tuple, e18, k18, b18⟩
  have d__law_collection : Def l.prog w K mg base 2 "_law_collection" ["_law_deck_here", "_law_kinds", "_law_most"] (spJ K M__law_collection) := ⟨f19, _, ok__law_collection F19 hy d__law_draw mb_max mb_range mb_tuple, e19, k19, b19⟩
  have d_stock_error : Def l.prog w K mg base 3 "stock_error" ["value"] (spJ K M_stock_error) := ⟨f20, _, ok_stock_error F20 hy d_are_numbers mb_enumerate mb_isinstance mb_len mb_tuple mc_MAX_COUNT mc_MAX_DRAWERS mc_MAX_KINDS, e20, k20, b20⟩
  have d_is_collection : Def l.prog w K mg base 3 "is_collection" ["kinds", "value"] (spJ K M_is_collection) := ⟨f21, _, ok_is_collection F21 hy d_are_numbers mb_max mc_MAX_COUNT, e21, k21, b21⟩
  have d_sure_total : Def l.prog w K mg base 3 "sure_total" ["stock", "collections"] (spJ K M_sure_total) := ⟨f22, _, ok_sure_total F22 hy d_caps_of d_fulfilled_by d_room_in d_spoilings_of d_totals_of mb_len mb_list mb_max mb_range mb_tuple, e22, k22, b22⟩
  have dx_require_things : DefX l.prog w K mg base 3 "require_things" ["stock", "drawer", "kind", "count"] (spX K mg MX_require_things) := ⟨f23, _, okx_require_things F23 hy e1_BadCount e1_NoDrawer e1_NoKind d_is_within mb_len mc_MAX_COUNT, e23, k23, b23⟩
  have dx_without_collection : DefX l.prog w K mg base 3 "without_collection" ["collections", "index"] (spX K mg MX_without_collection) := ⟨f24, _, okx_without_collection F24 hy e0_LastCollection e1_NoCollection d_is_within mb_len, e24, k24, b24⟩
  have dx_Cabinet__require_idle : MthX l.prog w K mg base 3 "Cabinet" "require_idle" ["self"] (spX K mg MX_Cabinet__require_idle) := ⟨c_Cabinet, f25, _, cl_Cabinet, ⟨m25, t25, k25⟩, okx_Cabinet__require_idle F25 hy e0_Busy hn_Cabinet_watching, b25⟩
  have d__law_wish : Def l.prog w K mg base 3 "_law_wish" ["_law_deck_here", "_law_kinds", "_law_most"] (spJ K M__law_wish) := ⟨f26, _, ok__law_wish F26 hy d__law_collection d__law_draw mb_range mb_tuple, e26, k26, b26⟩
  have d_are_collections : Def l.prog w K mg base 4 "are_collections" ["kinds", "value"] (spJ K M_are_collections) := ⟨f27, _, ok_are_collections F27 hy d_is_collection mb_all mb_isinstance mb_len mb_tuple mc_MAX_COLLECTIONS, e27, k27, b27⟩
  have dx_with_things : DefX l.prog w K mg base 4 "with_things" ["stock", "drawer", "kind", "count"] (spX K mg MX_with_things) := ⟨f28, _, okx_with_things F28 hy e1_TooMuch d_with_number dx_require_things mc_MAX_COUNT, e28, k28, b28⟩
  have dx_without_things : DefX l.prog w K mg base 4 "without_things" ["stock", "drawer", "kind", "count"] (spX K mg MX_without_things) := ⟨f29, _, okx_without_things F29 hy e1_TooFew d_with_number dx_require_things, e29, k29, b29⟩
  have dx_Cabinet__undo : MthX l.prog w K mg base 4 "Cabinet" "undo" ["self"] (spX K mg MX_Cabinet__undo) := ⟨c_Cabinet, f30, _, cl_Cabinet, ⟨m30, t30, k30⟩, okx_Cabinet__undo F30 hy e0_NothingToUndo hn_Cabinet_numbers hn_Cabinet_standing hn_Cabinet_states dx_Cabinet__require_idle mb_len, b30⟩
  have d__law_begun : Def l.prog w K mg base 4 "_law_begun" ["_law_deck_here", "_law_most"] (spJ K M__law_begun) := ⟨f31, _, ok__law_begun F31 hy d__law_stock d__law_wish mb_len, e31, k31, b31⟩
  have dx_with_collection : DefX l.prog w K mg base 5 "with_collection" ["kinds", "collections", "collection"] (spX K mg MX_with_collection) := ⟨f32, _, okx_with_collection F32 hy e0_TooManyCollections e1_BadCollection d_are_collections mb_len mc_MAX_COLLECTIONS, e32, k32, b32⟩
  have dx_Cabinet____init__ : MkX l.prog w K mg base 5 "Cabinet" ["self", "stock", "collections"] (spX K mg MX_Cabinet____init__) := ⟨c_Cabinet, f33, _, cl_Cabinet, mC_Cabinet, ⟨mk_Cabinet, m33, t33, kc_Cabinet⟩, okx_Cabinet____init__ F33 hy e1_BadStock e1_BadWish hn_Cabinet_numbers hn_Cabinet_standing hn_Cabinet_states hn_Cabinet_watching d_are_collections d_stock_error d_sure_total mb_len, b33⟩
  have dx_Cabinet__state_after : MthX l.prog w K mg base 6 "Cabinet" "state_after" ["self", "edit"] (spX K mg MX_Cabinet__state_after) := ⟨c_Cabinet, f34, _, cl_Cabinet, ⟨m34, t34, k34⟩, okx_Cabinet__state_after F34 hy hn_Cabinet_states dx_with_collection dx_with_things dx_without_collection dx_without_things mb_len, b34⟩
  have dx_Cabinet__perform : MthX l.prog w K mg base 7 "Cabinet" "perform" ["self", "edit"] (spX K mg MX_Cabinet__perform) := ⟨c_Cabinet, f35, _, cl_Cabinet, ⟨m35, t35, k35⟩, okx_Cabinet__perform F35 hy e0_TooManyEdits hn_Cabinet_numbers hn_Cabinet_standing hn_Cabinet_states d_Cabinet__accept d_sure_total dx_Cabinet__state_after mb_len mc_MAX_EDITS, b35⟩
  have dx_Cabinet__put : MthX l.prog w K mg base 8 "Cabinet" "put" ["self", "drawer", "kind", "count"] (spX K mg MX_Cabinet__put) := ⟨c_Cabinet, f36, _, cl_Cabinet, ⟨m36, t36, k36⟩, okx_Cabinet__put F36 hy dx_Cabinet__perform dx_Cabinet__require_idle, b36⟩
  have dx_Cabinet__remove : MthX l.prog w K mg base 8 "Cabinet" "remove" ["self", "drawer", "kind", "count"] (spX K mg MX_Cabinet__remove) := ⟨c_Cabinet, f37, _, cl_Cabinet, ⟨m37, t37, k37⟩, okx_Cabinet__remove F37 hy dx_Cabinet__perform dx_Cabinet__require_idle, b37⟩
  have dx_Cabinet__wish : MthX l.prog w K mg base 8 "Cabinet" "wish" ["self", "collection"] (spX K mg MX_Cabinet__wish) := ⟨c_Cabinet, f38, _, cl_Cabinet, ⟨m38, t38, k38⟩, okx_Cabinet__wish F38 hy dx_Cabinet__perform dx_Cabinet__require_idle, b38⟩
  have d_Cabinet__perform_all : MthG l.prog w K mg base 8 "Cabinet" "perform_all" ["self", "batch", "watch"] (spJ K M_Cabinet__perform_all) := ⟨c_Cabinet, f39, _, cl_Cabinet, ⟨m39, t39, k39⟩, ok_Cabinet__perform_all F39 hy dx_Cabinet__perform mb_enumerate mb_len, b39⟩
  obtain ⟨ws40, rv40, bk40⟩ := (kwF l40 c40 k40 kn40).binds0 (ps := ["self", "edits", "watch"]) 2 (by simp) rfl fun _ _ _ _ _ _ us ks hl hk => match us, ks, hl, hk with | [_, _], [_], _, _ => ⟨_, _, _, _, _, _, rfl, rfl, rfl⟩
  have dkx_Cabinet__attempt : MthXD l.prog w K mg base 9 "Cabinet" ["self", "edits", "watch"] "attempt" 1 [.none] (spX K mg MX_Cabinet__attempt) := ⟨c_Cabinet, f40, _, _, ws40, cl_Cabinet, ⟨m40, t40, k40⟩, okx_Cabinet__attempt F40 hy e0_BadEdits e1_BadEdit hn_Cabinet_numbers hn_Cabinet_standing hn_Cabinet_states d_Cabinet__perform_all d_is_edit dx_Cabinet__require_idle mb_enumerate mb_isinstance mb_len mb_list mb_tuple mc_BATCH, bk40, rv40, fun G => .cons .non .nil⟩
  have dx__law_wishes_right : DefX l.prog w K mg base 9 "_law_wishes_right" ["_law_table", "_law_needs", "_law_harder"] (spX K mg MX__law_wishes_right) := ⟨f41, _, okx__law_wishes_right F41 hy d_Cabinet____len__ dp_Cabinet__collections dp_Cabinet__sure dx_Cabinet__undo dx_Cabinet__wish mb_len, e41, k41, b41⟩
  have dx__law_moved_right : DefX l.prog w K mg base 10 "_law_moved_right" ["_law_table", "_law_drawer", "_law_kind"] (spX K mg MX__law_moved_right) := ⟨f42, _, okx__law_moved_right F42 hy d_Cabinet____len__ dkx_Cabinet__attempt dp_Cabinet__stock dp_Cabinet__sure dx_Cabinet__undo mb_len, e42, k42, b42⟩
  exact ok_law F43 hy d__law_begun d__law_collection d__law_draw dp_Cabinet__sure dx_Cabinet____init__ dx_Cabinet__put dx_Cabinet__remove dx_Cabinet__undo dx_Cabinet__wish dx__law_moved_right dx__law_wishes_right mb_len mb_min mb_range mb_tuple d__law_deck hM
end DD
set_option maxHeartbeats 1000000
namespace DD
open PySem PySem.Spec PyProof.Rows L2
/-- counts contain a row -/
def cont (c r : List Int) : Bool := (c.zip r).all fun p => decide (p.2 ≤ p.1)
def fulf (rows : List (List Int)) (c : List Int) : Option Nat := firstN (cont c) rows
theorem cont_iff {c r : List Int} (h : c.length = r.length) : cont c r = true ↔ ∀ j, j < r.length → r.getD j 0 ≤ c.getD j 0 := by
  unfold cont
  rw [List.all_eq_true]
  constructor
  · intro hp j hj
    have := hp (c.getD j 0, r.getD j 0) (List.mem_iff_getElem.mpr ⟨j, by simp; omega, by simp [List.getD, hj, h]⟩)
    simpa using this
  · intro hp p hp2
    obtain ⟨j, hj, rfl⟩ := List.mem_iff_getElem.mp hp2
    have hj1 : j < r.length := by simp at hj; omega
    have := hp j hj1
    simpa [List.getD, hj1, h] using this
/-- the cap of kind j: the least number needed of it, less 1 -/
def capO (ps : List (List Int × Nat)) (j : Nat) : Option Int := ((ps.filter fun p => p.2 == j).map fun p => p.1.getD j 0 - 1).min?
theorem capO_snoc (ps : List (List Int × Nat)) (p : List Int × Nat) (j : Nat) : capO (ps ++ [p]) j = if p.2 = j then some (match capO ps j with | none => p.1.getD j 0 - 1 | some v => min v (p.1.getD j 0 - 1)) else capO ps j := by
  unfold capO
  by_cases h : p.2 = j
  · rw [if_pos h, List.filter_append, List.map_append]
    have : ([p].filter fun p => p.2 == j) = [p] := by simp [h]
    rw [this, List.map_cons, List.map_nil, min_snoc] <;> rfl
  · rw [if_neg h, List.filter_append]
    have : ([p].filter fun p => p.2 == j) = [] := by simp [h]
    rw [this, List.append_nil]
abbrev capsL (ps : List (List Int × Nat)) (k : Nat) : List D := (List.range k).map fun j => oD (capO ps j)
theorem caps_eq {k : Nat} {rows : List (List Int)} {named : List Nat} (h1 : 1 ≤ rows.length) (hl : ∀ r ∈ rows, r.length = k) (hk : k ≤ 1000) (hn : named.length = rows.length) (hin : ∀ x ∈ named, x < k) : m_caps_of (tT rows) (tN named) = some (.tuple (capsL (rows.zip named) k)) := by
  unfold m_caps_of
  have e0 : getD (tT rows) (.int 0) = some (tI rows[0]) := get_tup (F := tI) (i := 0) h1
  have ek : rows[0].length = k := hl _ (List.getElem_mem _)
  have er : repO [PyData.none] (.int (k : Nat)) = some (capsL [] k) := by
    rw [rep_ok (by omega) (by omega) (by simp)]
    congr 1
    refine List.ext_getElem (by simp) fun i h1 h2 => ?_
    simp [capO, oD]
  simp only [op2, op1, cmp2, chain3, tst, notB, andB, orB, andD, orD, iteM, consM, starM, smallM, tupM, tupSM, lstM, argV, argK, comp1, comp1i, comp2, comp2i, comp11, seqM, rng1, rng2, zipSM, zip2M, zip3M, enumM, repM, joinM, catM, par3LM, put2M, popM, parLV, putVM, unpS, trg1M, sortSetM, orV, lrg1M, par3M, rdM, rdLM, partM, slcM, isiM, rtM, forM1, forM2, forM3, parM, unp2, unp3, unp2A, unp3A, unp4A, ob_pure, ob_some, ob_lift, Option.pure_def, add_int, sub_int, lt_int, le_int, gt_int, ge_int, eq_int, ne_int, min_int, max_int, neg_int, bool_bool, not_bool, is_none, isn_none, nn_int, nn_none, nn_tup, len_tup, len_lst, tup_lst, tup_tup, it_lst, it_tup, int_bool, int_int, oint_int, addI_int, subI_int, flat_tI, flat_int, flat_none, Option.bind_some, Option.map_some, Int.zero_add, thenB, thenM, List.nil_append, List.length_map, e0, ek, listOnly, er, zip_map (Nat.le_of_eq hn.symm)]
  rw [loop_pre (m := Option) (γ := List Int × Nat) (fun ps => capsL ps k) (rows.zip named) fun p x q e => ?_]
  · rfl
  · have hx := List.of_mem_zip (show (x.1, x.2) ∈ rows.zip named by rw [e]; simp)
    have hx1 : x.1.length = k := hl _ hx.1
    have hx2 : x.2 < k := hin _ hx.2
    have hg : getD (.list (capsL p k)) (.int (x.2 : Nat)) = some (oD (capO p x.2)) := by
      have := get_lst (F := fun j => oD (capO p j)) (xs := List.range k) (i := x.2) (by simpa using hx2)
      rw [this]
      simp
    simp only [pairM]
    rw [at_int (by omega)]
    simp only [op2, op1, cmp2, chain3, tst, notB, andB, orB, andD, orD, iteM, consM, starM, smallM, tupM, tupSM, lstM, argV, argK, comp1, comp1i, comp2, comp2i, comp11, seqM, rng1, rng2, zipSM, zip2M, zip3M, enumM, repM, joinM, catM, par3LM, put2M, popM, parLV, putVM, unpS, trg1M, sortSetM, orV, lrg1M, par3M, rdM, rdLM, partM, slcM, isiM, rtM, forM1, forM2, forM3, parM, unp2, unp3, unp2A, unp3A, unp4A, ob_pure, ob_some, ob_lift, Option.pure_def, add_int, sub_int, lt_int, le_int, gt_int, ge_int, eq_int, ne_int, min_int, max_int, neg_int, bool_bool, not_bool, is_none, isn_none, nn_int, nn_none, nn_tup, len_tup, len_lst, tup_lst, tup_tup, it_lst, it_tup, int_bool, int_int, oint_int, addI_int, subI_int, flat_tI, flat_int, flat_none, Option.bind_some, Option.map_some, Int.zero_add, thenB, thenM, List.nil_append, List.length_map, hg]
    have hset : ∀ v : Int, capO (p ++ [x]) x.2 = some v → (putD (capsL p k) (.int (x.2 : Nat)) (.int v)) = some (capsL (p ++ [x]) k) := by
      intro v hv
      rw [put_at (by simpa using hx2)]
      congr 1
      refine List.ext_getElem (by simp) fun i h1 h2 => ?_
      have hi : i < k := by simpa using h2
      rw [List.getElem_set]
      by_cases z : x.2 = i
      · subst z
        simp [hv, oD]
      · simp [z, capO_snoc]
    cases hc : capO p x.2 with
    | none =>
      simp only [oD, nn_none, if_true, op2, op1, cmp2, chain3, tst, notB, andB, orB, andD, orD, iteM, consM, starM, smallM, tupM, tupSM, lstM, argV, argK, comp1, comp1i, comp2, comp2i, comp11, seqM, rng1, rng2, zipSM, zip2M, zip3M, enumM, repM, joinM, catM, par3LM, put2M, popM, parLV, putVM, unpS, trg1M, sortSetM, orV, lrg1M, par3M, rdM, rdLM, partM, slcM, isiM, rtM, forM1, forM2, forM3, parM, unp2, unp3, unp2A, unp3A, unp4A, ob_pure, ob_some, ob_lift, Option.pure_def, add_int, sub_int, lt_int, le_int, gt_int, ge_int, eq_int, ne_int, min_int, max_int, neg_int, bool_bool, not_bool, is_none, isn_none, nn_int, nn_none, nn_tup, len_tup, len_lst, tup_lst, tup_tup, it_lst, it_tup, int_bool, int_int, oint_int, addI_int, subI_int, flat_tI, flat_int, flat_none, Option.bind_some, Option.map_some, Int.zero_add, thenB, thenM, List.nil_append, List.length_map]
      rw [hset _ (by rw [capO_snoc, if_pos rfl, hc])]
      rfl
    | some v =>
      simp only [oD, nn_int, Bool.false_eq_true, if_false, op2, op1, cmp2, chain3, tst, notB, andB, orB, andD, orD, iteM, consM, starM, smallM, tupM, tupSM, lstM, argV, argK, comp1, comp1i, comp2, comp2i, comp11, seqM, rng1, rng2, zipSM, zip2M, zip3M, enumM, repM, joinM, catM, par3LM, put2M, popM, parLV, putVM, unpS, trg1M, sortSetM, orV, lrg1M, par3M, rdM, rdLM, partM, slcM, isiM, rtM, forM1, forM2, forM3, parM, unp2, unp3, unp2A, unp3A, unp4A, ob_pure, ob_some, ob_lift, Option.pure_def, add_int, sub_int, lt_int, le_int, gt_int, ge_int, eq_int, ne_int, min_int, max_int, neg_int, bool_bool, not_bool, is_none, isn_none, nn_int, nn_none, nn_tup, len_tup, len_lst, tup_lst, tup_tup, it_lst, it_tup, int_bool, int_int, oint_int, addI_int, subI_int, flat_tI, flat_int, flat_none, Option.bind_some, Option.map_some, Int.zero_add, thenB, thenM, List.nil_append, List.length_map]
      rw [hset _ (by rw [capO_snoc, if_pos rfl, hc])]
      rfl
/-- the caps, typed -/
def capsO (ps : List (List Int × Nat)) (k : Nat) : List (Option Int) := (List.range k).map (capO ps)
theorem caps_eqO {k : Nat} {rows : List (List Int)} {named : List Nat} (h1 : 1 ≤ rows.length) (hl : ∀ r ∈ rows, r.length = k) (hk : k ≤ 1000) (hn : named.length = rows.length) (hin : ∀ x ∈ named, x < k) : m_caps_of (tT rows) (tN named) = some (tO (capsO (rows.zip named) k)) := by
  rw [caps_eq h1 hl hk hn hin]
  show _ = some (PyData.tuple (((List.range k).map (capO (rows.zip named))).map oD))
  rw [List.map_map]
  rfl
/-- the kinds of which a row needs some -/
def ableN (r : List Int) : List Nat := (r.zipIdx.filter fun p => decide (0 < p.1)).map (·.2)
theorem mem_ableN {r : List Int} {j : Nat} : j ∈ ableN r ↔ j < r.length ∧ 0 < r.getD j 0 := by
  unfold ableN
  simp only [List.mem_map, List.mem_filter, decide_eq_true_eq, Prod.exists]
  constructor
  · rintro ⟨x, n, ⟨h1, h2⟩, rfl⟩
    have := List.mem_zipIdx h1
    refine ⟨by omega, ?_⟩
    have e : x = r[n]'(by omega) := by have := this.2.2; simpa using this
    rw [List.getD_eq_getElem?_getD, List.getElem?_eq_getElem (by omega)]
    simpa [e] using h2
  · rintro ⟨h1, h2⟩
    refine ⟨r[j], j, ⟨?_, ?_⟩, rfl⟩
    · rw [List.mem_iff_getElem]
      exact ⟨j, by simpa using h1, by simp⟩
    · rw [List.getD_eq_getElem?_getD, List.getElem?_eq_getElem h1] at h2
      simpa using h2
theorem ableN_len {r : List Int} : (ableN r).length ≤ r.length := by
  unfold ableN
  rw [List.length_map]
  have := List.length_filter_le (fun p : Int × Nat => decide (0 < p.1)) r.zipIdx
  rw [List.length_zipIdx] at this
  exact this
def spStep (acc : List (List Nat)) (r : List Int) : List (List Nat) := acc.flatMap fun b => (ableN r).map fun k => b ++ [k]
def spoilF (acc : List (List Nat)) (rows : List (List Int)) : List (List Nat) := rows.foldl spStep acc
abbrev spoil (rows : List (List Int)) : List (List Nat) := spoilF [[]] rows
theorem spStep_len {acc : List (List Nat)} {r : List Int} (h : r.length ≤ 4) : (spStep acc r).length ≤ acc.length * 4 := by
  unfold spStep
  induction acc with
  | nil => simp
  | cons b acc ih =>
    rw [List.flatMap_cons, List.length_append, List.length_map, List.length_cons, Nat.succ_mul]
    have := ableN_len (r := r)
    omega
theorem spoilF_len : ∀ (rows : List (List Int)) (acc : List (List Nat)), (∀ r ∈ rows, r.length ≤ 4) → (spoilF acc rows).length ≤ acc.length * 4 ^ rows.length
  | [], acc, _ => by simp [spoilF]
  | r :: rows, acc, h => by
    have h1 := spoilF_len rows (spStep acc r) fun x hx => h x (List.mem_cons_of_mem _ hx)
    have h2 := spStep_len (acc := acc) (h r List.mem_cons_self)
    show (spoilF (spStep acc r) rows).length ≤ _
    rw [List.length_cons, Nat.pow_succ]
    have h3 := Nat.mul_le_mul_right (4 ^ rows.length) h2
    rw [Nat.mul_assoc, Nat.mul_comm 4] at h3
    omega
theorem mem_spoilF : ∀ (rows : List (List Int)) (acc : List (List Nat)) (s : List Nat), s ∈ spoilF acc rows ↔ ∃ b ∈ acc, ∃ t : List Nat, s = b ++ t ∧ t.length = rows.length ∧ ∀ p ∈ rows.zip t, p.2 ∈ ableN p.1
  | [], acc, s => by
    show s ∈ acc ↔ _
    constructor
    · intro h
      exact ⟨s, h, [], by simp, rfl, by simp⟩
    · rintro ⟨b, hb, t, rfl, ht, _⟩
      obtain rfl : t = [] := List.eq_nil_of_length_eq_zero (by simpa using ht)
      rw [List.append_nil]
      exact hb
  | r :: rows, acc, s => by
    show s ∈ spoilF (spStep acc r) rows ↔ _
    rw [mem_spoilF rows (spStep acc r) s]
    constructor
    · rintro ⟨b, hb, t, rfl, ht, hp⟩
      obtain ⟨b', hb', hbb⟩ := List.mem_flatMap.mp hb
      obtain ⟨k, hk, rfl⟩ := List.mem_map.mp hbb
      refine ⟨b', hb', k :: t, by simp, by simp [ht], fun p hpm => ?_⟩
      rw [List.zip_cons_cons, List.mem_cons] at hpm
      rcases hpm with rfl | hpm
      · exact hk
      · exact hp p hpm
    · rintro ⟨b, hb, t, rfl, ht, hp⟩
      cases t with
      | nil => simp at ht
      | cons k t =>
        refine ⟨b ++ [k], List.mem_flatMap.mpr ⟨b, hb, List.mem_map.mpr ⟨k, hp (r, k) (by simp), rfl⟩⟩, t, by simp, by simpa using ht, fun p hpm => hp p (by rw [List.zip_cons_cons]; exact List.mem_cons_of_mem _ hpm)⟩
theorem mem_spoil {rows : List (List Int)} {s : List Nat} : s ∈ spoil rows ↔ s.length = rows.length ∧ ∀ p ∈ rows.zip s, p.2 ∈ ableN p.1 := by
  rw [mem_spoilF]
  constructor
  · rintro ⟨b, hb, t, rfl, h⟩
    rw [List.mem_singleton.mp hb]
    exact h
  · intro h
    exact ⟨[], List.mem_singleton.mpr rfl, s, rfl, h⟩
theorem spoil_snoc (rows : List (List Int)) (r : List Int) : spoil (rows ++ [r]) = spStep (spoil rows) r := by
  unfold spoil spoilF
  rw [List.foldl_append]
  rfl
theorem spoil_eq {rows : List (List Int)} (h4 : rows.length ≤ 4) (hk : ∀ r ∈ rows, r.length ≤ 4) : m_spoilings_of (tT rows) = some (.tuple ((spoil rows).map tN)) := by
  unfold m_spoilings_of
  simp only [op2, op1, cmp2, chain3, tst, notB, andB, orB, andD, orD, iteM, consM, starM, smallM, tupM, tupSM, lstM, argV, argK, comp1, comp1i, comp2, comp2i, comp11, seqM, rng1, rng2, zipSM, zip2M, zip3M, enumM, repM, joinM, catM, par3LM, put2M, popM, parLV, putVM, unpS, trg1M, sortSetM, orV, lrg1M, par3M, rdM, rdLM, partM, slcM, isiM, rtM, forM1, forM2, forM3, parM, unp2, unp3, unp2A, unp3A, unp4A, ob_pure, ob_some, ob_lift, Option.pure_def, add_int, sub_int, lt_int, le_int, gt_int, ge_int, eq_int, ne_int, min_int, max_int, neg_int, bool_bool, not_bool, is_none, isn_none, nn_int, nn_none, nn_tup, len_tup, len_lst, tup_lst, tup_tup, it_lst, it_tup, int_bool, int_int, oint_int, addI_int, subI_int, flat_tI, flat_int, flat_none, Option.bind_some, Option.map_some, Int.zero_add, thenB, thenM, List.nil_append, List.length_map, ob_assoc]
  refine bindE (loop_pre (m := Option) (F := tI) (fun p => PyData.list ((spoil p).map tN)) rows fun p r q e => ?_) rfl
  have hr : r.length ≤ 4 := hk r (by rw [e]; simp)
  have hp4 : p.length < 4 := by have := congrArg List.length e; simp at this; omega
  have hpl : (spoil p).length ≤ 256 := by
    have h1 := spoilF_len p [[]] fun x hx => hk x (by rw [e]; simp [hx])
    have h2 : 4 ^ p.length ≤ 4 ^ 4 := Nat.pow_le_pow_right (by decide) (Nat.le_of_lt hp4)
    have h3 : (spoil p).length ≤ 1 * 4 ^ p.length := h1
    omega
  simp only [op2, op1, cmp2, chain3, tst, notB, andB, orB, andD, orD, iteM, consM, starM, smallM, tupM, tupSM, lstM, argV, argK, comp1, comp1i, comp2, comp2i, comp11, seqM, rng1, rng2, zipSM, zip2M, zip3M, enumM, repM, joinM, catM, par3LM, put2M, popM, parLV, putVM, unpS, trg1M, sortSetM, orV, lrg1M, par3M, rdM, rdLM, partM, slcM, isiM, rtM, forM1, forM2, forM3, parM, unp2, unp3, unp2A, unp3A, unp4A, ob_pure, ob_some, ob_lift, Option.pure_def, add_int, sub_int, lt_int, le_int, gt_int, ge_int, eq_int, ne_int, min_int, max_int, neg_int, bool_bool, not_bool, is_none, isn_none, nn_int, nn_none, nn_tup, len_tup, len_lst, tup_lst, tup_tup, it_lst, it_tup, int_bool, int_int, oint_int, addI_int, subI_int, flat_tI, flat_int, flat_none, Option.bind_some, Option.map_some, Int.zero_add, thenB, thenM, List.nil_append, List.length_map, ob_assoc, enum_map]
  rw [small_ok (by simp; omega)]
  simp only [op2, op1, cmp2, chain3, tst, notB, andB, orB, andD, orD, iteM, consM, starM, smallM, tupM, tupSM, lstM, argV, argK, comp1, comp1i, comp2, comp2i, comp11, seqM, rng1, rng2, zipSM, zip2M, zip3M, enumM, repM, joinM, catM, par3LM, put2M, popM, parLV, putVM, unpS, trg1M, sortSetM, orV, lrg1M, par3M, rdM, rdLM, partM, slcM, isiM, rtM, forM1, forM2, forM3, parM, unp2, unp3, unp2A, unp3A, unp4A, ob_pure, ob_some, ob_lift, Option.pure_def, add_int, sub_int, lt_int, le_int, gt_int, ge_int, eq_int, ne_int, min_int, max_int, neg_int, bool_bool, not_bool, is_none, isn_none, nn_int, nn_none, nn_tup, len_tup, len_lst, tup_lst, tup_tup, it_lst, it_tup, int_bool, int_int, oint_int, addI_int, subI_int, flat_tI, flat_int, flat_none, Option.bind_some, Option.map_some, Int.zero_add, thenB, thenM, List.nil_append, List.length_map, ob_assoc]
  refine bindE (lcA_filt2 (m := Option) (Ga := fun p : Int × Nat => .int (p.2 : Nat)) (Gb := fun p => .int p.1) (p := fun p => decide (0 < p.1)) (G := fun p => .int (p.2 : Nat)) (fun _ => rfl) r.zipIdx [] (fun p hp => rfl) fun p hp hpj => rfl) ?_
  have ea : ((r.zipIdx.filter fun p => decide (0 < p.1)).map fun p => PyData.int (p.2 : Nat)) = (ableN r).map fun k : Nat => PyData.int (k : Nat) := by
    unfold ableN
    rw [List.map_map]
    rfl
  rw [List.nil_append, ea]
  rw [small_ok (by rw [List.length_map]; omega)]
  simp only [op2, op1, cmp2, chain3, tst, notB, andB, orB, andD, orD, iteM, consM, starM, smallM, tupM, tupSM, lstM, argV, argK, comp1, comp1i, comp2, comp2i, comp11, seqM, rng1, rng2, zipSM, zip2M, zip3M, enumM, repM, joinM, catM, par3LM, put2M, popM, parLV, putVM, unpS, trg1M, sortSetM, orV, lrg1M, par3M, rdM, rdLM, partM, slcM, isiM, rtM, forM1, forM2, forM3, parM, unp2, unp3, unp2A, unp3A, unp4A, ob_pure, ob_some, ob_lift, Option.pure_def, add_int, sub_int, lt_int, le_int, gt_int, ge_int, eq_int, ne_int, min_int, max_int, neg_int, bool_bool, not_bool, is_none, isn_none, nn_int, nn_none, nn_tup, len_tup, len_lst, tup_lst, tup_tup, it_lst, it_tup, int_bool, int_int, oint_int, addI_int, subI_int, flat_tI, flat_int, flat_none, Option.bind_some, Option.map_some, Int.zero_add, thenB, thenM, List.nil_append, List.length_map, ob_assoc]
  refine bindE (lc2_map (m := Option) (F := tN) (F2 := fun k : Nat => PyData.int (k : Nat)) (ys := fun _ => ableN r) (G := fun b k => tN (b ++ [k])) (spoil p) [] (fun _ _ => rfl) (fun b hb k hk2 => ?_) ?_) ?_
  · simp only [op2, op1, cmp2, chain3, tst, notB, andB, orB, andD, orD, iteM, consM, starM, smallM, tupM, tupSM, lstM, argV, argK, comp1, comp1i, comp2, comp2i, comp11, seqM, rng1, rng2, zipSM, zip2M, zip3M, enumM, repM, joinM, catM, par3LM, put2M, popM, parLV, putVM, unpS, trg1M, sortSetM, orV, lrg1M, par3M, rdM, rdLM, partM, slcM, isiM, rtM, forM1, forM2, forM3, parM, unp2, unp3, unp2A, unp3A, unp4A, ob_pure, ob_some, ob_lift, Option.pure_def, add_int, sub_int, lt_int, le_int, gt_int, ge_int, eq_int, ne_int, min_int, max_int, neg_int, bool_bool, not_bool, is_none, isn_none, nn_int, nn_none, nn_tup, len_tup, len_lst, tup_lst, tup_tup, it_lst, it_tup, int_bool, int_int, oint_int, addI_int, subI_int, flat_tI, flat_int, flat_none, Option.bind_some, Option.map_some, Int.zero_add, thenB, thenM, List.nil_append, List.length_map, ob_assoc]
    have hb4 := (mem_spoil.mp hb).1
    rw [small_ok (by simp; omega)]
    simp [tN]
  · have : ((spoil p).flatMap fun _ => ableN r).length ≤ 256 * 4 := by
      rw [List.length_flatMap]
      have h1 := ableN_len (r := r)
      have h2 : ((spoil p).map fun _ => (ableN r).length).sum ≤ (spoil p).length * 4 := by
        generalize spoil p = l
        induction l with
        | nil => simp
        | cons x l ih => simp only [List.map_cons, List.sum_cons, List.length_cons, Nat.succ_mul]; omega
      omega
    simp only [List.length_nil]
    omega
  · rw [List.nil_append, spoil_snoc]
    unfold spStep
    rw [List.map_flatMap]
    simp [Function.comp_def]
/-- counts at most at the caps -/
def keptB (caps : List (Option Int)) (c : List Int) : Bool := (caps.zip c).all fun p => match p.1 with | none => true | some v => decide (p.2 ≤ v)
theorem kept_iff {caps : List (Option Int)} {c : List Int} {k : Nat} (h1 : caps.length = k) (h2 : c.length = k) : keptB caps c = true ↔ ∀ j v, j < k → caps.getD j none = some v → c.getD j 0 ≤ v := by
  unfold keptB
  rw [List.all_eq_true]
  constructor
  · intro h j v hj hv
    have := h (caps.getD j none, c.getD j 0) (List.mem_iff_getElem.mpr ⟨j, by simp; omega, by simp [List.getD, h1, h2, hj]⟩)
    simp only [hv] at this
    exact of_decide_eq_true this
  · intro h p hp
    obtain ⟨j, hj, rfl⟩ := List.mem_iff_getElem.mp hp
    have hj1 : j < caps.length := by simp at hj; omega
    have hj2 : j < c.length := by omega
    rw [List.getElem_zip]
    cases hq : caps[j] with
    | none => rfl
    | some v =>
      have := h j v (by omega) (by simp [List.getD, hj1, hq])
      simpa [List.getD, hj2] using this
theorem capO_le {ps : List (List Int × Nat)} {p : List Int × Nat} (h : p ∈ ps) : ∃ v, capO ps p.2 = some v ∧ v ≤ p.1.getD p.2 0 - 1 := by
  unfold capO
  have hm : p.1.getD p.2 0 - 1 ∈ ((ps.filter fun q => q.2 == p.2).map fun q => q.1.getD p.2 0 - 1) := List.mem_map.mpr ⟨p, List.mem_filter.mpr ⟨h, by simp⟩, rfl⟩
  generalize ((ps.filter fun q => q.2 == p.2).map fun q => q.1.getD p.2 0 - 1) = l at hm
  cases hl : l.min? with
  | none => rw [List.min?_eq_none_iff.mp hl] at hm; simp at hm
  | some v => exact ⟨v, rfl, (List.min?_eq_some_iff.mp hl).2 _ hm⟩
theorem capO_at {ps : List (List Int × Nat)} {j : Nat} {v : Int} (h : capO ps j = some v) : ∃ p ∈ ps, p.2 = j ∧ v = p.1.getD j 0 - 1 := by
  unfold capO at h
  obtain ⟨p, hp, e⟩ := List.mem_map.mp (List.min?_eq_some_iff.mp h).1
  have := List.mem_filter.mp hp
  exact ⟨p, this.1, by simpa using this.2, e.symm⟩
theorem capsO_len (ps : List (List Int × Nat)) (k : Nat) : (capsO ps k).length = k := by simp [capsO]
theorem capsO_at {ps : List (List Int × Nat)} {k j : Nat} (h : j < k) : (capsO ps k).getD j none = capO ps j := by simp [capsO, List.getD, h]
theorem fulf_none {rows : List (List Int)} {c : List Int} : fulf rows c = none ↔ ∀ r ∈ rows, cont c r = false := by
  unfold fulf firstN
  rw [Option.map_eq_none_iff, List.find?_eq_none]
  constructor
  · intro h r hr
    obtain ⟨i, hi, rfl⟩ := List.getElem_of_mem hr
    have := h (rows[i], i) (List.mem_iff_getElem.mpr ⟨i, by simpa using hi, by simp⟩)
    simpa using this
  · intro h p hp
    have := List.mem_zipIdx hp
    have hm : p.1 ∈ rows := this.2.2 ▸ List.getElem_mem _
    simp [h _ hm]
/-- counts fulfil nothing exactly if some spoiling's caps keep them -/
theorem spoiled {rows : List (List Int)} {c : List Int} {k : Nat} (hl : ∀ r ∈ rows, r.length = k) (hc : c.length = k) (h0 : ∀ x ∈ c, 0 ≤ x) : fulf rows c = none ↔ ∃ s ∈ spoil rows, keptB (capsO (rows.zip s) k) c = true := by
  rw [fulf_none]
  constructor
  · intro h
    have hch : ∀ rs : List (List Int), (∀ r ∈ rs, r ∈ rows) → ∃ s : List Nat, s.length = rs.length ∧ ∀ p ∈ rs.zip s, p.2 < k ∧ c.getD p.2 0 < p.1.getD p.2 0 := by
      intro rs
      induction rs with
      | nil => exact fun _ => ⟨[], rfl, by simp⟩
      | cons r rs ih =>
        intro hm
        obtain ⟨s, hs, hp⟩ := ih fun x hx => hm x (List.mem_cons_of_mem _ hx)
        have hr := hm r List.mem_cons_self
        have hj : ∃ j, j < k ∧ c.getD j 0 < r.getD j 0 := by
          have hcf := h r hr
          apply Classical.byContradiction
          intro hn
          have : cont c r = true := (cont_iff (by rw [hc, hl r hr])).mpr fun j hj => by
            apply Classical.byContradiction
            intro hlt
            exact hn ⟨j, by rw [← hl r hr]; exact hj, by omega⟩
          rw [this] at hcf
          cases hcf
        obtain ⟨j, hj1, hj2⟩ := hj
        refine ⟨j :: s, by simp [hs], fun p hpm => ?_⟩
        rw [List.zip_cons_cons, List.mem_cons] at hpm
        rcases hpm with rfl | hpm
        · exact ⟨hj1, hj2⟩
        · exact hp p hpm
    obtain ⟨s, hs, hp⟩ := hch rows fun r hr => hr
    refine ⟨s, mem_spoil.mpr ⟨hs, fun p hpm => ?_⟩, (kept_iff (capsO_len _ _) hc).mpr fun j v hj hv => ?_⟩
    · have hr : p.1 ∈ rows := (List.of_mem_zip (show (p.1, p.2) ∈ rows.zip s from hpm)).1
      have := hp p hpm
      have hcj := getD_in h0 (i := p.2) (by omega)
      exact mem_ableN.mpr ⟨by rw [hl _ hr]; exact this.1, by omega⟩
    · rw [capsO_at hj] at hv
      obtain ⟨p, hpm, rfl, rfl⟩ := capO_at hv
      have := hp p hpm
      omega
  · rintro ⟨s, hs, hk⟩ r hr
    obtain ⟨hsl, hsp⟩ := mem_spoil.mp hs
    obtain ⟨i, hi, rfl⟩ := List.getElem_of_mem hr
    have hpm : (rows[i], s[i]'(by omega)) ∈ rows.zip s := List.mem_iff_getElem.mpr ⟨i, by simp; omega, by simp⟩
    have hab := mem_ableN.mp (hsp _ hpm)
    have hlt : s[i]'(by omega) < k := by have := hab.1; rw [hl _ hr] at this; exact this
    obtain ⟨v, hv, hle⟩ := capO_le hpm
    have := (kept_iff (capsO_len _ _) hc).mp hk _ v hlt (by rw [capsO_at hlt]; exact hv)
    cases hcc : cont c rows[i] with
    | false => rfl
    | true =>
      have := (cont_iff (by rw [hc, hl _ hr])).mp hcc _ hab.1
      simp only at hle this
      omega
/-- how many of kind j stand in some drawers -/
def many (rows : List (List Int)) (ds : List Nat) (j : Nat) : Int := (ds.map fun d => (rows.getD d []).getD j 0).sum
def capped (m : Int) : Option Int → Int
  | none => m
  | some c => min m c
def room (rows : List (List Int)) (caps : List (Option Int)) (ds : List Nat) : Int := (caps.zipIdx.map fun q => capped (many rows ds q.2) q.1).sum
theorem many_eq {m : Type → Type} [Mo m] [MoL m] {rows : List (List Int)} {ds : List Nat} {k j : Nat} (hl : ∀ r ∈ rows, r.length = k) (hd : ∀ d ∈ ds, d < rows.length) (hj : j < k) :
    (lcA (m := m) (fun d => someM (Mo.lift (DD.getD (tT rows) d) >>= fun a => Mo.lift (DD.getD a (.int (j : Nat))))) (ds.map fun d : Nat => PyData.int (d : Nat)) []) = pure (ds.map fun d => .int ((rows.getD d []).getD j 0)) := by
  rw [lcA_mapP (G := fun d : Nat => .int ((rows.getD d []).getD j 0)) ds [] fun d hdm => ?_]
  · rfl
  · rw [get_row (hd d hdm), MoL.ls, MoL.pb, at_int (by rw [row_len hl (hd d hdm)]; exact hj), MoL.ls]
theorem sum_many (rows : List (List Int)) (ds : List Nat) (j : Nat) : sumD (.list (ds.map fun d => .int ((rows.getD d []).getD j 0))) = some (.int (many rows ds j)) := by
  have := sum_lI (ds.map fun d => (rows.getD d []).getD j 0)
  rw [List.map_map] at this
  exact this
theorem room_eq {rows : List (List Int)} {caps : List (Option Int)} {ds : List Nat} {k : Nat} (hl : ∀ r ∈ rows, r.length = k) (hc : caps.length = k) (hd : ∀ d ∈ ds, d < rows.length) (hs : ds.length ≤ 1000000) : m_room_in (tT rows) (tO caps) (tN ds) = some (.int (room rows caps ds)) := by
  unfold m_room_in
  simp only [op2, op1, cmp2, chain3, tst, notB, andB, orB, andD, orD, iteM, consM, starM, smallM, tupM, tupSM, lstM, argV, argK, comp1, comp1i, comp2, comp2i, comp11, seqM, rng1, rng2, zipSM, zip2M, zip3M, enumM, repM, joinM, catM, par3LM, put2M, popM, parLV, putVM, unpS, trg1M, sortSetM, orV, lrg1M, par3M, rdM, rdLM, partM, slcM, isiM, rtM, forM1, forM2, forM3, parM, unp2, unp3, unp2A, unp3A, unp4A, ob_pure, ob_some, ob_lift, Option.pure_def, add_int, sub_int, lt_int, le_int, gt_int, ge_int, eq_int, ne_int, min_int, max_int, neg_int, bool_bool, not_bool, is_none, isn_none, nn_int, nn_none, nn_tup, len_tup, len_lst, tup_lst, tup_tup, it_lst, it_tup, int_bool, int_int, oint_int, addI_int, subI_int, flat_tI, flat_int, flat_none, Option.bind_some, Option.map_some, Int.zero_add, thenB, thenM, List.nil_append, List.length_map, ob_assoc, enum_map]
  refine bindE (loop_pre (m := Option) (F := fun p : Option Int × Nat => PyData.tuple [.int (p.2 : Nat), oD p.1]) (fun p => PyData.int (p.map fun q => capped (many rows ds q.2) q.1).sum) caps.zipIdx fun p x q e => ?_) rfl
  · have hx : x ∈ caps.zipIdx := by rw [e]; simp
    have hj : x.2 < k := by have := List.mem_zipIdx hx; omega
    simp only [pairM]
    rw [small_ok (by rw [List.length_map]; exact hs)]
    simp only [op2, op1, cmp2, chain3, tst, notB, andB, orB, andD, orD, iteM, consM, starM, smallM, tupM, tupSM, lstM, argV, argK, comp1, comp1i, comp2, comp2i, comp11, seqM, rng1, rng2, zipSM, zip2M, zip3M, enumM, repM, joinM, catM, par3LM, put2M, popM, parLV, putVM, unpS, trg1M, sortSetM, orV, lrg1M, par3M, rdM, rdLM, partM, slcM, isiM, rtM, forM1, forM2, forM3, parM, unp2, unp3, unp2A, unp3A, unp4A, ob_pure, ob_some, ob_lift, Option.pure_def, add_int, sub_int, lt_int, le_int, gt_int, ge_int, eq_int, ne_int, min_int, max_int, neg_int, bool_bool, not_bool, is_none, isn_none, nn_int, nn_none, nn_tup, len_tup, len_lst, tup_lst, tup_tup, it_lst, it_tup, int_bool, int_int, oint_int, addI_int, subI_int, flat_tI, flat_int, flat_none, Option.bind_some, Option.map_some, Int.zero_add, thenB, thenM, List.nil_append, List.length_map, ob_assoc]
    refine bindE (many_eq (m := Option) hl hd hj) ?_
    simp only [op2, op1, cmp2, chain3, tst, notB, andB, orB, andD, orD, iteM, consM, starM, smallM, tupM, tupSM, lstM, argV, argK, comp1, comp1i, comp2, comp2i, comp11, seqM, rng1, rng2, zipSM, zip2M, zip3M, enumM, repM, joinM, catM, par3LM, put2M, popM, parLV, putVM, unpS, trg1M, sortSetM, orV, lrg1M, par3M, rdM, rdLM, partM, slcM, isiM, rtM, forM1, forM2, forM3, parM, unp2, unp3, unp2A, unp3A, unp4A, ob_pure, ob_some, ob_lift, Option.pure_def, add_int, sub_int, lt_int, le_int, gt_int, ge_int, eq_int, ne_int, min_int, max_int, neg_int, bool_bool, not_bool, is_none, isn_none, nn_int, nn_none, nn_tup, len_tup, len_lst, tup_lst, tup_tup, it_lst, it_tup, int_bool, int_int, oint_int, addI_int, subI_int, flat_tI, flat_int, flat_none, Option.bind_some, Option.map_some, Int.zero_add, thenB, thenM, List.nil_append, List.length_map, ob_assoc, sum_many]
    rw [List.map_append, List.sum_append]
    cases hq : x.1 with
    | none => simp [oD, capped, nn_none, addI_int, hq]
    | some c => simp [oD, capped, nn_int, addI_int, hq, min_int]
theorem spoil_len {k : Nat} {m : Int} {rows : List (List Int)} (ro : Wishes k m rows) (k4 : k ≤ 4) : (spoil rows).length ≤ 256 := by
  have h1 := spoilF_len rows [[]] fun r hr => by rw [ro.len r hr]; exact k4
  have h2 : 4 ^ rows.length ≤ 4 ^ 4 := Nat.pow_le_pow_right (by decide) ro.four
  have h3 : (spoil rows).length ≤ 1 * 4 ^ rows.length := h1
  omega
theorem spoil_lt {k : Nat} {m : Int} {rows : List (List Int)} {s : List Nat} (ro : Wishes k m rows) (hs : s ∈ spoil rows) : s.length = rows.length ∧ ∀ x ∈ s, x < k := by
  obtain ⟨hsl, hsa⟩ := mem_spoil.mp hs
  refine ⟨hsl, fun x hx => ?_⟩
  obtain ⟨i, hi, rfl⟩ := List.getElem_of_mem hx
  have hpm : (rows[i]'(by omega), s[i]) ∈ rows.zip s := List.mem_iff_getElem.mpr ⟨i, by simp; omega, by simp⟩
  have := (mem_ableN.mp (hsa _ hpm)).1
  rw [ro.len _ (List.getElem_mem _)] at this
  exact this
theorem spoil_ne {k : Nat} {m : Int} {rows : List (List Int)} (ro : Wishes k m rows) : ∃ s, s ∈ spoil rows := by
  have hch : ∀ rs : List (List Int), (∀ r ∈ rs, r ∈ rows) → ∃ s : List Nat, s.length = rs.length ∧ ∀ p ∈ rs.zip s, p.2 ∈ ableN p.1 := by
    intro rs
    induction rs with
    | nil => exact fun _ => ⟨[], rfl, by simp⟩
    | cons r rs ih =>
      intro hm
      obtain ⟨s, hs, hp⟩ := ih fun x hx => hm x (List.mem_cons_of_mem _ hx)
      obtain ⟨x, hx, hx0⟩ := ro.pos r (hm r List.mem_cons_self)
      obtain ⟨j, hj, rfl⟩ := List.getElem_of_mem hx
      refine ⟨j :: s, by simp [hs], fun p hpm => ?_⟩
      rw [List.zip_cons_cons, List.mem_cons] at hpm
      rcases hpm with rfl | hpm
      · exact mem_ableN.mpr ⟨hj, by simp [List.getD, hj, hx0]⟩
      · exact hp p hpm
  obtain ⟨s, hs, hp⟩ := hch rows fun r hr => hr
  exact ⟨s, mem_spoil.mpr ⟨hs, hp⟩⟩
theorem cap_in {k : Nat} {m : Int} {rows : List (List Int)} {s : List Nat} (ro : Wishes k m rows) (hs : s ∈ spoil rows) {j : Nat} {v : Int} (h : capO (rows.zip s) j = some v) : 0 ≤ v ∧ v < m := by
  obtain ⟨p, hpm, rfl, rfl⟩ := capO_at h
  have hr : p.1 ∈ rows := (List.of_mem_zip (show (p.1, p.2) ∈ rows.zip s from hpm)).1
  have ha := mem_ableN.mp ((mem_spoil.mp hs).2 p hpm)
  have := getD_in (ro.ge _ hr) ha.1
  omega
theorem caps_in {k : Nat} {m : Int} {rows : List (List Int)} {s : List Nat} (ro : Wishes k m rows) (hs : s ∈ spoil rows) : ∀ o v, o ∈ capsO (rows.zip s) k → o = some v → 0 ≤ v ∧ v < m := fun o v ho hv => by
  obtain ⟨j, hj, rfl⟩ := List.mem_map.mp ho
  exact cap_in ro hs hv
theorem contains_eq {c r : List Int} (h : c.length ≤ r.length) (hs : c.length ≤ 1000000) : m_contains (tI c) (tI r) = some (.bool (cont c r)) := by
  unfold m_contains
  simp only [op2, op1, cmp2, chain3, tst, notB, andB, orB, andD, orD, iteM, consM, starM, smallM, tupM, tupSM, lstM, argV, argK, comp1, comp1i, comp2, comp2i, comp11, seqM, rng1, rng2, zipSM, zip2M, zip3M, enumM, repM, joinM, catM, par3LM, put2M, popM, parLV, putVM, unpS, trg1M, sortSetM, orV, lrg1M, par3M, rdM, rdLM, partM, slcM, isiM, rtM, forM1, forM2, forM3, parM, unp2, unp3, unp2A, unp3A, unp4A, ob_pure, ob_some, ob_lift, Option.pure_def, add_int, sub_int, lt_int, le_int, gt_int, ge_int, eq_int, ne_int, min_int, max_int, neg_int, bool_bool, not_bool, is_none, isn_none, nn_int, nn_none, nn_tup, len_tup, len_lst, tup_lst, tup_tup, it_lst, it_tup, int_bool, int_int, oint_int, addI_int, subI_int, flat_tI, flat_int, flat_none, Option.bind_some, Option.map_some, Int.zero_add, thenB, thenM, List.nil_append, List.length_map, ob_assoc, zip_map h]
  rw [small_ok (by simp; omega)]
  simp only [op2, op1, cmp2, chain3, tst, notB, andB, orB, andD, orD, iteM, consM, starM, smallM, tupM, tupSM, lstM, argV, argK, comp1, comp1i, comp2, comp2i, comp11, seqM, rng1, rng2, zipSM, zip2M, zip3M, enumM, repM, joinM, catM, par3LM, put2M, popM, parLV, putVM, unpS, trg1M, sortSetM, orV, lrg1M, par3M, rdM, rdLM, partM, slcM, isiM, rtM, forM1, forM2, forM3, parM, unp2, unp3, unp2A, unp3A, unp4A, ob_pure, ob_some, ob_lift, Option.pure_def, add_int, sub_int, lt_int, le_int, gt_int, ge_int, eq_int, ne_int, min_int, max_int, neg_int, bool_bool, not_bool, is_none, isn_none, nn_int, nn_none, nn_tup, len_tup, len_lst, tup_lst, tup_tup, it_lst, it_tup, int_bool, int_int, oint_int, addI_int, subI_int, flat_tI, flat_int, flat_none, Option.bind_some, Option.map_some, Int.zero_add, thenB, thenM, List.nil_append, List.length_map, ob_assoc]
  refine bindE (lcA_map2 (m := Option) (Ga := fun p : Int × Int => .int p.1) (Gb := fun p => .int p.2) (G := fun p => .bool (decide (p.2 ≤ p.1))) (fun _ => rfl) (c.zip r) [] fun p hp => rfl) ?_
  simp only [List.nil_append]
  exact all_map (p := fun p : Int × Int => decide (p.2 ≤ p.1)) (c.zip r)
theorem fulf_eq {rows : List (List Int)} {c : List Int} (h : ∀ r ∈ rows, c.length ≤ r.length) (hs : c.length ≤ 1000000) : m_fulfilled_by (tT rows) (tI c) = some (oN (fulf rows c)) := by
  unfold m_fulfilled_by
  simp only [op2, op1, cmp2, chain3, tst, notB, andB, orB, andD, orD, iteM, consM, starM, smallM, tupM, tupSM, lstM, argV, argK, comp1, comp1i, comp2, comp2i, comp11, seqM, rng1, rng2, zipSM, zip2M, zip3M, enumM, repM, joinM, catM, par3LM, put2M, popM, parLV, putVM, unpS, trg1M, sortSetM, orV, lrg1M, par3M, rdM, rdLM, partM, slcM, isiM, rtM, forM1, forM2, forM3, parM, unp2, unp3, unp2A, unp3A, unp4A, ob_pure, ob_some, ob_lift, Option.pure_def, add_int, sub_int, lt_int, le_int, gt_int, ge_int, eq_int, ne_int, min_int, max_int, neg_int, bool_bool, not_bool, is_none, isn_none, nn_int, nn_none, nn_tup, len_tup, len_lst, tup_lst, tup_tup, it_lst, it_tup, int_bool, int_int, oint_int, addI_int, subI_int, flat_tI, flat_int, flat_none, Option.bind_some, Option.map_some, Int.zero_add, thenB, thenM, List.nil_append, List.length_map, enum_map]
  refine bindE (loop_find (m := Option) (p := fun q : List Int × Nat => cont c q.1) (R := fun q => .int (q.2 : Nat)) rows.zipIdx fun q hq => ?_) ?_
  · have hr : q.1 ∈ rows := (List.mem_zipIdx hq).2.2 ▸ List.getElem_mem _
    have e : M_contains [.val (tI c), .val (tI q.1)] = some (.bool (cont c q.1)) := contains_eq (h _ hr) hs
    simp only [pairM, e, op2, op1, cmp2, chain3, tst, notB, andB, orB, andD, orD, iteM, consM, starM, smallM, tupM, tupSM, lstM, argV, argK, comp1, comp1i, comp2, comp2i, comp11, seqM, rng1, rng2, zipSM, zip2M, zip3M, enumM, repM, joinM, catM, par3LM, put2M, popM, parLV, putVM, unpS, trg1M, sortSetM, orV, lrg1M, par3M, rdM, rdLM, partM, slcM, isiM, rtM, forM1, forM2, forM3, parM, unp2, unp3, unp2A, unp3A, unp4A, ob_pure, ob_some, ob_lift, Option.pure_def, add_int, sub_int, lt_int, le_int, gt_int, ge_int, eq_int, ne_int, min_int, max_int, neg_int, bool_bool, not_bool, is_none, isn_none, nn_int, nn_none, nn_tup, len_tup, len_lst, tup_lst, tup_tup, it_lst, it_tup, int_bool, int_int, oint_int, addI_int, subI_int, flat_tI, flat_int, flat_none, Option.bind_some, Option.map_some, Int.zero_add, thenB, thenM, List.nil_append, List.length_map]
  · unfold fulf firstN
    cases rows.zipIdx.find? fun q => cont c q.1 <;> rfl
theorem totals_eq {k : Nat} {rows : List (List Int)} (h1 : 1 ≤ rows.length) (h4 : rows.length ≤ 4) (hl : ∀ r ∈ rows, r.length = k) (hk : k ≤ 1000) : m_totals_of (tT rows) = some (tI (cols rows k)) := by
  unfold m_totals_of
  simp only [op2, op1, cmp2, chain3, tst, notB, andB, orB, andD, orD, iteM, consM, starM, smallM, tupM, tupSM, lstM, argV, argK, comp1, comp1i, comp2, comp2i, comp11, seqM, rng1, rng2, zipSM, zip2M, zip3M, enumM, repM, joinM, catM, par3LM, put2M, popM, parLV, putVM, unpS, trg1M, sortSetM, orV, lrg1M, par3M, rdM, rdLM, partM, slcM, isiM, rtM, forM1, forM2, forM3, parM, unp2, unp3, unp2A, unp3A, unp4A, ob_pure, ob_some, ob_lift, itemsD, Option.bind_some]
  rw [zip_rows h1 h4 hl, ob_some, small_ok (by simp; omega), ob_some, lcA_mapM (List.range k) [] (F := fun i => tI (col rows i)) (G := fun i => .int (col rows i).sum) fun i _ => sum_tI _]
  simp only [ob_some, ob_pure, tupleD, List.nil_append, tI, cols, List.map_map, Function.comp_def]
/-! sums and rooms -/
theorem zipIdx_opt (r : List (Option Int)) : r.zipIdx = (List.range r.length).map fun i => (r.getD i none, i) := by
  refine List.ext_getElem (by simp) fun i h1 h2 => ?_
  have : i < r.length := by simpa using h1
  simp [List.getD, this]
theorem room_sum {stock : List (List Int)} {caps : List (Option Int)} {ds : List Nat} {k : Nat} (hc : caps.length = k) : room stock caps ds = ((List.range k).map fun j => capped (many stock ds j) (caps.getD j none)).sum := by
  unfold room
  rw [zipIdx_opt, List.map_map, hc]
  rfl
theorem sum_le_sum {γ : Type} {f g : γ → Int} : ∀ l : List γ, (∀ x ∈ l, f x ≤ g x) → (l.map f).sum ≤ (l.map g).sum
  | [], _ => by simp
  | x :: l, h => by
    rw [List.map_cons, List.map_cons, List.sum_cons, List.sum_cons]
    have := h x List.mem_cons_self
    have := sum_le_sum l fun y hy => h y (List.mem_cons_of_mem _ hy)
    omega
theorem zero_sum {γ : Type} : ∀ l : List γ, (l.map fun _ => (0 : Int)).sum = 0
  | [] => rfl
  | _ :: l => by rw [List.map_cons, List.sum_cons, zero_sum l]; rfl
theorem stk_ge {m : Int} {k : Nat} {stock : List (List Int)} (st : Stk m k stock) {d j : Nat} (hd : d < stock.length) (hj : j < k) : 0 ≤ (stock.getD d []).getD j 0 ∧ (stock.getD d []).getD j 0 ≤ m := by
  have hr : stock.getD d [] ∈ stock := by simp [List.getD, hd]
  exact getD_in (st.ge _ hr) (by rw [st.len _ hr]; exact hj)
/-- the rooms of all drawers, spoiling by spoiling -/
def rooms (stock rows : List (List Int)) (k : Nat) : List Int := (spoil rows).map fun s => room stock (capsO (rows.zip s) k) (List.range stock.length)
def sureT (stock rows : List (List Int)) (k : Nat) : Option Int := if (fulf rows (cols stock k)).isNone = true then none else (rooms stock rows k).max?.map (· + 1)
theorem rooms_max {k : Nat} {m : Int} {rows : List (List Int)} (ro : Wishes k m rows) (stock : List (List Int)) : ∃ v, (rooms stock rows k).max? = some v := by
  obtain ⟨s, hs⟩ := spoil_ne ro
  cases h : (rooms stock rows k).max? with
  | some v => exact ⟨v, rfl⟩
  | none =>
    have := List.max?_eq_none_iff.mp h
    unfold rooms at this
    rw [List.map_eq_nil_iff] at this
    rw [this] at hs
    simp at hs
theorem suret_eq {stock rows : List (List Int)} {k : Nat} {m m' : Int} (st : Stk m k stock) (ro : Wishes k m' rows) : m_sure_total (tT stock) (tT rows) = some (oD (sureT stock rows k)) := by
  have f1 := st.one
  have f4 := st.four
  have k4 := st.k4
  have e1 : M_totals_of [.val (tT stock)] = some (tI (cols stock k)) := totals_eq f1 f4 st.len (by omega)
  have e2 : M_fulfilled_by [.val (tT rows), .val (tI (cols stock k))] = some (oN (fulf rows (cols stock k))) := fulf_eq (fun r hr => by rw [ro.len r hr]; simp [cols]) (by simp [cols]; omega)
  have e3 : M_spoilings_of [.val (tT rows)] = some (.tuple ((spoil rows).map tN)) := spoil_eq ro.four fun r hr => by rw [ro.len r hr]; exact k4
  have e4 : lrgO1 (.int (stock.length : Nat)) = some ((List.range stock.length).map fun i : Nat => PyData.int (i : Nat)) := by
    rw [← range_map]
    show (if (0 : Int) ≤ (stock.length : Int) ∧ (stock.length : Int) ≤ 1000000 then _ else none) = _
    rw [if_pos ⟨by omega, by omega⟩, Int.toNat_natCast]
  obtain ⟨v, hv⟩ := rooms_max ro stock
  unfold m_sure_total sureT
  simp only [op2, op1, cmp2, chain3, tst, notB, andB, orB, andD, orD, iteM, consM, starM, smallM, tupM, tupSM, lstM, argV, argK, comp1, comp1i, comp2, comp2i, comp11, seqM, rng1, rng2, zipSM, zip2M, zip3M, enumM, repM, joinM, catM, par3LM, put2M, popM, parLV, putVM, unpS, trg1M, sortSetM, orV, lrg1M, par3M, rdM, rdLM, partM, slcM, isiM, rtM, forM1, forM2, forM3, parM, unp2, unp3, unp2A, unp3A, unp4A, ob_pure, ob_some, ob_lift, Option.pure_def, add_int, sub_int, lt_int, le_int, gt_int, ge_int, eq_int, ne_int, min_int, max_int, neg_int, bool_bool, not_bool, is_none, isn_none, nn_int, nn_none, nn_tup, len_tup, len_lst, tup_lst, tup_tup, it_lst, it_tup, int_bool, int_int, oint_int, addI_int, subI_int, flat_tI, flat_int, flat_none, Option.bind_some, Option.map_some, Int.zero_add, thenB, thenM, List.nil_append, List.length_map, ob_assoc, e1, e2, oN_none]
  cases hn : (fulf rows (cols stock k)).isNone with
  | true => rfl
  | false =>
    simp only [Bool.false_eq_true, if_false, op2, op1, cmp2, chain3, tst, notB, andB, orB, andD, orD, iteM, consM, starM, smallM, tupM, tupSM, lstM, argV, argK, comp1, comp1i, comp2, comp2i, comp11, seqM, rng1, rng2, zipSM, zip2M, zip3M, enumM, repM, joinM, catM, par3LM, put2M, popM, parLV, putVM, unpS, trg1M, sortSetM, orV, lrg1M, par3M, rdM, rdLM, partM, slcM, isiM, rtM, forM1, forM2, forM3, parM, unp2, unp3, unp2A, unp3A, unp4A, ob_pure, ob_some, ob_lift, Option.pure_def, add_int, sub_int, lt_int, le_int, gt_int, ge_int, eq_int, ne_int, min_int, max_int, neg_int, bool_bool, not_bool, is_none, isn_none, nn_int, nn_none, nn_tup, len_tup, len_lst, tup_lst, tup_tup, it_lst, it_tup, int_bool, int_int, oint_int, addI_int, subI_int, flat_tI, flat_int, flat_none, Option.bind_some, Option.map_some, Int.zero_add, thenB, thenM, List.nil_append, List.length_map, ob_assoc, e3, e4]
    rw [small_ok (by rw [List.length_map]; have := spoil_len ro k4; omega)]
    simp only [op2, op1, cmp2, chain3, tst, notB, andB, orB, andD, orD, iteM, consM, starM, smallM, tupM, tupSM, lstM, argV, argK, comp1, comp1i, comp2, comp2i, comp11, seqM, rng1, rng2, zipSM, zip2M, zip3M, enumM, repM, joinM, catM, par3LM, put2M, popM, parLV, putVM, unpS, trg1M, sortSetM, orV, lrg1M, par3M, rdM, rdLM, partM, slcM, isiM, rtM, forM1, forM2, forM3, parM, unp2, unp3, unp2A, unp3A, unp4A, ob_pure, ob_some, ob_lift, Option.pure_def, add_int, sub_int, lt_int, le_int, gt_int, ge_int, eq_int, ne_int, min_int, max_int, neg_int, bool_bool, not_bool, is_none, isn_none, nn_int, nn_none, nn_tup, len_tup, len_lst, tup_lst, tup_tup, it_lst, it_tup, int_bool, int_int, oint_int, addI_int, subI_int, flat_tI, flat_int, flat_none, Option.bind_some, Option.map_some, Int.zero_add, thenB, thenM, List.nil_append, List.length_map, ob_assoc]
    refine bindE (lcA_mapP (m := Option) (F := tN) (G := fun s => .int (room stock (capsO (rows.zip s) k) (List.range stock.length))) (spoil rows) [] fun s hs => ?_) ?_
    · obtain ⟨hsl, hsk⟩ := spoil_lt ro hs
      have ec : M_caps_of [.val (tT rows), .val (tN s)] = some (tO (capsO (rows.zip s) k)) := caps_eqO ro.one ro.len (by omega) hsl hsk
      have er : M_room_in [.val (tT stock), .val (tO (capsO (rows.zip s) k)), .val (tN (List.range stock.length))] = some (.int (room stock (capsO (rows.zip s) k) (List.range stock.length))) := room_eq st.len (capsO_len _ _) (fun d hd => List.mem_range.mp hd) (by simp; omega)
      rw [ec, ob_some]
      exact er
    · rw [List.nil_append, int_map]
      show (maxD (.list ((rooms stock rows k).map PyData.int)) >>= fun d => addD d (.int 1)) = _
      rw [max_lI hv, hv]
      rfl
/-- a number from lo to hi -/
def numB (lo hi : Int) : D → Bool
  | .int i => decide (lo ≤ i) && decide (i ≤ hi)
  | _ => false
theorem all_raw {p : D → Bool} (xs : List D) : allD (.list (xs.map fun x => .bool (p x))) = some (.bool (xs.all p)) := all_map xs
def numsB (n : Nat) (hi : Int) : D → Bool
  | .tuple xs => decide (xs.length = n) && xs.all (numB 0 hi)
  | _ => false
theorem isnum_eq (d : D) (lo hi : Int) : m_is_number d (.int lo) (.int hi) = some (.bool (numB lo hi d)) := by
  unfold m_is_number
  cases d with
  | int i =>
    simp only [op2, op1, cmp2, chain3, tst, notB, andB, orB, andD, orD, iteM, consM, starM, smallM, tupM, tupSM, lstM, argV, argK, comp1, comp1i, comp2, comp2i, comp11, seqM, rng1, rng2, zipSM, zip2M, zip3M, enumM, repM, joinM, catM, par3LM, put2M, popM, parLV, putVM, unpS, trg1M, sortSetM, orV, lrg1M, par3M, rdM, rdLM, partM, slcM, isiM, rtM, forM1, forM2, forM3, parM, unp2, unp3, unp2A, unp3A, unp4A, ob_pure, ob_some, ob_lift, Option.pure_def, add_int, sub_int, lt_int, le_int, gt_int, ge_int, eq_int, ne_int, min_int, max_int, neg_int, bool_bool, not_bool, is_none, isn_none, nn_int, nn_none, nn_tup, len_tup, len_lst, tup_lst, tup_tup, it_lst, it_tup, int_bool, int_int, oint_int, addI_int, subI_int, flat_tI, flat_int, flat_none, Option.bind_some, Option.map_some, Int.zero_add, thenB, thenM, List.nil_append, List.length_map, ob_assoc, numB, isiB, typeN]
    by_cases h : lo ≤ i <;> simp [h]
  | _ => simp [op2, op1, cmp2, chain3, tst, notB, andB, orB, andD, orD, iteM, consM, starM, smallM, tupM, tupSM, lstM, argV, argK, comp1, comp1i, comp2, comp2i, comp11, seqM, rng1, rng2, zipSM, zip2M, zip3M, enumM, repM, joinM, catM, par3LM, put2M, popM, parLV, putVM, unpS, trg1M, sortSetM, orV, lrg1M, par3M, rdM, rdLM, partM, slcM, isiM, rtM, forM1, forM2, forM3, parM, unp2, unp3, unp2A, unp3A, unp4A, ob_pure, ob_some, ob_lift, Option.pure_def, add_int, sub_int, lt_int, le_int, gt_int, ge_int, eq_int, ne_int, min_int, max_int, neg_int, bool_bool, not_bool, is_none, isn_none, nn_int, nn_none, nn_tup, len_tup, len_lst, tup_lst, tup_tup, it_lst, it_tup, int_bool, int_int, oint_int, addI_int, subI_int, flat_tI, flat_int, flat_none, Option.bind_some, Option.map_some, Int.zero_add, thenB, thenM, List.nil_append, List.length_map, ob_assoc, numB, isiB, typeN]
theorem arenums_eq (d : D) {n : Nat} {hi : Int} (hn : n ≤ 1000000) : m_are_numbers d (.int (n : Nat)) (.int hi) = some (.bool (numsB n hi d)) := by
  unfold m_are_numbers
  cases d with
  | tuple xs =>
    simp only [op2, op1, cmp2, chain3, tst, notB, andB, orB, andD, orD, iteM, consM, starM, smallM, tupM, tupSM, lstM, argV, argK, comp1, comp1i, comp2, comp2i, comp11, seqM, rng1, rng2, zipSM, zip2M, zip3M, enumM, repM, joinM, catM, par3LM, put2M, popM, parLV, putVM, unpS, trg1M, sortSetM, orV, lrg1M, par3M, rdM, rdLM, partM, slcM, isiM, rtM, forM1, forM2, forM3, parM, unp2, unp3, unp2A, unp3A, unp4A, ob_pure, ob_some, ob_lift, Option.pure_def, add_int, sub_int, lt_int, le_int, gt_int, ge_int, eq_int, ne_int, min_int, max_int, neg_int, bool_bool, not_bool, is_none, isn_none, nn_int, nn_none, nn_tup, len_tup, len_lst, tup_lst, tup_tup, it_lst, it_tup, int_bool, int_int, oint_int, addI_int, subI_int, flat_tI, flat_int, flat_none, Option.bind_some, Option.map_some, Int.zero_add, thenB, thenM, List.nil_append, List.length_map, ob_assoc, numsB, isiB, typeN]
    by_cases h : xs.length = n
    · rw [small_ok (by omega)]
      have e : (((xs.length : Nat) : Int) == (n : Int)) = true := by simp [h]
      have e1 : ∀ d ∈ xs, M_is_number [.val d, .val (.int 0), .val (.int hi)] = some (.bool (numB 0 hi d)) := fun d _ => isnum_eq d 0 hi
      simp only [e, h, beq_self_eq_true, Bool.true_or, Bool.not_true, Bool.false_eq_true, if_false, op2, op1, cmp2, chain3, tst, notB, andB, orB, andD, orD, iteM, consM, starM, smallM, tupM, tupSM, lstM, argV, argK, comp1, comp1i, comp2, comp2i, comp11, seqM, rng1, rng2, zipSM, zip2M, zip3M, enumM, repM, joinM, catM, par3LM, put2M, popM, parLV, putVM, unpS, trg1M, sortSetM, orV, lrg1M, par3M, rdM, rdLM, partM, slcM, isiM, rtM, forM1, forM2, forM3, parM, unp2, unp3, unp2A, unp3A, unp4A, ob_pure, ob_some, ob_lift, Option.pure_def, add_int, sub_int, lt_int, le_int, gt_int, ge_int, eq_int, ne_int, min_int, max_int, neg_int, bool_bool, not_bool, is_none, isn_none, nn_int, nn_none, nn_tup, len_tup, len_lst, tup_lst, tup_tup, it_lst, it_tup, int_bool, int_int, oint_int, addI_int, subI_int, flat_tI, flat_int, flat_none, Option.bind_some, Option.map_some, Int.zero_add, thenB, thenM, List.nil_append, List.length_map, decide_true, Bool.true_and]
      rw [lcA_map xs [] e1]
      simp only [List.nil_append, op2, op1, cmp2, chain3, tst, notB, andB, orB, andD, orD, iteM, consM, starM, smallM, tupM, tupSM, lstM, argV, argK, comp1, comp1i, comp2, comp2i, comp11, seqM, rng1, rng2, zipSM, zip2M, zip3M, enumM, repM, joinM, catM, par3LM, put2M, popM, parLV, putVM, unpS, trg1M, sortSetM, orV, lrg1M, par3M, rdM, rdLM, partM, slcM, isiM, rtM, forM1, forM2, forM3, parM, unp2, unp3, unp2A, unp3A, unp4A, ob_pure, ob_some, ob_lift, Option.pure_def, add_int, sub_int, lt_int, le_int, gt_int, ge_int, eq_int, ne_int, min_int, max_int, neg_int, bool_bool, not_bool, is_none, isn_none, nn_int, nn_none, nn_tup, len_tup, len_lst, tup_lst, tup_tup, it_lst, it_tup, int_bool, int_int, oint_int, addI_int, subI_int, flat_tI, flat_int, flat_none, Option.bind_some, Option.map_some, Int.zero_add, thenB, thenM, List.nil_append, List.length_map]
      exact all_raw xs
    · have e : (((xs.length : Nat) : Int) == (n : Int)) = false := by simp; omega
      simp [e, h]
  | _ => simp [op2, op1, cmp2, chain3, tst, notB, andB, orB, andD, orD, iteM, consM, starM, smallM, tupM, tupSM, lstM, argV, argK, comp1, comp1i, comp2, comp2i, comp11, seqM, rng1, rng2, zipSM, zip2M, zip3M, enumM, repM, joinM, catM, par3LM, put2M, popM, parLV, putVM, unpS, trg1M, sortSetM, orV, lrg1M, par3M, rdM, rdLM, partM, slcM, isiM, rtM, forM1, forM2, forM3, parM, unp2, unp3, unp2A, unp3A, unp4A, ob_pure, ob_some, ob_lift, Option.pure_def, add_int, sub_int, lt_int, le_int, gt_int, ge_int, eq_int, ne_int, min_int, max_int, neg_int, bool_bool, not_bool, is_none, isn_none, nn_int, nn_none, nn_tup, len_tup, len_lst, tup_lst, tup_tup, it_lst, it_tup, int_bool, int_int, oint_int, addI_int, subI_int, flat_tI, flat_int, flat_none, Option.bind_some, Option.map_some, Int.zero_add, thenB, thenM, List.nil_append, List.length_map, ob_assoc, numsB, isiB, typeN]
theorem nums_ints {n : Nat} {hi : Int} {d : D} (h : numsB n hi d = true) : ∃ r : List Int, d = tI r ∧ r.length = n ∧ ∀ x ∈ r, 0 ≤ x ∧ x ≤ hi := by
  cases d with
  | tuple xs =>
    simp only [numsB, Bool.and_eq_true, decide_eq_true_eq, List.all_eq_true] at h
    obtain ⟨r, rfl, hr⟩ := ints_ex (P := fun x => 0 ≤ x ∧ x ≤ hi) xs fun e he => by
      have := h.2 e he
      cases e with
      | int i => simp only [numB, Bool.and_eq_true, decide_eq_true_eq] at this; exact ⟨i, rfl, this⟩
      | _ => simp [numB] at this
    exact ⟨r, rfl, by simpa using h.1, hr⟩
  | _ => simp [numsB] at h
theorem ints_nums {n : Nat} {hi : Int} {r : List Int} (hl : r.length = n) (h : ∀ x ∈ r, 0 ≤ x ∧ x ≤ hi) : numsB n hi (tI r) = true := by
  simp only [numsB, Bool.and_eq_true, decide_eq_true_eq, List.all_eq_true, List.mem_map]
  refine ⟨by simpa using hl, ?_⟩
  rintro _ ⟨x, hx, rfl⟩
  simp only [numB, Bool.and_eq_true, decide_eq_true_eq]
  exact h x hx
def posB : D → Bool
  | .tuple xs => xs.any fun d => match d with | .int i => decide (0 < i) | _ => false
  | _ => false
def collB (k : Nat) (d : D) : Bool := numsB k 50 d && posB d
theorem posB_tI (r : List Int) : posB (tI r) = r.any fun x => decide (0 < x) := by
  simp [posB, Function.comp_def]
theorem max_pos {r : List Int} {v : Int} (h : r.max? = some v) : decide (0 < v) = r.any fun x => decide (0 < x) := by
  rw [Bool.eq_iff_iff, decide_eq_true_eq, List.any_eq_true]
  have := List.max?_eq_some_iff.mp h
  constructor
  · intro h0
    exact ⟨v, this.1, by simpa using h0⟩
  · rintro ⟨x, hx, h0⟩
    have := this.2 x hx
    simp at h0
    omega
theorem iscoll_eq (d : D) {k : Nat} (k1 : 1 ≤ k) (k4 : k ≤ 1000000) : m_is_collection (.int (k : Nat)) d = some (.bool (collB k d)) := by
  unfold m_is_collection collB
  have e1 : M_are_numbers [.val d, .val (.int (k : Nat)), .val (.int 50)] = some (.bool (numsB k 50 d)) := arenums_eq d k4
  simp only [op2, op1, cmp2, chain3, tst, notB, andB, orB, andD, orD, iteM, consM, starM, smallM, tupM, tupSM, lstM, argV, argK, comp1, comp1i, comp2, comp2i, comp11, seqM, rng1, rng2, zipSM, zip2M, zip3M, enumM, repM, joinM, catM, par3LM, put2M, popM, parLV, putVM, unpS, trg1M, sortSetM, orV, lrg1M, par3M, rdM, rdLM, partM, slcM, isiM, rtM, forM1, forM2, forM3, parM, unp2, unp3, unp2A, unp3A, unp4A, ob_pure, ob_some, ob_lift, Option.pure_def, add_int, sub_int, lt_int, le_int, gt_int, ge_int, eq_int, ne_int, min_int, max_int, neg_int, bool_bool, not_bool, is_none, isn_none, nn_int, nn_none, nn_tup, len_tup, len_lst, tup_lst, tup_tup, it_lst, it_tup, int_bool, int_int, oint_int, addI_int, subI_int, flat_tI, flat_int, flat_none, Option.bind_some, Option.map_some, Int.zero_add, thenB, thenM, List.nil_append, List.length_map, ob_assoc, e1]
  cases h : numsB k 50 d with
  | false => simp
  | true =>
    obtain ⟨r, rfl, hl, hr⟩ := nums_ints h
    obtain ⟨v, hv⟩ : ∃ v, r.max? = some v := by
      cases r with
      | nil => simp at hl; omega
      | cons x r => exact ⟨_, rfl⟩
    rw [max_tI hv]
    simp only [op2, op1, cmp2, chain3, tst, notB, andB, orB, andD, orD, iteM, consM, starM, smallM, tupM, tupSM, lstM, argV, argK, comp1, comp1i, comp2, comp2i, comp11, seqM, rng1, rng2, zipSM, zip2M, zip3M, enumM, repM, joinM, catM, par3LM, put2M, popM, parLV, putVM, unpS, trg1M, sortSetM, orV, lrg1M, par3M, rdM, rdLM, partM, slcM, isiM, rtM, forM1, forM2, forM3, parM, unp2, unp3, unp2A, unp3A, unp4A, ob_pure, ob_some, ob_lift, Option.pure_def, add_int, sub_int, lt_int, le_int, gt_int, ge_int, eq_int, ne_int, min_int, max_int, neg_int, bool_bool, not_bool, is_none, isn_none, nn_int, nn_none, nn_tup, len_tup, len_lst, tup_lst, tup_tup, it_lst, it_tup, int_bool, int_int, oint_int, addI_int, subI_int, flat_tI, flat_int, flat_none, Option.bind_some, Option.map_some, Int.zero_add, thenB, thenM, List.nil_append, List.length_map, posB_tI, ← max_pos hv]
    simp
def collsB (k : Nat) : D → Bool
  | .tuple xs => decide (1 ≤ xs.length) && decide (xs.length ≤ 4) && xs.all (collB k)
  | _ => false
theorem arecolls_eq (d : D) {k : Nat} (k1 : 1 ≤ k) (k4 : k ≤ 1000000) : m_are_collections (.int (k : Nat)) d = some (.bool (collsB k d)) := by
  unfold m_are_collections
  cases d with
  | tuple xs =>
    simp only [op2, op1, cmp2, chain3, tst, notB, andB, orB, andD, orD, iteM, consM, starM, smallM, tupM, tupSM, lstM, argV, argK, comp1, comp1i, comp2, comp2i, comp11, seqM, rng1, rng2, zipSM, zip2M, zip3M, enumM, repM, joinM, catM, par3LM, put2M, popM, parLV, putVM, unpS, trg1M, sortSetM, orV, lrg1M, par3M, rdM, rdLM, partM, slcM, isiM, rtM, forM1, forM2, forM3, parM, unp2, unp3, unp2A, unp3A, unp4A, ob_pure, ob_some, ob_lift, Option.pure_def, add_int, sub_int, lt_int, le_int, gt_int, ge_int, eq_int, ne_int, min_int, max_int, neg_int, bool_bool, not_bool, is_none, isn_none, nn_int, nn_none, nn_tup, len_tup, len_lst, tup_lst, tup_tup, it_lst, it_tup, int_bool, int_int, oint_int, addI_int, subI_int, flat_tI, flat_int, flat_none, Option.bind_some, Option.map_some, Int.zero_add, thenB, thenM, List.nil_append, List.length_map, ob_assoc, collsB, isiB, typeN]
    by_cases h1 : 1 ≤ xs.length
    · by_cases h4 : xs.length ≤ 4
      · have a1 : (1 : Int) ≤ (xs.length : Int) := by omega
        have a4 : (xs.length : Int) ≤ 4 := by omega
        have e1 : ∀ d ∈ xs, M_is_collection [.val (.int (k : Nat)), .val d] = some (.bool (collB k d)) := fun d _ => iscoll_eq d k1 k4
        rw [small_ok (by omega)]
        simp only [a1, a4, h1, h4, beq_self_eq_true, Bool.true_or, Bool.not_true, Bool.false_eq_true, if_false, if_true, op2, op1, cmp2, chain3, tst, notB, andB, orB, andD, orD, iteM, consM, starM, smallM, tupM, tupSM, lstM, argV, argK, comp1, comp1i, comp2, comp2i, comp11, seqM, rng1, rng2, zipSM, zip2M, zip3M, enumM, repM, joinM, catM, par3LM, put2M, popM, parLV, putVM, unpS, trg1M, sortSetM, orV, lrg1M, par3M, rdM, rdLM, partM, slcM, isiM, rtM, forM1, forM2, forM3, parM, unp2, unp3, unp2A, unp3A, unp4A, ob_pure, ob_some, ob_lift, Option.pure_def, add_int, sub_int, lt_int, le_int, gt_int, ge_int, eq_int, ne_int, min_int, max_int, neg_int, bool_bool, not_bool, is_none, isn_none, nn_int, nn_none, nn_tup, len_tup, len_lst, tup_lst, tup_tup, it_lst, it_tup, int_bool, int_int, oint_int, addI_int, subI_int, flat_tI, flat_int, flat_none, Option.bind_some, Option.map_some, Int.zero_add, thenB, thenM, List.nil_append, List.length_map, decide_true, Bool.true_and]
        rw [lcA_map xs [] e1]
        simp only [List.nil_append, op2, op1, cmp2, chain3, tst, notB, andB, orB, andD, orD, iteM, consM, starM, smallM, tupM, tupSM, lstM, argV, argK, comp1, comp1i, comp2, comp2i, comp11, seqM, rng1, rng2, zipSM, zip2M, zip3M, enumM, repM, joinM, catM, par3LM, put2M, popM, parLV, putVM, unpS, trg1M, sortSetM, orV, lrg1M, par3M, rdM, rdLM, partM, slcM, isiM, rtM, forM1, forM2, forM3, parM, unp2, unp3, unp2A, unp3A, unp4A, ob_pure, ob_some, ob_lift, Option.pure_def, add_int, sub_int, lt_int, le_int, gt_int, ge_int, eq_int, ne_int, min_int, max_int, neg_int, bool_bool, not_bool, is_none, isn_none, nn_int, nn_none, nn_tup, len_tup, len_lst, tup_lst, tup_tup, it_lst, it_tup, int_bool, int_int, oint_int, addI_int, subI_int, flat_tI, flat_int, flat_none, Option.bind_some, Option.map_some, Int.zero_add, thenB, thenM, List.nil_append, List.length_map]
        exact all_raw xs
      · have a1 : (1 : Int) ≤ (xs.length : Int) := by omega
        have a4 : ¬ (xs.length : Int) ≤ 4 := by omega
        simp [a1, a4, h4, bool_bool]
    · have a1 : ¬ (1 : Int) ≤ (xs.length : Int) := by omega
      simp [a1, h1, bool_bool]
  | _ => simp [op2, op1, cmp2, chain3, tst, notB, andB, orB, andD, orD, iteM, consM, starM, smallM, tupM, tupSM, lstM, argV, argK, comp1, comp1i, comp2, comp2i, comp11, seqM, rng1, rng2, zipSM, zip2M, zip3M, enumM, repM, joinM, catM, par3LM, put2M, popM, parLV, putVM, unpS, trg1M, sortSetM, orV, lrg1M, par3M, rdM, rdLM, partM, slcM, isiM, rtM, forM1, forM2, forM3, parM, unp2, unp3, unp2A, unp3A, unp4A, ob_pure, ob_some, ob_lift, Option.pure_def, add_int, sub_int, lt_int, le_int, gt_int, ge_int, eq_int, ne_int, min_int, max_int, neg_int, bool_bool, not_bool, is_none, isn_none, nn_int, nn_none, nn_tup, len_tup, len_lst, tup_lst, tup_tup, it_lst, it_tup, int_bool, int_int, oint_int, addI_int, subI_int, flat_tI, flat_int, flat_none, Option.bind_some, Option.map_some, Int.zero_add, thenB, thenM, List.nil_append, List.length_map, ob_assoc, collsB, isiB, typeN]
/-- the length of a tuple -/
def tlen : D → Nat
  | .tuple xs => xs.length
  | _ => 0
def goodRow (l : Nat) (d : D) : Bool := decide (1 ≤ l ∧ l ≤ 4) && numsB l 50 d
def errL (l : Nat) (xs : List D) : Option Nat := firstN (fun d => !goodRow l d) xs
/-- the first reason why a value is not a stock -/
def errD : D → D
  | .tuple xs => if 1 ≤ xs.length ∧ xs.length ≤ 4 then (match errL (tlen (xs.headD .none)) xs with | some i => .tuple [.int (i : Nat), .str "drawer"] | none => .none) else .tuple [.none, .str "stock"]
  | _ => .tuple [.none, .str "stock"]
theorem serr_eq (d : D) : m_stock_error d = some (errD d) := by
  unfold m_stock_error
  cases d with
  | tuple xs =>
    simp only [op2, op1, cmp2, chain3, tst, notB, andB, orB, andD, orD, iteM, consM, starM, smallM, tupM, tupSM, lstM, argV, argK, comp1, comp1i, comp2, comp2i, comp11, seqM, rng1, rng2, zipSM, zip2M, zip3M, enumM, repM, joinM, catM, par3LM, put2M, popM, parLV, putVM, unpS, trg1M, sortSetM, orV, lrg1M, par3M, rdM, rdLM, partM, slcM, isiM, rtM, forM1, forM2, forM3, parM, unp2, unp3, unp2A, unp3A, unp4A, ob_pure, ob_some, ob_lift, Option.pure_def, add_int, sub_int, lt_int, le_int, gt_int, ge_int, eq_int, ne_int, min_int, max_int, neg_int, bool_bool, not_bool, is_none, isn_none, nn_int, nn_none, nn_tup, len_tup, len_lst, tup_lst, tup_tup, it_lst, it_tup, int_bool, int_int, oint_int, addI_int, subI_int, flat_tI, flat_int, flat_none, Option.bind_some, Option.map_some, Int.zero_add, thenB, thenM, List.nil_append, List.length_map, ob_assoc, errD, isiB, typeN]
    by_cases h1 : 1 ≤ xs.length
    · by_cases h4 : xs.length ≤ 4
      · have a1 : (1 : Int) ≤ (xs.length : Int) := by omega
        have a4 : (xs.length : Int) ≤ 4 := by omega
        cases xs with
        | nil => simp at h1
        | cons x0 rest =>
          have eg : DD.getD (.tuple (x0 :: rest)) (.int 0) = some x0 := atI_at (i := 0) (j := 0) rfl rfl
          simp only [a1, a4, h1, h4, and_self, if_true, decide_true, beq_self_eq_true, Bool.true_or, Bool.not_true, Bool.false_eq_true, if_false, List.headD_cons, eg, op2, op1, cmp2, chain3, tst, notB, andB, orB, andD, orD, iteM, consM, starM, smallM, tupM, tupSM, lstM, argV, argK, comp1, comp1i, comp2, comp2i, comp11, seqM, rng1, rng2, zipSM, zip2M, zip3M, enumM, repM, joinM, catM, par3LM, put2M, popM, parLV, putVM, unpS, trg1M, sortSetM, orV, lrg1M, par3M, rdM, rdLM, partM, slcM, isiM, rtM, forM1, forM2, forM3, parM, unp2, unp3, unp2A, unp3A, unp4A, ob_pure, ob_some, ob_lift, Option.pure_def, add_int, sub_int, lt_int, le_int, gt_int, ge_int, eq_int, ne_int, min_int, max_int, neg_int, bool_bool, not_bool, is_none, isn_none, nn_int, nn_none, nn_tup, len_tup, len_lst, tup_lst, tup_tup, it_lst, it_tup, int_bool, int_int, oint_int, addI_int, subI_int, flat_tI, flat_int, flat_none, Option.bind_some, Option.map_some, Int.zero_add, thenB, thenM, List.nil_append, List.length_map, ob_assoc]
          have en : enumL (x0 :: rest) = ((x0 :: rest).zipIdx).map fun p => .tuple [.int (p.2 : Nat), p.1] := by
            have := enum_map id (x0 :: rest)
            rwa [List.map_id] at this
          by_cases hg0 : 1 ≤ tlen x0 ∧ tlen x0 ≤ 4
          · obtain ⟨r0, rfl⟩ : ∃ r0, x0 = .tuple r0 := by
              cases x0 with
              | tuple r0 => exact ⟨r0, rfl⟩
              | _ => simp [tlen] at hg0
            have hg1 : (1 : Int) ≤ (r0.length : Int) := by have : 1 ≤ r0.length := hg0.1; omega
            have hg4 : (r0.length : Int) ≤ 4 := by have : r0.length ≤ 4 := hg0.2; omega
            simp only [isiB, typeN, hg1, hg4, decide_true, beq_self_eq_true, Bool.true_or, Bool.not_true, Bool.false_eq_true, if_false, if_true, op2, op1, cmp2, chain3, tst, notB, andB, orB, andD, orD, iteM, consM, starM, smallM, tupM, tupSM, lstM, argV, argK, comp1, comp1i, comp2, comp2i, comp11, seqM, rng1, rng2, zipSM, zip2M, zip3M, enumM, repM, joinM, catM, par3LM, put2M, popM, parLV, putVM, unpS, trg1M, sortSetM, orV, lrg1M, par3M, rdM, rdLM, partM, slcM, isiM, rtM, forM1, forM2, forM3, parM, unp2, unp3, unp2A, unp3A, unp4A, ob_pure, ob_some, ob_lift, Option.pure_def, add_int, sub_int, lt_int, le_int, gt_int, ge_int, eq_int, ne_int, min_int, max_int, neg_int, bool_bool, not_bool, is_none, isn_none, nn_int, nn_none, nn_tup, len_tup, len_lst, tup_lst, tup_tup, it_lst, it_tup, int_bool, int_int, oint_int, addI_int, subI_int, flat_tI, flat_int, flat_none, Option.bind_some, Option.map_some, Int.zero_add, thenB, thenM, List.nil_append, List.length_map, ob_assoc]
            rw [en]
            refine bindE (loop_find (m := Option) (p := fun q : D × Nat => !goodRow (tlen (.tuple r0)) q.1) (R := fun q => .tuple [.int (q.2 : Nat), .str "drawer"]) _ fun q hq => ?_) ?_
            · simp only [pairM]
              have : M_are_numbers [.val q.1, .val (.int (r0.length : Nat)), .val (.int 50)] = some (.bool (numsB r0.length 50 q.1)) := arenums_eq q.1 (by omega)
              simp only [this, op2, op1, cmp2, chain3, tst, notB, andB, orB, andD, orD, iteM, consM, starM, smallM, tupM, tupSM, lstM, argV, argK, comp1, comp1i, comp2, comp2i, comp11, seqM, rng1, rng2, zipSM, zip2M, zip3M, enumM, repM, joinM, catM, par3LM, put2M, popM, parLV, putVM, unpS, trg1M, sortSetM, orV, lrg1M, par3M, rdM, rdLM, partM, slcM, isiM, rtM, forM1, forM2, forM3, parM, unp2, unp3, unp2A, unp3A, unp4A, ob_pure, ob_some, ob_lift, Option.pure_def, add_int, sub_int, lt_int, le_int, gt_int, ge_int, eq_int, ne_int, min_int, max_int, neg_int, bool_bool, not_bool, is_none, isn_none, nn_int, nn_none, nn_tup, len_tup, len_lst, tup_lst, tup_tup, it_lst, it_tup, int_bool, int_int, oint_int, addI_int, subI_int, flat_tI, flat_int, flat_none, Option.bind_some, Option.map_some, Int.zero_add, thenB, thenM, List.nil_append, List.length_map, ob_assoc]
              have eq1 : goodRow (tlen (.tuple r0)) q.1 = numsB r0.length 50 q.1 := by
                unfold goodRow
                rw [decide_eq_true hg0]
                rfl
              rw [eq1]
            · unfold errL firstN
              cases ((PyData.tuple r0 :: rest).zipIdx.find? fun q => !goodRow (tlen (.tuple r0)) q.1) <;> rfl
          · have hb : goodRow (tlen x0) x0 = false := by simp [goodRow, hg0]
            have he : errL (tlen x0) (x0 :: rest) = some 0 := by
              unfold errL firstN
              rw [List.zipIdx_cons, List.find?_cons]
              simp [hb]
            rw [he]
            cases x0 with
            | tuple r0 =>
              simp only [isiB, typeN, op2, op1, cmp2, chain3, tst, notB, andB, orB, andD, orD, iteM, consM, starM, smallM, tupM, tupSM, lstM, argV, argK, comp1, comp1i, comp2, comp2i, comp11, seqM, rng1, rng2, zipSM, zip2M, zip3M, enumM, repM, joinM, catM, par3LM, put2M, popM, parLV, putVM, unpS, trg1M, sortSetM, orV, lrg1M, par3M, rdM, rdLM, partM, slcM, isiM, rtM, forM1, forM2, forM3, parM, unp2, unp3, unp2A, unp3A, unp4A, ob_pure, ob_some, ob_lift, Option.pure_def, add_int, sub_int, lt_int, le_int, gt_int, ge_int, eq_int, ne_int, min_int, max_int, neg_int, bool_bool, not_bool, is_none, isn_none, nn_int, nn_none, nn_tup, len_tup, len_lst, tup_lst, tup_tup, it_lst, it_tup, int_bool, int_int, oint_int, addI_int, subI_int, flat_tI, flat_int, flat_none, Option.bind_some, Option.map_some, Int.zero_add, thenB, thenM, List.nil_append, List.length_map, ob_assoc, beq_self_eq_true, Bool.true_or, Bool.not_true, Bool.false_eq_true, if_false]
              have : r0.length < 1 ∨ 4 < r0.length := by
                have : ¬ (1 ≤ r0.length ∧ r0.length ≤ 4) := hg0
                omega
              rcases this with c | c
              · have : ¬ (1 : Int) ≤ (r0.length : Int) := by omega
                simp [this, bool_bool]
              · have c1 : (1 : Int) ≤ (r0.length : Int) := by omega
                have c4 : ¬ (r0.length : Int) ≤ 4 := by omega
                simp [c1, c4, bool_bool]
            | _ => simp [isiB, typeN, op2, op1, cmp2, chain3, tst, notB, andB, orB, andD, orD, iteM, consM, starM, smallM, tupM, tupSM, lstM, argV, argK, comp1, comp1i, comp2, comp2i, comp11, seqM, rng1, rng2, zipSM, zip2M, zip3M, enumM, repM, joinM, catM, par3LM, put2M, popM, parLV, putVM, unpS, trg1M, sortSetM, orV, lrg1M, par3M, rdM, rdLM, partM, slcM, isiM, rtM, forM1, forM2, forM3, parM, unp2, unp3, unp2A, unp3A, unp4A, ob_pure, ob_some, ob_lift, Option.pure_def, add_int, sub_int, lt_int, le_int, gt_int, ge_int, eq_int, ne_int, min_int, max_int, neg_int, bool_bool, not_bool, is_none, isn_none, nn_int, nn_none, nn_tup, len_tup, len_lst, tup_lst, tup_tup, it_lst, it_tup, int_bool, int_int, oint_int, addI_int, subI_int, flat_tI, flat_int, flat_none, Option.bind_some, Option.map_some, Int.zero_add, thenB, thenM, List.nil_append, List.length_map, ob_assoc]
      · have a1 : (1 : Int) ≤ (xs.length : Int) := by omega
        have a4 : ¬ (xs.length : Int) ≤ 4 := by omega
        simp [a1, a4, h4, bool_bool]
    · have a1 : ¬ (1 : Int) ≤ (xs.length : Int) := by omega
      simp [a1, h1, bool_bool]
  | _ => simp [op2, op1, cmp2, chain3, tst, notB, andB, orB, andD, orD, iteM, consM, starM, smallM, tupM, tupSM, lstM, argV, argK, comp1, comp1i, comp2, comp2i, comp11, seqM, rng1, rng2, zipSM, zip2M, zip3M, enumM, repM, joinM, catM, par3LM, put2M, popM, parLV, putVM, unpS, trg1M, sortSetM, orV, lrg1M, par3M, rdM, rdLM, partM, slcM, isiM, rtM, forM1, forM2, forM3, parM, unp2, unp3, unp2A, unp3A, unp4A, ob_pure, ob_some, ob_lift, Option.pure_def, add_int, sub_int, lt_int, le_int, gt_int, ge_int, eq_int, ne_int, min_int, max_int, neg_int, bool_bool, not_bool, is_none, isn_none, nn_int, nn_none, nn_tup, len_tup, len_lst, tup_lst, tup_tup, it_lst, it_tup, int_bool, int_int, oint_int, addI_int, subI_int, flat_tI, flat_int, flat_none, Option.bind_some, Option.map_some, Int.zero_add, thenB, thenM, List.nil_append, List.length_map, ob_assoc, errD, isiB, typeN]
/-! ### edits on any data: the program's functions that raise -/
instance : MoL Xo := ⟨fun _ _ => rfl, fun x f g => by
  match x with
  | some (.ok a) => rfl
  | some (.error e) => rfl
  | none => rfl, fun _ => rfl⟩
theorem upx_p {α : Type} (a : α) : upX (Pure.pure a) = (Pure.pure a : Xo α) := rfl
theorem xo_pb {α β : Type} (a : α) (f : α → Xo β) : ((Pure.pure a : Xo α) >>= f) = f a := rfl
theorem xo_ok {α β : Type} (a : α) (f : α → Xo β) : bind (m := Xo) (some (.ok a) : Option (Except Exn α)) f = f a := rfl
theorem xo_assoc {α β γ : Type} (x : Xo α) (f : α → Xo β) (g : β → Xo γ) : (x >>= f) >>= g = x >>= fun a => f a >>= g := MoL.as x f g
theorem upx_s {α : Type} (a : α) : upX (some a) = (Pure.pure a : Xo α) := rfl
theorem xpure {α : Type} (a : α) : (Pure.pure a : Xo α) = some (.ok a) := rfl
abbrev pkI : D → Int
  | .int x => x
  | _ => 0
theorem numB_int {lo hi : Int} {d : D} (h : numB lo hi d = true) : ∃ x : Int, d = .int x ∧ lo ≤ x ∧ x ≤ hi := by
  cases d with
  | int x => simp only [numB, Bool.and_eq_true, decide_eq_true_eq] at h; exact ⟨x, rfl, h⟩
  | _ => simp [numB] at h
theorem iswithin_eq (d : D) (lo hi : Int) : M_is_within [.val d, .val (.int lo), .val (.int hi)] = some (.bool (numB lo hi d)) := by
  show m_is_within d (.int lo) (.int hi) = _
  unfold m_is_within
  cases d with
  | int i =>
    simp only [op2, op1, cmp2, chain3, tst, notB, andB, orB, andD, orD, iteM, consM, starM, smallM, tupM, tupSM, lstM, argV, argK, comp1, comp1i, comp2, comp2i, comp11, seqM, rng1, rng2, zipSM, zip2M, zip3M, enumM, repM, joinM, catM, par3LM, put2M, popM, parLV, putVM, unpS, trg1M, sortSetM, orV, lrg1M, par3M, rdM, rdLM, partM, slcM, isiM, rtM, forM1, forM2, forM3, parM, unp2, unp3, unp2A, unp3A, unp4A, ob_pure, ob_some, ob_lift, Option.pure_def, add_int, sub_int, lt_int, le_int, gt_int, ge_int, eq_int, ne_int, min_int, max_int, neg_int, bool_bool, not_bool, is_none, isn_none, nn_int, nn_none, nn_tup, len_tup, len_lst, tup_lst, tup_tup, it_lst, it_tup, int_bool, int_int, oint_int, addI_int, subI_int, flat_tI, flat_int, flat_none, Option.bind_some, Option.map_some, Int.zero_add, thenB, thenM, List.nil_append, List.length_map, ob_assoc, numB, isiB, typeN]
    by_cases h : lo ≤ i <;> simp [h]
  | _ => simp [op2, op1, cmp2, chain3, tst, notB, andB, orB, andD, orD, iteM, consM, starM, smallM, tupM, tupSM, lstM, argV, argK, comp1, comp1i, comp2, comp2i, comp11, seqM, rng1, rng2, zipSM, zip2M, zip3M, enumM, repM, joinM, catM, par3LM, put2M, popM, parLV, putVM, unpS, trg1M, sortSetM, orV, lrg1M, par3M, rdM, rdLM, partM, slcM, isiM, rtM, forM1, forM2, forM3, parM, unp2, unp3, unp2A, unp3A, unp4A, ob_pure, ob_some, ob_lift, Option.pure_def, add_int, sub_int, lt_int, le_int, gt_int, ge_int, eq_int, ne_int, min_int, max_int, neg_int, bool_bool, not_bool, is_none, isn_none, nn_int, nn_none, nn_tup, len_tup, len_lst, tup_lst, tup_tup, it_lst, it_tup, int_bool, int_int, oint_int, addI_int, subI_int, flat_tI, flat_int, flat_none, Option.bind_some, Option.map_some, Int.zero_add, thenB, thenM, List.nil_append, List.length_map, ob_assoc, numB, isiB, typeN]
def needE (n k : Nat) (d j c : D) : Option Exn :=
  if numB 0 ((n : Int) - 1) d = false then some ⟨"NoDrawer", [("value", d)]⟩
  else if numB 0 ((k : Int) - 1) j = false then some ⟨"NoKind", [("value", j)]⟩
  else if numB 1 50 c = false then some ⟨"BadCount", [("value", c)]⟩
  else none
def retE {α : Type} (o : Option Exn) (a : α) : Except Exn α := match o with
  | some e => .error e
  | none => .ok a
theorem row_mem {T : List (List Int)} {d : Nat} (h : d < T.length) : T.getD d [] ∈ T := by
  rw [List.getD_eq_getElem?_getD, List.getElem?_eq_getElem h]
  exact List.getElem_mem h
theorem need_eq {m : Int} {k : Nat} {T : List (List Int)} (st : Stk m k T) (d j c : D) : MX_require_things [.val (tT T), .val d, .val j, .val c] = some (retE (needE T.length k d j c) .none) := by
  have l0 : lenD (tT T) = some (.int (T.length : Nat)) := by rw [len_tup, List.length_map]
  have h1 := st.one
  have g0 := get_row (rows := T) (d := 0) h1
  rw [Int.natCast_zero] at g0
  have l1 : lenD (tI (T.getD 0 [])) = some (.int (k : Nat)) := by rw [len_tup, List.length_map, st.len _ (row_mem h1)]
  show mx_require_things _ _ _ _ = _
  unfold mx_require_things needE
  simp only [op2, op1, cmp2, chain3, tst, notB, andB, orB, andD, orD, iteM, consM, starM, smallM, tupM, tupSM, lstM, argV, argK, comp1, comp1i, comp2, comp2i, comp11, seqM, rng1, rng2, zipSM, zip2M, zip3M, enumM, repM, joinM, catM, par3LM, put2M, popM, parLV, putVM, unpS, trg1M, sortSetM, orV, lrg1M, par3M, rdM, rdLM, partM, slcM, isiM, rtM, forM1, forM2, forM3, parM, unp2, unp3, unp2A, unp3A, unp4A, ob_pure, ob_some, ob_lift, Option.pure_def, add_int, sub_int, lt_int, le_int, gt_int, ge_int, eq_int, ne_int, min_int, max_int, neg_int, bool_bool, not_bool, is_none, isn_none, nn_int, nn_none, nn_tup, len_tup, len_lst, tup_lst, tup_tup, it_lst, it_tup, int_bool, int_int, oint_int, addI_int, subI_int, flat_tI, flat_int, flat_none, Option.bind_some, Option.map_some, Int.zero_add, thenB, thenM, List.nil_append, List.length_map, ob_assoc, l0, g0, l1, iswithin_eq, upx_s, xo_pb]
  cases numB 0 ((T.length : Int) - 1) d
  · rfl
  · cases numB 0 ((k : Int) - 1) j
    · rfl
    · cases numB 1 50 c <;> rfl
/-- a row, a table with another number -/
def setR (r : List Int) (j : Nat) (v : Int) : List Int := r.take j ++ [v] ++ r.drop (j + 1)
def setT (T : List (List Int)) (d j : Nat) (v : Int) : List (List Int) := T.take d ++ [setR (T.getD d []) j v] ++ T.drop (d + 1)
theorem setR_len {r : List Int} {j : Nat} {v : Int} (h : j < r.length) : (setR r j v).length = r.length := by simp [setR]; omega
theorem setR_mem {r : List Int} {j : Nat} {v x : Int} (h : x ∈ setR r j v) : x ∈ r ∨ x = v := by
  unfold setR at h
  rcases List.mem_append.mp h with h | h
  · rcases List.mem_append.mp h with h | h
    · exact .inl (List.mem_of_mem_take h)
    · exact .inr (List.mem_singleton.mp h)
  · exact .inl (List.mem_of_mem_drop h)
theorem setT_mem {T : List (List Int)} {d j : Nat} {v : Int} {r : List Int} (h : r ∈ setT T d j v) : r ∈ T ∨ r = setR (T.getD d []) j v := by
  unfold setT at h
  rcases List.mem_append.mp h with h | h
  · rcases List.mem_append.mp h with h | h
    · exact .inl (List.mem_of_mem_take h)
    · exact .inr (List.mem_singleton.mp h)
  · exact .inl (List.mem_of_mem_drop h)
theorem setT_len {T : List (List Int)} {d j : Nat} {v : Int} (h : d < T.length) : (setT T d j v).length = T.length := by simp [setT]; omega
theorem setT_stk {m : Int} {k : Nat} {T : List (List Int)} {d j : Nat} {v : Int} (st : Stk m k T) (hd : d < T.length) (hj : j < k) (hv : 0 ≤ v ∧ v ≤ m) : Stk m k (setT T d j v) := by
  have hrow := row_mem hd
  have hl : (T.getD d []).length = k := st.len _ hrow
  have el := setT_len (j := j) (v := v) hd
  refine ⟨by rw [el]; exact st.one, by rw [el]; exact st.four, st.k1, st.k4, fun r hr => ?_, fun r hr x hx => ?_⟩
  · rcases setT_mem hr with h | rfl
    · exact st.len r h
    · rw [setR_len (by omega), hl]
  · rcases setT_mem hr with h | rfl
    · exact st.ge r h x hx
    · rcases setR_mem hx with h | rfl
      · exact st.ge _ hrow x h
      · exact hv
theorem take_dt {γ : Type} {F : γ → D} (l : List γ) (j : Nat) : (l.map F).take j = (l.take j).map F := (List.map_take ..).symm
theorem drop_dt {γ : Type} {F : γ → D} (l : List γ) (j : Nat) : (l.map F).drop j = (l.drop j).map F := (List.map_drop ..).symm
theorem wnum_eq {m : Int} {k : Nat} {T : List (List Int)} {d j : Nat} {v : Int} (st : Stk m k T) (hd : d < T.length) (hj : j < k) : M_with_number [.val (tT T), .val (.int (d : Nat)), .val (.int (j : Nat)), .val (.int v)] = some (tT (setT T d j v)) := by
  have h4 := st.four
  have hl : (T.getD d []).length = k := st.len _ (row_mem hd)
  have k4 := st.k4
  show m_with_number _ _ _ _ = _
  unfold m_with_number
  simp only [op2, op1, cmp2, chain3, tst, notB, andB, orB, andD, orD, iteM, consM, starM, smallM, tupM, tupSM, lstM, argV, argK, comp1, comp1i, comp2, comp2i, comp11, seqM, rng1, rng2, zipSM, zip2M, zip3M, enumM, repM, joinM, catM, par3LM, put2M, popM, parLV, putVM, unpS, trg1M, sortSetM, orV, lrg1M, par3M, rdM, rdLM, partM, slcM, isiM, rtM, forM1, forM2, forM3, parM, unp2, unp3, unp2A, unp3A, unp4A, ob_pure, ob_some, ob_lift, Option.pure_def, add_int, sub_int, lt_int, le_int, gt_int, ge_int, eq_int, ne_int, min_int, max_int, neg_int, bool_bool, not_bool, is_none, isn_none, nn_int, nn_none, nn_tup, len_tup, len_lst, tup_lst, tup_tup, it_lst, it_tup, int_bool, int_int, oint_int, addI_int, subI_int, flat_tI, flat_int, flat_none, Option.bind_some, Option.map_some, Int.zero_add, thenB, thenM, List.nil_append, List.length_map, ob_assoc, get_row hd]
  rw [show tT T = .tuple (T.map tI) from rfl, show tI (T.getD d []) = .tuple ((T.getD d []).map PyData.int) from rfl]
  rw [cut_loA (by omega), ob_some, cut_loA (by omega), cut_hiA (by omega), cut_hiA (by omega)]
  simp only [op2, op1, cmp2, chain3, tst, notB, andB, orB, andD, orD, iteM, consM, starM, smallM, tupM, tupSM, lstM, argV, argK, comp1, comp1i, comp2, comp2i, comp11, seqM, rng1, rng2, zipSM, zip2M, zip3M, enumM, repM, joinM, catM, par3LM, put2M, popM, parLV, putVM, unpS, trg1M, sortSetM, orV, lrg1M, par3M, rdM, rdLM, partM, slcM, isiM, rtM, forM1, forM2, forM3, parM, unp2, unp3, unp2A, unp3A, unp4A, ob_pure, ob_some, ob_lift, Option.pure_def, add_int, sub_int, lt_int, le_int, gt_int, ge_int, eq_int, ne_int, min_int, max_int, neg_int, bool_bool, not_bool, is_none, isn_none, nn_int, nn_none, nn_tup, len_tup, len_lst, tup_lst, tup_tup, it_lst, it_tup, int_bool, int_int, oint_int, addI_int, subI_int, flat_tI, flat_int, flat_none, Option.bind_some, Option.map_some, Int.zero_add, thenB, thenM, List.nil_append, List.length_map, ob_assoc]
  rw [Int.toNat_natCast, Int.toNat_natCast, show ((d : Int) + 1).toNat = d + 1 by omega, show ((j : Int) + 1).toNat = j + 1 by omega]
  simp only [take_dt, drop_dt]
  generalize hr : T.getD d [] = row at hl ⊢
  rw [small_ok (by simp; omega), ob_some, small_ok (by simp; omega), ob_some]
  subst hr
  simp [setT, setR, tT, tI]
def atT (T : List (List Int)) (d j : Nat) : Int := (T.getD d []).getD j 0
theorem at_T {m : Int} {k : Nat} {T : List (List Int)} {d j : Nat} (st : Stk m k T) (hd : d < T.length) (hj : j < k) : DD.getD (tI (T.getD d [])) (.int (j : Nat)) = some (.int (atT T d j)) := at_int (by rw [st.len _ (row_mem hd)]; exact hj)
theorem at_in {m : Int} {k : Nat} {T : List (List Int)} {d j : Nat} (st : Stk m k T) (hd : d < T.length) (hj : j < k) : 0 ≤ atT T d j ∧ atT T d j ≤ m := getD_in (st.ge _ (row_mem hd)) (i := j) (by rw [st.len _ (row_mem hd)]; exact hj)
def putE (T : List (List Int)) (k : Nat) (d j c : D) : Except Exn (List (List Int)) := match needE T.length k d j c with
  | some e => .error e
  | none => if 50 < atT T (pkI d).toNat (pkI j).toNat + pkI c then .error ⟨"TooMuch", [("total", .int (atT T (pkI d).toNat (pkI j).toNat + pkI c))]⟩ else .ok (setT T (pkI d).toNat (pkI j).toNat (atT T (pkI d).toNat (pkI j).toNat + pkI c))
def remE (T : List (List Int)) (k : Nat) (d j c : D) : Except Exn (List (List Int)) := match needE T.length k d j c with
  | some e => .error e
  | none => if atT T (pkI d).toNat (pkI j).toNat < pkI c then .error ⟨"TooFew", [("kind", j)]⟩ else .ok (setT T (pkI d).toNat (pkI j).toNat (atT T (pkI d).toNat (pkI j).toNat - pkI c))
theorem need_none {n k : Nat} {d j c : D} (h : needE n k d j c = none) : ∃ (dn jn : Nat) (cn : Int), d = .int dn ∧ j = .int jn ∧ c = .int cn ∧ dn < n ∧ jn < k ∧ 1 ≤ cn ∧ cn ≤ 50 := by
  unfold needE at h
  cases h1 : numB 0 ((n : Int) - 1) d with
  | false => rw [h1] at h; cases h
  | true =>
    cases h2 : numB 0 ((k : Int) - 1) j with
    | false => rw [h1, h2] at h; cases h
    | true =>
      cases h3 : numB 1 50 c with
      | false => rw [h1, h2, h3] at h; cases h
      | true =>
        obtain ⟨x, rfl, x0, x1⟩ := numB_int h1
        obtain ⟨y, rfl, y0, y1⟩ := numB_int h2
        obtain ⟨z, rfl, z0, z1⟩ := numB_int h3
        obtain ⟨xn, rfl⟩ := Int.eq_ofNat_of_zero_le x0
        obtain ⟨yn, rfl⟩ := Int.eq_ofNat_of_zero_le y0
        exact ⟨xn, yn, z, rfl, rfl, rfl, by omega, by omega, z0, z1⟩
theorem withT_eq {k : Nat} {T : List (List Int)} (st : Stk 50 k T) (d j c : D) : MX_with_things [.val (tT T), .val d, .val j, .val c] = some ((putE T k d j c).map tT) := by
  have e1 := need_eq st d j c
  show mx_with_things _ _ _ _ = _
  unfold mx_with_things putE
  simp only [argV, ob_pure, upx_p, upx_s, xo_pb, xo_assoc, e1]
  cases hn : needE T.length k d j c with
  | some e => rfl
  | none =>
    obtain ⟨dn, jn, cn, rfl, rfl, rfl, hd, hj, c1, c5⟩ := need_none hn
    have e2 : M_with_number [.val (tT T), .val (.int (dn : Nat)), .val (.int (jn : Nat)), .val (.int (atT T dn jn + cn))] = _ := wnum_eq (v := atT T dn jn + cn) st hd hj
    simp only [retE, xo_ok, op2, op1, cmp2, chain3, tst, notB, andB, orB, andD, orD, iteM, consM, starM, smallM, tupM, tupSM, lstM, argV, argK, comp1, comp1i, comp2, comp2i, comp11, seqM, rng1, rng2, zipSM, zip2M, zip3M, enumM, repM, joinM, catM, par3LM, put2M, popM, parLV, putVM, unpS, trg1M, sortSetM, orV, lrg1M, par3M, rdM, rdLM, partM, slcM, isiM, rtM, forM1, forM2, forM3, parM, unp2, unp3, unp2A, unp3A, unp4A, ob_pure, ob_some, ob_lift, Option.pure_def, add_int, sub_int, lt_int, le_int, gt_int, ge_int, eq_int, ne_int, min_int, max_int, neg_int, bool_bool, not_bool, is_none, isn_none, nn_int, nn_none, nn_tup, len_tup, len_lst, tup_lst, tup_tup, it_lst, it_tup, int_bool, int_int, oint_int, addI_int, subI_int, flat_tI, flat_int, flat_none, Option.bind_some, Option.map_some, Int.zero_add, thenB, thenM, List.nil_append, List.length_map, ob_assoc, get_row hd, at_T st hd hj, upx_s, xo_pb, pkI, Int.toNat_natCast, e2]
    by_cases h : 50 < atT T dn jn + cn
    · rw [if_pos h, decide_eq_true h]; rfl
    · rw [if_neg h, decide_eq_false h]; rfl
theorem lessT_eq {k : Nat} {T : List (List Int)} (st : Stk 50 k T) (d j c : D) : MX_without_things [.val (tT T), .val d, .val j, .val c] = some ((remE T k d j c).map tT) := by
  have e1 := need_eq st d j c
  show mx_without_things _ _ _ _ = _
  unfold mx_without_things remE
  simp only [argV, ob_pure, upx_p, upx_s, xo_pb, xo_assoc, e1]
  cases hn : needE T.length k d j c with
  | some e => rfl
  | none =>
    obtain ⟨dn, jn, cn, rfl, rfl, rfl, hd, hj, c1, c5⟩ := need_none hn
    have e2 : M_with_number [.val (tT T), .val (.int (dn : Nat)), .val (.int (jn : Nat)), .val (.int (atT T dn jn - cn))] = _ := wnum_eq (v := atT T dn jn - cn) st hd hj
    simp only [retE, xo_ok, op2, op1, cmp2, chain3, tst, notB, andB, orB, andD, orD, iteM, consM, starM, smallM, tupM, tupSM, lstM, argV, argK, comp1, comp1i, comp2, comp2i, comp11, seqM, rng1, rng2, zipSM, zip2M, zip3M, enumM, repM, joinM, catM, par3LM, put2M, popM, parLV, putVM, unpS, trg1M, sortSetM, orV, lrg1M, par3M, rdM, rdLM, partM, slcM, isiM, rtM, forM1, forM2, forM3, parM, unp2, unp3, unp2A, unp3A, unp4A, ob_pure, ob_some, ob_lift, Option.pure_def, add_int, sub_int, lt_int, le_int, gt_int, ge_int, eq_int, ne_int, min_int, max_int, neg_int, bool_bool, not_bool, is_none, isn_none, nn_int, nn_none, nn_tup, len_tup, len_lst, tup_lst, tup_tup, it_lst, it_tup, int_bool, int_int, oint_int, addI_int, subI_int, flat_tI, flat_int, flat_none, Option.bind_some, Option.map_some, Int.zero_add, thenB, thenM, List.nil_append, List.length_map, ob_assoc, get_row hd, at_T st hd hj, upx_s, xo_pb, pkI, Int.toNat_natCast, e2]
    by_cases h : atT T dn jn < cn
    · rw [if_pos h, decide_eq_true h]; rfl
    · rw [if_neg h, decide_eq_false h]; rfl
theorem good_coll {k : Nat} {w : List Int} (h : good k 50 w) : collB k (tI w) = true := by
  unfold collB
  rw [ints_nums h.1 h.2.1, posB_tI, Bool.true_and, List.any_eq_true]
  obtain ⟨x, hx, h0⟩ := h.2.2
  exact ⟨x, hx, by simpa using h0⟩
theorem coll_good {k : Nat} {d : D} (h : collB k d = true) : ∃ w, d = tI w ∧ good k 50 w := by
  unfold collB at h
  rw [Bool.and_eq_true] at h
  obtain ⟨r, rfl, h1, h2⟩ := nums_ints h.1
  have h3 := h.2
  rw [posB_tI, List.any_eq_true] at h3
  obtain ⟨x, hx, h0⟩ := h3
  exact ⟨r, rfl, h1, h2, x, hx, by simpa using h0⟩
abbrev pkR : D → List Int
  | .tuple xs => xs.map pkI
  | _ => []
theorem pkR_tI (w : List Int) : pkR (tI w) = w := by simp [pkR, Function.comp_def]
theorem colls_one (k : Nat) (w : D) : collsB k (.tuple [w]) = collB k w := by simp [collsB]
theorem colls_eq {k : Nat} (k1 : 1 ≤ k) (k4 : k ≤ 4) (d : D) : M_are_collections [.val (.int (k : Nat)), .val d] = some (.bool (collsB k d)) := arecolls_eq d k1 (by omega)
def wishE (k : Nat) (ws : List (List Int)) (w : D) : Except Exn (List (List Int)) :=
  if collB k w = false then .error ⟨"BadCollection", [("value", w)]⟩ else if 4 ≤ ws.length then .error ⟨"TooManyCollections", []⟩ else .ok (ws ++ [pkR w])
theorem withC_eq {k : Nat} {ws : List (List Int)} (k1 : 1 ≤ k) (k4 : k ≤ 4) (w4 : ws.length ≤ 4) (w : D) : MX_with_collection [.val (.int (k : Nat)), .val (tT ws), .val w] = some ((wishE k ws w).map tT) := by
  have e1 : M_are_collections [.val (.int (k : Nat)), .val (.tuple [w])] = _ := colls_eq k1 k4 _
  rw [colls_one] at e1
  have e2 : lenD (tT ws) = some (.int (ws.length : Nat)) := by rw [len_tup, List.length_map]
  show mx_with_collection _ _ _ = _
  unfold mx_with_collection wishE
  simp only [op2, op1, cmp2, chain3, tst, notB, andB, orB, andD, orD, iteM, consM, starM, smallM, tupM, tupSM, lstM, argV, argK, comp1, comp1i, comp2, comp2i, comp11, seqM, rng1, rng2, zipSM, zip2M, zip3M, enumM, repM, joinM, catM, par3LM, put2M, popM, parLV, putVM, unpS, trg1M, sortSetM, orV, lrg1M, par3M, rdM, rdLM, partM, slcM, isiM, rtM, forM1, forM2, forM3, parM, unp2, unp3, unp2A, unp3A, unp4A, ob_pure, ob_some, ob_lift, Option.pure_def, add_int, sub_int, lt_int, le_int, gt_int, ge_int, eq_int, ne_int, min_int, max_int, neg_int, bool_bool, not_bool, is_none, isn_none, nn_int, nn_none, nn_tup, len_tup, len_lst, tup_lst, tup_tup, it_lst, it_tup, int_bool, int_int, oint_int, addI_int, subI_int, flat_tI, flat_int, flat_none, Option.bind_some, Option.map_some, Int.zero_add, thenB, thenM, List.nil_append, List.length_map, ob_assoc, e1, e2, upx_s, xo_pb]
  cases hw : collB k w with
  | false => rfl
  | true =>
    obtain ⟨r, rfl, hg⟩ := coll_good hw
    rw [pkR_tI]
    by_cases h : 4 ≤ ws.length
    · have h' : decide (((ws.length : Nat) : Int) ≥ 4) = true := decide_eq_true (by omega)
      rw [if_neg (by simp), if_pos h, h']
      rfl
    · have h' : decide (((ws.length : Nat) : Int) ≥ 4) = false := decide_eq_false (by omega)
      rw [if_neg (by simp), if_neg h, h', small_ok (by simp; omega)]
      simp [tT, upx_s, xpure, Except.map]
      rfl
def dropE (ws : List (List Int)) (i : D) : Except Exn (List (List Int)) :=
  if numB 0 ((ws.length : Int) - 1) i = false then .error ⟨"NoCollection", [("value", i)]⟩ else if ws.length = 1 then .error ⟨"LastCollection", []⟩ else .ok (ws.take (pkI i).toNat ++ ws.drop ((pkI i).toNat + 1))
theorem lessC_eq {ws : List (List Int)} (w4 : ws.length ≤ 4) (i : D) : MX_without_collection [.val (tT ws), .val i] = some ((dropE ws i).map tT) := by
  have e2 : lenD (tT ws) = some (.int (ws.length : Nat)) := by rw [len_tup, List.length_map]
  show mx_without_collection _ _ = _
  unfold mx_without_collection dropE
  simp only [op2, op1, cmp2, chain3, tst, notB, andB, orB, andD, orD, iteM, consM, starM, smallM, tupM, tupSM, lstM, argV, argK, comp1, comp1i, comp2, comp2i, comp11, seqM, rng1, rng2, zipSM, zip2M, zip3M, enumM, repM, joinM, catM, par3LM, put2M, popM, parLV, putVM, unpS, trg1M, sortSetM, orV, lrg1M, par3M, rdM, rdLM, partM, slcM, isiM, rtM, forM1, forM2, forM3, parM, unp2, unp3, unp2A, unp3A, unp4A, ob_pure, ob_some, ob_lift, Option.pure_def, add_int, sub_int, lt_int, le_int, gt_int, ge_int, eq_int, ne_int, min_int, max_int, neg_int, bool_bool, not_bool, is_none, isn_none, nn_int, nn_none, nn_tup, len_tup, len_lst, tup_lst, tup_tup, it_lst, it_tup, int_bool, int_int, oint_int, addI_int, subI_int, flat_tI, flat_int, flat_none, Option.bind_some, Option.map_some, Int.zero_add, thenB, thenM, List.nil_append, List.length_map, ob_assoc, e2, iswithin_eq, upx_s, xo_pb]
  cases hi : numB 0 ((ws.length : Int) - 1) i with
  | false => rfl
  | true =>
    obtain ⟨x, rfl, x0, x1⟩ := numB_int hi
    by_cases h : ws.length = 1
    · have h' : (((ws.length : Nat) : Int) == 1) = true := by rw [beq_iff_eq]; omega
      rw [if_neg (by simp), if_pos h, h']
      rfl
    · have h' : (((ws.length : Nat) : Int) == 1) = false := by rw [beq_eq_false_iff_ne]; omega
      rw [if_neg (by simp), if_neg h, h']
      rw [show tT ws = .tuple (ws.map tI) from rfl]
      simp only [op2, op1, cmp2, chain3, tst, notB, andB, orB, andD, orD, iteM, consM, starM, smallM, tupM, tupSM, lstM, argV, argK, comp1, comp1i, comp2, comp2i, comp11, seqM, rng1, rng2, zipSM, zip2M, zip3M, enumM, repM, joinM, catM, par3LM, put2M, popM, parLV, putVM, unpS, trg1M, sortSetM, orV, lrg1M, par3M, rdM, rdLM, partM, slcM, isiM, rtM, forM1, forM2, forM3, parM, unp2, unp3, unp2A, unp3A, unp4A, ob_pure, ob_some, ob_lift, Option.pure_def, add_int, sub_int, lt_int, le_int, gt_int, ge_int, eq_int, ne_int, min_int, max_int, neg_int, bool_bool, not_bool, is_none, isn_none, nn_int, nn_none, nn_tup, len_tup, len_lst, tup_lst, tup_tup, it_lst, it_tup, int_bool, int_int, oint_int, addI_int, subI_int, flat_tI, flat_int, flat_none, Option.bind_some, Option.map_some, Int.zero_add, thenB, thenM, List.nil_append, List.length_map, ob_assoc]
      rw [cut_loA x0, cut_hiA (by omega)]
      simp only [op2, op1, cmp2, chain3, tst, notB, andB, orB, andD, orD, iteM, consM, starM, smallM, tupM, tupSM, lstM, argV, argK, comp1, comp1i, comp2, comp2i, comp11, seqM, rng1, rng2, zipSM, zip2M, zip3M, enumM, repM, joinM, catM, par3LM, put2M, popM, parLV, putVM, unpS, trg1M, sortSetM, orV, lrg1M, par3M, rdM, rdLM, partM, slcM, isiM, rtM, forM1, forM2, forM3, parM, unp2, unp3, unp2A, unp3A, unp4A, ob_pure, ob_some, ob_lift, Option.pure_def, add_int, sub_int, lt_int, le_int, gt_int, ge_int, eq_int, ne_int, min_int, max_int, neg_int, bool_bool, not_bool, is_none, isn_none, nn_int, nn_none, nn_tup, len_tup, len_lst, tup_lst, tup_tup, it_lst, it_tup, int_bool, int_int, oint_int, addI_int, subI_int, flat_tI, flat_int, flat_none, Option.bind_some, Option.map_some, Int.zero_add, thenB, thenM, List.nil_append, List.length_map, ob_assoc]
      rw [show (x + 1).toNat = x.toNat + 1 by omega]
      simp only [take_dt, drop_dt]
      rw [small_ok (by simp; omega)]
      simp [tT, upx_s, xpure, Except.map]
      rfl
/-! ### cabinets as cells -/
instance : MoL ZX := ⟨fun _ _ => rfl, fun _ _ _ => rfl, fun a => by
  funext n φ ξ
  exact propext ⟨fun ⟨b, e, h⟩ => by cases e; exact h, fun h => ⟨a, rfl, h⟩⟩⟩
theorem get_last (S : List D) (s : D) : DD.getD (.list (S ++ [s])) (.int (-1)) = some s := by
  show L2.atI _ _ = _
  unfold L2.atI
  have e : L2.ixN (S ++ [s]).length (-1) = some S.length := by
    unfold L2.ixN
    rw [if_neg (by decide), if_pos (by rw [List.length_append, List.length_singleton]; omega)]
    congr 1
    rw [List.length_append, List.length_singleton]
    omega
  rw [e]
  simp
abbrev Sta : Type := List (List Int) × List (List Int)
def stD (s : Sta) : D := .tuple [tT s.1, tT s.2]
inductive Ed
  | put (d j c : D)
  | rem (d j c : D)
  | wish (w : D)
  | drop (i : D)
def edD : Ed → D
  | .put d j c => .tuple [.str "put", d, j, c]
  | .rem d j c => .tuple [.str "remove", d, j, c]
  | .wish w => .tuple [.str "wish", w]
  | .drop i => .tuple [.str "drop", i]
/-- an edit's values hold nothing that changes -/
def edOk : Ed → Bool
  | .put d j c => okH d && okH j && okH c
  | .rem d j c => okH d && okH j && okH c
  | .wish w => okH w
  | .drop i => okH i
def edOut (k : Nat) (s : Sta) : Ed → Except Exn Sta
  | .put d j c => (putE s.1 k d j c).map (·, s.2)
  | .rem d j c => (remE s.1 k d j c).map (·, s.2)
  | .wish w => (wishE k s.2 w).map (s.1, ·)
  | .drop i => (dropE s.2 i).map (s.1, ·)
structure GoodS (k : Nat) (s : Sta) : Prop where
  st : Stk 50 k s.1
  ro : Wishes k 50 s.2
theorem take_drop_mem {α : Type} {l : List α} {i : Nat} {x : α} (h : x ∈ l.take i ++ l.drop (i + 1)) : x ∈ l := by
  rcases List.mem_append.mp h with h | h
  · exact List.mem_of_mem_take h
  · exact List.mem_of_mem_drop h
theorem edOut_good {k : Nat} {s s' : Sta} {e : Ed} (g : GoodS k s) (h : edOut k s e = .ok s') : GoodS k s' := by
  obtain ⟨T, ws⟩ := s
  have st := g.st
  have ro := g.ro
  dsimp only at st ro
  cases e with
  | put d j c =>
    cases hp : putE T k d j c with
    | error e => simp [edOut, hp, Except.map] at h
    | ok T' =>
      simp only [edOut, hp, Except.map, Except.ok.injEq] at h
      subst h
      unfold putE at hp
      cases hn : needE T.length k d j c with
      | some e => rw [hn] at hp; cases hp
      | none =>
        rw [hn] at hp
        dsimp only at hp
        obtain ⟨dn, jn, cn, rfl, rfl, rfl, hd, hj, c1, c5⟩ := need_none hn
        split at hp
        · cases hp
        · rename_i hv
          cases hp
          have := at_in st hd hj
          exact ⟨setT_stk st hd hj (by simp only [pkI, Int.toNat_natCast] at hv ⊢; omega), ro⟩
  | rem d j c =>
    cases hp : remE T k d j c with
    | error e => simp [edOut, hp, Except.map] at h
    | ok T' =>
      simp only [edOut, hp, Except.map, Except.ok.injEq] at h
      subst h
      unfold remE at hp
      cases hn : needE T.length k d j c with
      | some e => rw [hn] at hp; cases hp
      | none =>
        rw [hn] at hp
        dsimp only at hp
        obtain ⟨dn, jn, cn, rfl, rfl, rfl, hd, hj, c1, c5⟩ := need_none hn
        split at hp
        · cases hp
        · rename_i hv
          cases hp
          have := at_in st hd hj
          exact ⟨setT_stk st hd hj (by simp only [pkI, Int.toNat_natCast] at hv ⊢; omega), ro⟩
  | wish w =>
    cases hp : wishE k ws w with
    | error e => simp [edOut, hp, Except.map] at h
    | ok ws' =>
      simp only [edOut, hp, Except.map, Except.ok.injEq] at h
      subst h
      unfold wishE at hp
      split at hp
      · cases hp
      · rename_i hc
        split at hp
        · cases hp
        · rename_i h4
          cases hp
          obtain ⟨r, rfl, hg⟩ := coll_good (Bool.not_eq_false _ ▸ hc)
          rw [pkR_tI]
          have hm : ∀ x ∈ ws ++ [r], good k 50 x := fun x hx => by
            rcases List.mem_append.mp hx with h | h
            · exact ⟨ro.len x h, ro.ge x h, ro.pos x h⟩
            · rw [List.mem_singleton.mp h]; exact hg
          exact ⟨st, by simp, by simp; omega, fun x hx => (hm x hx).1, fun x hx => (hm x hx).2.1, fun x hx => (hm x hx).2.2⟩
  | drop i =>
    cases hp : dropE ws i with
    | error e => simp [edOut, hp, Except.map] at h
    | ok ws' =>
      simp only [edOut, hp, Except.map, Except.ok.injEq] at h
      subst h
      unfold dropE at hp
      split at hp
      · cases hp
      · rename_i hc
        split at hp
        · cases hp
        · rename_i h1
          cases hp
          obtain ⟨x, rfl, x0, x1⟩ := numB_int (Bool.not_eq_false _ ▸ hc)
          have o1 := ro.one
          have o4 := ro.four
          exact ⟨st, by simp; omega, by simp; omega, fun r hr => ro.len r (take_drop_mem hr), fun r hr => ro.ge r (take_drop_mem hr), fun r hr => ro.pos r (take_drop_mem hr)⟩
structure Cab (cn : Str) (x : List (Str × D)) (ob : List Cell) (k k1 k2 k3 : Nat) (S N E : List D) (w : Bool) : Prop where
  ins : ob[k]? = some (.ins cn (("states", refL k1) :: ("numbers", refL k2) :: ("standing", refL k3) :: ("watching", .bool w) :: x))
  st : ob[k1]? = some (.lst S)
  nu : ob[k2]? = some (.lst N)
  es : ob[k3]? = some (.lst E)
  n12 : k1 ≠ k2
  n13 : k1 ≠ k3
  n23 : k2 ≠ k3
section
variable {cn : Str} {x : List (Str × D)} {ob : List Cell} {k k1 k2 k3 : Nat} {S N E : List D} {w : Bool}
theorem Cab.states (c : Cab cn x ob k k1 k2 k3 S N E w) : Run (OverZ.up (attrZ cn "states" (refD k))) ob (refL k1) ob := run_attr c.ins (by kernel_rfl)
theorem Cab.numbers (c : Cab cn x ob k k1 k2 k3 S N E w) : Run (OverZ.up (attrZ cn "numbers" (refD k))) ob (refL k2) ob := run_attr c.ins (by kernel_rfl)
theorem Cab.standing (c : Cab cn x ob k k1 k2 k3 S N E w) : Run (OverZ.up (attrZ cn "standing" (refD k))) ob (refL k3) ob := run_attr c.ins (by kernel_rfl)
theorem Cab.watching (c : Cab cn x ob k k1 k2 k3 S N E w) : Run (OverZ.up (attrZ cn "watching" (refD k))) ob (.bool w) ob := run_attr c.ins (by kernel_rfl)
theorem Cab.this (c : Cab cn x ob k k1 k2 k3 S N E w) : Run (OverZ.up (thisZ cn (refD k))) ob () ob := run_this c.ins
/-- a list of the cabinet grows, or another one comes -/
theorem Cab.set1 (c : Cab cn x ob k k1 k2 k3 S N E w) (S' : List D) : Cab cn x (ob.set k1 (.lst S')) k k1 k2 k3 S' N E w := by
  have h1 := c.st
  have hk : k1 ≠ k := fun h => by rw [h, c.ins] at h1; cases h1
  have hl := (List.getElem?_eq_some_iff.mp h1).1
  exact ⟨by rw [List.getElem?_set_ne hk]; exact c.ins, by rw [List.getElem?_set_self hl], by rw [List.getElem?_set_ne c.n12]; exact c.nu, by rw [List.getElem?_set_ne c.n13]; exact c.es, c.n12, c.n13, c.n23⟩
theorem Cab.set2 (c : Cab cn x ob k k1 k2 k3 S N E w) (N' : List D) : Cab cn x (ob.set k2 (.lst N')) k k1 k2 k3 S N' E w := by
  have h1 := c.nu
  have hk : k2 ≠ k := fun h => by rw [h, c.ins] at h1; cases h1
  have hl := (List.getElem?_eq_some_iff.mp h1).1
  exact ⟨by rw [List.getElem?_set_ne hk]; exact c.ins, by rw [List.getElem?_set_ne (Ne.symm c.n12)]; exact c.st, by rw [List.getElem?_set_self hl], by rw [List.getElem?_set_ne c.n23]; exact c.es, c.n12, c.n13, c.n23⟩
theorem Cab.set3 (c : Cab cn x ob k k1 k2 k3 S N E w) (E' : List D) : Cab cn x (ob.set k3 (.lst E')) k k1 k2 k3 S N E' w := by
  have h1 := c.es
  have hk : k3 ≠ k := fun h => by rw [h, c.ins] at h1; cases h1
  have hl := (List.getElem?_eq_some_iff.mp h1).1
  exact ⟨by rw [List.getElem?_set_ne hk]; exact c.ins, by rw [List.getElem?_set_ne (Ne.symm c.n13)]; exact c.st, by rw [List.getElem?_set_ne (Ne.symm c.n23)]; exact c.nu, by rw [List.getElem?_set_self hl], c.n12, c.n13, c.n23⟩
def cabO (ob : List Cell) (k1 k2 k3 : Nat) (S N E : List D) : List Cell := ((ob.set k1 (.lst S)).set k2 (.lst N)).set k3 (.lst E)
theorem Cab.all (c : Cab cn x ob k k1 k2 k3 S N E w) (S' N' E' : List D) : Cab cn x (cabO ob k1 k2 k3 S' N' E') k k1 k2 k3 S' N' E' w := ((c.set1 S').set2 N').set3 E'
theorem cabO_ne {j : Nat} {S N E : List D} (h1 : k1 ≠ j) (h2 : k2 ≠ j) (h3 : k3 ≠ j) : (cabO ob k1 k2 k3 S N E)[j]? = ob[j]? := by
  unfold cabO
  rw [List.getElem?_set_ne h3, List.getElem?_set_ne h2, List.getElem?_set_ne h1]
end
/-! ### the methods of a cabinet -/
section
variable {ob : List Cell} {k k1 k2 k3 n : Nat} {S N E : List D} {w : Bool}
theorem run_stock {s : Sta} (c : Cab "Cabinet" [] ob k k1 k2 k3 (S ++ [stD s]) N E w) : Run (M_Cabinet__stock [.val (refD k)]) ob (tT s.1) ob := by
  show Run (m_Cabinet__stock (refD k)) ob _ ob
  unfold m_Cabinet__stock
  simp only [op2, op1, cmp2, chain3, tst, notB, andB, orB, andD, orD, iteM, consM, starM, smallM, tupM, tupSM, lstM, argV, argK, comp1, comp1i, comp2, comp2i, comp11, seqM, rng1, rng2, zipSM, zip2M, zip3M, enumM, repM, joinM, catM, par3LM, put2M, popM, parLV, putVM, unpS, trg1M, sortSetM, orV, lrg1M, par3M, rdM, rdLM, partM, slcM, isiM, rtM, forM1, forM2, forM3, parM, unp2, unp3, unp2A, unp3A, unp4A, zb_assoc, zb_pure, zl_some, zb_some, zx_assoc, zx_pure, zx_some, upz_pure, add_int, sub_int, lt_int, le_int, gt_int, ge_int, eq_int, ne_int, min_int, max_int, neg_int, bool_bool, not_bool, is_none, isn_none, nn_int, nn_none, nn_tup, len_tup, len_lst, tup_lst, tup_tup, it_lst, it_tup, int_bool, int_int, oint_int, addI_int, subI_int, flat_tI, flat_int, flat_none, Option.bind_some, Option.map_some, Int.zero_add, thenB, thenM, List.nil_append, List.length_map]
  exact Run.bind c.states (Run.bind (run_ix c.st (get_last _ _)) (run_ixD (fun _ h => by cases h) rfl))
theorem run_colls {s : Sta} (c : Cab "Cabinet" [] ob k k1 k2 k3 (S ++ [stD s]) N E w) : Run (M_Cabinet__collections [.val (refD k)]) ob (tT s.2) ob := by
  show Run (m_Cabinet__collections (refD k)) ob _ ob
  unfold m_Cabinet__collections
  simp only [op2, op1, cmp2, chain3, tst, notB, andB, orB, andD, orD, iteM, consM, starM, smallM, tupM, tupSM, lstM, argV, argK, comp1, comp1i, comp2, comp2i, comp11, seqM, rng1, rng2, zipSM, zip2M, zip3M, enumM, repM, joinM, catM, par3LM, put2M, popM, parLV, putVM, unpS, trg1M, sortSetM, orV, lrg1M, par3M, rdM, rdLM, partM, slcM, isiM, rtM, forM1, forM2, forM3, parM, unp2, unp3, unp2A, unp3A, unp4A, zb_assoc, zb_pure, zl_some, zb_some, zx_assoc, zx_pure, zx_some, upz_pure, add_int, sub_int, lt_int, le_int, gt_int, ge_int, eq_int, ne_int, min_int, max_int, neg_int, bool_bool, not_bool, is_none, isn_none, nn_int, nn_none, nn_tup, len_tup, len_lst, tup_lst, tup_tup, it_lst, it_tup, int_bool, int_int, oint_int, addI_int, subI_int, flat_tI, flat_int, flat_none, Option.bind_some, Option.map_some, Int.zero_add, thenB, thenM, List.nil_append, List.length_map]
  exact Run.bind c.states (Run.bind (run_ix c.st (get_last _ _)) (run_ixD (fun _ h => by cases h) rfl))
theorem run_sure {a : D} (c : Cab "Cabinet" [] ob k k1 k2 k3 S (N ++ [a]) E w) : Run (M_Cabinet__sure [.val (refD k)]) ob a ob := by
  show Run (m_Cabinet__sure (refD k)) ob _ ob
  unfold m_Cabinet__sure
  simp only [op2, op1, cmp2, chain3, tst, notB, andB, orB, andD, orD, iteM, consM, starM, smallM, tupM, tupSM, lstM, argV, argK, comp1, comp1i, comp2, comp2i, comp11, seqM, rng1, rng2, zipSM, zip2M, zip3M, enumM, repM, joinM, catM, par3LM, put2M, popM, parLV, putVM, unpS, trg1M, sortSetM, orV, lrg1M, par3M, rdM, rdLM, partM, slcM, isiM, rtM, forM1, forM2, forM3, parM, unp2, unp3, unp2A, unp3A, unp4A, zb_assoc, zb_pure, zl_some, zb_some, zx_assoc, zx_pure, zx_some, upz_pure, add_int, sub_int, lt_int, le_int, gt_int, ge_int, eq_int, ne_int, min_int, max_int, neg_int, bool_bool, not_bool, is_none, isn_none, nn_int, nn_none, nn_tup, len_tup, len_lst, tup_lst, tup_tup, it_lst, it_tup, int_bool, int_int, oint_int, addI_int, subI_int, flat_tI, flat_int, flat_none, Option.bind_some, Option.map_some, Int.zero_add, thenB, thenM, List.nil_append, List.length_map]
  exact Run.bind c.numbers (run_ix c.nu (get_last _ _))
theorem run_lenC (c : Cab "Cabinet" [] ob k k1 k2 k3 S N E w) : Run (M_Cabinet____len__ [.val (refD k)]) ob (.int E.length) ob := by
  show Run (m_Cabinet____len__ (refD k)) ob _ ob
  unfold m_Cabinet____len__
  simp only [op2, op1, cmp2, chain3, tst, notB, andB, orB, andD, orD, iteM, consM, starM, smallM, tupM, tupSM, lstM, argV, argK, comp1, comp1i, comp2, comp2i, comp11, seqM, rng1, rng2, zipSM, zip2M, zip3M, enumM, repM, joinM, catM, par3LM, put2M, popM, parLV, putVM, unpS, trg1M, sortSetM, orV, lrg1M, par3M, rdM, rdLM, partM, slcM, isiM, rtM, forM1, forM2, forM3, parM, unp2, unp3, unp2A, unp3A, unp4A, zb_assoc, zb_pure, zl_some, zb_some, zx_assoc, zx_pure, zx_some, upz_pure, add_int, sub_int, lt_int, le_int, gt_int, ge_int, eq_int, ne_int, min_int, max_int, neg_int, bool_bool, not_bool, is_none, isn_none, nn_int, nn_none, nn_tup, len_tup, len_lst, tup_lst, tup_tup, it_lst, it_tup, int_bool, int_int, oint_int, addI_int, subI_int, flat_tI, flat_int, flat_none, Option.bind_some, Option.map_some, Int.zero_add, thenB, thenM, List.nil_append, List.length_map]
  exact Run.bind c.standing (run_len c.es)
theorem run_idle (c : Cab "Cabinet" [] ob k k1 k2 k3 S N E false) : RunX (MX_Cabinet__require_idle [.val (refD k)]) ob .none ob := by
  show RunX (mx_Cabinet__require_idle (refD k)) ob _ ob
  unfold mx_Cabinet__require_idle
  simp only [op2, op1, cmp2, chain3, tst, notB, andB, orB, andD, orD, iteM, consM, starM, smallM, tupM, tupSM, lstM, argV, argK, comp1, comp1i, comp2, comp2i, comp11, seqM, rng1, rng2, zipSM, zip2M, zip3M, enumM, repM, joinM, catM, par3LM, put2M, popM, parLV, putVM, unpS, trg1M, sortSetM, orV, lrg1M, par3M, rdM, rdLM, partM, slcM, isiM, rtM, forM1, forM2, forM3, parM, unp2, unp3, unp2A, unp3A, unp4A, zb_assoc, zb_pure, zl_some, zb_some, zx_assoc, zx_pure, zx_some, upz_pure, add_int, sub_int, lt_int, le_int, gt_int, ge_int, eq_int, ne_int, min_int, max_int, neg_int, bool_bool, not_bool, is_none, isn_none, nn_int, nn_none, nn_tup, len_tup, len_lst, tup_lst, tup_tup, it_lst, it_tup, int_bool, int_int, oint_int, addI_int, subI_int, flat_tI, flat_int, flat_none, Option.bind_some, Option.map_some, Int.zero_add, thenB, thenM, List.nil_append, List.length_map]
  refine RunX.bU (a := false) (Run.bind c.watching (Run.lift rfl)) ?_
  exact RunX.pure
theorem run_acc (a b : D) : Run (M_Cabinet__accept [.val a, .val b]) ob .none ob := Run.pure
theorem okH_tI (r : List Int) : okH (tI r) = true := by
  show okHs (r.map .int) = true
  induction r with
  | nil => rfl
  | cons x r ih => exact ih
theorem okH_tT (T : List (List Int)) : okH (tT T) = true := by
  show okHs (T.map tI) = true
  induction T with
  | nil => rfl
  | cons x r ih =>
    show (okH (tI x) && okHs (r.map tI)) = true
    rw [okH_tI, ih]
    rfl
theorem okSl_v {d : D} {g : List Sl} (h : okH d = true) (hg : okSl g = true) : okSl (.val d :: g) = true := by
  show (okH d && okSl g) = true
  rw [h, hg]
  rfl
theorem okSl_n : okSl [] = true := rfl
theorem exc_map {α β γ : Type} {r : Except Exn α} {f : α → β} {g : β → γ} : (r.map f).map g = r.map fun a => g (f a) := by cases r <;> rfl
theorem out_hid {g : List Sl} {r : Except Exn (List (List Int))} {x : Xo D} (hs : okSl g = true) (e : x = some (r.map tT)) : OutX (hidX g x) ob (r.map fun T => (tT T, ob)) := by
  cases r with
  | ok T => exact RunX.hid hs e
  | error er => exact ThrX.hid hs e
theorem OutX.map {α β γ : Type} {x : ZX α} {f : α → ZX β} {r : Except Exn γ} {F : γ → α} {G : γ → β} (h : OutX x ob (r.map fun a => (F a, ob))) (hf : ∀ a, RunX (f (F a)) ob (G a) ob) : OutX (x >>= f) ob (r.map fun a => (G a, ob)) := by
  cases r with
  | ok a => exact RunX.bind h (hf a)
  | error e => exact ThrX.here h
theorem out_after {s : Sta} {e : Ed} (g : GoodS n s) (he : edOk e = true) (c : Cab "Cabinet" [] ob k k1 k2 k3 (S ++ [stD s]) N E w) : OutX (MX_Cabinet__state_after [.val (refD k), .val (edD e)]) ob ((edOut n s e).map fun s' => (stD s', ob)) := by
  have st := g.st
  have ro := g.ro
  have k1' := st.k1
  have k4' := st.k4
  have l0 : lenD (tI (s.1.getD 0 [])) = some (.int (n : Nat)) := by rw [len_tup, List.length_map, st.len _ (row_mem st.one)]
  have g0 := get_row (rows := s.1) (d := 0) st.one
  rw [Int.natCast_zero] at g0
  show OutX (mx_Cabinet__state_after (refD k) (edD e)) ob _
  unfold mx_Cabinet__state_after
  simp only [op2, op1, cmp2, chain3, tst, notB, andB, orB, andD, orD, iteM, consM, starM, smallM, tupM, tupSM, lstM, argV, argK, comp1, comp1i, comp2, comp2i, comp11, seqM, rng1, rng2, zipSM, zip2M, zip3M, enumM, repM, joinM, catM, par3LM, put2M, popM, parLV, putVM, unpS, trg1M, sortSetM, orV, lrg1M, par3M, rdM, rdLM, partM, slcM, isiM, rtM, forM1, forM2, forM3, parM, unp2, unp3, unp2A, unp3A, unp4A, zb_assoc, zb_pure, zl_some, zb_some, zx_assoc, zx_pure, zx_some, upz_pure, add_int, sub_int, lt_int, le_int, gt_int, ge_int, eq_int, ne_int, min_int, max_int, neg_int, bool_bool, not_bool, is_none, isn_none, nn_int, nn_none, nn_tup, len_tup, len_lst, tup_lst, tup_tup, it_lst, it_tup, int_bool, int_int, oint_int, addI_int, subI_int, flat_tI, flat_int, flat_none, Option.bind_some, Option.map_some, Int.zero_add, thenB, thenM, List.nil_append, List.length_map]
  refine OutX.bU (a := stD s) (Run.bind c.states (run_ix c.st (get_last _ _))) ?_
  refine OutX.bL (a := (tT s.1, tT s.2)) rfl ?_
  cases e with
  | put d j c =>
    simp only [edOk, Bool.and_eq_true] at he
    refine OutX.bL (a := (.str (Str.ofString "put"), [d, j, c])) rfl ?_
    refine OutX.bL (a := Str.ofString "put") rfl ?_
    rw [if_pos rfl]
    simp only [op2, op1, cmp2, chain3, tst, notB, andB, orB, andD, orD, iteM, consM, starM, smallM, tupM, tupSM, lstM, argV, argK, comp1, comp1i, comp2, comp2i, comp11, seqM, rng1, rng2, zipSM, zip2M, zip3M, enumM, repM, joinM, catM, par3LM, put2M, popM, parLV, putVM, unpS, trg1M, sortSetM, orV, lrg1M, par3M, rdM, rdLM, partM, slcM, isiM, rtM, forM1, forM2, forM3, parM, unp2, unp3, unp2A, unp3A, unp4A, zb_assoc, zb_pure, zl_some, zb_some, zx_assoc, zx_pure, zx_some, upz_pure, add_int, sub_int, lt_int, le_int, gt_int, ge_int, eq_int, ne_int, min_int, max_int, neg_int, bool_bool, not_bool, is_none, isn_none, nn_int, nn_none, nn_tup, len_tup, len_lst, tup_lst, tup_tup, it_lst, it_tup, int_bool, int_int, oint_int, addI_int, subI_int, flat_tI, flat_int, flat_none, Option.bind_some, Option.map_some, Int.zero_add, thenB, thenM, List.nil_append, List.length_map]
    have key := out_hid (ob := ob) (okSl_v (okH_tT s.1) (okSl_v he.1.1 (okSl_v he.1.2 (okSl_v he.2 okSl_n)))) (withT_eq st d j c)
    have := OutX.map (F := tT) (G := fun T => stD (T, s.2)) key (f := fun v => Pure.pure (.tuple [v, tT s.2])) fun T => RunX.pure
    simp only [edOut]
    rw [exc_map]
    exact this
  | rem d j c =>
    simp only [edOk, Bool.and_eq_true] at he
    refine OutX.bL (a := (.str (Str.ofString "remove"), [d, j, c])) rfl ?_
    refine OutX.bL (a := Str.ofString "remove") rfl ?_
    rw [if_neg (by decide), if_pos rfl]
    simp only [op2, op1, cmp2, chain3, tst, notB, andB, orB, andD, orD, iteM, consM, starM, smallM, tupM, tupSM, lstM, argV, argK, comp1, comp1i, comp2, comp2i, comp11, seqM, rng1, rng2, zipSM, zip2M, zip3M, enumM, repM, joinM, catM, par3LM, put2M, popM, parLV, putVM, unpS, trg1M, sortSetM, orV, lrg1M, par3M, rdM, rdLM, partM, slcM, isiM, rtM, forM1, forM2, forM3, parM, unp2, unp3, unp2A, unp3A, unp4A, zb_assoc, zb_pure, zl_some, zb_some, zx_assoc, zx_pure, zx_some, upz_pure, add_int, sub_int, lt_int, le_int, gt_int, ge_int, eq_int, ne_int, min_int, max_int, neg_int, bool_bool, not_bool, is_none, isn_none, nn_int, nn_none, nn_tup, len_tup, len_lst, tup_lst, tup_tup, it_lst, it_tup, int_bool, int_int, oint_int, addI_int, subI_int, flat_tI, flat_int, flat_none, Option.bind_some, Option.map_some, Int.zero_add, thenB, thenM, List.nil_append, List.length_map]
    have key := out_hid (ob := ob) (okSl_v (okH_tT s.1) (okSl_v he.1.1 (okSl_v he.1.2 (okSl_v he.2 okSl_n)))) (lessT_eq st d j c)
    have := OutX.map (F := tT) (G := fun T => stD (T, s.2)) key (f := fun v => Pure.pure (.tuple [v, tT s.2])) fun T => RunX.pure
    simp only [edOut]
    rw [exc_map]
    exact this
  | wish v =>
    refine OutX.bL (a := (.str (Str.ofString "wish"), [v])) rfl ?_
    refine OutX.bL (a := Str.ofString "wish") rfl ?_
    rw [if_neg (by decide), if_neg (by decide), if_pos rfl]
    have hl : Run ((Mo.lift (DD.getD (tT s.1) (.int 0)) : Z D) >>= fun a => Mo.lift (lenD a)) ob (.int (n : Nat)) ob := Run.bL g0 (Run.lift l0)
    simp only [op2, op1, cmp2, chain3, tst, notB, andB, orB, andD, orD, iteM, consM, starM, smallM, tupM, tupSM, lstM, argV, argK, comp1, comp1i, comp2, comp2i, comp11, seqM, rng1, rng2, zipSM, zip2M, zip3M, enumM, repM, joinM, catM, par3LM, put2M, popM, parLV, putVM, unpS, trg1M, sortSetM, orV, lrg1M, par3M, rdM, rdLM, partM, slcM, isiM, rtM, forM1, forM2, forM3, parM, unp2, unp3, unp2A, unp3A, unp4A, zb_assoc, zb_pure, zl_some, zb_some, zx_assoc, zx_pure, zx_some, upz_pure, add_int, sub_int, lt_int, le_int, gt_int, ge_int, eq_int, ne_int, min_int, max_int, neg_int, bool_bool, not_bool, is_none, isn_none, nn_int, nn_none, nn_tup, len_tup, len_lst, tup_lst, tup_tup, it_lst, it_tup, int_bool, int_int, oint_int, addI_int, subI_int, flat_tI, flat_int, flat_none, Option.bind_some, Option.map_some, Int.zero_add, thenB, thenM, List.nil_append, List.length_map]
    refine OutX.bU hl ?_
    have key := out_hid (ob := ob) (okSl_v (d := .int (n : Nat)) rfl (okSl_v (okH_tT s.2) (okSl_v he okSl_n))) (withC_eq k1' k4' ro.four v)
    have := OutX.map (F := tT) (G := fun ws => stD (s.1, ws)) key (f := fun v => Pure.pure (.tuple [tT s.1, v])) fun T => RunX.pure
    simp only [edOut]
    rw [exc_map]
    exact this
  | drop i =>
    refine OutX.bL (a := (.str (Str.ofString "drop"), [i])) rfl ?_
    refine OutX.bL (a := Str.ofString "drop") rfl ?_
    rw [if_neg (by decide), if_neg (by decide), if_neg (by decide)]
    simp only [op2, op1, cmp2, chain3, tst, notB, andB, orB, andD, orD, iteM, consM, starM, smallM, tupM, tupSM, lstM, argV, argK, comp1, comp1i, comp2, comp2i, comp11, seqM, rng1, rng2, zipSM, zip2M, zip3M, enumM, repM, joinM, catM, par3LM, put2M, popM, parLV, putVM, unpS, trg1M, sortSetM, orV, lrg1M, par3M, rdM, rdLM, partM, slcM, isiM, rtM, forM1, forM2, forM3, parM, unp2, unp3, unp2A, unp3A, unp4A, zb_assoc, zb_pure, zl_some, zb_some, zx_assoc, zx_pure, zx_some, upz_pure, add_int, sub_int, lt_int, le_int, gt_int, ge_int, eq_int, ne_int, min_int, max_int, neg_int, bool_bool, not_bool, is_none, isn_none, nn_int, nn_none, nn_tup, len_tup, len_lst, tup_lst, tup_tup, it_lst, it_tup, int_bool, int_int, oint_int, addI_int, subI_int, flat_tI, flat_int, flat_none, Option.bind_some, Option.map_some, Int.zero_add, thenB, thenM, List.nil_append, List.length_map]
    have key := out_hid (ob := ob) (okSl_v (okH_tT s.2) (okSl_v he okSl_n)) (lessC_eq ro.four i)
    have := OutX.map (F := tT) (G := fun ws => stD (s.1, ws)) key (f := fun v => Pure.pure (.tuple [tT s.1, v])) fun T => RunX.pure
    simp only [edOut]
    rw [exc_map]
    exact this
def perfO (n : Nat) (s : Sta) (e : Ed) (ob : List Cell) (k1 k2 k3 : Nat) (S N E : List D) : Except Exn (D × List Cell) :=
  if 60 ≤ E.length then .error ⟨"TooManyEdits", []⟩ else (edOut n s e).map fun s' => (.int ((E.length + 1 : Nat) : Int), cabO ob k1 k2 k3 (S ++ [stD s] ++ [stD s']) (N ++ [oD (sureT s'.1 s'.2 n)]) (E ++ [edD e]))
theorem out_perform {s : Sta} {e : Ed} (g : GoodS n s) (he : edOk e = true) (c : Cab "Cabinet" [] ob k k1 k2 k3 (S ++ [stD s]) N E w) (lS : S.length ≤ 900) (lN : N.length ≤ 900) : OutX (MX_Cabinet__perform [.val (refD k), .val (edD e)]) ob (perfO n s e ob k1 k2 k3 S N E) := by
  show OutX (mx_Cabinet__perform (refD k) (edD e)) ob _
  unfold mx_Cabinet__perform perfO
  simp only [op2, op1, cmp2, chain3, tst, notB, andB, orB, andD, orD, iteM, consM, starM, smallM, tupM, tupSM, lstM, argV, argK, comp1, comp1i, comp2, comp2i, comp11, seqM, rng1, rng2, zipSM, zip2M, zip3M, enumM, repM, joinM, catM, par3LM, put2M, popM, parLV, putVM, unpS, trg1M, sortSetM, orV, lrg1M, par3M, rdM, rdLM, partM, slcM, isiM, rtM, forM1, forM2, forM3, parM, unp2, unp3, unp2A, unp3A, unp4A, zb_assoc, zb_pure, zl_some, zb_some, zx_assoc, zx_pure, zx_some, upz_pure, add_int, sub_int, lt_int, le_int, gt_int, ge_int, eq_int, ne_int, min_int, max_int, neg_int, bool_bool, not_bool, is_none, isn_none, nn_int, nn_none, nn_tup, len_tup, len_lst, tup_lst, tup_tup, it_lst, it_tup, int_bool, int_int, oint_int, addI_int, subI_int, flat_tI, flat_int, flat_none, Option.bind_some, Option.map_some, Int.zero_add, thenB, thenM, List.nil_append, List.length_map]
  refine OutX.bU (a := decide (60 ≤ E.length)) (Run.bind c.standing (Run.bind (run_len c.es) (Run.lift (by simp [ge_int, bool_bool]; omega)))) ?_
  by_cases h60 : 60 ≤ E.length
  · rw [decide_eq_true h60, if_pos rfl, if_pos h60]
    exact ThrX.throw
  · rw [decide_eq_false h60, if_neg Bool.false_ne_true, if_neg h60]
    refine OutX.bO (run_self c.ins (by kernel_rfl)) ?_
    have ha := out_after g he c
    cases hr : edOut n s e with
    | error er =>
      rw [hr] at ha
      exact ThrX.here ha
    | ok s' =>
      rw [hr] at ha
      have g' := edOut_good g hr
      have c1 := c.set1 (S ++ [stD s] ++ [stD s'])
      have c2 := c1.set2 (N ++ [oD (sureT s'.1 s'.2 n)])
      have c3 := c2.set3 (E ++ [edD e])
      refine RunX.bind ha ?_
      refine RunX.bL (a := (tT s'.1, tT s'.2)) rfl ?_
      refine RunX.bU (Run.hid (okSl_v (okH_tT s'.1) (okSl_v (okH_tT s'.2) rfl)) (suret_eq g'.st g'.ro)) ?_
      refine RunX.bU (Run.bind (run_self c.ins (by kernel_rfl)) (run_acc _ _)) ?_
      refine RunX.bU (Run.bind c.states (Run.bind run_only (run_app c.st (by rw [List.length_append]; simp; omega)))) ?_
      refine RunX.bU (Run.bind c1.numbers (Run.bind run_only (run_app c1.nu (by omega)))) ?_
      refine RunX.bU (Run.bind c2.standing (Run.bind run_only (run_app c2.es (by omega)))) ?_
      have := (Run.bind c3.standing (run_len c3.es)).rx
      rw [List.length_append] at this
      exact this
def meD : Ed → List Sl
  | .put d j c => [.val d, .val j, .val c]
  | .rem d j c => [.val d, .val j, .val c]
  | .wish w => [.val w]
  | .drop i => [.val i]
def meF : Ed → List Sl → ZX D
  | .put .. => MX_Cabinet__put
  | .rem .. => MX_Cabinet__remove
  | .wish _ => MX_Cabinet__wish
  | .drop _ => fun _ => Mo.lift none
/-- put, remove, wish, drop -/
theorem out_edit {s : Sta} {e : Ed} (g : GoodS n s) (he : edOk e = true) (hnd : ∀ i, e ≠ .drop i) (c : Cab "Cabinet" [] ob k k1 k2 k3 (S ++ [stD s]) N E false) (lS : S.length ≤ 900) (lN : N.length ≤ 900) : OutX (meF e (.val (refD k) :: meD e)) ob (perfO n s e ob k1 k2 k3 S N E) := by
  have hp := out_perform g he c lS lN
  have hi := run_idle c
  cases e with
  | put d j c' =>
    show OutX (mx_Cabinet__put (refD k) d j c') ob _
    unfold mx_Cabinet__put
    simp only [op2, op1, cmp2, chain3, tst, notB, andB, orB, andD, orD, iteM, consM, starM, smallM, tupM, tupSM, lstM, argV, argK, comp1, comp1i, comp2, comp2i, comp11, seqM, rng1, rng2, zipSM, zip2M, zip3M, enumM, repM, joinM, catM, par3LM, put2M, popM, parLV, putVM, unpS, trg1M, sortSetM, orV, lrg1M, par3M, rdM, rdLM, partM, slcM, isiM, rtM, forM1, forM2, forM3, parM, unp2, unp3, unp2A, unp3A, unp4A, zb_assoc, zb_pure, zl_some, zb_some, zx_assoc, zx_pure, zx_some, upz_pure, add_int, sub_int, lt_int, le_int, gt_int, ge_int, eq_int, ne_int, min_int, max_int, neg_int, bool_bool, not_bool, is_none, isn_none, nn_int, nn_none, nn_tup, len_tup, len_lst, tup_lst, tup_tup, it_lst, it_tup, int_bool, int_int, oint_int, addI_int, subI_int, flat_tI, flat_int, flat_none, Option.bind_some, Option.map_some, Int.zero_add, thenB, thenM, List.nil_append, List.length_map]
    exact OutX.bO (run_self c.ins (by kernel_rfl)) (OutX.bind hi (OutX.bO (run_self c.ins (by kernel_rfl)) hp))
  | rem d j c' =>
    show OutX (mx_Cabinet__remove (refD k) d j c') ob _
    unfold mx_Cabinet__remove
    simp only [op2, op1, cmp2, chain3, tst, notB, andB, orB, andD, orD, iteM, consM, starM, smallM, tupM, tupSM, lstM, argV, argK, comp1, comp1i, comp2, comp2i, comp11, seqM, rng1, rng2, zipSM, zip2M, zip3M, enumM, repM, joinM, catM, par3LM, put2M, popM, parLV, putVM, unpS, trg1M, sortSetM, orV, lrg1M, par3M, rdM, rdLM, partM, slcM, isiM, rtM, forM1, forM2, forM3, parM, unp2, unp3, unp2A, unp3A, unp4A, zb_assoc, zb_pure, zl_some, zb_some, zx_assoc, zx_pure, zx_some, upz_pure, add_int, sub_int, lt_int, le_int, gt_int, ge_int, eq_int, ne_int, min_int, max_int, neg_int, bool_bool, not_bool, is_none, isn_none, nn_int, nn_none, nn_tup, len_tup, len_lst, tup_lst, tup_tup, it_lst, it_tup, int_bool, int_int, oint_int, addI_int, subI_int, flat_tI, flat_int, flat_none, Option.bind_some, Option.map_some, Int.zero_add, thenB, thenM, List.nil_append, List.length_map]
    exact OutX.bO (run_self c.ins (by kernel_rfl)) (OutX.bind hi (OutX.bO (run_self c.ins (by kernel_rfl)) hp))
  | wish v =>
    show OutX (mx_Cabinet__wish (refD k) v) ob _
    unfold mx_Cabinet__wish
    simp only [op2, op1, cmp2, chain3, tst, notB, andB, orB, andD, orD, iteM, consM, starM, smallM, tupM, tupSM, lstM, argV, argK, comp1, comp1i, comp2, comp2i, comp11, seqM, rng1, rng2, zipSM, zip2M, zip3M, enumM, repM, joinM, catM, par3LM, put2M, popM, parLV, putVM, unpS, trg1M, sortSetM, orV, lrg1M, par3M, rdM, rdLM, partM, slcM, isiM, rtM, forM1, forM2, forM3, parM, unp2, unp3, unp2A, unp3A, unp4A, zb_assoc, zb_pure, zl_some, zb_some, zx_assoc, zx_pure, zx_some, upz_pure, add_int, sub_int, lt_int, le_int, gt_int, ge_int, eq_int, ne_int, min_int, max_int, neg_int, bool_bool, not_bool, is_none, isn_none, nn_int, nn_none, nn_tup, len_tup, len_lst, tup_lst, tup_tup, it_lst, it_tup, int_bool, int_int, oint_int, addI_int, subI_int, flat_tI, flat_int, flat_none, Option.bind_some, Option.map_some, Int.zero_add, thenB, thenM, List.nil_append, List.length_map]
    exact OutX.bO (run_self c.ins (by kernel_rfl)) (OutX.bind hi (OutX.bO (run_self c.ins (by kernel_rfl)) hp))
  | drop i => exact absurd rfl (hnd i)
end
/-! ### a new cabinet -/
theorem runx_ifF {α : Type} {t : Prop} [Decidable t] {x y : ZX α} {ob o1 : List Cell} {a : α} (h : ¬ t) (hy : RunX y ob a o1) : RunX (if t then x else y) ob a o1 := by rw [if_neg h]; exact hy
theorem runx_ifT {α : Type} {t : Prop} [Decidable t] {x y : ZX α} {ob o1 : List Cell} {a : α} (h : t) (hy : RunX x ob a o1) : RunX (if t then x else y) ob a o1 := by rw [if_pos h]; exact hy
theorem run_ifF {α : Type} {t : Prop} [Decidable t] {x y : Z α} {ob o1 : List Cell} {a : α} (h : ¬ t) (hy : Run y ob a o1) : Run (if t then x else y) ob a o1 := by rw [if_neg h]; exact hy
theorem run_ifT {α : Type} {t : Prop} [Decidable t] {x y : Z α} {ob o1 : List Cell} {a : α} (h : t) (hy : Run x ob a o1) : Run (if t then x else y) ob a o1 := by rw [if_pos h]; exact hy
theorem Run.to {α : Type} {x : Z α} {ob o1 o2 : List Cell} {a : α} (h : Run x ob a o1) (e : o1 = o2) : Run x ob a o2 := e ▸ h
theorem RunX.to {α : Type} {x : ZX α} {ob o1 o2 : List Cell} {a : α} (h : RunX x ob a o1) (e : o1 = o2) : RunX x ob a o2 := e ▸ h
theorem set_mid {ob : List Cell} {x y : Cell} {r : List Cell} : (ob ++ x :: r).set ob.length y = ob ++ y :: r := by
  rw [List.set_append_right _ _ (Nat.le_refl _), Nat.sub_self]
  rfl
theorem at_mid {ob : List Cell} {x : Cell} {r : List Cell} : (ob ++ x :: r)[ob.length]? = some x := by
  rw [List.getElem?_append_right (Nat.le_refl _), Nat.sub_self]
  rfl
def cabNew (cn : Str) (x : List (Str × D)) (l : Nat) (S N E : List D) (w : Bool) : List Cell := [.ins cn (("states", refL (l + 1)) :: ("numbers", refL (l + 2)) :: ("standing", refL (l + 3)) :: ("watching", .bool w) :: x), .lst S, .lst N, .lst E]
theorem cab_new {cn : Str} {x : List (Str × D)} {ob : List Cell} {S N E : List D} {w : Bool} : Cab cn x (ob ++ cabNew cn x ob.length S N E w) ob.length (ob.length + 1) (ob.length + 2) (ob.length + 3) S N E w := by
  have h : ∀ j, (ob ++ cabNew cn x ob.length S N E w)[ob.length + j]? = (cabNew cn x ob.length S N E w)[j]? := fun j => by
    rw [List.getElem?_append_right (by omega)]
    congr 1
    omega
  exact ⟨h 0, h 1, h 2, h 3, by omega, by omega, by omega⟩
theorem run_fld {f c : Str} {v : D} {fs : List (Str × D)} {ob r : List Cell} (hl : fs.length < 900) : Run (OverZ.up (setAZ c f (refD ob.length) v)) (ob ++ .ins c fs :: r) () (ob ++ .ins c (putL f v fs) :: r) := (run_setA at_mid hl).to set_mid
theorem run_newF {f c : Str} {S : List D} {fs : List (Str × D)} {ob r : List Cell} (hl : fs.length < 900) : Run (newZ S >>= fun v => OverZ.up (setAZ c f (refD ob.length) v)) (ob ++ .ins c fs :: r) () (ob ++ .ins c (putL f (refL (ob.length + (r.length + 1))) fs) :: (r ++ [.lst S])) := by
  refine Run.bind run_newZ ?_
  rw [List.length_append, List.length_cons, List.append_assoc, List.cons_append]
  exact run_fld hl
theorem errD_good {k : Nat} {T : List (List Int)} (st : Stk 50 k T) : errD (tT T) = .none := by
  have f1 := st.one
  have f4 := st.four
  have k1 := st.k1
  have k4 := st.k4
  show (if 1 ≤ (T.map tI).length ∧ (T.map tI).length ≤ 4 then _ else _) = _
  rw [if_pos (by rw [List.length_map]; exact ⟨f1, f4⟩)]
  have hl : tlen ((T.map tI).headD .none) = k := by
    cases T with
    | nil => simp at f1
    | cons r T => show (r.map PyData.int).length = k; rw [List.length_map]; exact st.len r List.mem_cons_self
  rw [hl]
  have : errL k (T.map tI) = none := by
    unfold errL firstN
    rw [Option.map_eq_none_iff, List.find?_eq_none]
    intro q hq
    have hd : q.1 ∈ T.map tI := List.mem_of_getElem? (List.mem_zipIdx_iff_getElem?.mp hq)
    obtain ⟨r, hr, e⟩ := List.mem_map.mp hd
    rw [← e]
    have hg : goodRow k (tI r) = true := by
      unfold goodRow
      rw [decide_eq_true ⟨k1, k4⟩, Bool.true_and]
      show (decide ((r.map PyData.int).length = k) && (r.map PyData.int).all (numB 0 50)) = true
      rw [List.length_map, decide_eq_true (st.len r hr), Bool.true_and, List.all_eq_true]
      intro x hx
      obtain ⟨y, hy, rfl⟩ := List.mem_map.mp hx
      have := st.ge r hr y hy
      show (decide (0 ≤ y) && decide (y ≤ 50)) = true
      rw [decide_eq_true this.1, decide_eq_true this.2]
      rfl
    show ¬ (!goodRow k (tI r)) = true
    rw [hg]
    simp
  rw [this]
theorem colls_good {k : Nat} {ws : List (List Int)} (ro : Wishes k 50 ws) : collsB k (tT ws) = true := by
  have h1 := ro.one
  have h4 := ro.four
  show (decide (1 ≤ (ws.map tI).length) && decide ((ws.map tI).length ≤ 4) && (ws.map tI).all (collB k)) = true
  rw [List.length_map, decide_eq_true h1, decide_eq_true h4, Bool.true_and, Bool.true_and, List.all_eq_true]
  rintro _ hd
  obtain ⟨w, hw, rfl⟩ := List.mem_map.mp hd
  exact good_coll ⟨ro.len w hw, ro.ge w hw, ro.pos w hw⟩
theorem run_newC {ob : List Cell} {n : Nat} {s : Sta} (g : GoodS n s) : RunX (OverZ.up (newI "Cabinet") >>= fun d => MX_Cabinet____init__ [.val d, .val (tT s.1), .val (tT s.2)] >>= fun r => Mo.lift (nonO r) >>= fun _ => (Pure.pure d : ZX D)) ob (refD ob.length) (ob ++ cabNew "Cabinet" [] ob.length [stD s] [oD (sureT s.1 s.2 n)] [] false) := by
  have st := g.st
  have ro := g.ro
  have l0 : lenD (tI (s.1.getD 0 [])) = some (.int (n : Nat)) := by rw [len_tup, List.length_map, st.len _ (row_mem st.one)]
  have g0 := get_row (rows := s.1) (d := 0) st.one
  rw [Int.natCast_zero] at g0
  have es : M_stock_error [.val (tT s.1)] = some .none := (serr_eq (tT s.1)).trans (by rw [errD_good st])
  have ec : M_are_collections [.val (.int (n : Nat)), .val (tT s.2)] = some (.bool true) := by
    rw [colls_eq st.k1 st.k4, colls_good ro]
  have eu : M_sure_total [.val (tT s.1), .val (tT s.2)] = some (oD (sureT s.1 s.2 n)) := suret_eq st ro
  have o1 := okH_tT s.1
  have o2 := okH_tT s.2
  refine RunX.bO run_newI ?_
  have key : RunX (MX_Cabinet____init__ [.val (refD ob.length), .val (tT s.1), .val (tT s.2)]) (ob ++ [.ins "Cabinet" []]) .none (ob ++ cabNew "Cabinet" [] ob.length [stD s] [oD (sureT s.1 s.2 n)] [] false) := by
    show RunX (mx_Cabinet____init__ (refD ob.length) (tT s.1) (tT s.2)) _ _ _
    unfold mx_Cabinet____init__
    simp only [op2, op1, cmp2, chain3, tst, notB, andB, orB, andD, orD, iteM, consM, starM, smallM, tupM, tupSM, lstM, argV, argK, comp1, comp1i, comp2, comp2i, comp11, seqM, rng1, rng2, zipSM, zip2M, zip3M, enumM, repM, joinM, catM, par3LM, put2M, popM, parLV, putVM, unpS, trg1M, sortSetM, orV, lrg1M, par3M, rdM, rdLM, partM, slcM, isiM, rtM, forM1, forM2, forM3, parM, unp2, unp3, unp2A, unp3A, unp4A, zb_assoc, zb_pure, zl_some, zb_some, zx_assoc, zx_pure, zx_some, upz_pure, add_int, sub_int, lt_int, le_int, gt_int, ge_int, eq_int, ne_int, min_int, max_int, neg_int, bool_bool, not_bool, is_none, isn_none, nn_int, nn_none, nn_tup, len_tup, len_lst, tup_lst, tup_tup, it_lst, it_tup, int_bool, int_int, oint_int, addI_int, subI_int, flat_tI, flat_int, flat_none, Option.bind_some, Option.map_some, Int.zero_add, thenB, thenM, List.nil_append, List.length_map, es, ec, eu, g0, l0, ob_assoc, ob_pure, ob_some]
    refine RunX.bU (Run.hid (okSl_v o1 rfl) rfl) ?_
    simp only [op2, op1, cmp2, chain3, tst, notB, andB, orB, andD, orD, iteM, consM, starM, smallM, tupM, tupSM, lstM, argV, argK, comp1, comp1i, comp2, comp2i, comp11, seqM, rng1, rng2, zipSM, zip2M, zip3M, enumM, repM, joinM, catM, par3LM, put2M, popM, parLV, putVM, unpS, trg1M, sortSetM, orV, lrg1M, par3M, rdM, rdLM, partM, slcM, isiM, rtM, forM1, forM2, forM3, parM, unp2, unp3, unp2A, unp3A, unp4A, zb_assoc, zb_pure, zl_some, zb_some, zx_assoc, zx_pure, zx_some, upz_pure, add_int, sub_int, lt_int, le_int, gt_int, ge_int, eq_int, ne_int, min_int, max_int, neg_int, bool_bool, not_bool, is_none, isn_none, nn_int, nn_none, nn_tup, len_tup, len_lst, tup_lst, tup_tup, it_lst, it_tup, int_bool, int_int, oint_int, addI_int, subI_int, flat_tI, flat_int, flat_none, Option.bind_some, Option.map_some, Int.zero_add, thenB, thenM, List.nil_append, List.length_map]
    refine runx_ifF (fun h => by cases h) ?_
    refine RunX.bU (a := false) (Run.hid (okSl_v o1 (okSl_v o2 rfl)) (by simp only [op2, op1, cmp2, chain3, tst, notB, andB, orB, andD, orD, iteM, consM, starM, smallM, tupM, tupSM, lstM, argV, argK, comp1, comp1i, comp2, comp2i, comp11, seqM, rng1, rng2, zipSM, zip2M, zip3M, enumM, repM, joinM, catM, par3LM, put2M, popM, parLV, putVM, unpS, trg1M, sortSetM, orV, lrg1M, par3M, rdM, rdLM, partM, slcM, isiM, rtM, forM1, forM2, forM3, parM, unp2, unp3, unp2A, unp3A, unp4A, ob_pure, ob_some, ob_lift, Option.pure_def, add_int, sub_int, lt_int, le_int, gt_int, ge_int, eq_int, ne_int, min_int, max_int, neg_int, bool_bool, not_bool, is_none, isn_none, nn_int, nn_none, nn_tup, len_tup, len_lst, tup_lst, tup_tup, it_lst, it_tup, int_bool, int_int, oint_int, addI_int, subI_int, flat_tI, flat_int, flat_none, Option.bind_some, Option.map_some, Int.zero_add, thenB, thenM, List.nil_append, List.length_map, ob_assoc, l0, ec]; rfl)) ?_
    refine runx_ifF (fun h => by cases h) ?_
    refine RunX.bU (run_newF (r := []) (by decide)) ?_
    refine RunX.bU (Run.bind (Run.hid (okSl_v o1 (okSl_v o2 rfl)) rfl) (run_newF (r := [_]) (show 1 < 900 by decide))) ?_
    refine RunX.bU (run_newF (r := [_, _]) (show 2 < 900 by decide)) ?_
    refine RunX.bU (run_fld (r := [_, _, _]) (show 3 < 900 by decide)) ?_
    exact RunX.pure
  exact RunX.bind key (RunX.bL rfl RunX.pure)
/-! ### the law's own edits -/
def lsD (s : Sta) : D := .list [tT s.1, tT s.2]
/-! ### cabinets drawn -/
theorem put_intI {l : List Int} {i : Int} {v : Int} (h0 : 0 ≤ i) (h : i < l.length) : putD (l.map PyData.int) (.int i) (.int v) = some ((l.set i.toNat v).map .int) := by
  have e : i = (i.toNat : Nat) := by omega
  rw [e, put_at (by rw [List.length_map]; omega), List.map_set]
  rfl
theorem ints_all {α : Type} {P : Int → Prop} {ds : List α} {es : List D} (hl : es.length = ds.length) (h : ∀ (i : Nat) (d : α) (e : D), ds[i]? = some d → es[i]? = some e → ∃ x, e = .int x ∧ P x) : ∃ xs : List Int, es = xs.map .int ∧ ∀ x ∈ xs, P x :=
  ints_ex es fun e he => by
    obtain ⟨i, hi, rfl⟩ := List.mem_iff_getElem.mp he
    exact h i ds[i] es[i] (List.getElem?_eq_getElem (by omega)) (List.getElem?_eq_getElem hi)
theorem lcoll_ok {k : Nat} {m : Int} (k1 : 1 ≤ k) (k4 : k ≤ 4) (m1 : 1 ≤ m) (m2 : m ≤ 50) : Tri 10 (m__law_collection (.int (k : Nat)) (.int m)) (fun d => ∃ r, d = tI r ∧ good k m r) := by
  unfold m__law_collection
  simp only [op2, op1, cmp2, chain3, tst, notB, andB, orB, andD, orD, iteM, consM, starM, smallM, tupM, tupSM, lstM, argV, argK, comp1, comp1i, comp2, comp2i, comp11, seqM, rng1, rng2, zipSM, zip2M, zip3M, enumM, repM, joinM, catM, par3LM, put2M, popM, parLV, putVM, unpS, trg1M, sortSetM, orV, lrg1M, par3M, rdM, rdLM, partM, slcM, isiM, rtM, forM1, forM2, forM3, parM, unp2, unp3, unp2A, unp3A, unp4A, wb_assoc, wb_pure, wl_some, wu_some, add_int, sub_int, lt_int, le_int, gt_int, ge_int, eq_int, ne_int, min_int, max_int, neg_int, bool_bool, not_bool, is_none, isn_none, nn_int, nn_none, nn_tup, len_tup, len_lst, tup_lst, tup_tup, it_lst, it_tup, int_bool, int_int, oint_int, addI_int, subI_int, flat_tI, flat_int, flat_none, Option.bind_some, Option.map_some, Int.zero_add, thenB, thenM, List.nil_append, List.length_map]
  refine Tri.bindL (range1_ok (by omega) (by omega)) (Tri.bindL (small_ok (by rw [rangeL_length]; omega)) ?_)
  refine Tri.st (b := 8) ((Tri.comp (c := 2) (P := fun _ e => ∃ x : Int, e = .int x ∧ 0 ≤ x ∧ x ≤ m) _ [] fun d hd => ?_).le (by rw [rangeL_length]; omega)) ?_
  · refine Tri.dr (by omega) (by omega) fun x x0 x1 => Tri.dr (by decide) (by decide) fun y y0 y1 => ?_
    have : y = 0 ∨ y = 1 := by omega
    refine Tri.li (mul_int (.inr ⟨by omega, by omega⟩)) ⟨_, rfl, ?_⟩
    rcases this with rfl | rfl <;> omega
  · rintro _ ⟨es, rfl, hl, hes⟩
    rw [rangeL_length, Int.toNat_natCast] at hl
    obtain ⟨xs, rfl, hxs⟩ := ints_all (ds := rangeL 0 k) (by rw [rangeL_length]; exact hl) hes
    have hxl : xs.length = k := by simpa using hl
    refine Tri.dr (by omega) (by omega) fun j j0 j1 => ?_
    obtain ⟨jn, rfl⟩ := Int.eq_ofNat_of_zero_le j0
    have hj : jn < xs.length := by omega
    have hv := hxs _ (List.getElem_mem hj)
    have e1 : DD.getD (.list (xs.map PyData.int)) (.int (jn : Nat)) = some (.int xs[jn]) := get_lst hj
    simp only [e1, op2, op1, cmp2, chain3, tst, notB, andB, orB, andD, orD, iteM, consM, starM, smallM, tupM, tupSM, lstM, argV, argK, comp1, comp1i, comp2, comp2i, comp11, seqM, rng1, rng2, zipSM, zip2M, zip3M, enumM, repM, joinM, catM, par3LM, put2M, popM, parLV, putVM, unpS, trg1M, sortSetM, orV, lrg1M, par3M, rdM, rdLM, partM, slcM, isiM, rtM, forM1, forM2, forM3, parM, unp2, unp3, unp2A, unp3A, unp4A, wb_assoc, wb_pure, wl_some, wu_some, add_int, sub_int, lt_int, le_int, gt_int, ge_int, eq_int, ne_int, min_int, max_int, neg_int, bool_bool, not_bool, is_none, isn_none, nn_int, nn_none, nn_tup, len_tup, len_lst, tup_lst, tup_tup, it_lst, it_tup, int_bool, int_int, oint_int, addI_int, subI_int, flat_tI, flat_int, flat_none, Option.bind_some, Option.map_some, Int.zero_add, thenB, thenM, List.nil_append, List.length_map, put_intI (v := max 1 xs[jn]) (Int.natCast_nonneg jn) (show (jn : Int) < xs.length by omega)]
    refine Tri.pr ⟨xs.set jn (max 1 xs[jn]), by rw [Int.toNat_natCast] <;> rfl, by rw [List.length_set]; exact hxl, fun x hx => ?_, max 1 xs[jn], ?_, by omega⟩
    · rcases List.mem_or_eq_of_mem_set hx with z | rfl
      · exact hxs x z
      · omega
    · exact List.mem_iff_getElem.mpr ⟨jn, by rw [List.length_set]; exact hj, by rw [List.getElem_set_self]⟩
theorem lwish_ok {k : Nat} {m : Int} (k1 : 1 ≤ k) (k4 : k ≤ 4) (m1 : 1 ≤ m) (m2 : m ≤ 50) : Tri 41 (m__law_wish (.int (k : Nat)) (.int m)) (fun d => ∃ rows, d = tT rows ∧ Wishes k m rows) := by
  unfold m__law_wish
  simp only [op2, op1, cmp2, chain3, tst, notB, andB, orB, andD, orD, iteM, consM, starM, smallM, tupM, tupSM, lstM, argV, argK, comp1, comp1i, comp2, comp2i, comp11, seqM, rng1, rng2, zipSM, zip2M, zip3M, enumM, repM, joinM, catM, par3LM, put2M, popM, parLV, putVM, unpS, trg1M, sortSetM, orV, lrg1M, par3M, rdM, rdLM, partM, slcM, isiM, rtM, forM1, forM2, forM3, parM, unp2, unp3, unp2A, unp3A, unp4A, wb_assoc, wb_pure, wl_some, wu_some, add_int, sub_int, lt_int, le_int, gt_int, ge_int, eq_int, ne_int, min_int, max_int, neg_int, bool_bool, not_bool, is_none, isn_none, nn_int, nn_none, nn_tup, len_tup, len_lst, tup_lst, tup_tup, it_lst, it_tup, int_bool, int_int, oint_int, addI_int, subI_int, flat_tI, flat_int, flat_none, Option.bind_some, Option.map_some, Int.zero_add, thenB, thenM, List.nil_append, List.length_map]
  refine Tri.dr (by decide) (by decide) fun q q0 q1 => Tri.bindL (add_int _ _) (Tri.bindL (range1_ok (by omega) (by omega)) (Tri.bindL (small_ok (by rw [rangeL_length]; omega)) ?_))
  refine Tri.st (b := 40) ((Tri.comp (c := 10) (P := fun _ e => ∃ r, e = tI r ∧ good k m r) _ [] fun d hd => lcoll_ok k1 k4 m1 m2).le (by rw [rangeL_length]; omega)) ?_
  rintro out ⟨es, eo, hl, hes⟩
  rw [eo, List.nil_append]
  rw [rangeL_length] at hl
  have hall : ∀ e ∈ es, ∃ r, e = tI r ∧ good k m r := fun e he => by
    obtain ⟨i, hi, rfl⟩ := List.mem_iff_getElem.mp he
    have hi2 : i < (rangeL 0 (1 + q).toNat).length := by rw [rangeL_length]; omega
    exact hes i _ es[i] (List.getElem?_eq_getElem hi2) (List.getElem?_eq_getElem hi)
  obtain ⟨rs, rfl, hr⟩ := rows_ex es hall
  rw [List.length_map] at hl
  exact Tri.pr ⟨rs, rfl, by omega, by omega, fun r h => (hr r h).1, fun r h => (hr r h).2.1, fun r h => (hr r h).2.2⟩
theorem lstock_ok {dr m : Int} (d1 : 1 ≤ dr) (d4 : dr ≤ 4) (m1 : 1 ≤ m) (m2 : m ≤ 50) : Tri 40 (m__law_stock (.int dr) (.int m)) (fun d => ∃ T k, d = tT T ∧ Stk m k T ∧ (T.length : Int) ≤ dr) := by
  unfold m__law_stock
  simp only [op2, op1, cmp2, chain3, tst, notB, andB, orB, andD, orD, iteM, consM, starM, smallM, tupM, tupSM, lstM, argV, argK, comp1, comp1i, comp2, comp2i, comp11, seqM, rng1, rng2, zipSM, zip2M, zip3M, enumM, repM, joinM, catM, par3LM, put2M, popM, parLV, putVM, unpS, trg1M, sortSetM, orV, lrg1M, par3M, rdM, rdLM, partM, slcM, isiM, rtM, forM1, forM2, forM3, parM, unp2, unp3, unp2A, unp3A, unp4A, wb_assoc, wb_pure, wl_some, wu_some, add_int, sub_int, lt_int, le_int, gt_int, ge_int, eq_int, ne_int, min_int, max_int, neg_int, bool_bool, not_bool, is_none, isn_none, nn_int, nn_none, nn_tup, len_tup, len_lst, tup_lst, tup_tup, it_lst, it_tup, int_bool, int_int, oint_int, addI_int, subI_int, flat_tI, flat_int, flat_none, Option.bind_some, Option.map_some, Int.zero_add, thenB, thenM, List.nil_append, List.length_map]
  refine Tri.dr (by decide) (by decide) fun a a0 a1 => Tri.bindL (add_int _ _) (Tri.dr (by decide) (by decide) fun w w0 w1 => Tri.dr (by omega) (by omega) fun b b0 b1 => Tri.bindL (add_int _ _) (Tri.bindL (range1_ok (by omega) (by omega)) ?_))
  obtain ⟨kn, hkn⟩ : ∃ kn : Nat, 1 + a = (kn : Int) := ⟨(1 + a).toNat, by omega⟩
  rw [hkn]
  refine Tri.thM (b := 4 * 8) ((Tri.loopR (c := 8) (I := fun i acc => ∃ rows : List (List Int), acc = rows.map tI ∧ rows.length = i ∧ ∀ r ∈ rows, r.length = kn ∧ ∀ x ∈ r, 0 ≤ x ∧ x ≤ m) (R := fun _ => False) ⟨[], rfl, rfl, fun _ h => by cases h⟩ fun i acc hi ⟨rows, ea, el, hg⟩ => ?_).le (by omega)) fun acc ⟨rows, ea, el, hg⟩ => ?_
  · subst ea
    refine Tri.bindL (range1_ok (by omega) (by omega)) (Tri.bindL (small_ok (by rw [rangeL_length]; omega)) ?_)
    refine Tri.st (b := 4) ((Tri.comp (c := 1) (P := fun _ d => ∃ y : Int, d = .int y ∧ 0 ≤ y ∧ y ≤ m) _ [] fun d hd => ?_).le (by rw [rangeL_length]; omega)) ?_
    · exact (Tri.draw (by omega) (by omega)).mono (by decide) fun e ⟨x, ex, x0, x1⟩ => ⟨x, ex, x0, by omega⟩
    · rintro out ⟨es, eo, hl, hes⟩
      rw [eo, List.nil_append]
      rw [rangeL_length, Int.toNat_natCast] at hl
      obtain ⟨xs, hx, hxs⟩ := ints_all (ds := rangeL 0 kn) (by rw [rangeL_length]; exact hl) hes
      rw [hx] at hl ⊢
      have hxl : xs.length = kn := by simpa using hl
      refine Tri.bindL (a := (w == 0)) (by rw [eq_int]; rfl) ?_
      refine Tri.thB (b := 4) (I := fun a => ∃ ys : List Int, a = .list (ys.map .int) ∧ ys.length = kn ∧ ∀ x ∈ ys, 0 ≤ x ∧ x ≤ m) (Tri.ite (fun h => ?_) fun h => Tri.nx ⟨xs, rfl, hxl, hxs⟩) fun a ⟨ys, ea, hyl, hys⟩ => ?_
      · refine Tri.bindL (small_ok (by rw [List.length_map]; omega)) ?_
        refine Tri.st (b := 4) ((Tri.comp (c := 1) (P := fun _ d => ∃ y : Int, d = .int y ∧ 0 ≤ y ∧ y ≤ m) _ [] fun d hd => ?_).le (by rw [List.length_map]; omega)) ?_
        · obtain ⟨x, hx, rfl⟩ := List.mem_map.mp hd
          have := hxs x hx
          refine Tri.dr (by decide) (by decide) fun y y0 y1 => ?_
          have hy : y = 0 ∨ y = 1 := by omega
          refine Tri.li (mul_int (.inl ⟨by omega, by omega⟩)) ⟨_, rfl, ?_⟩
          rcases hy with rfl | rfl <;> omega
        · rintro out ⟨es, eo, hl2, hes2⟩
          obtain ⟨ys, hy, hys⟩ := ints_all (ds := xs.map PyData.int) hl2 hes2
          refine Tri.nx ⟨ys, by rw [eo, List.nil_append, hy], ?_, hys⟩
          rw [hy, List.length_map, List.length_map] at hl2
          omega
      · subst ea
        refine Tri.bindL (a := (w == 1)) (by rw [eq_int]; rfl) ?_
        refine Tri.thB (b := 0) (I := fun a => ∃ ys : List Int, a = .list (ys.map .int) ∧ ys.length = kn ∧ ∀ x ∈ ys, 0 ≤ x ∧ x ≤ m) (Tri.ite (fun h => ?_) fun h => Tri.nx ⟨ys, rfl, hyl, hys⟩) fun a ⟨zs, ea, hzl, hzs⟩ => ?_
        · refine Tri.bindL (it_lst _) (Tri.bindL (small_ok (by rw [List.length_map]; omega)) ?_)
          refine Tri.st (b := 0) ((Tri.comp (c := 0) (P := fun _ d => ∃ y : Int, d = .int y ∧ 0 ≤ y ∧ y ≤ m) _ [] fun d hd => ?_).le (by omega)) ?_
          · obtain ⟨x, hx, rfl⟩ := List.mem_map.mp hd
            have := hys x hx
            exact Tri.li (min_int _ _) ⟨_, rfl, by omega, by omega⟩
          · rintro out ⟨es, eo, hl2, hes2⟩
            obtain ⟨zs, hz, hzs⟩ := ints_all (ds := ys.map PyData.int) hl2 hes2
            refine Tri.nx ⟨zs, by rw [eo, List.nil_append, hz], ?_, hzs⟩
            rw [hz, List.length_map, List.length_map] at hl2
            omega
        · subst ea
          refine Tri.bindL (tup_lst _) (Tri.bindL (fits_ok (by rw [List.length_map]; omega)) ?_)
          refine Tri.nx ⟨rows ++ [zs], by simp [tI], by simp; omega, fun r hr => ?_⟩
          rcases List.mem_append.mp hr with h | h
          · exact hg r h
          · rw [List.mem_singleton.mp h]; exact ⟨hzl, hzs⟩
  · subst ea
    exact Tri.pr ⟨rows, kn, rfl, ⟨by omega, by omega, by omega, by omega, fun r h => (hg r h).1, fun r h => (hg r h).2⟩, by omega⟩
/-! ### k36 -/
theorem okH_ed (e : Ed) : okH (edD e) = edOk e := by
  cases e <;> simp [edD, edOk, okH, okHs, Bool.and_assoc]
/-! ### undo -/
theorem run_pop {ob : List Cell} {k : Nat} {ds : List D} {d : D} (h : ob[k]? = some (.lst (ds ++ [d]))) : Run (popZ (refL k)) ob d (ob.set k (.lst ds)) := fun n φ q => ⟨k, cel_ref k, ds ++ [d], h, d, by simp, by
  show φ d ⟨n, ob.set k (.lst ((ds ++ [d]).dropLast))⟩
  rw [List.dropLast_concat]
  exact q⟩
section
variable {ob : List Cell} {k k1 k2 k3 n : Nat} {S N E : List D} {w : Bool}
theorem run_undo {s a e : D} (c : Cab "Cabinet" [] ob k k1 k2 k3 (S ++ [s]) (N ++ [a]) (E ++ [e]) false) : RunX (MX_Cabinet__undo [.val (refD k)]) ob (.int (E.length : Nat)) (cabO ob k1 k2 k3 S N E) := by
  show RunX (mx_Cabinet__undo (refD k)) ob _ _
  unfold mx_Cabinet__undo
  simp only [op2, op1, cmp2, chain3, tst, notB, andB, orB, andD, orD, iteM, consM, starM, smallM, tupM, tupSM, lstM, argV, argK, comp1, comp1i, comp2, comp2i, comp11, seqM, rng1, rng2, zipSM, zip2M, zip3M, enumM, repM, joinM, catM, par3LM, put2M, popM, parLV, putVM, unpS, trg1M, sortSetM, orV, lrg1M, par3M, rdM, rdLM, partM, slcM, isiM, rtM, forM1, forM2, forM3, parM, unp2, unp3, unp2A, unp3A, unp4A, zb_assoc, zb_pure, zl_some, zb_some, zx_assoc, zx_pure, zx_some, upz_pure, add_int, sub_int, lt_int, le_int, gt_int, ge_int, eq_int, ne_int, min_int, max_int, neg_int, bool_bool, not_bool, is_none, isn_none, nn_int, nn_none, nn_tup, len_tup, len_lst, tup_lst, tup_tup, it_lst, it_tup, int_bool, int_int, oint_int, addI_int, subI_int, flat_tI, flat_int, flat_none, Option.bind_some, Option.map_some, Int.zero_add, thenB, thenM, List.nil_append, List.length_map]
  refine RunX.bO (run_self c.ins (by kernel_rfl)) (RunX.bind (run_idle c) ?_)
  have lE : (E ++ [e]).length = E.length + 1 := by simp
  refine RunX.bU (a := false) (Run.bind c.standing (Run.bind (run_len c.es) (Run.lift (by rw [lE, eq_int]; simp [boolD]; omega)))) ?_
  rw [if_neg Bool.false_ne_true]
  have c3 := c.set3 E
  have c1 := c3.set1 S
  have c2 := c1.set2 N
  refine RunX.bU (Run.bind c.standing (run_pop c.es)) (RunX.bU (Run.bind c3.states (run_pop c3.st)) (RunX.bU (Run.bind c1.numbers (run_pop c1.nu)) ?_))
  have e2 : ((ob.set k3 (.lst E)).set k1 (.lst S)).set k2 (.lst N) = cabO ob k1 k2 k3 S N E := by
    unfold cabO
    rw [List.set_comm _ _ (Ne.symm c.n13), List.set_comm _ _ (Ne.symm c.n23)]
  rw [e2] at c2 ⊢
  exact Run.rx (Run.bind c2.standing (run_len c2.es))
end
/-! ### attempt: a batch of edits that can be done -/
theorem eq_tup_nil (x : D) (xs : List D) : eqD (.tuple (x :: xs)) (.tuple []) = some (.bool false) := by
  show (if SeqAt.shaped (.tuple (x :: xs)) = true ∧ SeqAt.shaped (.tuple []) = true then some (PyData.bool (PyData.eqv (.tuple (x :: xs)) (.tuple []))) else (lensD (.tuple (x :: xs)) (.tuple [])).map fun k => .bool k) = _
  split
  · rfl
  · simp [lensD]
theorem isedit_of {x : Str} {r : List D} {q : Int} (h1 : inTab [("put", 3), ("remove", 3), ("wish", 1), ("drop", 1)] (.str x) = some (.bool true)) (h2 : atTab [("put", 3), ("remove", 3), ("wish", 1), ("drop", 1)] (.str x) = some (.int q)) (hq : q = (r.length : Int)) :
    m_is_edit (.tuple (.str x :: r)) = some (.bool true) := by
  have g0 : DD.getD (.tuple (.str x :: r)) (.int 0) = some (.str x) := by
    have := get_tup (F := id) (xs := .str x :: r) (i := 0) (by simp)
    rw [List.map_id] at this
    exact this
  have hh : headD (.tuple (.str x :: r)) = some (.str x, r) := rfl
  unfold m_is_edit
  simp only [op2, op1, cmp2, chain3, tst, notB, andB, orB, andD, orD, iteM, consM, starM, smallM, tupM, tupSM, lstM, argV, argK, comp1, comp1i, comp2, comp2i, comp11, seqM, rng1, rng2, zipSM, zip2M, zip3M, enumM, repM, joinM, catM, par3LM, put2M, popM, parLV, putVM, unpS, trg1M, sortSetM, orV, lrg1M, par3M, rdM, rdLM, partM, slcM, isiM, rtM, forM1, forM2, forM3, parM, unp2, unp3, unp2A, unp3A, unp4A, ob_pure, ob_some, ob_lift, Option.pure_def, add_int, sub_int, lt_int, le_int, gt_int, ge_int, eq_int, ne_int, min_int, max_int, neg_int, bool_bool, not_bool, is_none, isn_none, nn_int, nn_none, nn_tup, len_tup, len_lst, tup_lst, tup_tup, it_lst, it_tup, int_bool, int_int, oint_int, addI_int, subI_int, flat_tI, flat_int, flat_none, Option.bind_some, Option.map_some, Int.zero_add, thenB, thenM, List.nil_append, List.length_map, ob_assoc, eq_tup_nil, g0, hh]
  refine bindE (a := false) ?_ ?_
  · simp [isiB, typeN, boolD]
  · simp only [Bool.false_eq_true, if_false, h1, h2, ob_some]
    refine bindE (a := true) rfl ?_
    simp only [if_true]
    rw [eq_int, hq]
    simp
theorem isedit_eq (e : Ed) : M_is_edit [.val (edD e)] = some (.bool true) := by
  cases e with
  | put d j c => exact isedit_of (r := [d, j, c]) (q := 3) (by kernel_rfl) (by kernel_rfl) rfl
  | rem d j c => exact isedit_of (r := [d, j, c]) (q := 3) (by kernel_rfl) (by kernel_rfl) rfl
  | wish w => exact isedit_of (r := [w]) (q := 1) (by kernel_rfl) (by kernel_rfl) rfl
  | drop i => exact isedit_of (r := [i]) (q := 1) (by kernel_rfl) (by kernel_rfl) rfl
def Chain (n : Nat) : Sta → List Ed → List Sta → Prop
  | _, [], [] => True
  | s, e :: es, s' :: ss => edOk e = true ∧ edOut n s e = .ok s' ∧ Chain n s' es ss
  | _, _, _ => False
theorem Chain.len {n : Nat} : ∀ {es : List Ed} {s : Sta} {ss : List Sta}, Chain n s es ss → ss.length = es.length
  | [], _, [], _ => rfl
  | _ :: _, _, _ :: _, h => congrArg (· + 1) (Chain.len h.2.2)
theorem Chain.ok {n : Nat} : ∀ {es : List Ed} {s : Sta} {ss : List Sta}, Chain n s es ss → ∀ e ∈ es, edOk e = true
  | [], _, [], _ => fun t ht => by cases ht
  | _ :: _, _, _ :: _, h => fun t ht => by
    rcases List.mem_cons.mp ht with rfl | ht
    · exact h.1
    · exact Chain.ok h.2.2 t ht
def enumFrom (ds : List D) (i : Nat) : List D := (ds.zipIdx i).map fun p => .tuple [.int (p.2 : Nat), p.1]
theorem enumFrom_cons (d : D) (ds : List D) (i : Nat) : enumFrom (d :: ds) i = .tuple [.int (i : Nat), d] :: enumFrom ds (i + 1) := rfl
theorem runx_loop {A : Type} {f : D → A → ZX (Fl A)} {ob : List Cell} {a : A} : ∀ xs : List D, (∀ d ∈ xs, RunX (f d a) ob (.nx a) ob) → RunX (loopM f xs a) ob (.nx a) ob
  | [], _ => RunX.pure
  | d :: r, h => RunX.bind (h d List.mem_cons_self) (runx_loop r fun x hx => h x (List.mem_cons_of_mem _ hx))
theorem run_listZ {ob : List Cell} {k : Nat} {ds : List D} (h : ob[k]? = some (.lst ds)) : Run (listZ (refL k)) ob ds ob := by
  unfold listZ
  rw [cel_ref]
  exact run_cell h
theorem Run.up {α : Type} {x : Z α} {ob ob1 : List Cell} {a : α} (h : Run x ob a ob1) : Run (OverZ.up x) ob a ob1 := h
section
variable {ob : List Cell} {k k1 k2 k3 n : Nat} {S N E : List D} {w : Bool}
theorem Cab.app {cn : Str} {x : List (Str × D)} (c : Cab cn x ob k k1 k2 k3 S N E w) (l : List Cell) : Cab cn x (ob ++ l) k k1 k2 k3 S N E w := by
  have h : ∀ {j : Nat} {y : Cell}, ob[j]? = some y → (ob ++ l)[j]? = some y := fun {j y} h => by
    rw [List.getElem?_append_left (List.getElem?_eq_some_iff.mp h).1]; exact h
  exact ⟨h c.ins, h c.st, h c.nu, h c.es, c.n12, c.n13, c.n23⟩
def nuS (n : Nat) (s : Sta) : D := oD (sureT s.1 s.2 n)
theorem run_chain : ∀ {es : List Ed} {ss : List Sta} {s : Sta} {S N E : List D} {ob : List Cell} (i : Nat), Chain n s es ss → GoodS n s → Cab "Cabinet" [] ob k k1 k2 k3 (S ++ [stD s]) N E w → S.length + es.length ≤ 900 → N.length + es.length ≤ 900 → E.length + es.length ≤ 60 →
    ∃ o', Run (loopM (fun d (a : Unit) => pairM d fun _ y => (OverZ.up (calmZ ((OverZ.up (selfZ "Cabinet" "perform" (refD k)) : ZX Unit) >>= fun _ => MX_Cabinet__perform [.val (refD k), .val y] >>= fun _ => (Pure.pure (Fl.nx ()) : ZX (Fl Unit)))) : Z (Fl Unit)) >>= fun f => thenB f fun _ => Pure.pure (.nx ())) (enumFrom (es.map edD) i) ()) ob (.nx ()) o' ∧
      Cab "Cabinet" [] o' k k1 k2 k3 (S ++ [stD s] ++ ss.map stD) (N ++ ss.map (nuS n)) (E ++ es.map edD) w ∧ ∀ b, b ≠ k1 → b ≠ k2 → b ≠ k3 → o'[b]? = ob[b]?
  | [], [], s, S, N, E, ob, i, _, g, c, _, _, _ => ⟨ob, Run.pure, by simpa using c, fun _ _ _ _ => rfl⟩
  | e :: es, s' :: ss, s, S, N, E, ob, i, h, g, c, hS, hN, hE => by
    obtain ⟨he, ho, hc⟩ := h
    simp only [List.length_cons] at hS hN hE
    have hp := out_perform g he c (by omega) (by omega)
    unfold perfO at hp
    rw [if_neg (by omega), ho] at hp
    have g' := edOut_good g ho
    have c2 := c.all (S ++ [stD s] ++ [stD s']) (N ++ [nuS n s']) (E ++ [edD e])
    have hp : RunX (MX_Cabinet__perform [.val (refD k), .val (edD e)]) ob (.int ((E.length + 1 : Nat) : Int)) (cabO ob k1 k2 k3 (S ++ [stD s] ++ [stD s']) (N ++ [nuS n s']) (E ++ [edD e])) := hp
    obtain ⟨o', hr, c3, fr⟩ := run_chain (es := es) (ss := ss) (i + 1) hc g' c2 (by rw [List.length_append, List.length_singleton]; omega) (by rw [List.length_append, List.length_singleton]; omega) (by rw [List.length_append, List.length_singleton]; omega)
    refine ⟨o', ?_, by simpa using c3, fun b h1 h2 h3 => by rw [fr b h1 h2 h3, cabO_ne (Ne.symm h1) (Ne.symm h2) (Ne.symm h3)]⟩
    rw [List.map_cons, enumFrom_cons]
    exact Run.bind (Run.bind (RunX.calm (RunX.bO (run_self c.ins (by kernel_rfl)) (RunX.bind hp RunX.pure))) Run.pure) hr
theorem run_attempt {es : List Ed} {ss : List Sta} {s : Sta} {S N E : List D} {ob : List Cell} {bd : D} (hb : bd = .list (es.map edD) ∨ bd = .tuple (es.map edD)) (h : Chain n s es ss) (g : GoodS n s) (c : Cab "Cabinet" [] ob k k1 k2 k3 (S ++ [stD s]) N E false) (hS : S.length + es.length ≤ 900) (hN : N.length + es.length ≤ 900)
    (hE : E.length + es.length ≤ 60) (h20 : es.length ≤ 20) :
    ∃ o', RunX (MX_Cabinet__attempt [.val (refD k), .val bd, .val .none]) ob (.int (es.length : Nat)) o' ∧ Cab "Cabinet" [] o' k k1 k2 k3 (S ++ [stD s] ++ ss.map stD) (N ++ ss.map (nuS n)) (E ++ es.map edD) false ∧ ∀ b, b < ob.length → b ≠ k1 → b ≠ k2 → b ≠ k3 → o'[b]? = ob[b]? := by
  have c1 := c.app [.lst E]
  have c2 := c1.app [.lst (S ++ [stD s])]
  have c3 := c2.app [.lst N]
  obtain ⟨o', hr, c4, fr⟩ := run_chain 0 h g c3 hS hN hE
  refine ⟨o', ?_, c4, fun b hb h1 h2 h3 => by rw [fr b h1 h2 h3, List.getElem?_append_left (by simp; omega), List.getElem?_append_left (by simp; omega), List.getElem?_append_left hb]⟩
  have hlen : lenD bd = some (.int (es.length : Nat)) := by
    rcases hb with rfl | rfl
    · show some (PyData.int ((es.map edD).length : Nat)) = _; rw [List.length_map]
    · rw [len_tup, List.length_map]
  have htup : tupleD bd = some (.tuple (es.map edD)) := by rcases hb with rfl | rfl <;> rfl
  have hlt : isLT bd = some (.bool true) := by rcases hb with rfl | rfl <;> rfl
  have hok := h.ok
  show RunX (mx_Cabinet__attempt (refD k) bd .none) ob _ o'
  unfold mx_Cabinet__attempt
  simp only [op2, op1, cmp2, chain3, tst, notB, andB, orB, andD, orD, iteM, consM, starM, smallM, tupM, tupSM, lstM, argV, argK, comp1, comp1i, comp2, comp2i, comp11, seqM, rng1, rng2, zipSM, zip2M, zip3M, enumM, repM, joinM, catM, par3LM, put2M, popM, parLV, putVM, unpS, trg1M, sortSetM, orV, lrg1M, par3M, rdM, rdLM, partM, slcM, isiM, rtM, forM1, forM2, forM3, parM, unp2, unp3, unp2A, unp3A, unp4A, zb_assoc, zb_pure, zl_some, zb_some, zx_assoc, zx_pure, zx_some, upz_pure, add_int, sub_int, lt_int, le_int, gt_int, ge_int, eq_int, ne_int, min_int, max_int, neg_int, bool_bool, not_bool, is_none, isn_none, nn_int, nn_none, nn_tup, len_tup, len_lst, tup_lst, tup_tup, it_lst, it_tup, int_bool, int_int, oint_int, addI_int, subI_int, flat_tI, flat_int, flat_none, Option.bind_some, Option.map_some, Int.zero_add, thenB, thenM, List.nil_append, List.length_map]
  refine RunX.bO (run_self c.ins (by kernel_rfl)) (RunX.bind (run_idle c) ?_)
  refine RunX.bU (a := false) (Run.bL hlt (Run.bL rfl (Run.bL hlen (Run.lift (by rw [gt_int]; simp [boolD]; omega))))) ?_
  refine runx_ifF (fun h => by cases h) ?_
  refine RunX.bU (Run.lift htup) ?_
  have hen : (itemsD (.tuple (es.map edD))).map enumL = some (enumFrom (es.map edD) 0) := rfl
  refine RunX.bU (Run.lift hen) ?_
  refine RunX.bind (a := Fl.nx ()) (runx_loop _ fun d hd => ?_) ?_
  · obtain ⟨p, hp, rfl⟩ := List.mem_map.mp hd
    have hm : p.1 ∈ es.map edD := by
      have := List.mem_map_of_mem (f := Prod.fst) hp
      rwa [List.zipIdx_map_fst] at this
    obtain ⟨e, he, hpe⟩ := List.mem_map.mp hm
    show RunX (upZ (OverZ.up (hidP (m' := Option) [.any, .any, .any, .any, .any, .val p.1, .any, .any, .any, .any] _)) >>= fun k => if k = true then _ else _) ob (Fl.nx ()) ob
    rw [← hpe]
    refine RunX.bU (a := false) (Run.hid (okSl_v (by rw [okH_ed]; exact hok e he) okSl_n) (by simp only [op2, op1, cmp2, chain3, tst, notB, andB, orB, andD, orD, iteM, consM, starM, smallM, tupM, tupSM, lstM, argV, argK, comp1, comp1i, comp2, comp2i, comp11, seqM, rng1, rng2, zipSM, zip2M, zip3M, enumM, repM, joinM, catM, par3LM, put2M, popM, parLV, putVM, unpS, trg1M, sortSetM, orV, lrg1M, par3M, rdM, rdLM, partM, slcM, isiM, rtM, forM1, forM2, forM3, parM, unp2, unp3, unp2A, unp3A, unp4A, ob_pure, ob_some, ob_lift, Option.pure_def, add_int, sub_int, lt_int, le_int, gt_int, ge_int, eq_int, ne_int, min_int, max_int, neg_int, bool_bool, not_bool, is_none, isn_none, nn_int, nn_none, nn_tup, len_tup, len_lst, tup_lst, tup_tup, it_lst, it_tup, int_bool, int_int, oint_int, addI_int, subI_int, flat_tI, flat_int, flat_none, Option.bind_some, Option.map_some, Int.zero_add, thenB, thenM, List.nil_append, List.length_map, ob_assoc, isedit_eq]; rfl)) ?_
    exact runx_ifF (fun h => by cases h) RunX.pure
  refine RunX.bU (Run.bind c.standing (Run.bind (run_listZ c.es) run_newZ)) ?_
  refine RunX.bU (Run.bind c1.states (Run.bind (run_listZ c1.st) run_newZ)) ?_
  refine RunX.bU (Run.bind c2.numbers (Run.bind (run_listZ c2.nu) run_newZ)) ?_
  have hpa : Run (M_Cabinet__perform_all [.val (refD k), .val (.tuple (es.map edD)), .val .none]) (ob ++ [.lst E] ++ [.lst (S ++ [stD s])] ++ [.lst N]) (.int (es.length : Nat)) o' := by
    show Run (m_Cabinet__perform_all (refD k) (.tuple (es.map edD)) .none) _ _ _
    unfold m_Cabinet__perform_all
    simp only [op2, op1, cmp2, chain3, tst, notB, andB, orB, andD, orD, iteM, consM, starM, smallM, tupM, tupSM, lstM, argV, argK, comp1, comp1i, comp2, comp2i, comp11, seqM, rng1, rng2, zipSM, zip2M, zip3M, enumM, repM, joinM, catM, par3LM, put2M, popM, parLV, putVM, unpS, trg1M, sortSetM, orV, lrg1M, par3M, rdM, rdLM, partM, slcM, isiM, rtM, forM1, forM2, forM3, parM, unp2, unp3, unp2A, unp3A, unp4A, zb_assoc, zb_pure, zl_some, zb_some, zx_assoc, zx_pure, zx_some, upz_pure, add_int, sub_int, lt_int, le_int, gt_int, ge_int, eq_int, ne_int, min_int, max_int, neg_int, bool_bool, not_bool, is_none, isn_none, nn_int, nn_none, nn_tup, len_tup, len_lst, tup_lst, tup_tup, it_lst, it_tup, int_bool, int_int, oint_int, addI_int, subI_int, flat_tI, flat_int, flat_none, Option.bind_some, Option.map_some, Int.zero_add, thenB, thenM, List.nil_append, List.length_map]
    refine (Run.bind hr ?_)
    exact Run.pure
  refine RunX.bind (a := Fl.nx (PyData.int (es.length : Nat))) (Run.ox (RunX.calm (RunX.bU (Run.bind (run_self c3.ins (by kernel_rfl)) hpa) ?_))) RunX.pure
  exact RunX.pure
end
structure Cps (k : Nat) (caps : List (Option Int)) : Prop where
  len : caps.length = k
  ge : ∀ o v, o ∈ caps → o = some v → 0 ≤ v
theorem Cps.at {k : Nat} {caps : List (Option Int)} (c : Cps k caps) {j : Nat} {v : Int} (hj : j < k) (h : caps.getD j none = some v) : 0 ≤ v := by
  have hmem : caps.getD j none ∈ caps := by simp [List.getD, show j < caps.length by have := c.len; omega]
  exact c.ge _ v hmem h
theorem caps_cps {k : Nat} {m : Int} {rows : List (List Int)} {s : List Nat} (ro : Wishes k m rows) (hs : s ∈ spoil rows) : Cps k (capsO (rows.zip s) k) := ⟨capsO_len _ _, fun o v ho hv => (caps_in ro hs o v ho hv).1⟩
theorem many_all {stock : List (List Int)} {k j : Nat} (hj : j < k) : (cols stock k).getD j 0 = many stock (List.range stock.length) j := by
  have e : col stock j = (List.range stock.length).map fun d => (stock.getD d []).getD j 0 := by
    refine List.ext_getElem (by simp [col]) fun i h1 h2 => ?_
    have : i < stock.length := by simpa using h2
    simp [col, List.getD, this]
  unfold many
  rw [← e]
  simp [cols, List.getD, hj]
/-! what sureness means: draws as functions -/
abbrev sumR (n : Nat) (f : Nat → Int) : Int := ((List.range n).map f).sum
/-- no wish is fulfilled -/
def Unl (k : Nat) (rows : List (List Int)) (c : Nat → Int) : Prop := ∀ r ∈ rows, ∃ j, j < k ∧ c j < r.getD j 0
theorem sumR_congr {n : Nat} {f g : Nat → Int} (h : ∀ i, i < n → f i = g i) : sumR n f = sumR n g := congrArg List.sum (List.map_congr_left fun i hi => h i (List.mem_range.mp hi))
theorem sumR_le {n : Nat} {f g : Nat → Int} (h : ∀ i, i < n → f i ≤ g i) : sumR n f ≤ sumR n g := sum_le_sum _ fun i hi => h i (List.mem_range.mp hi)
theorem sumR_succ (n : Nat) (f : Nat → Int) : sumR (n + 1) f = sumR n f + f n := by
  unfold sumR
  rw [List.range_succ]
  simp
theorem sumR_add (n : Nat) (f g : Nat → Int) : sumR n (fun i => f i + g i) = sumR n f + sumR n g := by
  induction n with
  | zero => rfl
  | succ n ih => rw [sumR_succ, sumR_succ, sumR_succ, ih]; omega
theorem list_at {k j : Nat} {c : Nat → Int} (hj : j < k) : ((List.range k).map c).getD j 0 = c j := by simp [List.getD, hj]
theorem unl_iff {k : Nat} {rows : List (List Int)} {c : List Int} (hl : ∀ r ∈ rows, r.length = k) (hc : c.length = k) : fulf rows c = none ↔ Unl k rows fun j => c.getD j 0 := by
  rw [fulf_none]
  constructor
  · intro h r hr
    have h1 := h r hr
    rw [← Bool.not_eq_true, cont_iff (by rw [hc, hl r hr])] at h1
    apply Classical.byContradiction
    intro hn
    refine h1 fun j hj => ?_
    apply Classical.byContradiction
    intro hlt
    exact hn ⟨j, by rw [← hl r hr]; exact hj, Int.not_le.mp hlt⟩
  · intro h r hr
    obtain ⟨j, hj, hlt⟩ := h r hr
    rw [← Bool.not_eq_true, cont_iff (by rw [hc, hl r hr])]
    intro h2
    have := h2 j (by rw [hl r hr]; exact hj)
    have hlt : c.getD j 0 < r.getD j 0 := hlt
    omega
abbrev totF (S : List (List Int)) (j : Nat) : Int := many S (List.range S.length) j
/-- c: some of the totals T that fulfil no wish -/
def Bad (k : Nat) (rows : List (List Int)) (T c : Nat → Int) : Prop := (∀ j, j < k → 0 ≤ c j ∧ c j ≤ T j) ∧ Unl k rows c
/-- v: the greatest number that fulfils no wish -/
def Top (k : Nat) (rows : List (List Int)) (T : Nat → Int) (v : Int) : Prop := (∃ c, Bad k rows T c ∧ sumR k c = v) ∧ ∀ c, Bad k rows T c → sumR k c ≤ v
theorem tot_ge {m : Int} {k : Nat} {S : List (List Int)} (st : Stk m k S) {j : Nat} (hj : j < k) : 0 ≤ totF S j := by
  have := sum_le_sum (f := fun _ => (0 : Int)) (g := fun d => (S.getD d []).getD j 0) (List.range S.length) fun d hd => (stk_ge st (List.mem_range.mp hd) hj).1
  rw [zero_sum] at this
  exact this
theorem cols_tot {k j : Nat} {S : List (List Int)} (hj : j < k) : (cols S k).getD j 0 = totF S j := many_all hj
theorem unl_tot {k : Nat} {S rows : List (List Int)} {m' : Int} (ro : Wishes k m' rows) : fulf rows (cols S k) = none ↔ Unl k rows (totF S) := by
  rw [unl_iff ro.len (by simp [cols])]
  constructor
  · intro h r hr
    obtain ⟨j, hj, hlt⟩ := h r hr
    exact ⟨j, hj, by rw [← cols_tot hj]; exact hlt⟩
  · intro h r hr
    obtain ⟨j, hj, hlt⟩ := h r hr
    exact ⟨j, hj, by show (cols S k).getD j 0 < _; rw [cols_tot hj]; exact hlt⟩
theorem sureT_sem {S rows : List (List Int)} {k : Nat} {m m' : Int} (st : Stk m k S) (ro : Wishes k m' rows) : ∃ v, Top k rows (totF S) v ∧ (Unl k rows (totF S) → sureT S rows k = none) ∧ (¬ Unl k rows (totF S) → sureT S rows k = some (v + 1)) := by
  obtain ⟨v, hv⟩ := rooms_max ro S
  have hv2 := List.max?_eq_some_iff.mp hv
  refine ⟨v, ⟨?_, fun c hc => ?_⟩, fun h => ?_, fun h => ?_⟩
  · obtain ⟨s, hs, e⟩ := List.mem_map.mp hv2.1
    have hcp := caps_cps ro hs
    have hcc : ∀ j, j < k → 0 ≤ capped (totF S j) ((capsO (rows.zip s) k).getD j none) ∧ capped (totF S j) ((capsO (rows.zip s) k).getD j none) ≤ totF S j := fun j hj => by
      have h1 := tot_ge st hj
      cases ho : (capsO (rows.zip s) k).getD j none with
      | none => exact ⟨h1, Int.le_refl _⟩
      | some w => have := hcp.at hj ho; simp only [capped]; omega
    refine ⟨fun j => capped (totF S j) ((capsO (rows.zip s) k).getD j none), ⟨hcc, ?_⟩, ?_⟩
    · have : fulf rows ((List.range k).map fun j => capped (totF S j) ((capsO (rows.zip s) k).getD j none)) = none := by
        refine (spoiled ro.len (by simp) fun x hx => ?_).mpr ⟨s, hs, (kept_iff (capsO_len _ _) (by simp)).mpr fun j w hj hw => ?_⟩
        · obtain ⟨j, hj, rfl⟩ := List.mem_map.mp hx
          exact (hcc j (List.mem_range.mp hj)).1
        · rw [list_at (c := fun j => capped (totF S j) ((capsO (rows.zip s) k).getD j none)) hj, hw]
          simp only [capped]
          omega
      rw [unl_iff ro.len (by simp)] at this
      intro r hr
      obtain ⟨j, hj, hlt⟩ := this r hr
      refine ⟨j, hj, ?_⟩
      have e2 := list_at (c := fun j => capped (totF S j) ((capsO (rows.zip s) k).getD j none)) hj
      exact Int.lt_of_le_of_lt (Int.le_of_eq e2.symm) hlt
    · rw [← e, room_sum (capsO_len _ _)]
  · have h1 : fulf rows ((List.range k).map c) = none := by
      rw [unl_iff ro.len (by simp)]
      intro r hr
      obtain ⟨j, hj, hlt⟩ := hc.2 r hr
      refine ⟨j, hj, ?_⟩
      show ((List.range k).map c).getD j 0 < _
      rw [list_at hj]
      exact hlt
    obtain ⟨s, hs, hk⟩ := (spoiled ro.len (by simp) fun x hx => by
      obtain ⟨j, hj, rfl⟩ := List.mem_map.mp hx
      exact (hc.1 j (List.mem_range.mp hj)).1).mp h1
    rw [kept_iff (capsO_len _ _) (by simp)] at hk
    refine Int.le_trans ?_ (hv2.2 _ (List.mem_map.mpr ⟨s, hs, rfl⟩))
    rw [room_sum (capsO_len _ _)]
    refine sumR_le fun j hj => ?_
    have h2 := hc.1 j hj
    cases ho : (capsO (rows.zip s) k).getD j none with
    | none => exact h2.2
    | some w =>
      have h3 := hk j w hj ho
      rw [list_at hj] at h3
      have h4 : c j ≤ many S (List.range S.length) j := h2.2
      simp only [capped]
      omega
  · unfold sureT
    rw [(unl_tot ro).mpr h]
    rfl
  · unfold sureT
    rw [hv]
    cases hf : fulf rows (cols S k) with
    | none => exact absurd ((unl_tot ro).mp hf) h
    | some x => rfl
theorem Top.le {k k' : Nat} {rows rows' : List (List Int)} {T T' : Nat → Int} {v v' a : Int} (h : Top k rows T v) (h' : Top k' rows' T' v') (hm : ∀ c, Bad k rows T c → ∃ c', Bad k' rows' T' c' ∧ sumR k c + a ≤ sumR k' c') : v + a ≤ v' := by
  obtain ⟨c, hc, rfl⟩ := h.1
  obtain ⟨c', hc', hle⟩ := hm c hc
  exact Int.le_trans hle (h'.2 c' hc')
/-- two stocks, two wishes: the same number -/
theorem sureT_same {S S' rows rows' : List (List Int)} {k k' : Nat} {m m' q q' : Int} (st : Stk m k S) (ro : Wishes k m' rows) (st' : Stk q k' S') (ro' : Wishes k' q' rows') (hu : Unl k rows (totF S) ↔ Unl k' rows' (totF S'))
    (h1 : ∀ c, Bad k rows (totF S) c → ∃ c', Bad k' rows' (totF S') c' ∧ sumR k c ≤ sumR k' c') (h2 : ∀ c, Bad k' rows' (totF S') c → ∃ c', Bad k rows (totF S) c' ∧ sumR k' c ≤ sumR k c') : sureT S' rows' k' = sureT S rows k := by
  obtain ⟨v, hv, ha, hb⟩ := sureT_sem st ro
  obtain ⟨v', hv', ha', hb'⟩ := sureT_sem st' ro'
  by_cases h : Unl k rows (totF S)
  · rw [ha h, ha' (hu.mp h)]
  · rw [hb h, hb' fun z => h (hu.mpr z)]
    have l1 := hv.le (a := 0) hv' fun c hc => by obtain ⟨c', z1, z2⟩ := h1 c hc; exact ⟨c', z1, by omega⟩
    have l2 := hv'.le (a := 0) hv fun c hc => by obtain ⟨c', z1, z2⟩ := h2 c hc; exact ⟨c', z1, by omega⟩
    congr 1
    omega
theorem unl_sub {k : Nat} {rows rows' : List (List Int)} {c : Nat → Int} (h : ∀ r ∈ rows, r ∈ rows') (hu : Unl k rows' c) : Unl k rows c := fun r hr => hu r (h r hr)
theorem wider_tot {S rows rows' : List (List Int)} {k : Nat} {m a b e : Int} (st : Stk m k S) (ro : Wishes k a rows) (ro' : Wishes k b rows') (h : ∀ r ∈ rows, r ∈ rows') (he : sureT S rows k = some e) : ∃ e', sureT S rows' k = some e' ∧ e' ≤ e := by
  obtain ⟨v, hv, ha, hb⟩ := sureT_sem st ro
  obtain ⟨v', hv', ha', hb'⟩ := sureT_sem st ro'
  by_cases hu : Unl k rows (totF S)
  · rw [ha hu] at he; cases he
  · rw [hb hu] at he
    cases he
    refine ⟨_, hb' fun z => hu (unl_sub h z), ?_⟩
    have := hv'.le (a := 0) hv fun c hc => ⟨c, ⟨hc.1, unl_sub h hc.2⟩, by omega⟩
    omega
theorem app_wsh {k : Nat} {m : Int} {rows : List (List Int)} {x : List Int} (ro : Wishes k m rows) (h3 : rows.length ≤ 3) (hx : good k m x) : Wishes k m (rows ++ [x]) := by
  refine ⟨by simp, by simp; omega, fun r hr => ?_, fun r hr => ?_, fun r hr => ?_⟩ <;> rcases List.mem_append.mp hr with h | h
  · exact ro.len r h
  · rw [List.mem_singleton.mp h]; exact hx.1
  · exact ro.ge r h
  · rw [List.mem_singleton.mp h]; exact hx.2.1
  · exact ro.pos r h
  · rw [List.mem_singleton.mp h]; exact hx.2.2
/-! ### things more and less -/
theorem unl_mono2 {k : Nat} {rows : List (List Int)} {c d : Nat → Int} (h : ∀ j, j < k → d j ≤ c j) (hu : Unl k rows c) : Unl k rows d := fun r hr => by
  obtain ⟨j, hj, hlt⟩ := hu r hr
  exact ⟨j, hj, Int.lt_of_le_of_lt (h j hj) hlt⟩
theorem sure_congr {S S' rows rows' : List (List Int)} {k : Nat} {m m' q q' : Int} (st : Stk m k S) (ro : Wishes k m' rows) (st' : Stk q k S') (ro' : Wishes k q' rows') (ht : ∀ j, j < k → totF S' j = totF S j) (hu : ∀ c, Unl k rows' c ↔ Unl k rows c) : sureT S' rows' k = sureT S rows k := by
  refine sureT_same st ro st' ro' ?_ (fun c hc => ⟨c, ⟨fun j hj => by rw [ht j hj]; exact hc.1 j hj, (hu c).mpr hc.2⟩, Int.le_refl _⟩) (fun c hc => ⟨c, ⟨fun j hj => by rw [← ht j hj]; exact hc.1 j hj, (hu c).mp hc.2⟩, Int.le_refl _⟩)
  rw [hu]
  exact ⟨unl_mono2 fun j hj => Int.le_of_eq (ht j hj), unl_mono2 fun j hj => Int.le_of_eq (ht j hj).symm⟩
theorem sumR_one {k j0 : Nat} (h : j0 < k) : sumR k (fun j => if j = j0 then (1 : Int) else 0) = 1 := by
  induction k with
  | zero => omega
  | succ k ih =>
    rw [sumR_succ]
    by_cases hj : j0 < k
    · rw [ih hj, if_neg (by omega)]; rfl
    · have : j0 = k := by omega
      subst this
      rw [if_pos rfl, show sumR j0 (fun j => if j = j0 then (1 : Int) else 0) = sumR j0 (fun _ => 0) from sumR_congr fun i hi => if_neg (by omega)]
      show ((List.range j0).map fun _ => (0 : Int)).sum + 1 = 1
      rw [zero_sum]
      rfl
/-- one thing more -/
theorem sure_one {S S' rows : List (List Int)} {k j0 : Nat} {m m' q : Int} {x : Int} (st : Stk m k S) (ro : Wishes k m' rows) (st' : Stk q k S') (h0 : j0 < k) (ht : ∀ j, j < k → totF S' j = totF S j + if j = j0 then 1 else 0) (hx : sureT S rows k = some x) : sureT S' rows k = some x ∨ sureT S' rows k = some (x + 1) := by
  obtain ⟨v, hv, ha, hb⟩ := sureT_sem st ro
  obtain ⟨v', hv', ha', hb'⟩ := sureT_sem st' ro
  have hle : ∀ j, j < k → totF S j ≤ totF S' j := fun j hj => by rw [ht j hj]; split <;> omega
  by_cases hu : Unl k rows (totF S)
  · rw [ha hu] at hx; cases hx
  · have hu' : ¬ Unl k rows (totF S') := fun z => hu (unl_mono2 hle z)
    rw [hb hu] at hx
    cases hx
    rw [hb' hu']
    have l1 := hv.le (a := 0) hv' fun c hc => ⟨c, ⟨fun j hj => ⟨(hc.1 j hj).1, Int.le_trans (hc.1 j hj).2 (hle j hj)⟩, hc.2⟩, by omega⟩
    have l2 := hv'.le (a := -1) hv fun c hc => by
      refine ⟨fun j => min (c j) (totF S j), ⟨fun j hj => ⟨?_, Int.min_le_right _ _⟩, unl_mono2 (fun j _ => Int.min_le_left _ _) hc.2⟩, ?_⟩
      · have h3 := (hc.1 j hj).1
        have h4 := tot_ge st hj
        show 0 ≤ min (c j) (totF S j)
        omega
      · have h1 : sumR k c ≤ sumR k fun j => min (c j) (totF S j) + if j = j0 then (1 : Int) else 0 := sumR_le fun j hj => by
          have h2 := (hc.1 j hj).2
          rw [ht j hj] at h2
          by_cases hjj : j = j0
          · rw [if_pos hjj] at h2 ⊢
            omega
          · rw [if_neg hjj] at h2 ⊢
            omega
        rw [sumR_add, sumR_one h0] at h1
        omega
    have : v' + 1 = v + 1 ∨ v' + 1 = v + 1 + 1 := by omega
    rcases this with h | h
    · exact .inl (congrArg some h)
    · exact .inr (congrArg some h)
/-- one thing less -/
theorem sure_less {S S' rows : List (List Int)} {k j0 : Nat} {m m' q : Int} (st : Stk m k S) (ro : Wishes k m' rows) (st' : Stk q k S') (h0 : j0 < k) (ht : ∀ j, j < k → totF S j = totF S' j + if j = j0 then 1 else 0) :
    sureT S' rows k = none ∨ ∃ x, sureT S rows k = some x ∧ (sureT S' rows k = some x ∨ sureT S' rows k = some (x - 1)) := by
  cases h : sureT S' rows k with
  | none => exact .inl rfl
  | some y =>
    rcases sure_one st' ro st h0 ht h with e | e
    · exact .inr ⟨y, e, .inl rfl⟩
    · exact .inr ⟨y + 1, e, .inr (by congr 1; omega)⟩
/-- a harder wish -/
theorem unl_harder {k : Nat} {rows : List (List Int)} {w h : List Int} (hw : w ∈ rows) (hh : ∀ j, j < k → w.getD j 0 ≤ h.getD j 0) (c : Nat → Int) : Unl k (rows ++ [h]) c ↔ Unl k rows c := by
  constructor
  · exact fun hu r hr => hu r (List.mem_append_left _ hr)
  · intro hu r hr
    rcases List.mem_append.mp hr with hr | hr
    · exact hu r hr
    · rw [List.mem_singleton.mp hr]
      obtain ⟨j, hj, hlt⟩ := hu w hw
      exact ⟨j, hj, Int.lt_of_lt_of_le hlt (hh j hj)⟩
theorem unl_mem {k : Nat} {rows rows' : List (List Int)} (h : ∀ r, r ∈ rows' ↔ r ∈ rows) (c : Nat → Int) : Unl k rows' c ↔ Unl k rows c := ⟨fun hu r hr => hu r ((h r).mpr hr), fun hu r hr => hu r ((h r).mp hr)⟩
theorem tot_list (T : List (List Int)) (j : Nat) : totF T j = (T.map fun r => r.getD j 0).sum := by
  show ((List.range T.length).map fun d => (T.getD d []).getD j 0).sum = _
  congr 1
  refine List.ext_getElem (by simp) fun i h1 h2 => ?_
  have hi : i < T.length := by simpa using h1
  rw [List.getElem_map, List.getElem_map, List.getElem_range, show T.getD i [] = T[i] by simp [List.getD, hi]]
theorem tot_rev (S : List (List Int)) (j : Nat) : totF S.reverse j = totF S j := by
  rw [tot_list, tot_list, List.map_reverse]
  exact List.sum_reverse _
theorem stk_rev {m : Int} {k : Nat} {S : List (List Int)} (st : Stk m k S) : Stk m k S.reverse := ⟨by rw [List.length_reverse]; exact st.one, by rw [List.length_reverse]; exact st.four, st.k1, st.k4, fun r hr => st.len r (List.mem_reverse.mp hr), fun r hr => st.ge r (List.mem_reverse.mp hr)⟩
theorem wsh_rev {m : Int} {k : Nat} {S : List (List Int)} (st : Wishes k m S) : Wishes k m S.reverse := ⟨by rw [List.length_reverse]; exact st.one, by rw [List.length_reverse]; exact st.four, fun r hr => st.len r (List.mem_reverse.mp hr), fun r hr => st.ge r (List.mem_reverse.mp hr), fun r hr => st.pos r (List.mem_reverse.mp hr)⟩
theorem sure_rev {S rows : List (List Int)} {k : Nat} {m m' : Int} (st : Stk m k S) (ro : Wishes k m' rows) : sureT S.reverse rows.reverse k = sureT S rows k := sure_congr st ro (stk_rev st) (wsh_rev ro) (fun j _ => tot_rev S j) (unl_mem fun _ => List.mem_reverse)
/-! ### k53: the stock's totals -/
theorem setR_set {r : List Int} {j : Nat} {v : Int} (h : j < r.length) : setR r j v = r.set j v := by
  unfold setR
  rw [List.set_eq_take_append_cons_drop, if_pos h]
  simp
theorem setT_set {T : List (List Int)} {d j : Nat} {v : Int} (h : d < T.length) : setT T d j v = T.set d (setR (T.getD d []) j v) := by
  unfold setT
  rw [List.set_eq_take_append_cons_drop, if_pos h]
  simp
theorem getD_set2 {α : Type} {l : List α} {i d : Nat} {x a : α} (h : i < l.length) : (l.set i x).getD d a = if d = i then x else l.getD d a := by
  rw [List.getD_eq_getElem?_getD, List.getD_eq_getElem?_getD, List.getElem?_set]
  by_cases hd : d = i
  · subst hd; simp [h]
  · rw [if_neg (Ne.symm hd), if_neg hd]
theorem at_set {m : Int} {k : Nat} {T : List (List Int)} {d j d' j' : Nat} {v : Int} (st : Stk m k T) (hd : d < T.length) (hj : j < k) : atT (setT T d j v) d' j' = if d' = d ∧ j' = j then v else atT T d' j' := by
  have hl : j < (T.getD d []).length := by rw [st.len _ (row_mem hd)]; exact hj
  unfold atT
  rw [setT_set hd, getD_set2 hd]
  by_cases h : d' = d
  · subst h
    rw [if_pos rfl, setR_set hl, getD_set2 hl]
    by_cases h2 : j' = j
    · rw [if_pos h2, if_pos ⟨rfl, h2⟩]
    · rw [if_neg h2, if_neg fun z => h2 z.2]
  · rw [if_neg h, if_neg fun z => h z.1]
theorem setT_len2 {T : List (List Int)} {d j : Nat} {v : Int} (h : d < T.length) : (setT T d j v).length = T.length := by rw [setT_set h, List.length_set]
theorem sum_upd {f g : Nat → Int} {n d : Nat} (hd : d < n) (h : ∀ i, i < n → i ≠ d → f i = g i) : sumR n f = sumR n g + (f d - g d) := by
  have : sumR n f = sumR n fun i => g i + (f d - g d) * (if i = d then 1 else 0) := sumR_congr fun i hi => by
    by_cases hid : i = d
    · subst hid; simp; omega
    · rw [if_neg hid, h i hi hid]; simp
  rw [this, sumR_add]
  congr 1
  have h1 : (fun i => (f d - g d) * (if i = d then (1 : Int) else 0)) = fun i => if i = d then (f d - g d) else 0 := by
    funext i
    split <;> simp
  rw [h1]
  generalize f d - g d = x
  clear this h1 h
  induction n with
  | zero => omega
  | succ n ih =>
    rw [sumR_succ]
    by_cases hj : d < n
    · rw [ih hj, if_neg (by omega)]; omega
    · have : d = n := by omega
      subst this
      rw [if_pos rfl, show sumR d (fun i => if i = d then x else 0) = sumR d (fun _ => 0) from sumR_congr fun i hi => if_neg (by omega)]
      show ((List.range d).map fun _ => (0 : Int)).sum + x = x
      rw [zero_sum]
      omega
theorem set_tot {m : Int} {k : Nat} {T : List (List Int)} {d j j' : Nat} {v : Int} (st : Stk m k T) (hd : d < T.length) (hj : j < k) : totF (setT T d j v) j' = totF T j' + if j' = j then v - atT T d j else 0 := by
  show sumR (setT T d j v).length (fun i => atT (setT T d j v) i j') = sumR T.length (fun i => atT T i j') + _
  rw [setT_len2 hd]
  by_cases h : j' = j
  · subst h
    rw [if_pos rfl, sum_upd (f := fun i => atT (setT T d j' v) i j') (g := fun i => atT T i j') hd fun i _ hi => by
      show atT (setT T d j' v) i j' = _
      rw [at_set st hd hj, if_neg fun z => hi z.1]]
    show _ + (atT (setT T d j' v) d j' - atT T d j') = _
    rw [at_set st hd hj, if_pos ⟨rfl, rfl⟩]
  · rw [if_neg h]
    have : sumR T.length (fun i => atT (setT T d j v) i j') = sumR T.length fun i => atT T i j' := sumR_congr fun i _ => by
      rw [at_set st hd hj, if_neg fun z => h z.2]
    rw [this]
    omega
/-! edits of one thing -/
theorem need_one {n k d j : Nat} (hd : d < n) (hj : j < k) : needE n k (.int (d : Nat)) (.int (j : Nat)) (.int 1) = none := by
  unfold needE
  rw [if_neg (by simp [numB]; omega), if_neg (by simp [numB]; omega), if_neg (by simp [numB])]
theorem ed_put {k : Nat} {T ws : List (List Int)} {d j : Nat} (hd : d < T.length) (hj : j < k) (h : atT T d j + 1 ≤ 50) : edOut k (T, ws) (.put (.int (d : Nat)) (.int (j : Nat)) (.int 1)) = .ok (setT T d j (atT T d j + 1), ws) := by
  show (putE T k _ _ _).map (·, ws) = _
  unfold putE
  rw [need_one hd hj]
  show Except.map _ (if 50 < atT T d j + 1 then _ else Except.ok (setT T d j (atT T d j + 1))) = _
  rw [if_neg (by omega)]
  rfl
theorem ed_rem {k : Nat} {T ws : List (List Int)} {d j : Nat} (hd : d < T.length) (hj : j < k) (h : 1 ≤ atT T d j) : edOut k (T, ws) (.rem (.int (d : Nat)) (.int (j : Nat)) (.int 1)) = .ok (setT T d j (atT T d j - 1), ws) := by
  show (remE T k _ _ _).map (·, ws) = _
  unfold remE
  rw [need_one hd hj]
  show Except.map _ (if atT T d j < 1 then _ else Except.ok (setT T d j (atT T d j - 1))) = _
  rw [if_neg (by omega)]
  rfl
theorem ed_wish {k : Nat} {T ws : List (List Int)} {w : List Int} (hw : good k 50 w) (h : ws.length < 4) : edOut k (T, ws) (.wish (tI w)) = .ok (T, ws ++ [w]) := by
  show (wishE k ws (tI w)).map (T, ·) = _
  unfold wishE
  rw [if_neg (by rw [good_coll hw]; decide), if_neg (by omega), pkR_tI]
  rfl
/-! ### the cabinet, with no edit and with one -/
abbrev C0 (n q : Nat) (s : Sta) (o : List Cell) : Prop := Cab "Cabinet" [] o q (q + 1) (q + 2) (q + 3) ([] ++ [stD s]) ([] ++ [nuS n s]) ([] : List D) false
abbrev C1 (n q : Nat) (s s' : Sta) (e : Ed) (o : List Cell) : Prop := Cab "Cabinet" [] o q (q + 1) (q + 2) (q + 3) ([] ++ [stD s] ++ [stD s']) ([] ++ [nuS n s] ++ [nuS n s']) ([] ++ [edD e]) false
section
variable {n q : Nat} {s s' : Sta} {e : Ed} {o : List Cell}
theorem e53 (c : C0 n q s o) (g : GoodS n s) (he : edOk e = true) (hnd : ∀ i, e ≠ .drop i) (hs : edOut n s e = .ok s') : ∃ o1, RunX (meF e (.val (refD q) :: meD e)) o (.int 1) o1 ∧ C1 n q s s' e o1 := by
  have hp := out_edit g he hnd c (by simp) (by simp)
  unfold perfO at hp
  rw [if_neg (by simp), hs] at hp
  exact ⟨_, hp, c.all _ _ _⟩
theorem u53 (c : C1 n q s s' e o) : ∃ o1, RunX (MX_Cabinet__undo [.val (refD q)]) o (.int 0) o1 ∧ C0 n q s o1 := by
  have hu := run_undo c
  exact ⟨_, hu, c.all _ _ _⟩
end
theorem ne_oD (o : Option Int) : neD (oD o) (oD o) = some (.bool false) := by
  cases o with
  | none => rfl
  | some x => show neD (.int x) (.int x) = _; rw [ne_int]; simp
theorem eq_oD (o : Option Int) : eqD (oD o) (oD o) = some (.bool true) := by
  cases o with
  | none => rfl
  | some x => show eqD (.int x) (.int x) = _; rw [eq_int]; simp
theorem ne_oDF (o : Option Int) : (neD (oD o) (oD o)).bind boolD = some false := by rw [ne_oD]; rfl
theorem ne_intF (i : Int) : (neD (.int i) (.int i)).bind boolD = some false := by rw [ne_int]; simp [boolD]
section
variable {n q : Nat} {T ws : List (List Int)} {o : List Cell}
theorem run_moved {d j : Nat} (c : C0 n q (T, ws) o) (g : GoodS n (T, ws)) (hd : d < T.length) (hj : j < n) (h9 : ∀ d j, d < T.length → j < n → atT T d j ≤ 49) : ∃ o1, RunX (MX__law_moved_right [.val (refD q), .val (.int (d : Nat)), .val (.int (j : Nat))]) o (.bool true) o1 ∧ C0 n q (T, ws) o1 := by
  have st : Stk 50 n T := g.st
  have ro : Wishes n 50 ws := g.ro
  have f4 := st.four
  have hL : lenD (tT T) = some (.int (T.length : Nat)) := by rw [len_tup, List.length_map]
  obtain ⟨d', hd', hmod⟩ : ∃ d' : Nat, d' < T.length ∧ modD (.int ((d : Int) + 1)) (.int (T.length : Nat)) = some (.int (d' : Nat)) := by
    refine ⟨(d + 1) % T.length, Nat.mod_lt _ (by omega), ?_⟩
    rw [mod_int (by omega)]
    congr 2
  have hg1 := get_row hd
  have hg2 := get_row hd'
  have ha1 := at_T st hd hj
  have ha2 := at_T st hd' hj
  have b1 := at_in st hd hj
  have b2 := h9 d' j hd' hj
  have hst := run_stock c
  have hix : ∀ dd : Nat, dd < T.length → Run (ixZ (tT T) (.int (dd : Nat))) o (tI (T.getD dd [])) o := fun dd h => run_ixD (fun _ h => by cases h) (get_row h)
  have hjx : ∀ dd : Nat, dd < T.length → Run (ixZ (tI (T.getD dd [])) (.int (j : Nat))) o (.int (atT T dd j)) o := fun dd h => run_ixD (fun _ h => by cases h) (at_T st h hj)
  have eb : ∀ a b : Int, (eqD (.int a) (.int b)).bind boolD = some (decide (a = b)) := fun a b => by rw [eq_int]; rfl
  show ∃ o1, RunX (mx__law_moved_right (refD q) (.int (d : Nat)) (.int (j : Nat))) o (.bool true) o1 ∧ _
  unfold mx__law_moved_right
  simp only [op2, op1, cmp2, chain3, tst, notB, andB, orB, andD, orD, iteM, consM, starM, smallM, tupM, tupSM, lstM, argV, argK, comp1, comp1i, comp2, comp2i, comp11, seqM, rng1, rng2, zipSM, zip2M, zip3M, enumM, repM, joinM, catM, par3LM, put2M, popM, parLV, putVM, unpS, trg1M, sortSetM, orV, lrg1M, par3M, rdM, rdLM, partM, slcM, isiM, rtM, forM1, forM2, forM3, parM, unp2, unp3, unp2A, unp3A, unp4A, zb_assoc, zb_pure, zl_some, zb_some, zx_assoc, zx_pure, zx_some, upz_pure, add_int, sub_int, lt_int, le_int, gt_int, ge_int, eq_int, ne_int, min_int, max_int, neg_int, bool_bool, not_bool, is_none, isn_none, nn_int, nn_none, nn_tup, len_tup, len_lst, tup_lst, tup_tup, it_lst, it_tup, int_bool, int_int, oint_int, addI_int, subI_int, flat_tI, flat_int, flat_none, Option.bind_some, Option.map_some, Int.zero_add, thenB, thenM, List.nil_append, List.length_map]
  have hlen0 : natD (.int (([] : List D).length : Nat)) = some (.int 0) := rfl
  have htest : ∀ kb : Bool, kb = (decide (atT T d j = 0) || decide ((d' : Int) = (d : Int))) → Run (OverZ.up (thisZ "Cabinet" (refD q)) >>= fun _ => M_Cabinet__stock [.val (refD q)] >>= fun a => ixZ a (.int (d : Nat)) >>= fun a => ixZ a (.int (j : Nat)) >>= fun a => Mo.lift ((eqD a (.int 0)).bind boolD) >>= fun k => if k = true then (Pure.pure true : Z Bool) else
      OverZ.up (thisZ "Cabinet" (refD q)) >>= fun _ => M_Cabinet__stock [.val (refD q)] >>= fun a => ixZ a (.int (d' : Nat)) >>= fun a => ixZ a (.int (j : Nat)) >>= fun a => Mo.lift ((eqD a (.int 50)).bind boolD) >>= fun k => if k = true then (Pure.pure true : Z Bool) else Mo.lift ((eqD (.int (d' : Nat)) (.int (d : Nat))).bind boolD)) o kb o := fun kb hk => by
    refine Run.bind c.this (Run.bind hst (Run.bind (hix d hd) (Run.bind (hjx d hd) (Run.bL (eb _ _) ?_))))
    by_cases h0 : atT T d j = 0
    · rw [hk, decide_eq_true h0, Bool.true_or]
      exact run_ifT rfl Run.pure
    · rw [hk, decide_eq_false h0, Bool.false_or]
      refine run_ifF (fun h => by cases h) ?_
      refine Run.bind c.this (Run.bind hst (Run.bind (hix d' hd') (Run.bind (hjx d' hd') (Run.bL (eb _ _) ?_))))
      rw [decide_eq_false (show ¬ atT T d' j = 50 by omega)]
      refine run_ifF (fun h => by cases h) ?_
      exact Run.lift (eb _ _)
  cases hkb : (decide (atT T d j = 0) || decide ((d' : Int) = (d : Int))) with
  | true =>
    refine ⟨o, ?_, c⟩
    refine RunX.bU (Run.bind c.this (run_sure c)) (RunX.bU (Run.bind c.this (Run.bind (run_lenC c) (Run.lift hlen0))) (RunX.bU (Run.bind c.this (Run.bind hst (Run.bL hL (Run.lift hmod)))) (RunX.bU (htest true hkb.symm) ?_)))
    exact runx_ifT rfl RunX.pure
  | false =>
    rw [Bool.or_eq_false_iff, decide_eq_false_iff_not, decide_eq_false_iff_not] at hkb
    have hne : ¬ d' = d := fun h => hkb.2 (by rw [h])
    have r1 := ed_rem (k := n) (ws := ws) hd hj (by omega)
    have g1 := edOut_good g r1
    have st1 : Stk 50 n (setT T d j (atT T d j - 1)) := g1.st
    have hd1 : d' < (setT T d j (atT T d j - 1)).length := by rw [setT_len2 hd]; exact hd'
    have ha' : atT (setT T d j (atT T d j - 1)) d' j = atT T d' j := by rw [at_set st hd hj, if_neg fun z => hne z.1]
    have r2 := ed_put (k := n) (ws := ws) hd1 hj (by omega)
    have g2 := edOut_good g1 r2
    have hsure : sureT (setT (setT T d j (atT T d j - 1)) d' j (atT (setT T d j (atT T d j - 1)) d' j + 1)) ws n = sureT T ws n := by
      refine sure_congr st ro g2.st ro (fun j' _ => ?_) fun _ => Iff.rfl
      rw [set_tot st1 hd1 hj, set_tot st hd hj]
      split <;> omega
    obtain ⟨o1, hat, ca, _⟩ := run_attempt (es := [.rem (.int (d : Nat)) (.int (j : Nat)) (.int 1), .put (.int (d' : Nat)) (.int (j : Nat)) (.int 1)]) (ss := [_, _]) (.inl rfl) ⟨rfl, r1, rfl, r2, trivial⟩ g c (by simp) (by simp) (by simp) (by simp)
    have hu1 := run_undo (S := [stD (T, ws), stD (setT T d j (atT T d j - 1), ws)]) (N := [nuS n (T, ws), nuS n (setT T d j (atT T d j - 1), ws)]) (E := [edD (.rem (.int (d : Nat)) (.int (j : Nat)) (.int 1))]) ca
    have c2 := ca.all [stD (T, ws), stD (setT T d j (atT T d j - 1), ws)] [nuS n (T, ws), nuS n (setT T d j (atT T d j - 1), ws)] [edD (.rem (.int (d : Nat)) (.int (j : Nat)) (.int 1))]
    have hu2 := run_undo (S := [stD (T, ws)]) (N := [nuS n (T, ws)]) (E := []) c2
    have hsu := run_sure (N := [nuS n (T, ws), nuS n (setT T d j (atT T d j - 1), ws)]) (a := nuS n (setT (setT T d j (atT T d j - 1)) d' j (atT (setT T d j (atT T d j - 1)) d' j + 1), ws)) ca
    have hnu : nuS n (setT (setT T d j (atT T d j - 1)) d' j (atT (setT T d j (atT T d j - 1)) d' j + 1), ws) = nuS n (T, ws) := congrArg oD hsure
    rw [hnu] at hsu
    have hadd : addD (.int 0) (.int 1) = some (.int 1) := rfl
    have heq : ∀ i : Int, eqD (.int i) (.int i) = some (.bool true) := fun i => by rw [eq_int]; simp
    refine ⟨_, ?_, c2.all ([] ++ [stD (T, ws)]) ([] ++ [nuS n (T, ws)]) []⟩
    refine RunX.bU (Run.bind c.this (run_sure c)) (RunX.bU (Run.bind c.this (Run.bind (run_lenC c) (Run.lift hlen0))) (RunX.bU (Run.bind c.this (Run.bind hst (Run.bL hL (Run.lift hmod)))) (RunX.bU (htest false (by rw [decide_eq_false hkb.1, decide_eq_false hkb.2]; rfl)) ?_)))
    refine runx_ifF (fun h => by cases h) ?_
    refine RunX.bO (run_self c.ins (by kernel_rfl)) (RunX.bind hat (RunX.bL (ne_intF 2) ?_))
    refine RunX.bind (a := false) (runx_ifF (fun h => by cases h) (Run.rx (Run.bind ca.this (Run.bind hsu (Run.lift (ne_oDF _)))))) ?_
    refine runx_ifF (fun h => by cases h) ?_
    refine RunX.bO (run_self ca.ins (by kernel_rfl)) (RunX.bind hu1 (RunX.bU (Run.lift hadd) (RunX.bL (heq 1) (RunX.bL rfl ?_))))
    refine runx_ifT rfl ?_
    refine RunX.bO (run_self c2.ins (by kernel_rfl)) (RunX.bind hu2 (RunX.lift (heq 0)))
theorem run_wishes {w h : List Int} (c : C0 n q (T, ws) o) (g : GoodS n (T, ws)) (hw : w ∈ ws) (gh : good n 50 h) (hh : ∀ j, j < n → w.getD j 0 ≤ h.getD j 0) : ∃ o1, RunX (MX__law_wishes_right [.val (refD q), .val (tI w), .val (tI h)]) o (.bool true) o1 ∧ C0 n q (T, ws) o1 := by
  have st : Stk 50 n T := g.st
  have ro : Wishes n 50 ws := g.ro
  have gw : good n 50 w := ⟨ro.len w hw, ro.ge w hw, ro.pos w hw⟩
  have hL : lenD (tT ws) = some (.int (ws.length : Nat)) := by rw [len_tup, List.length_map]
  have hcl := run_colls c
  have eb : ∀ a b : Int, (eqD (.int a) (.int b)).bind boolD = some (decide (a = b)) := fun a b => by rw [eq_int]; rfl
  have hlen0 : natD (.int (([] : List D).length : Nat)) = some (.int 0) := rfl
  have hadd : addD (.int 0) (.int 1) = some (.int 1) := rfl
  have heq : ∀ i : Int, eqD (.int i) (.int i) = some (.bool true) := fun i => by rw [eq_int]; simp
  show ∃ o1, RunX (mx__law_wishes_right (refD q) (tI w) (tI h)) o (.bool true) o1 ∧ _
  unfold mx__law_wishes_right
  simp only [op2, op1, cmp2, chain3, tst, notB, andB, orB, andD, orD, iteM, consM, starM, smallM, tupM, tupSM, lstM, argV, argK, comp1, comp1i, comp2, comp2i, comp11, seqM, rng1, rng2, zipSM, zip2M, zip3M, enumM, repM, joinM, catM, par3LM, put2M, popM, parLV, putVM, unpS, trg1M, sortSetM, orV, lrg1M, par3M, rdM, rdLM, partM, slcM, isiM, rtM, forM1, forM2, forM3, parM, unp2, unp3, unp2A, unp3A, unp4A, zb_assoc, zb_pure, zl_some, zb_some, zx_assoc, zx_pure, zx_some, upz_pure, add_int, sub_int, lt_int, le_int, gt_int, ge_int, eq_int, ne_int, min_int, max_int, neg_int, bool_bool, not_bool, is_none, isn_none, nn_int, nn_none, nn_tup, len_tup, len_lst, tup_lst, tup_tup, it_lst, it_tup, int_bool, int_int, oint_int, addI_int, subI_int, flat_tI, flat_int, flat_none, Option.bind_some, Option.map_some, Int.zero_add, thenB, thenM, List.nil_append, List.length_map]
  by_cases h4 : ws.length = 4
  · refine ⟨o, ?_, c⟩
    refine RunX.bU (Run.bind c.this (run_sure c)) (RunX.bU (Run.bind c.this (Run.bind (run_lenC c) (Run.lift hlen0))) (RunX.bU (a := true) (Run.bind c.this (Run.bind hcl (Run.bL hL (Run.lift (by rw [eb, decide_eq_true (by omega)]))))) ?_))
    exact runx_ifT rfl RunX.pure
  · have ro4 := ro.four
    have r1 := ed_wish (T := T) gw (show ws.length < 4 by omega)
    have r2 := ed_wish (T := T) gh (show ws.length < 4 by omega)
    have s1 : sureT T (ws ++ [w]) n = sureT T ws n := sure_congr st ro st (app_wsh ro (by omega) gw) (fun _ _ => rfl) (unl_harder hw fun _ _ => Int.le_refl _)
    have s2 : sureT T (ws ++ [h]) n = sureT T ws n := sure_congr st ro st (app_wsh ro (by omega) gh) (fun _ _ => rfl) (unl_harder hw hh)
    have n1 : nuS n (T, ws ++ [w]) = nuS n (T, ws) := congrArg oD s1
    have n2 : nuS n (T, ws ++ [h]) = nuS n (T, ws) := congrArg oD s2
    obtain ⟨o1, x1, c1⟩ := e53 (e := .wish (tI w)) c g (by simp [edOk, okH_tI]) (fun _ h => by cases h) r1
    obtain ⟨o2, x2, c2⟩ := u53 c1
    obtain ⟨o3, x3, c3⟩ := e53 (e := .wish (tI h)) c2 g (by simp [edOk, okH_tI]) (fun _ h => by cases h) r2
    obtain ⟨o4, x4, c4⟩ := u53 c3
    have y1 := run_sure c1
    rw [n1] at y1
    have y3 := run_sure c3
    rw [n2] at y3
    refine ⟨o4, ?_, c4⟩
    refine RunX.bU (Run.bind c.this (run_sure c)) (RunX.bU (Run.bind c.this (Run.bind (run_lenC c) (Run.lift hlen0))) (RunX.bU (a := false) (Run.bind c.this (Run.bind hcl (Run.bL hL (Run.lift (by rw [eb, decide_eq_false (by omega)]))))) ?_))
    refine runx_ifF (fun h => by cases h) ?_
    refine RunX.bO (run_self c.ins (by kernel_rfl)) (RunX.bind x1 (RunX.bU (Run.lift hadd) (RunX.bL (ne_intF 1) ?_)))
    refine RunX.bind (ob1 := o2) (a := false) (runx_ifF (fun h => by cases h) ?_) ?_
    · refine RunX.bU (a := false) (Run.bind c1.this (Run.bind y1 (Run.lift (ne_oDF _)))) ?_
      refine runx_ifF (fun h => by cases h) ?_
      exact RunX.bO (run_self c1.ins (by kernel_rfl)) (RunX.bind x2 (RunX.lift (ne_intF 0)))
    refine runx_ifF (fun h => by cases h) ?_
    refine RunX.bO (run_self c2.ins (by kernel_rfl)) (RunX.bind x3 (RunX.bU (Run.lift hadd) (RunX.bL (heq 1) (RunX.bL rfl ?_))))
    refine runx_ifT rfl ?_
    refine RunX.bU (Run.bind c3.this (Run.bind y3 (Run.lift (eq_oD _)))) (RunX.bL rfl ?_)
    refine runx_ifT rfl ?_
    exact RunX.bO (run_self c3.ins (by kernel_rfl)) (RunX.bind x4 (RunX.lift (heq 0)))
end
theorem tra_ifF {α : Type} {t : Prop} [Decidable t] {x y : Z α} {b : Nat} {ob : List Cell} {R : α → List Cell → Prop} (h : ¬ t) (hy : TrA b ob y R) : TrA b ob (if t then x else y) R := by rw [if_neg h]; exact hy
theorem tra_ifT {α : Type} {t : Prop} [Decidable t] {x y : Z α} {b : Nat} {ob : List Cell} {R : α → List Cell → Prop} (h : t) (hy : TrA b ob x R) : TrA b ob (if t then x else y) R := by rw [if_pos h]; exact hy
theorem nin_def {d : D} {xs : List D} (h : laidIn d xs = true) : ninD d (.tuple xs) = some (.bool (!xs.any fun y => PyData.eqv y d)) := by
  show (if laidIn d xs = true then some (PyData.bool (!xs.any fun y => PyData.eqv y d)) else (inStr d xs).map fun b => PyData.bool !b) = _
  rw [if_pos h]
theorem nin_mem {d : D} {xs : List D} (h : laidIn d xs = true) (hm : d ∈ xs) (hd : d.canLay0 = true) : (ninD d (.tuple xs)).bind boolD = some false := by
  rw [nin_def h]
  have : (xs.any fun y => PyData.eqv y d) = true := List.any_eq_true.mpr ⟨d, hm, SeqAt.eqv_refl d hd⟩
  rw [this]
  rfl
theorem lay_oD (o : Option Int) : (oD o).canLay0 = true := by cases o <;> rfl
theorem laid2 (a : Option Int) (b : D) (hb : b.canLay0 = true) (c : Option Int) : laidIn (oD a) [oD c, b] = true := by
  unfold laidIn
  have h1 : SeqAt.shaped (oD a) = true := by cases a <;> rfl
  have h2 : PyData.canLayAll0 [oD c, b] = true := by
    show ((oD c).canLay0 && (b.canLay0 && true)) = true
    rw [lay_oD, hb]
    rfl
  rw [h1, h2]
  rfl
theorem isNone_o (o : Option Int) : isNone (oD o) = o.isNone := by cases o <;> rfl
theorem calm_O {α β : Type} (x : Z α) (f : α → ZX β) : calmZ ((OverZ.up x : ZX α) >>= f) = (x >>= fun a => calmZ (f a)) := rfl
theorem calm_U {α β : Type} (x : Z α) (f : α → ZX β) : calmZ (upZ x >>= f) = (x >>= fun a => calmZ (f a)) := rfl
theorem lbegunM {m : Int} (m1 : 1 ≤ m) (m2 : m ≤ 50) : Tri 90 (m__law_begun (.int m)) (fun d => ∃ k s, d = lsD s ∧ GoodS k s ∧ Stk m k s.1) := by
  unfold m__law_begun
  simp only [op2, op1, cmp2, chain3, tst, notB, andB, orB, andD, orD, iteM, consM, starM, smallM, tupM, tupSM, lstM, argV, argK, comp1, comp1i, comp2, comp2i, comp11, seqM, rng1, rng2, zipSM, zip2M, zip3M, enumM, repM, joinM, catM, par3LM, put2M, popM, parLV, putVM, unpS, trg1M, sortSetM, orV, lrg1M, par3M, rdM, rdLM, partM, slcM, isiM, rtM, forM1, forM2, forM3, parM, unp2, unp3, unp2A, unp3A, unp4A, wb_assoc, wb_pure, wl_some, wu_some, add_int, sub_int, lt_int, le_int, gt_int, ge_int, eq_int, ne_int, min_int, max_int, neg_int, bool_bool, not_bool, is_none, isn_none, nn_int, nn_none, nn_tup, len_tup, len_lst, tup_lst, tup_tup, it_lst, it_tup, int_bool, int_int, oint_int, addI_int, subI_int, flat_tI, flat_int, flat_none, Option.bind_some, Option.map_some, Int.zero_add, thenB, thenM, List.nil_append, List.length_map]
  refine Tri.st (b := 40) (lstock_ok (by decide) (by decide) m1 m2) ?_
  rintro _ ⟨T, k, rfl, st, _⟩
  have st' : Stk 50 k T := ⟨st.one, st.four, st.k1, st.k4, st.len, fun r hr x hx => by have := st.ge r hr x hx; omega⟩
  have l0 : lenD (tI (T.getD 0 [])) = some (.int (k : Nat)) := by rw [len_tup, List.length_map, st.len _ (row_mem st.one)]
  have g0 := get_row (rows := T) (d := 0) st.one
  rw [Int.natCast_zero] at g0
  refine Tri.bindL g0 (Tri.bindL l0 ?_)
  refine Tri.st (b := 41) (lwish_ok st.k1 st.k4 (by decide) (by decide)) ?_
  rintro _ ⟨ws, rfl, ro⟩
  exact Tri.pr ⟨k, (T, ws), rfl, ⟨st', ⟨ro.one, ro.four, ro.len, fun r hr x hx => by have := ro.ge r hr x hx; omega, ro.pos⟩⟩, st⟩
theorem law_true : Mo.sat m_law 0 (fun d _ => d = .bool true) (fun _ _ => False) := by
  refine TrA.sat (b := 2 * 600) ?_ (by decide)
  unfold m_law
  simp only [op2, op1, cmp2, chain3, tst, notB, andB, orB, andD, orD, iteM, consM, starM, smallM, tupM, tupSM, lstM, argV, argK, comp1, comp1i, comp2, comp2i, comp11, seqM, rng1, rng2, zipSM, zip2M, zip3M, enumM, repM, joinM, catM, par3LM, put2M, popM, parLV, putVM, unpS, trg1M, sortSetM, orV, lrg1M, par3M, rdM, rdLM, partM, slcM, isiM, rtM, forM1, forM2, forM3, parM, unp2, unp3, unp2A, unp3A, unp4A, zb_assoc, zb_pure, zl_some, zb_some, zx_assoc, zx_pure, zx_some, upz_pure, add_int, sub_int, lt_int, le_int, gt_int, ge_int, eq_int, ne_int, min_int, max_int, neg_int, bool_bool, not_bool, is_none, isn_none, nn_int, nn_none, nn_tup, len_tup, len_lst, tup_lst, tup_tup, it_lst, it_tup, int_bool, int_int, oint_int, addI_int, subI_int, flat_tI, flat_int, flat_none, Option.bind_some, Option.map_some, Int.zero_add, thenB, thenM, List.nil_append, List.length_map]
  refine TrA.bL (range1_ok (by decide) (by decide)) ?_
  refine TrA.thM (b := 2 * 600) ((TrA.loop (c := 600) (I := fun _ _ _ => True) (R := fun _ => False) (rangeL 0 (Int.toNat 2)) () _ trivial fun d r a ob _ => ?_).le (by rw [rangeL_length]; decide)) (fun a ob' _ => TrA.pure rfl) (by decide)
  refine TrA.bD (b := 91) (φ := fun d => ∃ k s, d = lsD s ∧ GoodS k s ∧ Stk 9 k s.1) rfl ((lbegunM (by decide) (by decide)).le (by decide)) (fun d ⟨n, s, ed, g, h9⟩ => ?_) (by decide)
  obtain ⟨T, ws⟩ := s
  subst ed
  have st : Stk 50 n T := g.st
  have ro : Wishes n 50 ws := g.ro
  have t1 := st.one
  have f4 := st.four
  have k1 := st.k1
  have k4 := st.k4
  have o1 := ro.one
  have o4 := ro.four
  have l0 : lenD (tI (T.getD 0 [])) = some (.int (n : Nat)) := by rw [len_tup, List.length_map, st.len _ (row_mem st.one)]
  have g0 := get_row (rows := T) (d := 0) st.one
  rw [Int.natCast_zero] at g0
  have hL : lenD (tT T) = some (.int (T.length : Nat)) := by rw [len_tup, List.length_map]
  have hW : lenD (tT ws) = some (.int (ws.length : Nat)) := by rw [len_tup, List.length_map]
  have h9' : ∀ d j, d < T.length → j < n → atT T d j ≤ 9 := fun d j hd hj => (at_in h9 hd hj).2
  refine TrA.bL (a := (tT T, tT ws)) rfl ?_
  dsimp only
  refine TrA.calm (run_newC g) ?_
  have c0 : C0 n ob.length (T, ws) (ob ++ cabNew "Cabinet" [] ob.length [stD (T, ws)] [oD (sureT T ws n)] [] false) := cab_new
  refine (?_ : ∀ o1, C0 n ob.length (T, ws) o1 → TrA _ o1 _ _) _ c0
  clear c0
  intro ob1 c0
  generalize ob.length = q at c0 ⊢
  refine TrA.bL g0 (TrA.bL l0 (TrA.r c0.this (TrA.r (run_sure c0) ?_)))
  have rT : revD (tT T) = some (tT T.reverse) := by show some (PyData.tuple (T.map tI).reverse) = _; rw [← List.map_reverse]
  have rW : revD (tT ws) = some (tT ws.reverse) := by show some (PyData.tuple (ws.map tI).reverse) = _; rw [← List.map_reverse]
  have gr : GoodS n (T.reverse, ws.reverse) := ⟨stk_rev st, wsh_rev ro⟩
  have cr : C0 n ob1.length (T.reverse, ws.reverse) (ob1 ++ cabNew "Cabinet" [] ob1.length [stD (T.reverse, ws.reverse)] [oD (sureT T.reverse ws.reverse n)] [] false) := cab_new
  have nr : nuS n (T.reverse, ws.reverse) = nuS n (T, ws) := congrArg oD (sure_rev st ro)
  have c1 := c0.app (cabNew "Cabinet" [] ob1.length [stD (T.reverse, ws.reverse)] [oD (sureT T.reverse ws.reverse n)] [] false)
  refine TrA.calm (RunX.bU (Run.lift rT) (RunX.bU (Run.lift rW) (run_newC gr))) ?_
  have ys := run_sure cr
  rw [nr] at ys
  refine TrA.r cr.this (TrA.r ys (TrA.bL (ne_oDF _) (tra_ifF (fun h => by cases h) ?_)))
  refine (?_ : ∀ o1, C0 n q (T, ws) o1 → TrA _ o1 _ _) _ c1
  clear c1 c0 cr ys
  intro ob2 c0
  refine TrA.bL (range1_ok (by decide) (by decide)) ?_
  refine TrA.thB (b := 4 * 20) (I := fun a o => a = refD q ∧ C0 n q (T, ws) o) ((TrA.loop (c := 20) (I := fun r a o => a = refD q ∧ C0 n q (T, ws) o) (R := fun _ => False) _ _ ob2 ⟨rfl, c0⟩ ?_).le (by rw [rangeL_length]; decide)) ?_ (by decide)
  · rintro x r _ o ⟨rfl, c⟩
    refine TrA.bD (b := 1) (φ := fun d => ∃ i : Nat, d = .int i ∧ i < T.length) (by simp [okSl, okH_tT]) ?_ (fun d ⟨d0, ed, hd⟩ => ?_) (by decide)
    · simp only [op2, op1, cmp2, chain3, tst, notB, andB, orB, andD, orD, iteM, consM, starM, smallM, tupM, tupSM, lstM, argV, argK, comp1, comp1i, comp2, comp2i, comp11, seqM, rng1, rng2, zipSM, zip2M, zip3M, enumM, repM, joinM, catM, par3LM, put2M, popM, parLV, putVM, unpS, trg1M, sortSetM, orV, lrg1M, par3M, rdM, rdLM, partM, slcM, isiM, rtM, forM1, forM2, forM3, parM, unp2, unp3, unp2A, unp3A, unp4A, wb_assoc, wb_pure, wl_some, wu_some, add_int, sub_int, lt_int, le_int, gt_int, ge_int, eq_int, ne_int, min_int, max_int, neg_int, bool_bool, not_bool, is_none, isn_none, nn_int, nn_none, nn_tup, len_tup, len_lst, tup_lst, tup_tup, it_lst, it_tup, int_bool, int_int, oint_int, addI_int, subI_int, flat_tI, flat_int, flat_none, Option.bind_some, Option.map_some, Int.zero_add, thenB, thenM, List.nil_append, List.length_map]
      refine (Tri.draw (k := (T.length : Int)) (by omega) (by omega)).mono (by decide) ?_
      rintro _ ⟨x, rfl, x0, x1⟩
      exact ⟨x.toNat, by rw [Int.toNat_of_nonneg x0], by omega⟩
    subst ed
    refine TrA.bD (b := 1) (φ := fun d => ∃ i : Nat, d = .int i ∧ i < n) rfl ?_ (fun d ⟨j0, ed, hj⟩ => ?_) (by decide)
    · refine (Tri.draw (k := (n : Int)) (by omega) (by omega)).mono (by decide) ?_
      rintro _ ⟨x, rfl, x0, x1⟩
      exact ⟨x.toNat, by rw [Int.toNat_of_nonneg x0], by omega⟩
    subst ed
    have a0 := at_in st hd hj
    have a9 := h9' d0 j0 hd hj
    -- one thing more
    have rp := ed_put (k := n) (ws := ws) hd hj (by omega)
    obtain ⟨p1, x1, cp⟩ := e53 (e := .put (.int (d0 : Nat)) (.int (j0 : Nat)) (.int 1)) c g rfl (fun _ h => by cases h) rp
    obtain ⟨p2, x2, c2⟩ := u53 cp
    have gp := edOut_good g rp
    have yp := run_sure cp
    refine TrA.calm (RunX.bO (run_self c.ins (by kernel_rfl)) x1) (TrA.bL (ne_intF 1) ?_)
    refine TrA.r (a := false) (ob1 := p1) (run_ifF (fun h => by cases h) ?_) ?_
    · cases hb : sureT T ws n with
      | none =>
        have : nuS n (T, ws) = .none := congrArg oD hb
        rw [this]
        exact run_ifF (fun h => by cases h) Run.pure
      | some v =>
        have hv : nuS n (T, ws) = .int v := congrArg oD hb
        rw [hv]
        refine run_ifT rfl (Run.bind cp.this (Run.bind yp (Run.bL (add_int v 1) (Run.lift ?_))))
        have := sure_one (S' := setT T d0 j0 (atT T d0 j0 + 1)) st ro gp.st hj (fun j' _ => by rw [set_tot st hd hj]; split <;> omega) hb
        refine nin_mem (laid2 (sureT (setT T d0 j0 (atT T d0 j0 + 1)) ws n) (.int (v + 1)) rfl (some v)) ?_ (lay_oD _)
        show oD (sureT (setT T d0 j0 (atT T d0 j0 + 1)) ws n) ∈ [PyData.int v, .int (v + 1)]
        rcases this with h | h
        · rw [h]; exact List.mem_cons_self
        · rw [h]; exact List.mem_cons_of_mem _ List.mem_cons_self
    refine tra_ifF (fun h => by cases h) ?_
    refine TrA.calm (RunX.bO (run_self cp.ins (by kernel_rfl)) x2) (TrA.bL (ne_intF 0) ?_)
    obtain ⟨p3, x3, c3⟩ := run_moved (d := d0) (j := j0) c2 g hd hj fun d j hd hj => by have := h9' d j hd hj; omega
    refine TrA.r (a := false) (ob1 := p3) (run_ifF (fun h => by cases h) (Run.bind x3.calm (Run.bL rfl Run.pure))) ?_
    refine tra_ifF (fun h => by cases h) ?_
    refine TrA.bL (get_row hd) (TrA.bL (at_T st hd hj) ?_)
    have hgt : (gtD (.int (atT T d0 j0)) (.int 0)).bind boolD = some (decide (0 < atT T d0 j0)) := by rw [gt_int]; rfl
    refine TrA.bL hgt ?_
    refine TrA.thB (b := 0) (I := fun (_ : Unit) o => C0 n q (T, ws) o) ?_ (fun _ o c => TrA.pure ⟨rfl, c⟩) (by decide)
    by_cases hp : 0 < atT T d0 j0
    · rw [decide_eq_true hp]
      refine tra_ifT rfl ?_
      have rr := ed_rem (k := n) (ws := ws) hd hj (by omega)
      have gr := edOut_good g rr
      obtain ⟨p4, x4, c4⟩ := e53 (e := .rem (.int (d0 : Nat)) (.int (j0 : Nat)) (.int 1)) c3 g rfl (fun _ h => by cases h) rr
      obtain ⟨p5, x5, c5⟩ := u53 c4
      obtain ⟨p6, x6, c6⟩ := e53 (e := .rem (.int (d0 : Nat)) (.int (j0 : Nat)) (.int 1)) c5 g rfl (fun _ h => by cases h) rr
      obtain ⟨p7, x7, c7⟩ := u53 c6
      have y6 := run_sure c6
      refine TrA.calm (RunX.bO (run_self c3.ins (by kernel_rfl)) x4) (TrA.bL (ne_intF 1) ?_)
      refine TrA.r (a := false) (ob1 := p6) (run_ifF (fun h => by cases h) (Run.bind (RunX.bO (run_self c4.ins (by kernel_rfl)) x5).calm (Run.bL (ne_intF 0) (run_ifF (fun h => by cases h) (Run.bind (RunX.bO (run_self c5.ins (by kernel_rfl)) x6).calm (Run.lift (ne_intF 1))))))) ?_
      refine tra_ifF (fun h => by cases h) ?_
      refine TrA.r c6.this (TrA.r y6 ?_)
      have hless := sure_less (S' := setT T d0 j0 (atT T d0 j0 - 1)) st ro gr.st hj (fun j' _ => by rw [set_tot st hd hj]; split <;> omega)
      have hno : ∃ b, (ninD (nuS n (setT T d0 j0 (atT T d0 j0 - 1), ws)) (.tuple [.none, nuS n (T, ws)])).bind boolD = some b ∧ (b = true → ∃ v, sureT T ws n = some v ∧ sureT (setT T d0 j0 (atT T d0 j0 - 1)) ws n = some (v - 1)) := by
        have hl : laidIn (oD (sureT (setT T d0 j0 (atT T d0 j0 - 1)) ws n)) [PyData.none, oD (sureT T ws n)] = true := laid2 (sureT (setT T d0 j0 (atT T d0 j0 - 1)) ws n) (oD (sureT T ws n)) (lay_oD _) none
        rcases hless with h | ⟨v, hv, h | h⟩
        · exact ⟨false, nin_mem hl (by show oD (sureT (setT T d0 j0 (atT T d0 j0 - 1)) ws n) ∈ [PyData.none, oD (sureT T ws n)]; rw [h]; exact List.mem_cons_self) (lay_oD _), fun h => by cases h⟩
        · exact ⟨false, nin_mem hl (by show oD (sureT (setT T d0 j0 (atT T d0 j0 - 1)) ws n) ∈ [PyData.none, oD (sureT T ws n)]; rw [h, hv]; exact List.mem_cons_of_mem _ List.mem_cons_self) (lay_oD _), fun h => by cases h⟩
        · refine ⟨_, (by rw [show nuS n (setT T d0 j0 (atT T d0 j0 - 1), ws) = oD (sureT (setT T d0 j0 (atT T d0 j0 - 1)) ws n) from rfl, show nuS n (T, ws) = oD (sureT T ws n) from rfl, nin_def hl]; rfl), fun _ => ⟨v, hv, h⟩⟩
      obtain ⟨b, hb, hbv⟩ := hno
      refine TrA.bL hb ?_
      refine TrA.r (a := false) (ob1 := p6) ?_ ?_
      · cases b with
        | false => exact run_ifF (fun h => by cases h) Run.pure
        | true =>
          obtain ⟨v, hv, h⟩ := hbv rfl
          refine run_ifT rfl ?_
          have e1 : nuS n (T, ws) = .int v := congrArg oD hv
          have e2 : nuS n (setT T d0 j0 (atT T d0 j0 - 1), ws) = .int (v - 1) := congrArg oD h
          rw [e2] at y6
          rw [e1]
          exact run_ifF (fun h => by cases h) (Run.bind c6.this (Run.bind y6 (Run.bL (sub_int v 1) (Run.lift (ne_intF _)))))
      refine tra_ifF (fun h => by cases h) ?_
      refine TrA.calm (RunX.bO (run_self c6.ins (by kernel_rfl)) x7) (TrA.bL (ne_intF 0) (tra_ifF (fun h => by cases h) (TrA.pure c7)))
    · rw [decide_eq_false hp]
      exact tra_ifF (fun h => by cases h) (TrA.pure c3)
  rintro _ o ⟨rfl, c⟩
  refine TrA.bD (b := 1) (φ := fun d => ∃ w, w ∈ ws ∧ d = tI w) (by simp [okSl, okH_tT]) ?_ (fun d ⟨w, hw, ed⟩ => ?_) (by decide)
  · simp only [op2, op1, cmp2, chain3, tst, notB, andB, orB, andD, orD, iteM, consM, starM, smallM, tupM, tupSM, lstM, argV, argK, comp1, comp1i, comp2, comp2i, comp11, seqM, rng1, rng2, zipSM, zip2M, zip3M, enumM, repM, joinM, catM, par3LM, put2M, popM, parLV, putVM, unpS, trg1M, sortSetM, orV, lrg1M, par3M, rdM, rdLM, partM, slcM, isiM, rtM, forM1, forM2, forM3, parM, unp2, unp3, unp2A, unp3A, unp4A, wb_assoc, wb_pure, wl_some, wu_some, add_int, sub_int, lt_int, le_int, gt_int, ge_int, eq_int, ne_int, min_int, max_int, neg_int, bool_bool, not_bool, is_none, isn_none, nn_int, nn_none, nn_tup, len_tup, len_lst, tup_lst, tup_tup, it_lst, it_tup, int_bool, int_int, oint_int, addI_int, subI_int, flat_tI, flat_int, flat_none, Option.bind_some, Option.map_some, Int.zero_add, thenB, thenM, List.nil_append, List.length_map]
    refine Tri.dr (k := (ws.length : Int)) (by omega) (by omega) fun r r0 r1 => ?_
    obtain ⟨rn, rfl⟩ := Int.eq_ofNat_of_zero_le r0
    exact Tri.li (get_row (rows := ws) (d := rn) (by omega)) ⟨_, row_mem (by omega), rfl⟩
  subst ed
  have hwl := ro.len w hw
  have hwg := ro.ge w hw
  refine TrA.bD (b := 4) (φ := fun d => ∃ h, d = tI h ∧ good n 50 h ∧ ∀ j, j < n → w.getD j 0 ≤ h.getD j 0) (by simp [okSl, okH_tI]) ?_ (fun d ⟨h, ed, gh, hh⟩ => ?_) (by decide)
  · simp only [op2, op1, cmp2, chain3, tst, notB, andB, orB, andD, orD, iteM, consM, starM, smallM, tupM, tupSM, lstM, argV, argK, comp1, comp1i, comp2, comp2i, comp11, seqM, rng1, rng2, zipSM, zip2M, zip3M, enumM, repM, joinM, catM, par3LM, put2M, popM, parLV, putVM, unpS, trg1M, sortSetM, orV, lrg1M, par3M, rdM, rdLM, partM, slcM, isiM, rtM, forM1, forM2, forM3, parM, unp2, unp3, unp2A, unp3A, unp4A, wb_assoc, wb_pure, wl_some, wu_some, add_int, sub_int, lt_int, le_int, gt_int, ge_int, eq_int, ne_int, min_int, max_int, neg_int, bool_bool, not_bool, is_none, isn_none, nn_int, nn_none, nn_tup, len_tup, len_lst, tup_lst, tup_tup, it_lst, it_tup, int_bool, int_int, oint_int, addI_int, subI_int, flat_tI, flat_int, flat_none, Option.bind_some, Option.map_some, Int.zero_add, thenB, thenM, List.nil_append, List.length_map]
    refine Tri.bindL (small_ok (by rw [List.length_map]; omega)) (Tri.st (b := 4) ((Tri.comp (c := 1) (P := fun d e => ∃ x y : Int, d = .int x ∧ e = .int y ∧ x ≤ y ∧ y ≤ 50) _ [] fun d hd => ?_).le (by rw [List.length_map]; omega)) ?_)
    · obtain ⟨x, hx, rfl⟩ := List.mem_map.mp hd
      have hx5 := hwg x hx
      refine Tri.dr (by decide) (by decide) fun r r0 r1 => Tri.bindL (add_int x r) (Tri.li (min_int _ _) ⟨x, _, rfl, rfl, ?_, ?_⟩) <;> omega
    · rintro out ⟨es, eo, hl, he⟩
      rw [eo, List.nil_append]
      rw [List.length_map, hwl] at hl
      have hpt : ∀ j (hj : j < n), ∃ y : Int, es[j]? = some (.int y) ∧ w.getD j 0 ≤ y ∧ y ≤ 50 := fun j hj => by
        have hj1 : j < es.length := by omega
        have hj2 : j < w.length := by omega
        obtain ⟨x, y, e1, e2, h1, h2⟩ := he j (.int w[j]) es[j] (by rw [List.getElem?_map, List.getElem?_eq_getElem hj2]; rfl) (List.getElem?_eq_getElem hj1)
        cases e1
        exact ⟨y, by rw [List.getElem?_eq_getElem hj1, e2], by simpa [List.getD, hj2] using h1, h2⟩
      obtain ⟨h, hh, hP⟩ := ints_all (P := fun _ => True) (ds := List.range n) (es := es) (by rw [List.length_range]; exact hl) fun i d e hd he2 => by
        have hi : i < n := by
          have := (List.getElem?_eq_some_iff.mp hd).1
          simpa using this
        obtain ⟨y, hy, _⟩ := hpt i hi
        rw [hy] at he2
        cases he2
        exact ⟨y, rfl, trivial⟩
      subst hh
      rw [List.length_map] at hl
      have hp2 : ∀ j, j < n → w.getD j 0 ≤ h.getD j 0 ∧ h.getD j 0 ≤ 50 := fun j hj => by
        obtain ⟨y, hy, h1, h2⟩ := hpt j hj
        have hj3 : j < h.length := by omega
        rw [List.getElem?_map, List.getElem?_eq_getElem hj3] at hy
        have hy2 : h[j] = y := PyData.int.inj (Option.some.inj hy)
        have : h.getD j 0 = h[j] := by simp [List.getD, hj3]
        rw [this, hy2]
        exact ⟨h1, h2⟩
      have hw0 : ∀ j, j < n → 0 ≤ w.getD j 0 := fun j hj => (getD_in hwg (i := j) (by omega)).1
      refine Tri.pr ⟨h, rfl, ⟨hl, fun x hx => ?_, ?_⟩, fun j hj => (hp2 j hj).1⟩
      · obtain ⟨j, hj, rfl⟩ := List.mem_iff_getElem.mp hx
        have e : h.getD j 0 = h[j] := by simp [List.getD, hj]
        have := hp2 j (by omega)
        have := hw0 j (by omega)
        rw [← e]
        omega
      · obtain ⟨x, hx, h0⟩ := ro.pos w hw
        obtain ⟨j, hj, rfl⟩ := List.mem_iff_getElem.mp hx
        have e : w.getD j 0 = w[j] := by simp [List.getD, hj]
        have := hp2 j (by omega)
        exact ⟨h.getD j 0, by rw [show h.getD j 0 = h[j]'(by omega) by simp [List.getD, show j < h.length by omega]]; exact List.getElem_mem _, by omega⟩
  subst ed
  obtain ⟨p1, x1, c1⟩ := run_wishes c g hw gh hh
  refine TrA.calm x1 (TrA.bL rfl ?_)
  refine tra_ifF (fun h => by cases h) ?_
  refine TrA.bL hW ?_
  have hlt : (ltD (.int (ws.length : Nat)) (.int 4)).bind boolD = some (decide ((ws.length : Int) < 4)) := by rw [lt_int]; rfl
  refine TrA.bL hlt ?_
  refine TrA.r (a := decide ((ws.length : Int) < 4) && (sureT T ws n).isSome) (ob1 := p1) ?_ ?_
  · by_cases h3 : (ws.length : Int) < 4
    · rw [decide_eq_true h3]
      refine run_ifT rfl ?_
      show Run (Pure.pure (!isNone (oD (sureT T ws n)))) p1 _ p1
      rw [isNone_o]
      cases sureT T ws n <;> exact Run.pure
    · rw [decide_eq_false h3]
      exact run_ifF (fun h => by cases h) Run.pure
  refine TrA.thB (b := 20) (I := fun (_ : Unit) _ => True) ?_ (fun _ o _ => TrA.pure trivial) (by decide)
  cases hk : (decide ((ws.length : Int) < 4) && (sureT T ws n).isSome) with
  | false => exact tra_ifF (fun h => by cases h) (TrA.pure trivial)
  | true =>
    rw [Bool.and_eq_true, decide_eq_true_eq] at hk
    obtain ⟨v, hv⟩ := Option.isSome_iff_exists.mp hk.2
    refine tra_ifT rfl ?_
    rw [calm_O, calm_U]
    simp only [op2, op1, cmp2, chain3, tst, notB, andB, orB, andD, orD, iteM, consM, starM, smallM, tupM, tupSM, lstM, argV, argK, comp1, comp1i, comp2, comp2i, comp11, seqM, rng1, rng2, zipSM, zip2M, zip3M, enumM, repM, joinM, catM, par3LM, put2M, popM, parLV, putVM, unpS, trg1M, sortSetM, orV, lrg1M, par3M, rdM, rdLM, partM, slcM, isiM, rtM, forM1, forM2, forM3, parM, unp2, unp3, unp2A, unp3A, unp4A, zb_assoc, zb_pure, zl_some, zb_some, zx_assoc, zx_pure, zx_some, upz_pure, add_int, sub_int, lt_int, le_int, gt_int, ge_int, eq_int, ne_int, min_int, max_int, neg_int, bool_bool, not_bool, is_none, isn_none, nn_int, nn_none, nn_tup, len_tup, len_lst, tup_lst, tup_tup, it_lst, it_tup, int_bool, int_int, oint_int, addI_int, subI_int, flat_tI, flat_int, flat_none, Option.bind_some, Option.map_some, Int.zero_add, thenB, thenM, List.nil_append, List.length_map]
    refine TrA.r (Run.oz (run_self c1.ins (by kernel_rfl))) ?_
    refine TrA.bD (b := 10) (φ := fun d => ∃ r, d = tI r ∧ good n 9 r) rfl (lcoll_ok k1 k4 (by decide) (by decide)) (fun d ⟨u, ed, gu⟩ => ?_) (by decide)
    subst ed
    have gu5 : good n 50 u := ⟨gu.1, fun x hx => by have := gu.2.1 x hx; omega, gu.2.2⟩
    have rw1 := ed_wish (T := T) gu5 (show ws.length < 4 by omega)
    obtain ⟨p2, x2, c2⟩ := e53 (e := .wish (tI u)) c1 g (by simp [edOk, okH_tI]) (fun _ h => by cases h) rw1
    have y2 := run_sure c2
    obtain ⟨v', hv', hle⟩ := wider_tot (rows' := ws ++ [u]) st ro (app_wsh ro (by omega) gu5) (fun r hr => List.mem_append_left _ hr) hv
    have e1 : nuS n (T, ws) = .int v := congrArg oD hv
    have e2 : nuS n (T, ws ++ [u]) = .int v' := congrArg oD hv'
    rw [e2] at y2
    rw [e1]
    refine TrA.calm x2 (TrA.bL (ne_intF 1) ?_)
    have hgt : (gtD (.int v') (.int v)).bind boolD = some false := by rw [gt_int]; simp [boolD]; omega
    refine TrA.r (a := false) (ob1 := p2) (run_ifF (fun h => by cases h) (Run.bind c2.this (Run.bind y2 (run_ifF (fun h => by cases h) (Run.bind c2.this (Run.bind y2 (Run.lift hgt))))))) ?_
    exact tra_ifF (fun h => by cases h) (TrA.pure trivial)
end DD
namespace DD
open PySem PySem.Spec PyProof.Rows L2
theorem walk {l : PySem.W.OpenLaw} {q : Program} {loose : List Str} {XP : (Str → Option Value) → Heap → Prop} {YP : World → Heap → Prop} {d : DefRec} {K : Params → PySem.W.Frag} (hn : l.most = some 63) (hdf : d.params.defaults = []) (himp : importsNone q = true) (hY : ∀ (w : World) (h : Heap), YP w h → (K w.params).In h)
    (F : ∀ (w : World) (mg : Str → Option Value) (fa : Addr) (h : Heap), (K w.params).In h → h.Ns mainGlobals mg → mg d.name = some (.ref fa) → ∃ fd : FuncData, (∀ (s : Shared) (u : Value), BindsTo s fd ⟨[u], []⟩ [("_law_script", u)]) ∧ ∀ base : Heap, (K w.params).In base → base.Ns mainGlobals mg → SysAt base → FnG l.prog w (K w.params) mg base 11 fa fd ["_law_script"] (spLaw (K w.params))) :
    PySem.W.WalkO q loose XP YP l.row.toRowW d [] (fun f vs => PySem.call f vs) :=
  walk_g (n := 63) (k := 11) (x := "_law_script") (sp := fun w => spLaw (K w.params)) hn (by decide) hdf ⟨rfl, by decide, by decide⟩ himp hY F fun _ _ a ns _ hS => ⟨a, ns, rfl, hS, fun _ => rfl⟩
end DD
open PySem PySem.W PyProof.Rows
set_option maxRecDepth 100000 in
set_option maxHeartbeats 0 in
theorem PySem.Challenge.cw_darkdrawers_k53_whole_things_more_and_le_holds : PySem.Challenge.rw_darkdrawers_k53_whole_things_more_and_le.Holds := by
  w_on; o_law; k_head; (case hw => w_witness2)
  k_fill
  refine DD.walk (l := PySem.Challenge.rw_darkdrawers_k53_whole_things_more_and_le) rfl rfl (by decide +kernel) (fun w h Y => PySem.W.kIn_of Y) ?F
  case F =>
    intro w mg fa h KX G hmg
    refine' DD.all_mk KX G hmg DD.law_true ?a0 ?l0 ?c0 ?k0 ?a1 ?l1 ?c1 ?k1 ?a2 ?l2 ?c2 ?k2 ?a3 ?l3 ?c3 ?k3 ?a4 ?l4 ?c4 ?k4 ?a5 ?l5 ?c5 ?k5 ?a6 ?l6 ?c6 ?k6 ?a7 ?l7 ?c7 ?k7 ?a8 ?l8 ?c8 ?k8 ?a14 ?l14 ?c14 ?k14 ?a15 ?l15 ?c15 ?k15 ?a16 ?l16 ?c16 ?k16 ?a17 ?l17 ?c17 ?k17 ?a18 ?l18 ?c18 ?k18 ?a19 ?l19 ?c19 ?k19 ?a20 ?l20 ?c20 ?k20 ?a21 ?l21 ?c21 ?k21 ?a22 ?l22 ?c22 ?k22 ?a23 ?l23 ?c23 ?k23 ?a24 ?l24 ?c24 ?k24 ?a26 ?l26 ?c26 ?k26 ?a27 ?l27 ?c27 ?k27 ?a28 ?l28 ?c28 ?k28 ?a29 ?l29 ?c29 ?k29 ?a31 ?l31 ?c31 ?k31 ?a32 ?l32 ?c32 ?k32 ?a41 ?l41 ?c41 ?k41 ?a42 ?l42 ?c42 ?k42 ?a43 ?l43 ?c43 ?k43 ?z0 ?z1 ?z2 ?z3 ?z4 ?z5 ?z6 ?z7 ?z8 ?z9 ?z10 ?z11 ?z12 ?z13 ?z14 ?y0 ?y1 ?y2 ?y3 ?y4 ?y5 ?aC_BadCollection ?aC_BadCount ?aC_BadEdit ?aC_BadEdits ?aC_BadStock ?aC_BadWish ?aC_Busy ?aC_Cabinet ?aC_LastCollection ?aC_NoCollection ?aC_NoDrawer ?aC_NoKind ?aC_NothingToUndo ?aC_SIZES ?aC_TooFew ?aC_TooManyCollections ?aC_TooManyEdits ?aC_TooMuch ?iC_BadCollection ?iT_BadCollection ?iL_BadCollection ?iD_BadCollection ?iK_BadCollection ?iO_BadCollection ?iA_BadCollection ?iB_BadCollection ?iY_BadCollection ?iE_BadCollection ?iN_BadCollection ?iC_BadCount ?iT_BadCount ?iL_BadCount ?iD_BadCount ?iK_BadCount ?iO_BadCount ?iA_BadCount ?iB_BadCount ?iY_BadCount ?iE_BadCount ?iN_BadCount ?iC_BadEdit ?iT_BadEdit ?iL_BadEdit ?iD_BadEdit ?iK_BadEdit ?iO_BadEdit ?iA_BadEdit ?iB_BadEdit ?iY_BadEdit ?iE_BadEdit ?iN_BadEdit ?iC_BadStock ?iT_BadStock ?iL_BadStock ?iD_BadStock ?iK_BadStock ?iO_BadStock ?iA_BadStock ?iB_BadStock ?iY_BadStock ?iE_BadStock ?iN_BadStock ?iC_BadWish ?iT_BadWish ?iL_BadWish ?iD_BadWish ?iK_BadWish ?iO_BadWish ?iA_BadWish ?iB_BadWish ?iY_BadWish ?iE_BadWish ?iN_BadWish ?iC_NoCollection ?iT_NoCollection ?iL_NoCollection ?iD_NoCollection ?iK_NoCollection ?iO_NoCollection ?iA_NoCollection ?iB_NoCollection ?iY_NoCollection ?iE_NoCollection ?iN_NoCollection ?iC_NoDrawer ?iT_NoDrawer ?iL_NoDrawer ?iD_NoDrawer ?iK_NoDrawer ?iO_NoDrawer ?iA_NoDrawer ?iB_NoDrawer ?iY_NoDrawer ?iE_NoDrawer ?iN_NoDrawer ?iC_NoKind ?iT_NoKind ?iL_NoKind ?iD_NoKind ?iK_NoKind ?iO_NoKind ?iA_NoKind ?iB_NoKind ?iY_NoKind ?iE_NoKind ?iN_NoKind ?iC_TooFew ?iT_TooFew ?iL_TooFew ?iD_TooFew ?iK_TooFew ?iO_TooFew ?iA_TooFew ?iB_TooFew ?iY_TooFew ?iE_TooFew ?iN_TooFew ?iC_TooMuch ?iT_TooMuch ?iL_TooMuch ?iD_TooMuch ?iK_TooMuch ?iO_TooMuch ?iA_TooMuch ?iB_TooMuch ?iY_TooMuch ?iE_TooMuch ?iN_TooMuch ?xq_BadEdits ?xk_BadEdits ?xs_BadEdits ?xt_BadEdits ?xq_Busy ?xk_Busy ?xs_Busy ?xt_Busy ?xq_LastCollection ?xk_LastCollection ?xs_LastCollection ?xt_LastCollection ?xq_NothingToUndo ?xk_NothingToUndo ?xs_NothingToUndo ?xt_NothingToUndo ?xq_TooManyCollections ?xk_TooManyCollections ?xs_TooManyCollections ?xt_TooManyCollections ?xq_TooManyEdits ?xk_TooManyEdits ?xs_TooManyEdits ?xt_TooManyEdits ?tw_SIZES ?pg_Cabinet ?hd_Cabinet ?po_Cabinet ?sa_Cabinet ?oa_Cabinet ?on_Cabinet ?ot_Cabinet ?om_Cabinet ?ok_Cabinet ?mk_Cabinet ?kc_Cabinet ?m9 ?g9 ?t9 ?q9 ?l9 ?c9 ?k9 ?m10 ?g10 ?t10 ?q10 ?l10 ?c10 ?k10 ?m11 ?g11 ?t11 ?q11 ?l11 ?c11 ?k11 ?m12 ?t12 ?l12 ?c12 ?k12 ?m13 ?t13 ?l13 ?c13 ?k13 ?m25 ?t25 ?l25 ?c25 ?k25 ?m30 ?t30 ?l30 ?c30 ?k30 ?m33 ?t33 ?l33 ?c33 ?k33 ?m34 ?t34 ?l34 ?c34 ?k34 ?m35 ?t35 ?l35 ?c35 ?k35 ?m36 ?t36 ?l36 ?c36 ?k36 ?m37 ?t37 ?l37 ?c37 ?k37 ?m38 ?t38 ?l38 ?c38 ?k38 ?m39 ?t39 ?l39 ?c39 ?k39 ?m40 ?t40 ?l40 ?c40 ?k40 ?kn40 ?no_Cabinet_numbers ?no_Cabinet_standing ?no_Cabinet_states ?no_Cabinet_watching
    (case a0 => k_is); (case l0 => k_is); (case c0 => k_is); (case k0 => k_is)
    (case a1 => k_is); (case l1 => k_is); (case c1 => k_is); (case k1 => k_is)
    (case a2 => k_is); (case l2 => k_is); (case c2 => k_is); (case k2 => k_is)
    (case a3 => k_is); (case l3 => k_is); (case c3 => k_is); (case k3 => k_is)
    (case a4 => k_is); (case l4 => k_is); (case c4 => k_is); (case k4 => k_is)
    (case a5 => k_is); (case l5 => k_is); (case c5 => k_is); (case k5 => k_is)
    (case a6 => k_is); (case l6 => k_is); (case c6 => k_is); (case k6 => k_is)
    (case a7 => k_is); (case l7 => k_is); (case c7 => k_is); (case k7 => k_is)
    (case a8 => k_is); (case l8 => k_is); (case c8 => k_is); (case k8 => k_is)
    (case a14 => k_is); (case l14 => k_is); (case c14 => k_is); (case k14 => k_is)
    (case a15 => k_is); (case l15 => k_is); (case c15 => k_is); (case k15 => k_is)
    (case a16 => k_is); (case l16 => k_is); (case c16 => k_is); (case k16 => k_is)
    (case a17 => k_is); (case l17 => k_is); (case c17 => k_is); (case k17 => k_is)
    (case a18 => k_is); (case l18 => k_is); (case c18 => k_is); (case k18 => k_is)
    (case a19 => k_is); (case l19 => k_is); (case c19 => k_is); (case k19 => k_is)
    (case a20 => k_is); (case l20 => k_is); (case c20 => k_is); (case k20 => k_is)
    (case a21 => k_is); (case l21 => k_is); (case c21 => k_is); (case k21 => k_is)
    (case a22 => k_is); (case l22 => k_is); (case c22 => k_is); (case k22 => k_is)
    (case a23 => k_is); (case l23 => k_is); (case c23 => k_is); (case k23 => k_is)
    (case a24 => k_is); (case l24 => k_is); (case c24 => k_is); (case k24 => k_is)
    (case a26 => k_is); (case l26 => k_is); (case c26 => k_is); (case k26 => k_is)
    (case a27 => k_is); (case l27 => k_is); (case c27 => k_is); (case k27 => k_is)
    (case a28 => k_is); (case l28 => k_is); (case c28 => k_is); (case k28 => k_is)
    (case a29 => k_is); (case l29 => k_is); (case c29 => k_is); (case k29 => k_is)
    (case a31 => k_is); (case l31 => k_is); (case c31 => k_is); (case k31 => k_is)
    (case a32 => k_is); (case l32 => k_is); (case c32 => k_is); (case k32 => k_is)
    (case a41 => k_is); (case l41 => k_is); (case c41 => k_is); (case k41 => k_is)
    (case a42 => k_is); (case l42 => k_is); (case c42 => k_is); (case k42 => k_is)
    (case a43 => k_is); (case l43 => k_is); (case c43 => k_is); (case k43 => k_is)
    (case z0 => k_is)
    (case z1 => k_is)
    (case z2 => k_is)
    (case z3 => k_is)
    (case z4 => k_is)
    (case z5 => k_is)
    (case z6 => k_is)
    (case z7 => k_is)
    (case z8 => k_is)
    (case z9 => k_is)
    (case z10 => k_is)
    (case z11 => k_is)
    (case z12 => k_is)
    (case z13 => k_is)
    (case z14 => k_is)
    (case y0 => k_is)
    (case y1 => k_is)
    (case y2 => k_is)
    (case y3 => k_is)
    (case y4 => k_is)
    (case y5 => k_is)
    (case aC_BadCollection => first | k_is | kernel_rfl | decide +kernel)
    (case aC_BadCount => first | k_is | kernel_rfl | decide +kernel)
    (case aC_BadEdit => first | k_is | kernel_rfl | decide +kernel)
    (case aC_BadEdits => first | k_is | kernel_rfl | decide +kernel)
    (case aC_BadStock => first | k_is | kernel_rfl | decide +kernel)
    (case aC_BadWish => first | k_is | kernel_rfl | decide +kernel)
    (case aC_Busy => first | k_is | kernel_rfl | decide +kernel)
    (case aC_Cabinet => first | k_is | kernel_rfl | decide +kernel)
    (case aC_LastCollection => first | k_is | kernel_rfl | decide +kernel)
    (case aC_NoCollection => first | k_is | kernel_rfl | decide +kernel)
    (case aC_NoDrawer => first | k_is | kernel_rfl | decide +kernel)
    (case aC_NoKind => first | k_is | kernel_rfl | decide +kernel)
    (case aC_NothingToUndo => first | k_is | kernel_rfl | decide +kernel)
    (case aC_SIZES => first | k_is | kernel_rfl | decide +kernel)
    (case aC_TooFew => first | k_is | kernel_rfl | decide +kernel)
    (case aC_TooManyCollections => first | k_is | kernel_rfl | decide +kernel)
    (case aC_TooManyEdits => first | k_is | kernel_rfl | decide +kernel)
    (case aC_TooMuch => first | k_is | kernel_rfl | decide +kernel)
    (case iC_BadCollection => first | k_is | kernel_rfl | decide +kernel)
    (case iT_BadCollection => first | k_is | kernel_rfl | decide +kernel)
    (case iL_BadCollection => first | k_is | kernel_rfl | decide +kernel)
    (case iD_BadCollection => first | k_is | kernel_rfl | decide +kernel)
    (case iK_BadCollection => first | k_is | kernel_rfl | decide +kernel)
    (case iO_BadCollection => first | k_is | kernel_rfl | decide +kernel)
    (case iA_BadCollection => first | k_is | kernel_rfl | decide +kernel)
    (case iB_BadCollection => first | k_is | kernel_rfl | decide +kernel)
    (case iY_BadCollection => first | k_is | kernel_rfl | decide +kernel)
    (case iE_BadCollection => first | k_is | kernel_rfl | decide +kernel)
    (case iN_BadCollection => first | k_is | kernel_rfl | decide +kernel)
    (case iC_BadCount => first | k_is | kernel_rfl | decide +kernel)
    (case iT_BadCount => first | k_is | kernel_rfl | decide +kernel)
    (case iL_BadCount => first | k_is | kernel_rfl | decide +kernel)
    (case iD_BadCount => first | k_is | kernel_rfl | decide +kernel)
    (case iK_BadCount => first | k_is | kernel_rfl | decide +kernel)
    (case iO_BadCount => first | k_is | kernel_rfl | decide +kernel)
    (case iA_BadCount => first | k_is | kernel_rfl | decide +kernel)
    (case iB_BadCount => first | k_is | kernel_rfl | decide +kernel)
    (case iY_BadCount => first | k_is | kernel_rfl | decide +kernel)
    (case iE_BadCount => first | k_is | kernel_rfl | decide +kernel)
    (case iN_BadCount => first | k_is | kernel_rfl | decide +kernel)
    (case iC_BadEdit => first | k_is | kernel_rfl | decide +kernel)
    (case iT_BadEdit => first | k_is | kernel_rfl | decide +kernel)
    (case iL_BadEdit => first | k_is | kernel_rfl | decide +kernel)
    (case iD_BadEdit => first | k_is | kernel_rfl | decide +kernel)
    (case iK_BadEdit => first | k_is | kernel_rfl | decide +kernel)
    (case iO_BadEdit => first | k_is | kernel_rfl | decide +kernel)
    (case iA_BadEdit => first | k_is | kernel_rfl | decide +kernel)
    (case iB_BadEdit => first | k_is | kernel_rfl | decide +kernel)
    (case iY_BadEdit => first | k_is | kernel_rfl | decide +kernel)
    (case iE_BadEdit => first | k_is | kernel_rfl | decide +kernel)
    (case iN_BadEdit => first | k_is | kernel_rfl | decide +kernel)
    (case iC_BadStock => first | k_is | kernel_rfl | decide +kernel)
    (case iT_BadStock => first | k_is | kernel_rfl | decide +kernel)
    (case iL_BadStock => first | k_is | kernel_rfl | decide +kernel)
    (case iD_BadStock => first | k_is | kernel_rfl | decide +kernel)
    (case iK_BadStock => first | k_is | kernel_rfl | decide +kernel)
    (case iO_BadStock => first | k_is | kernel_rfl | decide +kernel)
    (case iA_BadStock => first | k_is | kernel_rfl | decide +kernel)
    (case iB_BadStock => first | k_is | kernel_rfl | decide +kernel)
    (case iY_BadStock => first | k_is | kernel_rfl | decide +kernel)
    (case iE_BadStock => first | k_is | kernel_rfl | decide +kernel)
    (case iN_BadStock => first | k_is | kernel_rfl | decide +kernel)
    (case iC_BadWish => first | k_is | kernel_rfl | decide +kernel)
    (case iT_BadWish => first | k_is | kernel_rfl | decide +kernel)
    (case iL_BadWish => first | k_is | kernel_rfl | decide +kernel)
    (case iD_BadWish => first | k_is | kernel_rfl | decide +kernel)
    (case iK_BadWish => first | k_is | kernel_rfl | decide +kernel)
    (case iO_BadWish => first | k_is | kernel_rfl | decide +kernel)
    (case iA_BadWish => first | k_is | kernel_rfl | decide +kernel)
    (case iB_BadWish => first | k_is | kernel_rfl | decide +kernel)
    (case iY_BadWish => first | k_is | kernel_rfl | decide +kernel)
    (case iE_BadWish => first | k_is | kernel_rfl | decide +kernel)
    (case iN_BadWish => first | k_is | kernel_rfl | decide +kernel)
    (case iC_NoCollection => first | k_is | kernel_rfl | decide +kernel)
    (case iT_NoCollection => first | k_is | kernel_rfl | decide +kernel)
    (case iL_NoCollection => first | k_is | kernel_rfl | decide +kernel)
    (case iD_NoCollection => first | k_is | kernel_rfl | decide +kernel)
    (case iK_NoCollection => first | k_is | kernel_rfl | decide +kernel)
    (case iO_NoCollection => first | k_is | kernel_rfl | decide +kernel)
    (case iA_NoCollection => first | k_is | kernel_rfl | decide +kernel)
    (case iB_NoCollection => first | k_is | kernel_rfl | decide +kernel)
    (case iY_NoCollection => first | k_is | kernel_rfl | decide +kernel)
    (case iE_NoCollection => first | k_is | kernel_rfl | decide +kernel)
    (case iN_NoCollection => first | k_is | kernel_rfl | decide +kernel)
    (case iC_NoDrawer => first | k_is | kernel_rfl | decide +kernel)
    (case iT_NoDrawer => first | k_is | kernel_rfl | decide +kernel)
    (case iL_NoDrawer => first | k_is | kernel_rfl | decide +kernel)
    (case iD_NoDrawer => first | k_is | kernel_rfl | decide +kernel)
    (case iK_NoDrawer => first | k_is | kernel_rfl | decide +kernel)
    (case iO_NoDrawer => first | k_is | kernel_rfl | decide +kernel)
    (case iA_NoDrawer => first | k_is | kernel_rfl | decide +kernel)
    (case iB_NoDrawer => first | k_is | kernel_rfl | decide +kernel)
    (case iY_NoDrawer => first | k_is | kernel_rfl | decide +kernel)
    (case iE_NoDrawer => first | k_is | kernel_rfl | decide +kernel)
    (case iN_NoDrawer => first | k_is | kernel_rfl | decide +kernel)
    (case iC_NoKind => first | k_is | kernel_rfl | decide +kernel)
    (case iT_NoKind => first | k_is | kernel_rfl | decide +kernel)
    (case iL_NoKind => first | k_is | kernel_rfl | decide +kernel)
    (case iD_NoKind => first | k_is | kernel_rfl | decide +kernel)
    (case iK_NoKind => first | k_is | kernel_rfl | decide +kernel)
    (case iO_NoKind => first | k_is | kernel_rfl | decide +kernel)
    (case iA_NoKind => first | k_is | kernel_rfl | decide +kernel)
    (case iB_NoKind => first | k_is | kernel_rfl | decide +kernel)
    (case iY_NoKind => first | k_is | kernel_rfl | decide +kernel)
    (case iE_NoKind => first | k_is | kernel_rfl | decide +kernel)
    (case iN_NoKind => first | k_is | kernel_rfl | decide +kernel)
    (case iC_TooFew => first | k_is | kernel_rfl | decide +kernel)
    (case iT_TooFew => first | k_is | kernel_rfl | decide +kernel)
    (case iL_TooFew => first | k_is | kernel_rfl | decide +kernel)
    (case iD_TooFew => first | k_is | kernel_rfl | decide +kernel)
    (case iK_TooFew => first | k_is | kernel_rfl | decide +kernel)
    (case iO_TooFew => first | k_is | kernel_rfl | decide +kernel)
    (case iA_TooFew => first | k_is | kernel_rfl | decide +kernel)
    (case iB_TooFew => first | k_is | kernel_rfl | decide +kernel)
    (case iY_TooFew => first | k_is | kernel_rfl | decide +kernel)
    (case iE_TooFew => first | k_is | kernel_rfl | decide +kernel)
    (case iN_TooFew => first | k_is | kernel_rfl | decide +kernel)
    (case iC_TooMuch => first | k_is | kernel_rfl | decide +kernel)
    (case iT_TooMuch => first | k_is | kernel_rfl | decide +kernel)
    (case iL_TooMuch => first | k_is | kernel_rfl | decide +kernel)
    (case iD_TooMuch => first | k_is | kernel_rfl | decide +kernel)
    (case iK_TooMuch => first | k_is | kernel_rfl | decide +kernel)
    (case iO_TooMuch => first | k_is | kernel_rfl | decide +kernel)
    (case iA_TooMuch => first | k_is | kernel_rfl | decide +kernel)
    (case iB_TooMuch => first | k_is | kernel_rfl | decide +kernel)
    (case iY_TooMuch => first | k_is | kernel_rfl | decide +kernel)
    (case iE_TooMuch => first | k_is | kernel_rfl | decide +kernel)
    (case iN_TooMuch => first | k_is | kernel_rfl | decide +kernel)
    (case xq_BadEdits => first | k_is | kernel_rfl | decide +kernel)
    (case xk_BadEdits => first | k_is | kernel_rfl | decide +kernel)
    (case xs_BadEdits => first | k_is | kernel_rfl | decide +kernel)
    (case xt_BadEdits => first | k_is | kernel_rfl | decide +kernel)
    (case xq_Busy => first | k_is | kernel_rfl | decide +kernel)
    (case xk_Busy => first | k_is | kernel_rfl | decide +kernel)
    (case xs_Busy => first | k_is | kernel_rfl | decide +kernel)
    (case xt_Busy => first | k_is | kernel_rfl | decide +kernel)
    (case xq_LastCollection => first | k_is | kernel_rfl | decide +kernel)
    (case xk_LastCollection => first | k_is | kernel_rfl | decide +kernel)
    (case xs_LastCollection => first | k_is | kernel_rfl | decide +kernel)
    (case xt_LastCollection => first | k_is | kernel_rfl | decide +kernel)
    (case xq_NothingToUndo => first | k_is | kernel_rfl | decide +kernel)
    (case xk_NothingToUndo => first | k_is | kernel_rfl | decide +kernel)
    (case xs_NothingToUndo => first | k_is | kernel_rfl | decide +kernel)
    (case xt_NothingToUndo => first | k_is | kernel_rfl | decide +kernel)
    (case xq_TooManyCollections => first | k_is | kernel_rfl | decide +kernel)
    (case xk_TooManyCollections => first | k_is | kernel_rfl | decide +kernel)
    (case xs_TooManyCollections => first | k_is | kernel_rfl | decide +kernel)
    (case xt_TooManyCollections => first | k_is | kernel_rfl | decide +kernel)
    (case xq_TooManyEdits => first | k_is | kernel_rfl | decide +kernel)
    (case xk_TooManyEdits => first | k_is | kernel_rfl | decide +kernel)
    (case xs_TooManyEdits => first | k_is | kernel_rfl | decide +kernel)
    (case xt_TooManyEdits => first | k_is | kernel_rfl | decide +kernel)
    (case tw_SIZES => first | k_is | kernel_rfl | decide +kernel)
    (case pg_Cabinet => first | k_is | kernel_rfl | decide +kernel)
    (case hd_Cabinet => first | k_is | kernel_rfl | decide +kernel)
    (case po_Cabinet => first | k_is | kernel_rfl | decide +kernel)
    (case sa_Cabinet => first | k_is | kernel_rfl | decide +kernel)
    (case oa_Cabinet => first | k_is | kernel_rfl | decide +kernel)
    (case on_Cabinet => first | k_is | kernel_rfl | decide +kernel)
    (case ot_Cabinet => first | k_is | kernel_rfl | decide +kernel)
    (case om_Cabinet => first | k_is | kernel_rfl | decide +kernel)
    (case ok_Cabinet => first | k_is | kernel_rfl | decide +kernel)
    (case mk_Cabinet => first | k_is | kernel_rfl | decide +kernel)
    (case kc_Cabinet => first | k_is | kernel_rfl | decide +kernel)
    (case m9 => first | k_is | kernel_rfl | decide +kernel)
    (case g9 => first | k_is | kernel_rfl | decide +kernel)
    (case t9 => first | k_is | kernel_rfl | decide +kernel)
    (case q9 => first | k_is | kernel_rfl | decide +kernel)
    (case l9 => first | k_is | kernel_rfl | decide +kernel)
    (case c9 => first | k_is | kernel_rfl | decide +kernel)
    (case k9 => first | k_is | kernel_rfl | decide +kernel)
    (case m10 => first | k_is | kernel_rfl | decide +kernel)
    (case g10 => first | k_is | kernel_rfl | decide +kernel)
    (case t10 => first | k_is | kernel_rfl | decide +kernel)
    (case q10 => first | k_is | kernel_rfl | decide +kernel)
    (case l10 => first | k_is | kernel_rfl | decide +kernel)
    (case c10 => first | k_is | kernel_rfl | decide +kernel)
    (case k10 => first | k_is | kernel_rfl | decide +kernel)
    (case m11 => first | k_is | kernel_rfl | decide +kernel)
    (case g11 => first | k_is | kernel_rfl | decide +kernel)
    (case t11 => first | k_is | kernel_rfl | decide +kernel)
    (case q11 => first | k_is | kernel_rfl | decide +kernel)
    (case l11 => first | k_is | kernel_rfl | decide +kernel)
    (case c11 => first | k_is | kernel_rfl | decide +kernel)
    (case k11 => first | k_is | kernel_rfl | decide +kernel)
    (case m12 => first | k_is | kernel_rfl | decide +kernel)
    (case t12 => first | k_is | kernel_rfl | decide +kernel)
    (case l12 => first | k_is | kernel_rfl | decide +kernel)
    (case c12 => first | k_is | kernel_rfl | decide +kernel)
    (case k12 => first | k_is | kernel_rfl | decide +kernel)
    (case m13 => first | k_is | kernel_rfl | decide +kernel)
    (case t13 => first | k_is | kernel_rfl | decide +kernel)
    (case l13 => first | k_is | kernel_rfl | decide +kernel)
    (case c13 => first | k_is | kernel_rfl | decide +kernel)
    (case k13 => first | k_is | kernel_rfl | decide +kernel)
    (case m25 => first | k_is | kernel_rfl | decide +kernel)
    (case t25 => first | k_is | kernel_rfl | decide +kernel)
    (case l25 => first | k_is | kernel_rfl | decide +kernel)
    (case c25 => first | k_is | kernel_rfl | decide +kernel)
    (case k25 => first | k_is | kernel_rfl | decide +kernel)
    (case m30 => first | k_is | kernel_rfl | decide +kernel)
    (case t30 => first | k_is | kernel_rfl | decide +kernel)
    (case l30 => first | k_is | kernel_rfl | decide +kernel)
    (case c30 => first | k_is | kernel_rfl | decide +kernel)
    (case k30 => first | k_is | kernel_rfl | decide +kernel)
    (case m33 => first | k_is | kernel_rfl | decide +kernel)
    (case t33 => first | k_is | kernel_rfl | decide +kernel)
    (case l33 => first | k_is | kernel_rfl | decide +kernel)
    (case c33 => first | k_is | kernel_rfl | decide +kernel)
    (case k33 => first | k_is | kernel_rfl | decide +kernel)
    (case m34 => first | k_is | kernel_rfl | decide +kernel)
    (case t34 => first | k_is | kernel_rfl | decide +kernel)
    (case l34 => first | k_is | kernel_rfl | decide +kernel)
    (case c34 => first | k_is | kernel_rfl | decide +kernel)
    (case k34 => first | k_is | kernel_rfl | decide +kernel)
    (case m35 => first | k_is | kernel_rfl | decide +kernel)
    (case t35 => first | k_is | kernel_rfl | decide +kernel)
    (case l35 => first | k_is | kernel_rfl | decide +kernel)
    (case c35 => first | k_is | kernel_rfl | decide +kernel)
    (case k35 => first | k_is | kernel_rfl | decide +kernel)
    (case m36 => first | k_is | kernel_rfl | decide +kernel)
    (case t36 => first | k_is | kernel_rfl | decide +kernel)
    (case l36 => first | k_is | kernel_rfl | decide +kernel)
    (case c36 => first | k_is | kernel_rfl | decide +kernel)
    (case k36 => first | k_is | kernel_rfl | decide +kernel)
    (case m37 => first | k_is | kernel_rfl | decide +kernel)
    (case t37 => first | k_is | kernel_rfl | decide +kernel)
    (case l37 => first | k_is | kernel_rfl | decide +kernel)
    (case c37 => first | k_is | kernel_rfl | decide +kernel)
    (case k37 => first | k_is | kernel_rfl | decide +kernel)
    (case m38 => first | k_is | kernel_rfl | decide +kernel)
    (case t38 => first | k_is | kernel_rfl | decide +kernel)
    (case l38 => first | k_is | kernel_rfl | decide +kernel)
    (case c38 => first | k_is | kernel_rfl | decide +kernel)
    (case k38 => first | k_is | kernel_rfl | decide +kernel)
    (case m39 => first | k_is | kernel_rfl | decide +kernel)
    (case t39 => first | k_is | kernel_rfl | decide +kernel)
    (case l39 => first | k_is | kernel_rfl | decide +kernel)
    (case c39 => first | k_is | kernel_rfl | decide +kernel)
    (case k39 => first | k_is | kernel_rfl | decide +kernel)
    (case m40 => first | k_is | kernel_rfl | decide +kernel)
    (case t40 => first | k_is | kernel_rfl | decide +kernel)
    (case l40 => first | k_is | kernel_rfl | decide +kernel)
    (case c40 => first | k_is | kernel_rfl | decide +kernel)
    (case k40 => first | k_is | kernel_rfl | decide +kernel)
    (case kn40 => first | k_is | kernel_rfl | decide +kernel)
    (case no_Cabinet_numbers => first | k_is | kernel_rfl | decide +kernel)
    (case no_Cabinet_standing => first | k_is | kernel_rfl | decide +kernel)
    (case no_Cabinet_states => first | k_is | kernel_rfl | decide +kernel)
    (case no_Cabinet_watching => first | k_is | kernel_rfl | decide +kernel)
