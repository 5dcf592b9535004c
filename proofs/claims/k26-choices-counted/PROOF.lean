import PyProof.Rows.All
import HandS.Exc
import Wide.All
import OpenK.AllK
import Wide.FinOn
import HandS.ForMost
import HandS.Walk
import HandS.Zip
import HandS.Flow
import HandS.IsInst
import HandS.Style
import HandS.TupAny
import HandS.TupMul
import HandS.Star
import HandS.Lambda
import PyProof.ListMulRoad
import PyProof.FactsAll.tuple_2
import PyProof.ReprRoads
import HandS.Zip0
import KE.GoesMore
import KE.GoesEnum
import HandS.Conv
import HandS.Dict
import HandS.RaiseMore
import HandS.Text
import HandS.SortInts
import HandS.SetFor
import PyProof.Rows.SetFrom
import HandS.Strs
import HandS.ExcCtx
import HandS.ExcInit
import HandS.TryOnly
import HandS.ExcOwn
import HandS.ExcField
import HandS.ExcIs
import HandS.WordsExc
import KE.KExcIs
import HandS.StrMore
import PyProof.StrOps2
import PyProof.FactsAll.list_0
import PyProof.FactsAll.list_3
import HandS.Property
import KE.KExcInit
import KE.KxField
import HandS.FStr
import PyProof.FString3
import KE.KCallOwn
import HandS.Hot
import HandS.HotCalls
import HandS.NoneIn
import HandS.Words
import PyProof.AutoIntOps
import HandS.TupSets
import KE.DataMinMax
import KE.SortData
import PyProof.RulesMatch
import KE.KStar
import HandS.Defaults
import HandS.GenList
import HandS.ClsMeth
import KE.KUnpack
import KE.KSuper
import HandS.Nested
import HandS.DictComp
import HandS.JoinGen
import HandS.Replace
import HandS.ReplaceLit
import KE.KDictKeyed
import HandS.EndTab
import KE.KNestM
import KE.KDictDisplayH
import KE.KWithOwn
import HandS.RaiseFrom
import HandS.ExcInitHot
import HandS.SuiteRaise
import HandS.Finally
import KE.KDictCopyH
import KE.KDictList
import KE.KDictOf
import HandS.WideBits
import PySem.Challenge.RW_darkdrawers_k26_choices_counted
set_option Elab.async false
set_option linter.all false
set_option maxRecDepth 100000
set_option maxHeartbeats 4000000
namespace DD
open PySem PySem.Spec PyProof.Rows L2
abbrev D := PyData
/-- an error: its class, its fields -/
structure Exn where
  cls : Str
  fs : List (Str × D)
/-- what may change: an instance (its class's name, its fields), a list -/
inductive Cell where
  | ins (c : Str) (fs : List (Str × D))
  | lst (ds : List D)
  /-- a dict from stocks (tuples of tuples of ints) to ints -/
  | dic (kvs : List (List (List Int) × Int))
  /-- the table at P of code objects of the name q (of lambdas); it may grow -/
  | tab (P : Addr) (q : Str)
  /-- a dict from tuples of ints to numbers, True or False -/
  | dir (kvs : List (List Int × D))
  /-- a dict from ints to ints -/
  | dii (kvs : List (Int × Int))
  /-- a dict that is being walked: it stays as it is -/
  | lck (kvs : List (List Int × D)) (ep : Nat)
/-- the world of a mirror: the number of draws (at most), the things that may change -/
structure Wd where
  n : Nat
  ob : List Cell
instance {n : Nat} : OfNat Wd n := ⟨⟨n, []⟩⟩
/-- a mirror's monad: what holds behind a run that begins at n -/
class Mo (m : Type → Type) extends Monad m where
  sat : {α : Type} → m α → Wd → (α → Wd → Prop) → (Exn → Wd → Prop) → Prop
  lift : {α : Type} → Option α → m α
  sat_pure : ∀ {α : Type} {a : α} {n : Wd} {φ : α → Wd → Prop} {ξ : Exn → Wd → Prop}, sat (pure a) n φ ξ → φ a n
  sat_bind : ∀ {α β : Type} {x : m α} {f : α → m β} {n : Wd} {φ : β → Wd → Prop} {ξ : Exn → Wd → Prop}, sat (x >>= f) n φ ξ → sat x n (fun a n' => sat (f a) n' φ ξ) ξ
  sat_lift : ∀ {α : Type} {o : Option α} {n : Wd} {φ : α → Wd → Prop} {ξ : Exn → Wd → Prop}, sat (lift o) n φ ξ → ∃ a, o = some a ∧ φ a n
instance : Mo Option where
  sat := fun o n φ _ => n.ob = [] ∧ ∃ a, o = some a ∧ φ a n
  lift := fun o => o
  sat_pure := fun h => by obtain ⟨_, a, e, q⟩ := h; cases e; exact q
  sat_bind := fun {α β x f n φ ξ} h => by
    obtain ⟨hn, b, e, q⟩ := h
    cases x with
    | none => cases e
    | some a => exact ⟨hn, a, rfl, hn, b, e, q⟩
  sat_lift := fun h => h.2
/-- the wishes themselves as a mirror (no error leaves; nothing else changes) -/
def W (α : Type) : Type := Nat → (α → Nat → Prop) → Prop
instance : Mo W where
  pure := fun a n φ => φ a n
  bind := fun x f n φ => x n (fun a n' => f a n' φ)
  sat := fun w s φ _ => s.ob = [] ∧ w s.n (fun a n' => φ a ⟨n', []⟩)
  lift := fun o n φ => ∃ a, o = some a ∧ φ a n
  sat_pure := fun {α a n φ ξ} h => by
    obtain ⟨h1, h2⟩ := h
    obtain ⟨k, ob⟩ := n
    cases h1
    exact h2
  sat_bind := fun {α β x f n φ ξ} h => by
    obtain ⟨h1, h2⟩ := h
    refine ⟨h1, ?_⟩
    have e : (fun a (n' : Nat) => (⟨n', []⟩ : Wd).ob = [] ∧ f a n' (fun b n' => φ b ⟨n', []⟩)) = fun a n' => f a n' (fun b n' => φ b ⟨n', []⟩) := by
      funext a n'
      exact propext ⟨fun h => h.2, fun h => ⟨rfl, h⟩⟩
    show x n.n (fun a (n' : Nat) => (⟨n', []⟩ : Wd).ob = [] ∧ f a n' (fun b n' => φ b ⟨n', []⟩))
    rw [e]
    exact h2
  sat_lift := fun {α o n φ ξ} h => by
    obtain ⟨h1, a, e, h2⟩ := h
    obtain ⟨k, ob⟩ := n
    cases h1
    exact ⟨a, e, h2⟩
/-- a mirror that sees no thing that may change, where there is none -/
class Plain (m : Type → Type) [Mo m] : Prop where
  plain : ∀ {α : Type} {x : m α} {n : Wd} {φ : α → Wd → Prop} {ξ : Exn → Wd → Prop}, Mo.sat x n φ ξ → n.ob = [] ∧ Mo.sat x n (fun a n' => n'.ob = [] ∧ φ a n') (fun e n' => n'.ob = [] ∧ ξ e n')
instance : Plain Option := ⟨fun ⟨h, a, e, q⟩ => ⟨h, h, a, e, h, q⟩⟩
instance : Plain W := ⟨fun {α x n φ ξ} h => by
  obtain ⟨h1, h2⟩ := h
  refine ⟨h1, h1, ?_⟩
  have e : (fun (a : α) (n' : Nat) => (⟨n', []⟩ : Wd).ob = [] ∧ φ a ⟨n', []⟩) = fun a n' => φ a ⟨n', []⟩ := by
    funext a n'
    exact propext ⟨fun h => h.2, fun h => ⟨rfl, h⟩⟩
  show x n.n (fun a (n' : Nat) => (⟨n', []⟩ : Wd).ob = [] ∧ φ a ⟨n', []⟩)
  rw [e]
  exact h2⟩
/-- no error comes out of it -/
class Calm (m : Type → Type) [Mo m] : Prop where
  calm : ∀ {α : Type} {x : m α} {n : Wd} {φ : α → Wd → Prop} {ξ ξ' : Exn → Wd → Prop}, Mo.sat x n φ ξ → Mo.sat x n φ ξ'
instance : Calm Option := ⟨fun h => h⟩
instance : Calm W := ⟨fun h => h⟩
/-! ### data in the heap -/
def keyD : Key → D
  | .inl i => .int i
  | .inr x => .str x
/-- a value that is no reference, as data -/
def flat : V → Bool
  | .non => true
  | .bl _ => true
  | .int _ => true
  | .str _ => true
  | _ => false
def flatD : V → D
  | .bl b => .bool b
  | .int i => .int i
  | .str x => .str x
  | _ => .none
/-- the class of the name c -/
structure ClsOk (K : PySem.W.Frag) (c : Str) (C : Addr) : Prop where
  nm : PySem.W.nsIn K mainGlobals c = some (some (.ref C))
  cl : Cls K C
  ha : PySem.W.findIn K (.ref C) "__class__" = some (some (.builtin "object.__class__"))
  hn : PySem.W.specialIn K (.builtin "object.__class__") "__get__" = some (some (.builtin "getset_descriptor.__get__"))
  ht : PySem.W.takesIn K (.builtin "object.__class__") = some true
  hm : PySem.W.mroIn K C (.type "object") = some true
  kit : (["NoneType", "bool", "int", "str", "list", "tuple", "dict"].all fun T => PySem.W.kitOne K (.ref C) (.type T) == some false) = true
/-- a thing that may change, as data: it can be neither shown nor compared -/
def bigI : Int := 2 ^ 2000
def refD (k : Nat) : D := .dict [(.none, .int (bigI + k))]
def refL (k : Nat) : D := .dict [(.bool false, .int (bigI + k))]
/-- an instance that does not change any more, as data: its class, its fields -/
def insD (c : Str) (fs : List (Str × D)) : D := .dict ((.bool true, .int bigI) :: (.none, .str c) :: fs.map fun p => (.str p.1, p.2))
mutual
inductive Da (K : PySem.W.Frag) (G : Hp) : V → D → Prop
  | non : Da K G .non .none
  | bl (b : Bool) : Da K G (.bl b) (.bool b)
  | int (i : Int) : Da K G (.int i) (.int i)
  | str (x : Str) : Da K G (.str x) (.str x)
  | lst {a : Addr} {xs : List V} {ds : List D} : G a = some (.lst xs) → DaAll K G xs ds → Da K G (.ref a) (.list ds)
  | tup {a : Addr} {xs : List V} {ds : List D} : SqT K G a xs → DaAll K G xs ds → Da K G (.ref a) (.tuple ds)
  | dct {a : Addr} {kvs : List (Key × V)} : G a = some (.dK kvs) → (∀ p ∈ kvs, flat p.2 = true) → Da K G (.ref a) (.dict (kvs.map fun p => (keyD p.1, flatD p.2)))
  | obj {a : Addr} {k : Nat} : G a = some (.own k) → Da K G (.ref a) (.dict [(.none, .int (bigI + k))])
  | cel {a : Addr} {k : Nat} : G a = some (.met k k) → Da K G (.ref a) (.dict [(.bool false, .int (bigI + k))])
  | fin {a C dx : Addr} {c : Str} {vs : List (Str × V)} {fs : List (Str × D)} : G a = some (.ins C dx vs) → ClsOk K c C → vs.map (·.1) = fs.map (·.1) → DaAll K G (vs.map (·.2)) (fs.map (·.2)) → Da K G (.ref a) (.dict ((.bool true, .int bigI) :: (.none, .str c) :: fs.map fun p => (.str p.1, p.2)))
inductive DaAll (K : PySem.W.Frag) (G : Hp) : List V → List D → Prop
  | nil : DaAll K G [] []
  | cons {v : V} {vs : List V} {d : D} {ds : List D} : Da K G v d → DaAll K G vs ds → DaAll K G (v :: vs) (d :: ds)
end
/-- marks of things that may change: an instance, a list -/
def mkOf : HO → Option Nat
  | .own k => some k
  | .met k _ => some k
  | _ => none
def isMk (o : HO) : Bool := (mkOf o).isSome
/-- the data stand in the heap; a mark of G stands for a thing that may change -/
structure SubM (G H : Hp) : Prop where
  h : ∀ a o, G a = some o → isMk o = false → H a = some o
  t : ∀ a, H a = none → G a = none
theorem SubM.sT {K : PySem.W.Frag} {H H' : Hp} {a : Addr} {xs : List V} (e : SubM H H') (h : SqT K H a xs) : SqT K H' a xs := by
  rcases h with (h | ⟨o, h⟩) | h
  · exact .inl (.inl (e.h _ _ h rfl))
  · exact .inl (.inr ⟨o, e.h _ _ h rfl⟩)
  · exact .inr h
theorem SubM.seq {K : PySem.W.Frag} {H H' : Hp} {a : Addr} {xs : List V} (e : SubM H H') (h : SqL K H a xs) : SqL K H' a xs := by
  rcases h with (h | ⟨o, h⟩) | h
  · exact .inl (.inl (e.h _ _ h rfl))
  · exact .inl (.inr ⟨o, e.h _ _ h rfl⟩)
  · exact .inr h
theorem SubM.trans {G H H' : Hp} (e : SubM G H) (s : Same H H') : SubM G H' := ⟨fun a o h m => s _ _ (e.h a o h m), fun a h => e.t a (s.free h)⟩
theorem _root_.L2.Same.subm {G G' H : Hp} (s : Same G G') (e : SubM G' H) : SubM G H := ⟨fun a o h m => e.h a o (s _ _ h) m, fun a h => s.free (e.t a h)⟩
theorem sameT' {K : PySem.W.Frag} {H H' : Hp} {a : Addr} {xs : List V} (e : Same H H') (h : SqT K H a xs) : SqT K H' a xs := by
  rcases h with (h | ⟨o, h⟩) | h
  · exact .inl (.inl (e _ _ h))
  · exact .inl (.inr ⟨o, e _ _ h⟩)
  · exact .inr h
theorem sameT {K : PySem.W.Frag} {H H' : Hp} {a : Addr} {xs : List V} (e : SubM H H') (h : SqT K H a xs) : SqT K H' a xs := e.sT h
section
variable {K : PySem.W.Frag} {G G' H H' : Hp}
mutual
theorem Da.mono (e : Same G G') : ∀ {d : D} {v : V}, Da K G v d → Da K G' v d
  | _, _, .non => .non
  | _, _, .bl b => .bl b
  | _, _, .int i => .int i
  | _, _, .str x => .str x
  | _, _, .lst h a => .lst (e _ _ h) (DaAll.mono e a)
  | _, _, .tup h a => .tup (sameT' e h) (DaAll.mono e a)
  | _, _, .dct h a => .dct (e _ _ h) a
  | _, _, .obj h => .obj (e _ _ h)
  | _, _, .cel h => .cel (e _ _ h)
  | _, _, .fin h k l a => .fin (e _ _ h) k l (DaAll.mono e a)
theorem DaAll.mono (e : Same G G') : ∀ {ds : List D} {vs : List V}, DaAll K G vs ds → DaAll K G' vs ds
  | _, _, .nil => .nil
  | _, _, .cons a b => .cons (Da.mono e a) (DaAll.mono e b)
end
theorem DaAll.length : ∀ {vs : List V} {ds : List D}, DaAll K G vs ds → vs.length = ds.length
  | _, _, .nil => rfl
  | _, _, .cons _ b => by simp [DaAll.length b]
theorem DaAll.get : ∀ {vs : List V} {ds : List D} {i : Nat} {d : D}, DaAll K G vs ds → ds[i]? = some d → ∃ v, vs[i]? = some v ∧ Da K G v d
  | _, _, _, _, .nil, e => by simp at e
  | _, _, 0, _, .cons a _, e => by simp at e; subst e; exact ⟨_, rfl, a⟩
  | _, _, i + 1, d, .cons _ b, e => by
    obtain ⟨v, h1, h2⟩ := DaAll.get (i := i) (d := d) b (by simpa using e)
    exact ⟨v, by simpa using h1, h2⟩
theorem DaAll.getV : ∀ {vs : List V} {ds : List D} {i : Nat} {v : V}, DaAll K G vs ds → vs[i]? = some v → ∃ d, ds[i]? = some d ∧ Da K G v d
  | _, _, _, _, .nil, e => by simp at e
  | _, _, 0, _, .cons a _, e => by simp at e; subst e; exact ⟨_, rfl, a⟩
  | _, _, i + 1, v, .cons _ b, e => by
    obtain ⟨d, h1, h2⟩ := DaAll.getV (i := i) (v := v) b (by simpa using e)
    exact ⟨d, by simpa using h1, h2⟩
theorem DaAll.append : ∀ {vs ws : List V} {ds es : List D}, DaAll K G vs ds → DaAll K G ws es → DaAll K G (vs ++ ws) (ds ++ es)
  | _, _, _, _, .nil, b => b
  | _, _, _, _, .cons a r, b => .cons a (DaAll.append r b)
theorem DaAll.one {v : V} {d : D} (h : Da K G v d) : DaAll K G [v] [d] := .cons h .nil
theorem DaAll.take : ∀ {vs : List V} {ds : List D} (n : Nat), DaAll K G vs ds → DaAll K G (vs.take n) (ds.take n)
  | _, _, 0, _ => .nil
  | _, _, _ + 1, .nil => .nil
  | _, _, n + 1, .cons a b => .cons a (DaAll.take n b)
theorem DaAll.drop : ∀ {vs : List V} {ds : List D} (n : Nat), DaAll K G vs ds → DaAll K G (vs.drop n) (ds.drop n)
  | _, _, 0, h => h
  | _, _, _ + 1, .nil => .nil
  | _, _, n + 1, .cons _ b => DaAll.drop n b
theorem DaAll.set {v : V} {d : D} (h : Da K G v d) : ∀ {vs : List V} {ds : List D} (n : Nat), DaAll K G vs ds → DaAll K G (vs.set n v) (ds.set n d)
  | _, _, _, .nil => .nil
  | _, _, 0, .cons _ b => .cons h b
  | _, _, n + 1, .cons a b => .cons a (DaAll.set h n b)
theorem DaAll.reverse : ∀ {vs : List V} {ds : List D}, DaAll K G vs ds → DaAll K G vs.reverse ds.reverse
  | _, _, .nil => .nil
  | _, _, .cons a b => by
    rw [List.reverse_cons, List.reverse_cons]
    exact (DaAll.reverse b).append (.one a)
theorem DaAll.replicate {v : V} {d : D} (h : Da K G v d) : ∀ n : Nat, DaAll K G (List.replicate n v) (List.replicate n d)
  | 0 => .nil
  | n + 1 => .cons h (DaAll.replicate h n)
theorem DaAll.flatReplicate {vs : List V} {ds : List D} (h : DaAll K G vs ds) : ∀ n : Nat, DaAll K G (List.replicate n vs).flatten (List.replicate n ds).flatten
  | 0 => .nil
  | n + 1 => by
    rw [List.replicate_succ, List.replicate_succ, List.flatten_cons, List.flatten_cons]
    exact h.append (DaAll.flatReplicate h n)
theorem daInts : ∀ ns : List Int, DaAll K G (ns.map V.int) (ns.map PyData.int)
  | [] => .nil
  | n :: r => .cons (.int n) (daInts r)
theorem DaAll.ints : ∀ {vs : List V} {ns : List Int}, DaAll K G vs (ns.map PyData.int) → vs = ns.map V.int
  | [], [], _ => rfl
  | _ :: _, n :: ns, .cons a b => by
    cases a
    rw [List.map_cons, DaAll.ints b]
end
/-! ### data without things that may change -/
mutual
def okD : D → Bool
  | .none => true
  | .bool _ => true
  | .int _ => true
  | .str _ => true
  | .list ds => okDs ds
  | .tuple ds => okDs ds
  | .dict kvs => okK kvs
def okDs : List D → Bool
  | [] => true
  | d :: ds => okD d && okDs ds
def okK : List (D × D) → Bool
  | (.none, _) :: _ => false
  | (.bool _, _) :: _ => false
  | _ => true
end
mutual
theorem ok_canLay : ∀ d : D, d.canLay0 = true → okD d = true
  | .none, _ => rfl
  | .bool _, _ => rfl
  | .int _, _ => rfl
  | .str _, _ => rfl
  | .list ds, h => ok_canLays ds (by simpa [PyData.canLay0] using h)
  | .tuple ds, h => ok_canLays ds (by simpa [PyData.canLay0] using h)
  | .dict _, h => by simp [PyData.canLay0] at h
theorem ok_canLays : ∀ ds : List D, PyData.canLayAll0 ds = true → okDs ds = true
  | [], _ => rfl
  | d :: ds, h => by
    simp only [PyData.canLayAll0, Bool.and_eq_true] at h
    simp only [okDs, Bool.and_eq_true]
    exact ⟨ok_canLay d h.1, ok_canLays ds h.2⟩
end
theorem big_no (k : Nat) : PyData.showable (.int (bigI + k)) = false := by
  simp only [PyData.showable, decide_eq_false_iff_not, Nat.not_lt]
  have e : (bigI + (k : Int)).natAbs = 2 ^ 2000 + k := by
    unfold bigI
    rw [show ((2 : Int) ^ 2000) = ((2 ^ 2000 : Nat) : Int) from by norm_cast, ← Int.natCast_add]
    exact Int.natAbs_natCast _
  rw [e]
  exact (Nat.le_log2 (Nat.ne_of_gt (Nat.lt_of_lt_of_le (Nat.two_pow_pos 2000) (Nat.le_add_right _ _)))).mpr (Nat.le_trans (Nat.pow_le_pow_right (by decide) (by decide : 1920 ≤ 2000)) (Nat.le_add_right _ _))
/-- the dict of sys.modules is none of ours -/
def Sys (X : Cx) : Prop := ∃ o es ep, X.base.get? sysModules = some o ∧ o.data = .dict es ep
section
variable {X : Cx} {pins : List (Addr × Obj)} {σ : L2.St} {H : Hp} {s : Shared}
theorem ne_sysL (hy : Sys X) (I : Inv X pins σ H s) {a : Addr} {xs : List V} (h : SqL X.K H a xs) : a ≠ sysModules := by
  rintro rfl
  obtain ⟨o, es, ep, e, d⟩ := hy
  obtain ⟨its, _, ⟨o', n, e', _, _, d'⟩, _⟩ := I.list h
  rw [(I.bs _ _ e).1] at e'
  cases e'
  rw [d] at d'
  cases d'
theorem flat_reads {v : V} {u : Value} (f : flat v = true) (r : RelV v u) : ∀ h : Heap, Reads h u (flatD v) [] := fun h => by
  cases v with
  | non => cases r; exact Reads.none
  | bl b => cases r; exact Reads.bool b
  | int i => obtain ⟨t, rfl⟩ := r; exact Reads.int i t
  | str x => obtain ⟨t, rfl⟩ := r; exact Reads.str x t
  | _ => cases f
theorem pairs_reads {h : Heap} : ∀ {es : List DictEntry} {vs : List (Key × Value)} {kvs : List (Key × V)}, Pairs (mixKind X.prog X.w) es vs → KV kvs vs → (∀ p ∈ kvs, flat p.2 = true) →
    ReadsAll h (es.map (·.key)) ((kvs.map fun p => (keyD p.1, flatD p.2)).map (·.1)) [] ∧ ReadsAll h (es.map (·.val)) ((kvs.map fun p => (keyD p.1, flatD p.2)).map (·.2)) []
  | _, _, _, .nil, .nil, _ => ⟨.nil, .nil⟩
  | _, _, _, .cons hk hv t, .cons r rr, f => by
    obtain ⟨h1, h2⟩ := pairs_reads (h := h) t rr fun p hp => f p (List.mem_cons_of_mem _ hp)
    obtain ⟨e1, r1⟩ := r
    refine ⟨ReadsAll.cons (as := []) (bs := []) ?_ h1, ReadsAll.cons (as := []) (bs := []) ?_ h2⟩
    · rcases keyIs_shape (show keyIs _ _ = true from hk) with ⟨i, t, ek, ev⟩ | ⟨x, t, ek, ev⟩
      · dsimp only
        rw [ev, e1, ek]
        exact Reads.int i t
      · dsimp only
        rw [ev, e1, ek]
        exact Reads.str x t
    · dsimp only
      rw [hv]
      exact flat_reads (f _ List.mem_cons_self) r1 h
mutual
theorem Da.reads (hy : Sys X) (I : Inv X pins σ H s) : ∀ (d : D) (v : V) (u : Value), Da X.K H v d → okD d = true → RelV v u → ∃ as, Reads s.heap u d as ∧ sysModules ∉ as
  | .none, _, _, h, _, r => by
    cases h
    cases r
    exact ⟨_, Reads.none, by simp⟩
  | .bool b, _, _, h, _, r => by
    cases h
    cases r
    exact ⟨_, Reads.bool b, by simp⟩
  | .int i, _, _, h, _, r => by
    cases h
    obtain ⟨t, rfl⟩ := r
    exact ⟨_, Reads.int i t, by simp⟩
  | .str x, _, _, h, _, r => by
    cases h
    obtain ⟨t, rfl⟩ := r
    exact ⟨_, Reads.str x t, by simp⟩
  | .list ds, _, _, h, ok, r => by
    cases h with
    | lst hs ha =>
      cases r
      obtain ⟨its, rv, ⟨o, n, ho, hc, _, hd⟩, _⟩ := I.list (SqL.of hs)
      obtain ⟨as, hr, hn⟩ := Da.readsAll hy I ds _ its ha ok rv
      refine ⟨_, Reads.list ho hc hd hr, fun hm => ?_⟩
      rcases List.mem_cons.mp hm with e | e
      · exact ne_sysL hy I (SqL.of hs) e.symm
      · exact hn e
  | .tuple ds, _, _, h, ok, r => by
    cases h with
    | tup hs ha =>
      cases r
      obtain ⟨its, rv, ⟨o, ho, hc, n, hd⟩, _⟩ := I.tuple hs
      obtain ⟨as, hr, hn⟩ := Da.readsAll hy I ds _ its ha ok rv
      exact ⟨_, Reads.tuple ho hc hd hr, hn⟩
  | .dict kvs, _, _, h, ok, r => by
    cases h with
    | dct hs hf =>
      cases r
      obtain ⟨z, y, vs, kv, o, es, ep, ho, hx, hd, _, hp, _⟩ := I.hok _ _ hs
      obtain ⟨h1, h2⟩ := pairs_reads (h := s.heap) hp kv hf
      refine ⟨_, Reads.dict ho hx.1 hd h1 h2, fun hm => ?_⟩
      rcases List.mem_cons.mp hm with e | e
      · rw [← e] at y
        exact absurd y (by decide)
      · simp at e
    | obj hs => cases ok
    | cel hs => cases ok
    | fin _ _ _ _ => cases ok
theorem Da.readsAll (hy : Sys X) (I : Inv X pins σ H s) : ∀ (ds : List D) (vs : List V) (us : List Value), DaAll X.K H vs ds → okDs ds = true → Vals vs us → ∃ as, ReadsAll s.heap us ds as ∧ sysModules ∉ as
  | [], _, _, h, _, r => by
    cases h
    cases r
    exact ⟨_, ReadsAll.nil, by simp⟩
  | d :: ds, _, _, h, ok, r => by
    cases h with
    | cons h1 h2 =>
      cases r with
      | cons r1 r2 =>
        simp only [okDs, Bool.and_eq_true] at ok
        obtain ⟨as, q1, n1⟩ := Da.reads hy I d _ _ h1 ok.1 r1
        obtain ⟨bs, q2, n2⟩ := Da.readsAll hy I ds _ _ h2 ok.2 r2
        exact ⟨_, ReadsAll.cons q1 q2, by simp [n1, n2]⟩
end
end
section
variable {K : PySem.W.Frag} {G H : Hp}
mutual
theorem Da.toH (e : SubM G H) : ∀ {d : D} {v : V}, Da K G v d → okD d = true → Da K H v d
  | _, _, .non, _ => .non
  | _, _, .bl b, _ => .bl b
  | _, _, .int i, _ => .int i
  | _, _, .str x, _ => .str x
  | _, _, .lst h a, ok => .lst (e.h _ _ h rfl) (DaAll.toH e a ok)
  | _, _, .tup h a, ok => .tup (sameT e h) (DaAll.toH e a ok)
  | _, _, .dct h a, _ => .dct (e.h _ _ h rfl) a
  | _, _, .obj h, ok => by cases ok
  | _, _, .cel h, ok => by cases ok
  | _, _, .fin _ _ _ _, ok => by cases ok
theorem DaAll.toH (e : SubM G H) : ∀ {ds : List D} {vs : List V}, DaAll K G vs ds → okDs ds = true → DaAll K H vs ds
  | _, _, .nil, _ => .nil
  | _, _, .cons a b, ok => by
    simp only [okDs, Bool.and_eq_true] at ok
    exact .cons (Da.toH e a ok.1) (DaAll.toH e b ok.2)
end
mutual
theorem Da.okS : ∀ {d : D} {v : V}, Da K G v d → d.showable = true → okD d = true
  | _, _, .non, _ => rfl
  | _, _, .bl b, _ => rfl
  | _, _, .int i, _ => rfl
  | _, _, .str x, _ => rfl
  | _, _, .lst h a, ok => DaAll.okS a (by simpa [PyData.showable] using ok)
  | _, _, .tup h a, ok => DaAll.okS a (by simpa [PyData.showable] using ok)
  | _, _, .dct (kvs := kvs) h a, _ => by
    cases kvs with
    | nil => rfl
    | cons p r =>
      obtain ⟨k, v⟩ := p
      cases k <;> rfl
  | _, _, .obj (k := k) h, ok => by
    have : PyData.showable (.dict [(.none, .int (bigI + k))]) = (PyData.showable .none && PyData.showable (.int (bigI + k)) && true) := by simp only [PyData.showable, PyData.showableKv]
    rw [this, big_no] at ok
    simp at ok
  | _, _, .cel (k := k) h, ok => by
    have : PyData.showable (.dict [(.bool false, .int (bigI + k))]) = (PyData.showable (.bool false) && PyData.showable (.int (bigI + k)) && true) := by simp only [PyData.showable, PyData.showableKv]
    rw [this, big_no] at ok
    simp at ok
  | _, _, .fin (c := c) (fs := fs) _ _ _ _, ok => by
    have : PyData.showable (.dict ((.bool true, .int bigI) :: (.none, .str c) :: fs.map fun p => (PyData.str p.1, p.2))) = (PyData.showable (.bool true) && PyData.showable (.int bigI) && PyData.showableKv ((.none, .str c) :: fs.map fun p => (PyData.str p.1, p.2))) := by simp only [PyData.showable, PyData.showableKv]
    have e : PyData.showable (.int bigI) = false := by
      have := big_no 0
      rwa [Int.natCast_zero, Int.add_zero] at this
    rw [this, e] at ok
    simp at ok
theorem DaAll.okS : ∀ {ds : List D} {vs : List V}, DaAll K G vs ds → PyData.showableAll ds = true → okDs ds = true
  | _, _, .nil, _ => rfl
  | _, _, .cons a b, ok => by
    simp only [PyData.showableAll, Bool.and_eq_true] at ok
    simp only [okDs, Bool.and_eq_true]
    exact ⟨Da.okS a ok.1, DaAll.okS b ok.2⟩
end
end
/-! ### the state: what a body knows -/
/-- a def's entry: the heap, what of it is data, the deck -/
structure Bs where
  H : Hp
  G : Hp
  dk : Option (Addr × Addr)
  tG : Hp
/-- what a def may change: the deck, the marked things -/
def Bs.fp (B : Bs) (a : Addr) : Prop := (∃ x y, B.dk = some (x, y) ∧ (a = x ∨ a = y)) ∨ ∃ u, B.G a = some u ∧ isMk u = true
def DeckAt (H : Hp) (a b : Addr) (n : Nat) : Prop := ∃ (cells : List Int) (c : Int), H a = some (.lst [.ref b, .int c]) ∧ H b = some (.lst (cells.map V.int)) ∧ a ≠ b ∧ 0 ≤ c ∧ c ≤ (n : Int) ∧ (∀ x ∈ cells, 0 ≤ x) ∧ cells.length ≤ 63
def hashR (r : List Int) : Int := reduceHash (Builtin.Tuple.tupleHashOf (r.map hashInt))
def hashS (S : List (List Int)) : Int := reduceHash (Builtin.Tuple.tupleHashOf (S.map hashR))
def entS (x : List (List Int) × Addr × Value) : DictEntry := ⟨hashS x.1, .ref x.2.1, x.2.2⟩
/-- a dict's object, by its entries -/
def dicO (a : Addr) (xs : List (List (List Int) × Addr × Value)) : HO := .ext fun h => (a == sysModules) = false ∧ ∃ o es ep, h.get? a = some o ∧ o.ExactDict ∧ o.data = .dict es ep ∧ es.toList = xs.map entS ∧ (xs.map (·.1)).Nodup
def entR (x : List Int × Addr × Value) : DictEntry := ⟨hashR x.1, .ref x.2.1, x.2.2⟩
/-- a dict's object, by its entries: the keys are tuples of ints -/
def dirO (a : Addr) (xs : List (List Int × Addr × Value)) : HO := .ext fun h => (a == sysModules) = false ∧ ∃ o es ep, h.get? a = some o ∧ o.ExactDict ∧ o.data = .dict es ep ∧ es.toList = xs.map entR ∧ (xs.map (·.1)).Nodup
/-- the same, told with its count of changes -/
def dirE (a : Addr) (xs : List (List Int × Addr × Value)) (ep : Nat) : HO := .ext fun h => (a == sysModules) = false ∧ ∃ o es, h.get? a = some o ∧ o.ExactDict ∧ o.data = .dict es ep ∧ es.toList = xs.map entR ∧ (xs.map (·.1)).Nodup
abbrev kI (r : List Int) : D := .tuple (r.map .int)
/-- a number, True or False, as it lies -/
inductive FvD : D → Value → Prop
  | int (i : Int) (t : Tok) : FvD (.int i) (.int i t)
  | bool (b : Bool) : FvD (.bool b) (.bool b)
inductive KvR (K : PySem.W.Frag) (G : Hp) : List (List Int × D) → List (List Int × Addr × Value) → Prop
  | nil : KvR K G [] []
  | cons {r : List Int} {d : D} {a : Addr} {u : Value} {ps : List (List Int × D)} {xs : List (List Int × Addr × Value)} : Da K G (.ref a) (kI r) → FvD d u → KvR K G ps xs → KvR K G ((r, d) :: ps) ((r, a, u) :: xs)
theorem KvR.mono {K : PySem.W.Frag} {G G' : Hp} (s : Same G G') : ∀ {ps : List (List Int × D)} {xs : List (List Int × Addr × Value)}, KvR K G ps xs → KvR K G' ps xs
  | _, _, .nil => .nil
  | _, _, .cons h f r => .cons (h.mono s) f (r.mono s)
abbrev kS (S : List (List Int)) : D := .tuple (S.map fun r => .tuple (r.map .int))
inductive KvS (K : PySem.W.Frag) (G : Hp) : List (List (List Int) × Int) → List (List (List Int) × Addr × Value) → Prop
  | nil : KvS K G [] []
  | cons {S : List (List Int)} {i : Int} {a : Addr} {t : Tok} {ps : List (List (List Int) × Int)} {xs : List (List (List Int) × Addr × Value)} : Da K G (.ref a) (kS S) → KvS K G ps xs → KvS K G ((S, i) :: ps) ((S, a, .int i t) :: xs)
theorem KvS.mono {K : PySem.W.Frag} {G G' : Hp} (s : Same G G') : ∀ {ps : List (List (List Int) × Int)} {xs : List (List (List Int) × Addr × Value)}, KvS K G ps xs → KvS K G' ps xs
  | _, _, .nil => .nil
  | _, _, .cons h r => .cons (h.mono s) (r.mono s)
def CellAt (K : PySem.W.Frag) (G H : Hp) (a k : Addr) : Cell → Prop
  | .ins c fs => G a = some (.own k) ∧ ∃ C dx vs, ClsOk K c C ∧ H a = some (.ins C dx vs) ∧ vs.map (·.1) = fs.map (·.1) ∧ DaAll K G (vs.map (·.2)) (fs.map (·.2))
  | .lst ds => G a = some (.met k k) ∧ ∃ xs, H a = some (.lst xs) ∧ DaAll K G xs ds
  | .dic kvs => G a = some (.own k) ∧ ∃ xs, H a = some (dicO a xs) ∧ KvS K G kvs xs
  | .tab P q => G a = some (.met k (k + 1)) ∧ a = P ∧ ∃ ps : Array Value, H a = some (.tbl ps) ∧ TriplesOk ps.toList ∧ ∀ (pos : Pos) (cv : Value), codeAmong pos ps.toList = some cv → ∃ c, cv = .ref c ∧ G c = some (LamX.CodeO c q)
  | .dir kvs => G a = some (.own k) ∧ ∃ xs, H a = some (dirO a xs) ∧ KvR K G kvs xs
  | .dii kvs => G a = some (.own k) ∧ H a = some (.dK (kvs.map fun p => (.inl p.1, .int p.2)))
  | .lck kvs ep => G a = some (.own k) ∧ ∃ xs, H a = some (dirE a xs ep) ∧ KvR K G kvs xs
theorem CellAt.there {K : PySem.W.Frag} {G H : Hp} {a k : Addr} : ∀ {c : Cell}, CellAt K G H a k c → H a ≠ none
  | .ins _ _, ⟨_, C, dx, vs, _, e, _⟩ => by rw [e]; simp
  | .lst _, ⟨_, xs, e, _⟩ => by rw [e]; simp
  | .dic _, ⟨_, xs, e, _⟩ => by rw [e]; simp
  | .tab _ _, ⟨_, _, ps, e, _⟩ => by rw [e]; simp
  | .dir _, ⟨_, xs, e, _⟩ => by rw [e]; simp
  | .dii _, ⟨_, e⟩ => by rw [e]; simp
  | .lck _ _, ⟨_, xs, e, _⟩ => by rw [e]; simp
theorem CellAt.mark {K : PySem.W.Frag} {G H : Hp} {a k : Addr} : ∀ {c : Cell}, CellAt K G H a k c → ∃ u, G a = some u ∧ mkOf u = some k
  | .ins _ _, h => ⟨_, h.1, rfl⟩
  | .lst _, h => ⟨_, h.1, rfl⟩
  | .dic _, h => ⟨_, h.1, rfl⟩
  | .tab _ _, h => ⟨_, h.1, rfl⟩
  | .dir _, h => ⟨_, h.1, rfl⟩
  | .dii _, h => ⟨_, h.1, rfl⟩
  | .lck _ _, h => ⟨_, h.1, rfl⟩
theorem CellAt.mono {K : PySem.W.Frag} {G H G' H' : Hp} {a k : Addr} (s : Same G G') (e : ∀ o, H a = some o → H' a = some o) : ∀ {c : Cell}, CellAt K G H a k c → CellAt K G' H' a k c
  | .ins _ _, ⟨g, C, dx, vs, n, h, l, d⟩ => ⟨s _ _ g, C, dx, vs, n, e _ h, l, d.mono s⟩
  | .lst _, ⟨g, xs, h, d⟩ => ⟨s _ _ g, xs, e _ h, d.mono s⟩
  | .dic _, ⟨g, xs, h, d⟩ => ⟨s _ _ g, xs, e _ h, d.mono s⟩
  | .tab _ _, ⟨g, p, ps, h, t, d⟩ => ⟨s _ _ g, p, ps, e _ h, t, fun pos cv x => by
    obtain ⟨c, e1, e2⟩ := d pos cv x
    exact ⟨c, e1, s _ _ e2⟩⟩
  | .dir _, ⟨g, xs, h, d⟩ => ⟨s _ _ g, xs, e _ h, d.mono s⟩
  | .dii _, ⟨g, h⟩ => ⟨s _ _ g, e _ h⟩
  | .lck _ _, ⟨g, xs, h, d⟩ => ⟨s _ _ g, xs, e _ h, d.mono s⟩
/-- the marked things are those of the world -/
structure Obs (K : PySem.W.Frag) (H G : Hp) (n : Wd) : Prop where
  at_ : ∀ a u k, G a = some u → mkOf u = some k → ∃ c, n.ob[k]? = some c ∧ CellAt K G H a k c
  inj : ∀ a b u w k, G a = some u → G b = some w → mkOf u = some k → mkOf w = some k → a = b
  all : ∀ k c, n.ob[k]? = some c → ∃ a, CellAt K G H a k c
theorem Obs.grow {K : PySem.W.Frag} {H G H' G' : Hp} {n : Wd} (o : Obs K H G n) (s : Same H H') (sg : Same G G') (mk : ∀ a u, isMk u = true → G' a = some u → G a = some u) : Obs K H' G' n where
  at_ := fun a u k e m => by
    obtain ⟨c, h1, h2⟩ := o.at_ a u k (mk a u (by unfold isMk; rw [m]; rfl) e) m
    exact ⟨c, h1, h2.mono sg fun _ h => s _ _ h⟩
  inj := fun a b u w k e f m m' => o.inj a b u w k (mk a u (by unfold isMk; rw [m]; rfl) e) (mk b w (by unfold isMk; rw [m']; rfl) f) m m'
  all := fun k c e => by
    obtain ⟨a, h⟩ := o.all k c e
    exact ⟨a, h.mono sg fun _ h => s _ _ h⟩
structure Fm (K : PySem.W.Frag) (B : Bs) (H G : Hp) (n : Wd) : Prop where
  keep : ∀ a o, B.H a = some o → ¬ B.fp a → H a = some o
  sub : SubM G H
  old : Same B.G G
  obs : Obs K H G n
  bt : ∀ a, B.H a = none → B.G a = none
  tg : Same B.tG G
  new : ∀ a, B.H a ≠ none → B.G a = none → G a = none
  deck : ∀ a b, B.dk = some (a, b) → DeckAt H a b n.n ∧ B.H a ≠ none ∧ B.H b ≠ none ∧ B.G a = none ∧ B.G b = none
/-- what a slot holds: data, a list of its own (it may be changed), the deck, anything -/
inductive Sl where
  | val (d : D) | own (ds : List D) | deck | any | exn (a : Addr) (od : Option Addr) (fs : List (Str × D))
  /-- a function; what is known of it stays true -/
  | fn (f : Addr) (F : Hp → Prop)
/-- the fields of an error that is held -/
def XdAt (K : PySem.W.Frag) (G : Hp) (od : Option Addr) (fs : List (Str × D)) : Prop := (fs = [] ∧ od = none) ∨ ∃ dx vs, od = some dx ∧ G dx = some (.xd vs) ∧ vs.map (·.1) = fs.map (·.1) ∧ DaAll K G (vs.map (·.2)) (fs.map (·.2))
theorem XdAt.mono {K : PySem.W.Frag} {G G' : Hp} {od : Option Addr} {fs : List (Str × D)} (s : Same G G') (h : XdAt K G od fs) : XdAt K G' od fs := by
  rcases h with h | ⟨dx, vs, h1, h2, h3, h4⟩
  · exact .inl h
  · exact .inr ⟨dx, vs, h1, s _ _ h2, h3, h4.mono s⟩
structure Ok (K : PySem.W.Frag) (B : Bs) (g : List Sl) (σ : L2.St) (H G : Hp) (n : Wd) : Prop where
  fm : Fm K B H G n
  len : g.length = σ.length
  val : ∀ (i : Nat) (d : D), g[i]? = some (Sl.val d) → ∃ v, σ[i]? = some (some v) ∧ Da K G v d
  own : ∃ f : Nat → Addr, (∀ (i j : Nat) (ds es : List D), g[i]? = some (Sl.own ds) → g[j]? = some (Sl.own es) → f i = f j → i = j) ∧
    ∀ (i : Nat) (ds : List D), g[i]? = some (Sl.own ds) → σ[i]? = some (some (V.ref (f i))) ∧ G (f i) = none ∧ B.H (f i) = none ∧ ∃ xs, H (f i) = some (.lst xs) ∧ DaAll K G xs ds
  dck : ∀ (i : Nat), g[i]? = some Sl.deck → ∃ a b, B.dk = some (a, b) ∧ σ[i]? = some (some (V.ref a))
  adr : ∀ (i : Nat) (a : Addr) (od : Option Addr) (fs : List (Str × D)), g[i]? = some (Sl.exn a od fs) → σ[i]? = some (some (V.ref a)) ∧ XdAt K G od fs
  fnc : ∀ (i : Nat) (f : Addr) (F : Hp → Prop), g[i]? = some (Sl.fn f F) → σ[i]? = some (some (V.ref f)) ∧ F G ∧ ∀ G1 G2, Same G1 G2 → F G1 → F G2
/-- an error as it lies behind the code -/
def ExA (K : PySem.W.Frag) (mg : Str → Option Value) (e : Exn) (G : Hp) (c : Value) (od : Option Addr) : Prop := ∃ C, mg e.cls = some (.ref C) ∧ c = .ref C ∧ XdAt K G od e.fs
abbrev ExAt (X : Cx) (e : Exn) (G : Hp) (_ : Hp) (c : Value) (od : Option Addr) : Prop := ExA X.K X.mg e G c od
/-- what is wished at an exception: w; the slots that are kept: g -/
structure XR where
  w : WX
  g : List Sl
def X0 : XR := ⟨fun _ _ _ _ => False, []⟩
def Xw (X : Cx) (B : Bs) (EX : XR) (ξ : Exn → Wd → Prop) : Prop := ∀ e n' σ' H' G' c od, ξ e n' → Ok X.K B EX.g σ' H' G' n' → ExAt X e G' H' c od → EX.w c od σ' H'
section
variable {K : PySem.W.Frag} {B : Bs} {g : List Sl} {σ : L2.St} {H G H' G' : Hp} {n : Wd}
/-- the heap grows: G grows with it, but not into what stood there -/
theorem Fm.there (f : Fm K B H G n) {a : Addr} {o : HO} (e : G a = some o) : H a ≠ none := fun h => by
  rw [f.sub.t a h] at e
  cases e
theorem Fm.fpThere (f : Fm K B H G n) {a : Addr} (h : B.fp a) : H a ≠ none := by
  rcases h with ⟨x, y, ed, hxy⟩ | ⟨k, e⟩
  · obtain ⟨⟨cs, c, h1, h2, _⟩, _⟩ := f.deck x y ed
    rcases hxy with rfl | rfl
    · rw [h1]; simp
    · rw [h2]; simp
  · exact f.there (f.old _ _ e.1)
theorem Fm.grow (f : Fm K B H G n) (s : Same H H') (sg : Same G G') (sb : SubM G' H') (nw : ∀ a, H a ≠ none → G a = none → G' a = none) (mk : ∀ a u, isMk u = true → G' a = some u → G a = some u) : Fm K B H' G' n where
  keep := fun a o e q => s _ _ (f.keep a o e q)
  sub := sb
  old := f.old.trans sg
  obs := f.obs.grow s sg mk
  bt := f.bt
  tg := f.tg.trans sg
  new := fun a e q => by
    by_cases h : H a = none
    · by_cases hp : B.fp a
      · exact absurd h (f.fpThere hp)
      · cases hb : B.H a with
        | none => exact absurd hb e
        | some o => rw [f.keep a o hb hp] at h; cases h
    · exact nw a h (f.new a e q)
  deck := fun a b e => by
    obtain ⟨⟨cs, c, h1, h2, h3⟩, r⟩ := f.deck a b e
    exact ⟨⟨cs, c, s _ _ h1, s _ _ h2, h3⟩, r⟩
theorem Ok.grow (o : Ok K B g σ H G n) (s : Same H H') (sg : Same G G') (sb : SubM G' H') (nw : ∀ a, H a ≠ none → G a = none → G' a = none) (mk : ∀ a u, isMk u = true → G' a = some u → G a = some u) : Ok K B g σ H' G' n where
  fm := o.fm.grow s sg sb nw mk
  len := o.len
  val := fun i d e => by
    obtain ⟨v, h1, h2⟩ := o.val i d e
    exact ⟨v, h1, h2.mono sg⟩
  own := by
    obtain ⟨f, h1, h2⟩ := o.own
    refine ⟨f, h1, fun i ds e => ?_⟩
    obtain ⟨a, b, c, xs, d, e⟩ := h2 i ds e
    exact ⟨a, nw _ (by rw [d]; simp) b, c, xs, s _ _ d, e.mono sg⟩
  dck := o.dck
  adr := fun i a od fs e => ⟨(o.adr i a od fs e).1, (o.adr i a od fs e).2.mono sg⟩
  fnc := fun i f F e => ⟨(o.fnc i f F e).1, (o.fnc i f F e).2.2 _ _ sg (o.fnc i f F e).2.1, (o.fnc i f F e).2.2⟩
theorem same_upd {H : Hp} {p : Addr} {o : HO} (h : H p = none) : Same H (upd H p o) := fun b x e => by
  rw [upd_ne (ne_of_none e h)]
  exact e
/-- a new object that is data -/
theorem Ok.alloc (o : Ok K B g σ H G n) {p : Addr} {u : HO} (h : H p = none) (hu : isMk u = false := by rfl) : Ok K B g σ (upd H p u) (upd G p u) n ∧ Same G (upd G p u) := by
  have hg : G p = none := by
    cases e : G p with
    | none => rfl
    | some z => exact absurd h (o.fm.there e)
  refine ⟨o.grow (same_upd h) (same_upd hg) ⟨fun a z e m => ?_, fun a e => ?_⟩ (fun a e q => ?_) (fun a w m e => ?_), same_upd hg⟩
  · unfold upd at e ⊢
    split at e
    · rename_i ha; rw [if_pos ha]; exact e
    · rename_i ha; rw [if_neg ha]; exact o.fm.sub.h _ _ e m
  · unfold upd at e ⊢
    split at e
    · cases e
    · rename_i ha; rw [if_neg ha]; exact o.fm.sub.t a e
  · have : a ≠ p := by rintro rfl; exact e h
    rw [upd_ne this]; exact q
  · unfold upd at e
    split at e
    · cases e; rw [hu] at m; cases m
    · exact e
/-- a new object that is not data (yet) -/
theorem Ok.raw (o : Ok K B g σ H G n) {p : Addr} {u : HO} (h : H p = none) : Ok K B g σ (upd H p u) G n :=
  o.grow (same_upd h) (Same.refl _) (o.fm.sub.trans (same_upd h)) (fun _ _ q => q) fun _ _ _ q => q
theorem Ok.free (o : Ok K B g σ H G n) {p : Addr} (h : H p = none) : G p = none := by
  cases e : G p with
  | none => rfl
  | some z => exact absurd h (o.fm.there e)
end
/-! ### the judgements -/
section
variable {m : Type → Type} [Mo m]
/-- an expression that gives data -/
def teJ (X : Cx) (EX : XR) (g : List Sl) (x : m D) : TE := fun σ H Q => ∃ B G n φ ξ, Ok X.K B g σ H G n ∧ Mo.sat x n φ ξ ∧ (∀ v H' G' d n', Ok X.K B g σ H' G' n' → Same G G' → Da X.K G' v d → φ d n' → Q v H') ∧ Xw X B EX ξ
def EJ (X : Cx) (EX : XR) (e : Expr) (g : List Sl) (x : m D) : Prop := PE X e (teJ X EX g x)
/-- an expression that gives a new list, not data yet -/
def tlJ (X : Cx) (EX : XR) (g : List Sl) (x : m (List D)) : TE := fun σ H Q => ∃ B G n φ ξ, Ok X.K B g σ H G n ∧ Mo.sat x n φ ξ ∧
  (∀ p xs H' G' ds n', Ok X.K B g σ H' G' n' → Same G G' → B.H p = none → G' p = none → H' p = some (.lst xs) → (∀ (i : Nat) (es : List D) (f : Addr), g[i]? = some (Sl.own es) → σ[i]? = some (some (V.ref f)) → f ≠ p) → DaAll X.K G' xs ds → φ ds n' → Q (.ref p) H') ∧ Xw X B EX ξ
def LJ (X : Cx) (EX : XR) (e : Expr) (g : List Sl) (x : m (List D)) : Prop := PE X e (tlJ X EX g x)
def ttJ (X : Cx) (EX : XR) (g : List Sl) (x : m Bool) : TT := fun σ H Q => ∃ B G n φ ξ, Ok X.K B g σ H G n ∧ Mo.sat x n φ ξ ∧ (∀ b H' G' n', Ok X.K B g σ H' G' n' → Same G G' → φ b n' → Q b H') ∧ Xw X B EX ξ
def TJ (X : Cx) (EX : XR) (e : Expr) (g : List Sl) (x : m Bool) : Prop := PT X e (ttJ X EX g x)
/-- arguments: data, or the deck -/
def ArgOk (K : PySem.W.Frag) (B : Bs) (G : Hp) : V → Sl → Prop
  | v, .val d => Da K G v d
  | v, .deck => ∃ a b, B.dk = some (a, b) ∧ v = .ref a
  | _, _ => False
inductive ArgsOk (K : PySem.W.Frag) (B : Bs) (G : Hp) : List V → List Sl → Prop
  | nil : ArgsOk K B G [] []
  | cons {v : V} {vs : List V} {a : Sl} {as : List Sl} : ArgOk K B G v a → ArgsOk K B G vs as → ArgsOk K B G (v :: vs) (a :: as)
def taJ (X : Cx) (EX : XR) (g : List Sl) (x : m (List Sl)) : TA := fun σ H Q => ∃ B G n φ ξ, Ok X.K B g σ H G n ∧ Mo.sat x n φ ξ ∧ (∀ vs H' G' as n', Ok X.K B g σ H' G' n' → Same G G' → ArgsOk X.K B G' vs as → φ as n' → Q vs H') ∧ Xw X B EX ξ
def AJ (X : Cx) (EX : XR) (es : List Expr) (g : List Sl) (x : m (List Sl)) : Prop := PA X es (taJ X EX g x)
end
theorem _root_.L2.PE.weak {X : Cx} {e : Expr} {t t' : TE} (h : PE X e t) (w : ∀ σ H Q, t' σ H Q → t σ H Q) : PE X e t' := ⟨fun pins s σ H Q I q => h.run pins s σ H Q I (w _ _ _ q)⟩
theorem _root_.L2.PT.weak {X : Cx} {e : Expr} {t t' : TT} (h : PT X e t) (w : ∀ σ H Q, t' σ H Q → t σ H Q) : PT X e t' := ⟨fun pins s σ H Q I q => h.run pins s σ H Q I (w _ _ _ q)⟩
theorem _root_.L2.PA.weak {X : Cx} {es : List Expr} {t t' : TA} (h : PA X es t) (w : ∀ σ H Q, t' σ H Q → t σ H Q) : PA X es t' := ⟨fun pos pins s σ H Q I q => h.run pos pins s σ H Q I (w _ _ _ q)⟩
theorem _root_.L2.PSs.weak {X : Cx} {ss : List Stmt} {t t' : TS} (h : PSs X ss t) (w : ∀ D σ H, t' D σ H → t D σ H) : PSs X ss t' := ⟨fun pins s σ H D I q => h.run pins s σ H D I (w _ _ _ q)⟩
theorem _root_.L2.PS.weak {X : Cx} {ss : Stmt} {t t' : TS} (h : PS X ss t) (w : ∀ D σ H, t' D σ H → t D σ H) : PS X ss t' := ⟨fun pins s σ H D I q => h.run pins s σ H D I (w _ _ _ q)⟩
end DD
namespace DD
open PySem PySem.Spec PyProof.Rows L2
/-- the heap and its data grow -/
structure Gr (H G H' G' : Hp) : Prop where
  h : Same H H'
  g : Same G G'
  sub : SubM G' H'
  new : ∀ a, H a ≠ none → G a = none → G' a = none
  mks : ∀ a u, isMk u = true → G' a = some u → G a = some u
theorem Gr.refl {H G : Hp} (s : SubM G H) : Gr H G H G := ⟨Same.refl _, Same.refl _, s, fun _ _ q => q, fun _ _ _ q => q⟩
theorem Ok.gr {K : PySem.W.Frag} {B : Bs} {g : List Sl} {σ : L2.St} {H G H' G' : Hp} {n : Wd} (o : Ok K B g σ H G n) (r : Gr H G H' G') : Ok K B g σ H' G' n := o.grow r.h r.g r.sub r.new r.mks
theorem Gr.alloc {H G : Hp} {p : Addr} {u : HO} (s : SubM G H) (h : H p = none) (hu : isMk u = false := by rfl) : Gr H G (upd H p u) (upd G p u) := by
  have hg : G p = none := s.t p h
  refine ⟨same_upd h, same_upd hg, ⟨fun a z e m => ?_, fun a e => ?_⟩, fun a e q => ?_, fun a w m e => ?_⟩
  · unfold upd at e ⊢
    split at e
    · rename_i ha; rw [if_pos ha]; exact e
    · rename_i ha; rw [if_neg ha]; exact s.h _ _ e m
  · unfold upd at e ⊢
    split at e
    · cases e
    · rename_i ha; rw [if_neg ha]; exact s.t a e
  · have : a ≠ p := by rintro rfl; exact e h
    rw [upd_ne this]; exact q
  · unfold upd at e
    split at e
    · cases e; rw [hu] at m; cases m
    · exact e
theorem Gr.trans {H G H1 G1 H2 G2 : Hp} (a : Gr H G H1 G1) (b : Gr H1 G1 H2 G2) : Gr H G H2 G2 :=
  ⟨a.h.trans b.h, a.g.trans b.g, b.sub, fun x e q => b.new x (by
    cases h : H x with
    | none => exact absurd h e
    | some o => rw [a.h _ _ h]; simp) (a.new x e q), fun x u m e => a.mks x u m (b.mks x u m e)⟩
/-- operations on data behind operations on values -/
def RD (K : PySem.W.Frag) (r : R2) (f : D → D → Option D) : Prop := ∀ (x y : V) (dx dy z : D) (H G : Hp) (Q : VK), Da K G x dx → Da K G y dy → SubM G H → f dx dy = some z → (∀ v H' G', Gr H G H' G' → Da K G' v z → Q v H') → r x y H Q
def RC1 (K : PySem.W.Frag) (r : List V → Hp → VK → Prop) (f : D → Option D) : Prop := ∀ (x : V) (dx z : D) (H G : Hp) (Q : VK), Da K G x dx → SubM G H → f dx = some z → (∀ v H' G', Gr H G H' G' → Da K G' v z → Q v H') → r [x] H Q
section
variable {m : Type → Type} [Mo m] {X : Cx} {EX : XR} {g : List Sl}
/-! ### names, constants -/
theorem ej_var (i : Nat) {x : Str} {pos : Pos} {d : D} (hs : g[i]? = some (Sl.val d) := by rfl) (hN : X.N[i]? = some x := by rfl) (hv : Vis X.env.scope x := by first | exact Or.inl rfl | exact Or.inr (Or.inl rfl) | exact Or.inr (Or.inr rfl)) (hd : (x == ("__debug__" : Str)) = false := by decide)
    (hcd : (x == ("__classdict__" : Str)) = false := by decide) : EJ (m := m) X EX (.Name x pos) g (pure d) :=
  (pe_var hN hv hd hcd).weak fun σ H Q ⟨B, G, n, φ, ξ, o, s, q, _⟩ => by
    obtain ⟨v, h1, h2⟩ := o.val i d hs
    exact ⟨v, h1, q v H G d n o (Same.refl _) h2 (Mo.sat_pure s)⟩
theorem ej_c {e : Expr} {v : V} {d : D} (h : PE X e (tC v)) (hd : ∀ K G, Da K G v d) : EJ (m := m) X EX e g (pure d) :=
  h.weak fun σ H Q ⟨B, G, n, φ, ξ, o, s, q, _⟩ => q v H G d n o (Same.refl _) (hd _ _) (Mo.sat_pure s)
theorem ej_int {i : Int} {j pos} : EJ (m := m) X EX (.Constant (.int i) j pos) g (pure (.int i)) := ej_c pe_int fun _ _ => .int i
theorem ej_bl {b : Bool} {j pos} : EJ (m := m) X EX (.Constant (.bool b) j pos) g (pure (.bool b)) := ej_c pe_bl fun _ _ => .bl b
/-! ### one and two operands -/
theorem te_one {α : Type} {x : m D} {f : D → m α} {n : Wd} {φ : α → Wd → Prop} {ξ : Exn → Wd → Prop} {B : Bs} {σ : L2.St} {H G : Hp} {Q : VK} (o : Ok X.K B g σ H G n) (s : Mo.sat (x >>= f) n φ ξ)
    (q : ∀ v H' G' d n', Ok X.K B g σ H' G' n' → Same G G' → Da X.K G' v d → Mo.sat (f d) n' φ ξ → Q v H') (xw : Xw X B EX ξ) : teJ X EX g x σ H Q :=
  ⟨B, G, n, _, ξ, o, Mo.sat_bind s, q, xw⟩
theorem ej_bin {a b : Expr} {op : Operator} {pos : Pos} {r : R2} {f : D → D → Option D} {x y : m D} (ho : OpR X (binaryOp op) r) (hr : RD X.K r f) (ha : EJ X EX a g x) (hb : EJ X EX b g y) :
    EJ X EX (.BinOp a op b pos) g (x >>= fun dx => y >>= fun dy => Mo.lift (f dx dy)) :=
  (pe_op ho ha hb).weak fun σ H Q ⟨B, G, n, φ, ξ, o, s, q, xw⟩ => te_one o s (fun v H1 G1 d n1 o1 g1 d1 s1 => te_one o1 s1 (fun w H2 G2 e n2 o2 g2 d2 s2 => by
    obtain ⟨z, ez, pz⟩ := Mo.sat_lift s2
    exact hr v w d e z H2 G2 Q (d1.mono g2) d2 o2.fm.sub ez fun u H3 G3 gr du => q u H3 G3 z n2 (o2.gr gr) ((g1.trans g2).trans gr.g) du pz) xw) xw
theorem ej_cmp {a b : Expr} {op : CmpOp} {pos : Pos} {r : R2} {f : D → D → Option D} {x y : m D} (ho : OpR X (compareOp op) r) (hr : RD X.K r f) (ha : EJ X EX a g x) (hb : EJ X EX b g y) (hn : behindInMarks op b = false := by first | exact nobehind _ (by decide) (by decide) | rfl) :
    EJ X EX (.Compare a [op] [b] pos) g (x >>= fun dx => y >>= fun dy => Mo.lift (f dx dy)) :=
  (pe_cmpR ho ha hb hn).weak fun σ H Q ⟨B, G, n, φ, ξ, o, s, q, xw⟩ => te_one o s (fun v H1 G1 d n1 o1 g1 d1 s1 => te_one o1 s1 (fun w H2 G2 e n2 o2 g2 d2 s2 => by
    obtain ⟨z, ez, pz⟩ := Mo.sat_lift s2
    exact hr v w d e z H2 G2 Q (d1.mono g2) d2 o2.fm.sub ez fun u H3 G3 gr du => q u H3 G3 z n2 (o2.gr gr) ((g1.trans g2).trans gr.g) du pz) xw) xw
theorem ej_ix {a b : Expr} {pos : Pos} {r : R2} {f : D → D → Option D} {x y : m D} (ho : IxR X r) (hr : RD X.K r f) (ha : EJ X EX a g x) (hb : EJ X EX b g y) (hs : PlainIx b) :
    EJ X EX (.Subscript a b pos) g (x >>= fun dx => y >>= fun dy => Mo.lift (f dx dy)) :=
  (pe_ix ho ha hb hs).weak fun σ H Q ⟨B, G, n, φ, ξ, o, s, q, xw⟩ => te_one o s (fun v H1 G1 d n1 o1 g1 d1 s1 => te_one o1 s1 (fun w H2 G2 e n2 o2 g2 d2 s2 => by
    obtain ⟨z, ez, pz⟩ := Mo.sat_lift s2
    exact hr v w d e z H2 G2 Q (d1.mono g2) d2 o2.fm.sub ez fun u H3 G3 gr du => q u H3 G3 z n2 (o2.gr gr) ((g1.trans g2).trans gr.g) du pz) xw) xw
theorem ej_call1 {fx : Str} {p pos : Pos} {a : Expr} {id : String} {r : List V → Hp → VK → Prop} {f : D → Option D} {x : m D} (hc : CallR X (.builtin id) r) (hr : RC1 X.K r f) (hm : X.mg fx = none) (ha : EJ X EX a g x) (hv : bootBuiltins fx = some (.builtin id) := by decide +kernel) (hg : Gl X fx := by rfl)
    (hn : fx ≠ "__name__" := by decide) (hdb : (fx == ("__debug__" : Str)) = false := by decide) (hs : starEach [a] X.env = (false, eval a X.env) :: starEach [] X.env := by rfl) :
    EJ X EX (.Call (.Name fx p) [a] [] pos) g (x >>= fun d => Mo.lift (f d)) :=
  (pe_callB hc hg hm hv (pa_cons ha pa_nil hs) hn hdb hs rfl).weak fun σ H Q ⟨B, G, n, φ, ξ, o, s, q, xw⟩ => te_one o s (fun v H1 G1 d n1 o1 g1 d1 s1 => by
    obtain ⟨z, ez, pz⟩ := Mo.sat_lift s1
    exact hr v d z H1 G1 Q d1 o1.fm.sub ez fun u H3 G3 gr du => q u H3 G3 z n1 (o1.gr gr) (g1.trans gr.g) du pz) xw
theorem ej_callT {fx : Str} {p pos : Pos} {a : Expr} {T : String} {r : List V → Hp → VK → Prop} {f : D → Option D} {x : m D} (hc : CallR X (.type T) r) (hr : RC1 X.K r f) (hm : X.mg fx = none) (ha : EJ X EX a g x) (hv : bootBuiltins fx = some (.type T) := by decide +kernel) (hg : Gl X fx := by rfl)
    (hn : fx ≠ "__name__" := by decide) (hdb : (fx == ("__debug__" : Str)) = false := by decide) (hs : starEach [a] X.env = (false, eval a X.env) :: starEach [] X.env := by rfl) :
    EJ X EX (.Call (.Name fx p) [a] [] pos) g (x >>= fun d => Mo.lift (f d)) :=
  (pe_callTy hc hg hm hv (pa_cons ha pa_nil hs) hn hdb hs rfl).weak fun σ H Q ⟨B, G, n, φ, ξ, o, s, q, xw⟩ => te_one o s (fun v H1 G1 d n1 o1 g1 d1 s1 => by
    obtain ⟨z, ez, pz⟩ := Mo.sat_lift s1
    exact hr v d z H1 G1 Q d1 o1.fm.sub ez fun u H3 G3 gr du => q u H3 G3 z n1 (o1.gr gr) (g1.trans gr.g) du pz) xw
/-! ### arguments, displays -/
theorem ArgsOk.mono {K : PySem.W.Frag} {B : Bs} {G G' : Hp} (s : Same G G') : ∀ {vs : List V} {as : List Sl}, ArgsOk K B G vs as → ArgsOk K B G' vs as
  | _, _, .nil => .nil
  | _, _, .cons (a := .val d) h r => .cons (show Da _ _ _ _ from Da.mono s h) (ArgsOk.mono s r)
  | _, _, .cons (a := .deck) h r => .cons h (ArgsOk.mono s r)
  | _, _, .cons (a := .own _) h _ => h.elim
  | _, _, .cons (a := .any) h _ => h.elim
  | _, _, .cons (a := .exn _ _ _) h _ => h.elim
  | _, _, .cons (a := .fn _ _) h _ => h.elim
theorem aj_nil : AJ (m := m) X EX [] g (pure []) := pa_nil.weak fun σ H Q ⟨B, G, n, φ, ξ, o, s, q, _⟩ => q [] H G [] n o (Same.refl _) .nil (Mo.sat_pure s)
theorem aj_cons {e : Expr} {es : List Expr} {x : m D} {y : m (List Sl)} (he : EJ X EX e g x) (hr : AJ X EX es g y) (hs : starEach (e :: es) X.env = (false, eval e X.env) :: starEach es X.env := by rfl) : AJ X EX (e :: es) g (x >>= fun d => y >>= fun as => pure (.val d :: as)) :=
  (pa_cons he hr hs).weak fun σ H Q ⟨B, G, n, φ, ξ, o, s, q, xw⟩ => te_one o s (fun v H1 G1 d n1 o1 g1 d1 s1 => ⟨B, G1, n1, _, ξ, o1, Mo.sat_bind s1, fun vs H2 G2 as n2 o2 g2 a2 s2 =>
    q (v :: vs) H2 G2 (.val d :: as) n2 o2 (g1.trans g2) (.cons (show Da _ _ _ _ from d1.mono g2) a2) (Mo.sat_pure s2), xw⟩) xw
end
end DD
namespace DD
open PySem PySem.Spec PyProof.Rows L2
def boolD : D → Option Bool
  | .bool b => some b
  | _ => none
section
variable {m : Type → Type} [Mo m] {X : Cx} {EX : XR} {g : List Sl}
theorem Da.bool {K : PySem.W.Frag} {G : Hp} {v : V} {d : D} {b : Bool} (h : Da K G v d) (e : boolD d = some b) : v = .bl b := by
  cases h <;> simp [boolD] at e
  rw [e]
/-! ### tests -/
theorem tt_one {α : Type} {x : m Bool} {f : Bool → m α} {n : Wd} {φ : α → Wd → Prop} {ξ : Exn → Wd → Prop} {B : Bs} {σ : L2.St} {H G : Hp} {Q : Bool → Hp → Prop} (o : Ok X.K B g σ H G n) (s : Mo.sat (x >>= f) n φ ξ)
    (q : ∀ b H' G' n', Ok X.K B g σ H' G' n' → Same G G' → Mo.sat (f b) n' φ ξ → Q b H') (xw : Xw X B EX ξ) : ttJ X EX g x σ H Q :=
  ⟨B, G, n, _, ξ, o, Mo.sat_bind s, q, xw⟩
theorem tj_cmp {a b : Expr} {op : CmpOp} {pos : Pos} {r : R2} {f : D → D → Option D} {x y : m D} (ho : OpR X (compareOp op) r) (hr : RD X.K r f) (ha : EJ X EX a g x) (hb : EJ X EX b g y) (hn : behindInMarks op b = false := by first | exact nobehind _ (by decide) (by decide) | rfl) :
    TJ X EX (.Compare a [op] [b] pos) g (x >>= fun dx => y >>= fun dy => Mo.lift ((f dx dy).bind boolD)) :=
  (pt_cmpR ho ha hb hn).weak fun σ H Q ⟨B, G, n, φ, ξ, o, s, q, xw⟩ => te_one o s (fun v H1 G1 d n1 o1 g1 d1 s1 => te_one o1 s1 (fun w H2 G2 e n2 o2 g2 d2 s2 => by
    obtain ⟨b, eb, pb⟩ := Mo.sat_lift s2
    obtain ⟨z, ez, eb⟩ := Option.bind_eq_some_iff.mp eb
    exact hr v w d e z H2 G2 _ (d1.mono g2) d2 o2.fm.sub ez fun u H3 G3 gr du => ⟨b, du.bool eb, q b H3 G3 n2 (o2.gr gr) ((g1.trans g2).trans gr.g) pb⟩) xw) xw
/-- and, or: the rest is a test of its own -/
def WJ (X : Cx) (EX : XR) (e : Expr) (g : List Sl) (x : m Bool) : Prop := PW X e (ttJ X EX g x)
theorem _root_.L2.PW.weak {X : Cx} {e : Expr} {t t' : TT} (h : PW X e t) (w : ∀ σ H Q, t' σ H Q → t σ H Q) : PW X e t' := ⟨fun wh pins s σ H Q I q => h.run wh pins s σ H Q I (w _ _ _ q)⟩
theorem tj_w {e : Expr} {x : m Bool} (h : WJ X EX e g x) : TJ X EX e g x := PW.pt h
theorem wj_or1 {a : Expr} {pos : Pos} {x : m Bool} (ha : TJ X EX a g x) : WJ X EX (.BoolOp .Or [a] pos) g x := pw_or1 ha
theorem wj_or {a b : Expr} {rest : List Expr} {pos : Pos} {x y : m Bool} (ha : TJ X EX a g x) (hb : WJ X EX (.BoolOp .Or (b :: rest) pos) g y) : WJ X EX (.BoolOp .Or (a :: b :: rest) pos) g (x >>= fun k => if k = true then pure true else y) :=
  (pw_or ha hb).weak fun σ H Q ⟨B, G, n, φ, ξ, o, s, q, xw⟩ => tt_one o s (fun b H1 G1 n1 o1 g1 s1 => by
    cases b with
    | true =>
      rw [if_pos rfl] at s1 ⊢
      exact q true H1 G1 n1 o1 g1 (Mo.sat_pure s1)
    | false =>
      rw [if_neg Bool.false_ne_true] at s1 ⊢
      exact ⟨B, G1, n1, φ, ξ, o1, s1, fun b H2 G2 n2 o2 g2 p2 => q b H2 G2 n2 o2 (g1.trans g2) p2, xw⟩) xw
def notD : D → Option D
  | .bool b => some (.bool (!b))
  | _ => none
/-! ### displays -/
def itemsD : D → Option (List D)
  | .list ds => some ds
  | .tuple ds => some ds
  | _ => none
theorem Da.seq {K : PySem.W.Frag} {G : Hp} {v : V} {d : D} {ds : List D} (h : Da K G v d) (e : itemsD d = some ds) : ∃ a xs, v = .ref a ∧ (SqT K G a xs ∨ SqL K G a xs) ∧ DaAll K G xs ds := by
  cases h with
  | lst h1 h2 => cases e; exact ⟨_, _, rfl, .inr (SqL.of h1), h2⟩
  | tup h1 h2 => cases e; exact ⟨_, _, rfl, .inl h1, h2⟩
  | _ => cases e
/-- written items: data alone; L their number, where no star stands among them -/
def tdJ (X : Cx) (EX : XR) (g : List Sl) (x : m (List D)) (L : Option Nat) : TA := fun σ H Q => ∃ B G n φ ξ, Ok X.K B g σ H G n ∧ Mo.sat x n φ ξ ∧ (∀ vs H' G' ds n', Ok X.K B g σ H' G' n' → Same G G' → DaAll X.K G' vs ds → (∀ k, L = some k → vs.length = k) → φ ds n' → Q vs H') ∧ Xw X B EX ξ
def DJ (X : Cx) (EX : XR) (es : List Expr) (g : List Sl) (x : m (List D)) (L : Option Nat) : Prop := PA X es (tdJ X EX g x L)
theorem dj_nil : DJ (m := m) X EX [] g (pure []) (some 0) := pa_nil.weak fun σ H Q ⟨B, G, n, φ, ξ, o, s, q, _⟩ => q [] H G [] n o (Same.refl _) .nil (fun k e => by cases e; rfl) (Mo.sat_pure s)
theorem dj_cons {e : Expr} {es : List Expr} {x : m D} {y : m (List D)} {L : Option Nat} (he : EJ X EX e g x) (hr : DJ X EX es g y L) (hs : starEach (e :: es) X.env = (false, eval e X.env) :: starEach es X.env := by rfl) : DJ X EX (e :: es) g (x >>= fun d => y >>= fun ds => pure (d :: ds)) (L.map (· + 1)) :=
  (pa_cons he hr hs).weak fun σ H Q ⟨B, G, n, φ, ξ, o, s, q, xw⟩ => te_one o s (fun v H1 G1 d n1 o1 g1 d1 s1 => ⟨B, G1, n1, _, ξ, o1, Mo.sat_bind s1, fun vs H2 G2 ds n2 o2 g2 a2 l2 s2 =>
    q (v :: vs) H2 G2 (d :: ds) n2 o2 (g1.trans g2) (.cons (d1.mono g2) a2) (fun k e => by
      obtain ⟨j, e1, rfl⟩ := Option.map_eq_some_iff.mp e
      rw [List.length_cons, l2 j e1]) (Mo.sat_pure s2), xw⟩) xw
/-- no display is longer than this -/
def small (ds : List D) : Option (List D) := if ds.length ≤ 1000000 then some ds else none
theorem small_eq {ds es : List D} (h : small ds = some es) : es = ds ∧ ds.length ≤ 1000000 := by
  unfold small at h
  split at h
  · rename_i hl; cases h; exact ⟨rfl, hl⟩
  · cases h
theorem le_line {k : Nat} (h : k ≤ 1000000) : k ≤ sizeLine := Nat.le_trans h (by decide)
theorem ej_tup {es : List Expr} {k : Nat} {pos : Pos} {j} {x : m (List D)} (h : DJ X EX es g x (some k)) (hk : k ≤ 1000000 := by decide) : EJ X EX (.Tuple es j pos) g (x >>= fun ds => pure (.tuple ds)) :=
  (pe_tup h).weak fun σ H Q ⟨B, G, n, φ, ξ, o, s, q, xw⟩ => ⟨B, G, n, _, ξ, o, Mo.sat_bind s, fun vs H1 G1 ds n1 o1 g1 a1 l1 s1 => ⟨by rw [l1 k rfl]; exact le_line hk, fun p hp => by
    obtain ⟨o2, g2⟩ := o1.alloc (u := .tup vs) hp
    exact q _ _ _ _ n1 o2 (g1.trans g2) (.tup (.inl (.inl upd_same)) (a1.mono g2)) (Mo.sat_pure s1)⟩, xw⟩
/-- what stood in the heap is not new -/
theorem Ok.fresh {K : PySem.W.Frag} {B : Bs} {σ : L2.St} {H G : Hp} {n : Wd} {p : Addr} (o : Ok K B g σ H G n) (h : H p = none) : B.H p = none ∧ ∀ (i : Nat) (es : List D) (f : Addr), g[i]? = some (Sl.own es) → σ[i]? = some (some (V.ref f)) → f ≠ p := by
  constructor
  · cases e : B.H p with
    | none => rfl
    | some u =>
      by_cases hp : B.fp p
      · exact absurd h (o.fm.fpThere hp)
      · rw [o.fm.keep p u e hp] at h; cases h
  · rintro i es f e1 e2 rfl
    obtain ⟨fn, _, q⟩ := o.own
    obtain ⟨a, _, _, xs, b, _⟩ := q i es e1
    rw [a] at e2
    cases e2
    rw [b] at h; cases h
theorem lj_lst {es : List Expr} {k : Nat} {pos : Pos} {x : m (List D)} (h : DJ X EX es g x (some k)) (hk : k ≤ 1000000 := by decide) : LJ X EX (.List es pos) g x :=
  (pe_lst h).weak fun σ H Q ⟨B, G, n, φ, ξ, o, s, q, xw⟩ => ⟨B, G, n, _, ξ, o, s, fun vs H1 G1 ds n1 o1 g1 a1 l1 s1 => ⟨by rw [l1 k rfl]; exact le_line hk, fun p hp => by
    obtain ⟨f1, f2⟩ := o1.fresh hp
    exact q p vs _ G1 ds n1 (o1.raw hp) g1 f1 (o1.free hp) upd_same f2 a1 s1⟩, xw⟩
/-- a new list becomes data -/
theorem Ok.freeze {K : PySem.W.Frag} {B : Bs} {σ : L2.St} {H G : Hp} {n : Wd} {p : Addr} {u : HO} (o : Ok K B g σ H G n) (hb : B.H p = none) (hg : G p = none) (hh : H p = some u) (hf : ∀ (i : Nat) (es : List D) (f : Addr), g[i]? = some (Sl.own es) → σ[i]? = some (some (V.ref f)) → f ≠ p) (hu : isMk u = false := by rfl) :
    Ok K B g σ H (upd G p u) n ∧ Same G (upd G p u) := by
  refine ⟨⟨⟨o.fm.keep, ⟨fun a z e m => ?_, fun a e => ?_⟩, o.fm.old.trans (same_upd hg), o.fm.obs.grow (Same.refl _) (same_upd hg) (fun a w m e => ?_), o.fm.bt, o.fm.tg.trans (same_upd hg), fun a e q => ?_, o.fm.deck⟩, o.len, fun i d e => ?_, ?_, o.dck, fun i a od fs e => ⟨(o.adr i a od fs e).1, (o.adr i a od fs e).2.mono (same_upd hg)⟩, fun i f F e => ⟨(o.fnc i f F e).1, (o.fnc i f F e).2.2 _ _ (same_upd hg) (o.fnc i f F e).2.1, (o.fnc i f F e).2.2⟩⟩, same_upd hg⟩
  · unfold upd at e
    split at e
    · rename_i ha; subst ha; cases e; exact hh
    · exact o.fm.sub.h _ _ e m
  · have : a ≠ p := by rintro rfl; rw [hh] at e; cases e
    rw [upd_ne this]; exact o.fm.sub.t a e
  · unfold upd at e
    split at e
    · cases e; rw [hu] at m; cases m
    · exact e
  · have : a ≠ p := by rintro rfl; exact e hb
    rw [upd_ne this]; exact o.fm.new a e q
  · obtain ⟨v, h1, h2⟩ := o.val i d e
    exact ⟨v, h1, h2.mono (same_upd hg)⟩
  · obtain ⟨f, h1, h2⟩ := o.own
    refine ⟨f, h1, fun i ds e => ?_⟩
    obtain ⟨a, b, c, xs, d, da⟩ := h2 i ds e
    exact ⟨a, by rw [upd_ne (hf i ds _ e a)]; exact b, c, xs, d, da.mono (same_upd hg)⟩
theorem ej_l {e : Expr} {x : m (List D)} (h : LJ X EX e g x) : EJ X EX e g (x >>= fun ds => pure (.list ds)) :=
  PE.weak h fun σ H Q ⟨B, G, n, φ, ξ, o, s, q, xw⟩ => ⟨B, G, n, _, ξ, o, Mo.sat_bind s, fun p xs H1 G1 ds n1 o1 g1 hb hg hh hf a1 s1 => by
    obtain ⟨o2, g2⟩ := o1.freeze hb hg hh hf
    exact q _ H1 _ _ n1 o2 (g1.trans g2) (.lst upd_same (a1.mono g2)) (Mo.sat_pure s1), xw⟩
end
end DD
namespace DD
open PySem PySem.Spec PyProof.Rows L2
/-! ### what is walked -/
structure WalkD (K : PySem.W.Frag) (G : Hp) (J : It) (ds : List D) : Prop where
  goes : ∀ i H, i < ds.length → SubM G H → J.go i H
  stops : ∀ H, SubM G H → J.stop ds.length H
  yields : ∀ i H G1 x H', i < ds.length → Same G G1 → SubM G1 H → J.yld i H x H' → ∃ d G', ds[i]? = some d ∧ Gr H G1 H' G' ∧ Da K G' x d
theorem walkD_list {K : PySem.W.Frag} {G : Hp} {a : Addr} {xs : List V} {ds : List D} (h : SqL K G a xs) (da : DaAll K G xs ds) : WalkD K G (Itl K a) ds where
  goes := fun i H hi s => by
    rw [← da.length] at hi
    exact ⟨xs, xs[i], s.seq h, by simp [hi]⟩
  stops := fun H s => ⟨xs, s.seq h, by rw [da.length]; exact Nat.le_refl _⟩
  yields := fun i H G1 x H' hi s s1 y => by
    obtain ⟨e, y⟩ := y
    subst e
    obtain ⟨d, e1, e2⟩ := da.getV (y xs ((s.subm s1).seq h))
    exact ⟨d, G1, e1, Gr.refl s1, e2.mono s⟩
theorem walkD_tup {K : PySem.W.Frag} {G : Hp} {a : Addr} {xs : List V} {ds : List D} (h : SqT K G a xs) (da : DaAll K G xs ds) : WalkD K G (Itt K a) ds where
  goes := fun i H hi s => by
    rw [← da.length] at hi
    exact ⟨xs, xs[i], sameT s h, by simp [hi]⟩
  stops := fun H s => ⟨xs, sameT s h, by rw [da.length]; exact Nat.le_refl _⟩
  yields := fun i H G1 x H' hi s s1 y => by
    obtain ⟨e, y⟩ := y
    subst e
    obtain ⟨d, e1, e2⟩ := da.getV (y xs (sameT (s.subm s1) h))
    exact ⟨d, G1, e1, Gr.refl s1, e2.mono s⟩
def rangeL (lo : Int) (n : Nat) : List D := (List.range n).map fun i => .int (lo + (i : Nat))
theorem walkD_range {K : PySem.W.Frag} {G : Hp} {lo : Int} {n : Nat} : WalkD K G (Itr lo n) (rangeL lo n) where
  goes := fun i H hi _ => by
    show i < n
    simpa [rangeL] using hi
  stops := fun H _ => by show n ≤ (rangeL lo n).length; simp [rangeL]
  yields := fun i H G1 x H' hi s s1 y => by
    obtain ⟨e, y⟩ := y
    subst e y
    have hi' : i < n := by simpa [rangeL] using hi
    exact ⟨.int (lo + (i : Nat)), G1, by simp [rangeL, hi'], Gr.refl s1, .int _⟩
section
variable {m : Type → Type} [Mo m]
def tiJ (X : Cx) (EX : XR) (g : List Sl) (x : m (List D)) : TI := fun σ H R => ∃ B G n φ ξ, Ok X.K B g σ H G n ∧ Mo.sat x n φ ξ ∧ (∀ J H' G' ds n', Ok X.K B g σ H' G' n' → Same G G' → WalkD X.K G' J ds → φ ds n' → R J H') ∧ Xw X B EX ξ
def IJ (X : Cx) (EX : XR) (tg iter : Expr) (g : List Sl) (x : m (List D)) : Prop := PI X tg iter (tiJ X EX g x)
end
theorem _root_.L2.PI.weak {X : Cx} {tg e : Expr} {t t' : TI} (h : PI X tg e t) (w : ∀ σ H R, t' σ H R → t σ H R) : PI X tg e t' := ⟨fun pins s σ H R I q => h.run pins s σ H R I (w _ _ _ q)⟩
/-- a list or a tuple, whichever has come -/
def iSeq (K : PySem.W.Frag) (tl : TE) : TI := fun σ H R => tl σ H fun x H1 => ∃ a, x = .ref a ∧ (((∃ xs, SqL K H1 a xs) ∧ R (Itl K a) H1) ∨ ((∃ xs, SqT K H1 a xs) ∧ R (Itt K a) H1))
theorem pi_seq {X : Cx} {tg l : Expr} {tl : TE} (hl : PE X l tl) : PI X tg l (iSeq X.K tl) := by
  refine ⟨fun pins s σ H R I h => thn (hl.run pins s σ H _ I h) fun v s1 ⟨x, H1, I1, r1, a, e, q⟩ => ?_⟩
  subst e
  cases r1
  rcases q with ⟨⟨xs, hq⟩, q⟩ | ⟨⟨xs, hq⟩, q⟩
  · obtain ⟨its, rv, p, hz⟩ := I1.list hq
    exact wpAny_pyIter_list p.isList ⟨_, [s1.heap.objs.size], _, _, H1, rfl, I1.kept (t' := s1.toks) (fun b o e => Heap.get?_push_of_some _ e), turn_list a _, ⟨_, Heap.get?_push_size _ rfl, rfl, rfl⟩, (fun b hb => by
      rw [List.mem_singleton.mp hb]; exact I1.fpOk (Nat.le_refl _) (I1.hok.fresh (Nat.le_refl _))), q⟩
  · obtain ⟨its, rv, p, hz⟩ := I1.tuple hq
    exact wpAny_pyIter_tuple (show s1.heap.IsTuple a its.toArray from p) ⟨_, [s1.heap.objs.size], _, _, H1, rfl, I1.kept (t' := s1.toks) (fun b o e => Heap.get?_push_of_some _ e), turn_tuple a _, ⟨_, Heap.get?_push_size _ rfl, rfl, rfl⟩, (fun b hb => by
      rw [List.mem_singleton.mp hb]; exact I1.fpOk (Nat.le_refl _) (I1.hok.fresh (Nat.le_refl _))), q⟩
def rangeD1 : D → Option (List D)
  | .int j => if j.natAbs < 2 ^ 62 then some (rangeL 0 j.toNat) else none
  | _ => none
def rangeD2 : D → D → Option (List D)
  | .int i, .int j => if i.natAbs < 2 ^ 62 ∧ j.natAbs < 2 ^ 62 then some (rangeL i (j - i).toNat) else none
  | _, _ => none
section
variable {m : Type → Type} [Mo m] {X : Cx} {EX : XR} {g : List Sl} {tg : Expr}
theorem ij_seq {e : Expr} {x : m D} (h : EJ X EX e g x) : IJ X EX tg e g (x >>= fun d => Mo.lift (itemsD d)) :=
  (pi_seq h).weak fun σ H R ⟨B, G, n, φ, ξ, o, s, q, xw⟩ => te_one o s (fun v H1 G1 d n1 o1 g1 d1 s1 => by
    obtain ⟨ds, ed, pd⟩ := Mo.sat_lift s1
    obtain ⟨a, xs, ev, sq, da⟩ := d1.seq ed
    refine ⟨a, ev, ?_⟩
    rcases sq with sq | sq
    · exact .inr ⟨⟨xs, sameT o1.fm.sub sq⟩, q _ H1 G1 ds n1 o1 g1 (walkD_tup sq da) pd⟩
    · exact .inl ⟨⟨xs, o1.fm.sub.seq sq⟩, q _ H1 G1 ds n1 o1 g1 (walkD_list sq da) pd⟩) xw
/-- a list of one's own, walked while it stands -/
theorem ij_range1 {a : Expr} {p pos : Pos} {x : m D} (hm : X.mg "range" = none) (h : EJ X EX a g x) (hg : Gl X "range" := by rfl) (hs : starEach [a] X.env = [(false, eval a X.env)] := by rfl) (hs' : starEach [a] X.env = (false, eval a X.env) :: starEach [] X.env := by rfl) :
    IJ X EX tg (.Call (.Name "range" p) [a] [] pos) g (x >>= fun d => Mo.lift (rangeD1 d)) :=
  (pi_range1 hg hm (pa_cons h pa_nil hs') hs).weak fun σ H R ⟨B, G, n, φ, ξ, o, s, q, xw⟩ => te_one o s (fun v H1 G1 d n1 o1 g1 d1 s1 => by
    obtain ⟨ds, ed, pd⟩ := Mo.sat_lift s1
    cases d with
    | int j =>
      cases d1
      unfold rangeD1 at ed
      dsimp only at ed
      split at ed
      · rename_i hj
        cases ed
        exact ⟨j, rfl, by omega, by omega, q _ H1 G1 _ n1 o1 g1 walkD_range pd⟩
      · cases ed
    | _ => cases ed) xw
theorem ij_range2 {a b : Expr} {p pos : Pos} {x y : m D} (hm : X.mg "range" = none) (h : EJ X EX a g x) (h2 : EJ X EX b g y) (hg : Gl X "range" := by rfl) (hs : starEach [a, b] X.env = [(false, eval a X.env), (false, eval b X.env)] := by rfl) (hs2 : starEach [b] X.env = [(false, eval b X.env)] := by rfl)
    (hs' : starEach [a, b] X.env = (false, eval a X.env) :: starEach [b] X.env := by rfl) (hs2' : starEach [b] X.env = (false, eval b X.env) :: starEach [] X.env := by rfl) :
    IJ X EX tg (.Call (.Name "range" p) [a, b] [] pos) g (x >>= fun d => y >>= fun e => Mo.lift (rangeD2 d e)) :=
  (pi_range2 hg hm (pa_cons h (pa_cons h2 pa_nil hs2') hs') hs hs2).weak fun σ H R ⟨B, G, n, φ, ξ, o, s, q, xw⟩ => te_one o s (fun v H1 G1 d n1 o1 g1 d1 s1 => te_one o1 s1 (fun w H2 G2 e n2 o2 g2 d2 s2 => by
    obtain ⟨ds, ed, pd⟩ := Mo.sat_lift s2
    cases d with
    | int i =>
      cases e with
      | int j =>
        cases d1
        cases d2
        unfold rangeD2 at ed
        dsimp only at ed
        split at ed
        · rename_i hj
          cases ed
          exact ⟨i, j, rfl, ⟨by omega, by omega, by omega, by omega⟩, q _ H2 G2 _ n2 o2 (g1.trans g2) walkD_range pd⟩
        · cases ed
      | _ => cases ed
    | _ => cases ed) xw) xw
end
/-! ### slots -/
def wipeG (g : List Sl) (vs : List Nat) : List Sl := g.mapIdx fun i s => if vs.contains i then .any else s
def noOwn : List Sl → List Nat → Bool
  | g, vs => vs.all fun i => match g[i]? with
    | some (.own _) => false
    | _ => true
section
variable {K : PySem.W.Frag} {B : Bs} {g : List Sl} {σ : L2.St} {H G H' G' : Hp} {n n' : Wd} {vs : List Nat}
theorem wipeG_some {i : Nat} {s : Sl} (h : (wipeG g vs)[i]? = some s) (ne : s ≠ .any) : g[i]? = some s ∧ i ∉ vs := by
  unfold wipeG at h
  rw [List.getElem?_mapIdx] at h
  cases e : g[i]? with
  | none => rw [e] at h; cases h
  | some t =>
    rw [e] at h
    simp only [Option.map_some, Option.some.injEq] at h
    split at h
    · exact absurd h.symm ne
    · rename_i hc
      subst h
      exact ⟨rfl, by simpa using hc⟩
theorem wipeG_out {i : Nat} (h : i ∉ vs) : (wipeG g vs)[i]? = g[i]? := by
  unfold wipeG
  rw [List.getElem?_mapIdx]
  have : vs.contains i = false := by simpa using h
  cases g[i]? with
  | none => rfl
  | some t => simp [this, h]
theorem wipeG_length : (wipeG g vs).length = g.length := by simp [wipeG]
theorem wipe_length' : (wipe σ vs).length = σ.length := wipe_length σ vs
/-- the block's own slots are forgotten -/
theorem Ok.wipe (o : Ok K B g σ H G n) : Ok K B (wipeG g vs) (L2.wipe σ vs) H G n where
  fm := o.fm
  len := by rw [wipeG_length, wipe_length', o.len]
  val := fun i d e => by
    obtain ⟨e1, e2⟩ := wipeG_some e (by simp)
    obtain ⟨v, h1, h2⟩ := o.val i d e1
    exact ⟨v, by rw [wipe_out e2]; exact h1, h2⟩
  own := by
    obtain ⟨f, h1, h2⟩ := o.own
    refine ⟨f, fun i j ds es a b => h1 i j ds es (wipeG_some a (by simp)).1 (wipeG_some b (by simp)).1, fun i ds e => ?_⟩
    obtain ⟨e1, e2⟩ := wipeG_some e (by simp)
    obtain ⟨a, r⟩ := h2 i ds e1
    exact ⟨by rw [wipe_out e2]; exact a, r⟩
  dck := fun i e => by
    obtain ⟨e1, e2⟩ := wipeG_some e (by simp)
    obtain ⟨a, b, h1, h2⟩ := o.dck i e1
    exact ⟨a, b, h1, by rw [wipe_out e2]; exact h2⟩
  adr := fun i a od fs e => by
    obtain ⟨e1, e2⟩ := wipeG_some e (by simp)
    rw [wipe_out e2]
    exact o.adr i a od fs e1
  fnc := fun i a fs e => by
    obtain ⟨e1, e2⟩ := wipeG_some e (by simp)
    rw [wipe_out e2]
    exact o.fnc i a fs e1
theorem Ok.unwipe (o : Ok K B g σ H G n) (o' : Ok K B (wipeG g vs) (L2.wipe σ vs) H' G' n') (s : Same G G') (ho : noOwn g vs = true) : Ok K B g σ H' G' n' where
  fm := o'.fm
  len := o.len
  val := fun i d e => by
    obtain ⟨v, h1, h2⟩ := o.val i d e
    exact ⟨v, h1, h2.mono s⟩
  own := by
    obtain ⟨f, h1, h2⟩ := o'.own
    have out : ∀ (i : Nat) (ds : List D), g[i]? = some (Sl.own ds) → i ∉ vs := fun i ds e hm => by
      have := List.all_eq_true.mp ho i hm
      rw [e] at this
      cases this
    refine ⟨f, fun i j ds es a b => h1 i j ds es (by rw [wipeG_out (out i ds a)]; exact a) (by rw [wipeG_out (out j es b)]; exact b), fun i ds e => ?_⟩
    obtain ⟨a, r⟩ := h2 i ds (by rw [wipeG_out (out i ds e)]; exact e)
    exact ⟨by rw [wipe_out (out i ds e)] at a; exact a, r⟩
  dck := o.dck
  adr := fun i a od fs e => ⟨(o.adr i a od fs e).1, (o.adr i a od fs e).2.mono s⟩
  fnc := fun i a fs e => ⟨(o.fnc i a fs e).1, (o.fnc i a fs e).2.2 _ _ s (o.fnc i a fs e).2.1, (o.fnc i a fs e).2.2⟩
/-- a slot is given data -/
theorem Ok.setV (o : Ok K B g σ H G n) {i : Nat} {v : V} {d : D} (h : Da K G v d) : Ok K B (g.set i (.val d)) (σ.set i (some v)) H G n where
  fm := o.fm
  len := by rw [List.length_set, List.length_set, o.len]
  val := fun j e he => by
    by_cases hj : j = i
    · subst hj
      by_cases hl : j < g.length
      · rw [List.getElem?_set_self hl] at he
        cases he
        exact ⟨v, by rw [List.getElem?_set_self (by rw [← o.len]; exact hl)], h⟩
      · rw [List.getElem?_eq_none (by rw [List.length_set]; omega)] at he
        cases he
    · rw [List.getElem?_set_ne (Ne.symm hj)] at he ⊢
      exact o.val j e he
  own := by
    obtain ⟨f, h1, h2⟩ := o.own
    have out : ∀ (j : Nat) (ds : List D), (g.set i (.val d))[j]? = some (Sl.own ds) → i ≠ j ∧ g[j]? = some (Sl.own ds) := fun j ds e => by
      by_cases hj : i = j
      · subst hj
        by_cases hl : i < g.length
        · rw [List.getElem?_set_self hl] at e
          cases e
        · rw [List.getElem?_eq_none (by rw [List.length_set]; omega)] at e
          cases e
      · rw [List.getElem?_set_ne hj] at e
        exact ⟨hj, e⟩
    refine ⟨f, fun j k ds es a b => h1 j k ds es (out j ds a).2 (out k es b).2, fun j ds e => ?_⟩
    obtain ⟨hj, e⟩ := out j ds e
    rw [List.getElem?_set_ne hj]
    exact h2 j ds e
  dck := fun j e => by
    by_cases hj : i = j
    · subst hj
      by_cases hl : i < g.length
      · rw [List.getElem?_set_self hl] at e
        cases e
      · rw [List.getElem?_eq_none (by rw [List.length_set]; omega)] at e
        cases e
    · rw [List.getElem?_set_ne hj] at e ⊢
      exact o.dck j e
  adr := fun j b od fs e => by
    by_cases hj : i = j
    · subst hj
      by_cases hl : i < g.length
      · rw [List.getElem?_set_self hl] at e
        cases e
      · rw [List.getElem?_eq_none (by rw [List.length_set]; omega)] at e
        cases e
    · rw [List.getElem?_set_ne hj] at e ⊢
      exact o.adr j b od fs e
  fnc := fun j b fs e => by
    by_cases hj : i = j
    · subst hj
      by_cases hl : i < g.length
      · rw [List.getElem?_set_self hl] at e
        cases e
      · rw [List.getElem?_eq_none (by rw [List.length_set]; omega)] at e
        cases e
    · rw [List.getElem?_set_ne hj] at e ⊢
      exact o.fnc j b fs e
/-- slots are forgotten -/
theorem Ok.sub {g' : List Sl} (o : Ok K B g σ H G n) (hl : g'.length = g.length) (h : ∀ (i : Nat) (s : Sl), g'[i]? = some s → s = .any ∨ g[i]? = some s) : Ok K B g' σ H G n where
  fm := o.fm
  len := hl.trans o.len
  val := fun i d e => by
    rcases h i _ e with z | z
    · cases z
    · exact o.val i d z
  own := by
    obtain ⟨f, h1, h2⟩ := o.own
    have out : ∀ (j : Nat) (ds : List D), g'[j]? = some (Sl.own ds) → g[j]? = some (Sl.own ds) := fun j ds e => by
      rcases h j _ e with z | z
      · cases z
      · exact z
    exact ⟨f, fun i j ds es a b => h1 i j ds es (out i ds a) (out j es b), fun i ds e => h2 i ds (out i ds e)⟩
  dck := fun i e => by
    rcases h i _ e with z | z
    · cases z
    · exact o.dck i z
  adr := fun i a od fs e => by
    rcases h i _ e with z | z
    · cases z
    · exact o.adr i a od fs z
  fnc := fun i a fs e => by
    rcases h i _ e with z | z
    · cases z
    · exact o.fnc i a fs z
theorem wipe_wipe : L2.wipe (L2.wipe σ vs) vs = L2.wipe σ vs := by
  apply List.ext_getElem?
  intro i
  by_cases h : i ∈ vs
  · have key : ∀ (τ : L2.St), (L2.wipe τ vs)[i]? = some none ∨ (L2.wipe τ vs)[i]? = none := fun τ => by
      cases e : (L2.wipe τ vs)[i]? with
      | none => exact .inr rfl
      | some x =>
        cases x with
        | none => exact .inl rfl
        | some v => exact absurd h (wipe_some e).2
    have l1 : (L2.wipe (L2.wipe σ vs) vs).length = (L2.wipe σ vs).length := wipe_length _ _
    rcases key (L2.wipe σ vs) with a | a <;> rcases key σ with b | b
    · rw [a, b]
    · rw [List.getElem?_eq_none_iff] at b
      have : (L2.wipe (L2.wipe σ vs) vs)[i]? = none := List.getElem?_eq_none (by omega)
      rw [this] at a; cases a
    · rw [List.getElem?_eq_none_iff] at a
      have : (L2.wipe σ vs)[i]? = none := List.getElem?_eq_none (by omega)
      rw [this] at b; cases b
    · rw [a, b]
  · rw [wipe_out h]
theorem wipe_set {i : Nat} {x : Option V} (h : i ∈ vs) : L2.wipe (σ.set i x) vs = L2.wipe σ vs := by
  apply List.ext_getElem?
  intro j
  by_cases hj : j ∈ vs
  · have key : ∀ (τ : L2.St), τ.length = σ.length → (L2.wipe τ vs)[j]? = if j < σ.length then some none else none := fun τ hl => by
      have l := wipe_length τ vs
      cases e : (L2.wipe τ vs)[j]? with
      | none =>
        rw [List.getElem?_eq_none_iff] at e
        rw [if_neg (by omega)]
      | some x =>
        obtain ⟨hlt, _⟩ := List.getElem?_eq_some_iff.mp e
        rw [if_pos (by omega)]
        cases x with
        | none => rfl
        | some v => exact absurd hj (wipe_some e).2
    rw [key _ (by simp), key _ rfl]
  · rw [wipe_out hj, wipe_out hj, List.getElem?_set_ne (by rintro rfl; exact hj h)]
theorem wipeG_set {i : Nat} {x : Sl} (h : i ∈ vs) : wipeG (g.set i x) vs = wipeG g vs := by
  apply List.ext_getElem?
  intro j
  unfold wipeG
  rw [List.getElem?_mapIdx, List.getElem?_mapIdx]
  by_cases hj : i = j
  · subst hj
    have : vs.contains i = true := by simpa using h
    by_cases hl : i < g.length
    · rw [List.getElem?_set_self hl, List.getElem?_eq_getElem hl]; simp [this, h]
    · rw [List.getElem?_eq_none (by rw [List.length_set]; omega), List.getElem?_eq_none (by omega)]
  · rw [List.getElem?_set_ne hj]
theorem wipeG_wipeG : wipeG (wipeG g vs) vs = wipeG g vs := by
  apply List.ext_getElem?
  intro j
  unfold wipeG
  rw [List.getElem?_mapIdx, List.getElem?_mapIdx]
  cases g[j]? with
  | none => rfl
  | some t =>
    simp only [Option.map_some]
    split <;> rfl
/-- an object of ours that is neither data nor any slot's -/
structure Side (B : Bs) (g : List Sl) (σ : L2.St) (G : Hp) (p : Addr) : Prop where
  b : B.H p = none
  bg : B.G p = none
  no : G p = none
  f : ∀ (i : Nat) (es : List D) (f : Addr), g[i]? = some (Sl.own es) → σ[i]? = some (some (V.ref f)) → f ≠ p
abbrev Bs.pin (B : Bs) (p : Addr) (u : HO) : Bs := { B with H := upd B.H p u }
theorem Fm.side {p : Addr} (o : Fm K B H G n) (b : B.H p = none) : ¬ B.fp p := by
  rintro (⟨x, y, ed, hxy⟩ | ⟨k, e, _⟩)
  · obtain ⟨_, h1, h2, _⟩ := o.deck x y ed
    rcases hxy with rfl | rfl
    · exact h1 b
    · exact h2 b
  · rw [o.bt p b] at e; cases e
theorem Ok.pin {p : Addr} {u : HO} (o : Ok K B g σ H G n) (s : Side B g σ G p) (h : H p = some u) : Ok K (B.pin p u) g σ H G n where
  fm := {
    keep := fun a x e q => by
      by_cases ha : a = p
      · subst ha
        rw [show (B.pin a u).H a = some u from upd_same] at e
        cases e; exact h
      · rw [show (B.pin p u).H a = B.H a from upd_ne ha] at e
        exact o.fm.keep a x e q
    sub := o.fm.sub
    old := o.fm.old
    obs := o.fm.obs
    bt := fun a e => by
      by_cases ha : a = p
      · subst ha; exact s.bg
      · rw [show (B.pin p u).H a = B.H a from upd_ne ha] at e
        exact o.fm.bt a e
    tg := o.fm.tg
    new := fun a e q => by
      by_cases ha : a = p
      · subst ha; exact s.no
      · rw [show (B.pin p u).H a = B.H a from upd_ne ha] at e
        exact o.fm.new a e q
    deck := fun a b e => by
      obtain ⟨d, h1, h2, h3⟩ := o.fm.deck a b e
      refine ⟨d, ?_, ?_, h3⟩
      · show upd B.H p u a ≠ none
        rw [upd_ne (by rintro rfl; exact h1 s.b)]; exact h1
      · show upd B.H p u b ≠ none
        rw [upd_ne (by rintro rfl; exact h2 s.b)]; exact h2 }
  len := o.len
  val := o.val
  own := by
    obtain ⟨f, h1, h2⟩ := o.own
    refine ⟨f, h1, fun i ds e => ?_⟩
    obtain ⟨a, b, c, r⟩ := h2 i ds e
    refine ⟨a, b, ?_, r⟩
    show upd B.H p u (f i) = none
    rw [upd_ne (s.f i ds _ e a)]; exact c
  dck := o.dck
  adr := o.adr
  fnc := o.fnc
theorem Fm.unpin {H0 G0 : Hp} {n0 : Wd} {p : Addr} {u : HO} (o : Fm K (B.pin p u) H G n) (o0 : Fm K B H0 G0 n0) (b : B.H p = none) : Fm K B H G n where
  keep := fun a x e q => o.keep a x (by
    show upd B.H p u a = some x
    rw [upd_ne (by rintro rfl; rw [b] at e; cases e)]; exact e) q
  sub := o.sub
  old := o.old
  obs := o.obs
  bt := o0.bt
  tg := o.tg
  new := fun a e q => o.new a (by
    show upd B.H p u a ≠ none
    rw [upd_ne (by rintro rfl; exact e b)]; exact e) q
  deck := fun x y e => ⟨(o.deck x y e).1, (o0.deck x y e).2⟩
theorem Ok.unpin {H0 G0 : Hp} {n0 : Wd} {p : Addr} {u : HO} (o : Ok K (B.pin p u) g σ H G n) (o0 : Fm K B H0 G0 n0) (b : B.H p = none) : Ok K B g σ H G n where
  fm := o.fm.unpin o0 b
  len := o.len
  val := o.val
  own := by
    obtain ⟨f, h1, h2⟩ := o.own
    refine ⟨f, h1, fun i ds e => ?_⟩
    obtain ⟨a, c, d, r⟩ := h2 i ds e
    refine ⟨a, c, ?_, r⟩
    have d' : upd B.H p u (f i) = none := d
    by_cases ha : f i = p
    · rw [ha, upd_same] at d'; cases d'
    · rw [upd_ne ha] at d'; exact d'
  dck := o.dck
  adr := o.adr
  fnc := o.fnc
/-- such an object may be changed -/
theorem Ok.poke {p : Addr} {u : HO} (o : Ok K B g σ H G n) (s : Side B g σ G p) : Ok K B g σ (upd H p u) G n where
  fm := {
    keep := fun a x e q => by
      rw [upd_ne (by rintro rfl; rw [s.b] at e; cases e)]
      exact o.fm.keep a x e q
    sub := ⟨fun a x e m => by
      rw [upd_ne (by rintro rfl; rw [s.no] at e; cases e)]
      exact o.fm.sub.h a x e m, fun a e => by
      by_cases ha : a = p
      · subst ha; exact s.no
      · rw [upd_ne ha] at e; exact o.fm.sub.t a e⟩
    obs := ⟨fun a k w e m => by
      obtain ⟨c, h1, h2⟩ := o.fm.obs.at_ a k w e m
      refine ⟨c, h1, h2.mono (Same.refl _) fun x hx => ?_⟩
      rw [upd_ne (by rintro rfl; rw [s.no] at e; cases e)]
      exact hx, o.fm.obs.inj, fun k c e => by
      obtain ⟨a, h2⟩ := o.fm.obs.all k c e
      obtain ⟨u, e, _⟩ := h2.mark
      refine ⟨a, h2.mono (Same.refl _) fun x hx => ?_⟩
      rw [upd_ne (by rintro rfl; rw [s.no] at e; cases e)]
      exact hx⟩
    bt := o.fm.bt
    tg := o.fm.tg
    old := o.fm.old
    new := o.fm.new
    deck := fun a b e => by
      obtain ⟨⟨cs, c, e1, e2, r⟩, h1, h2, h3⟩ := o.fm.deck a b e
      exact ⟨⟨cs, c, by rw [upd_ne (by rintro rfl; exact h1 s.b)]; exact e1, by rw [upd_ne (by rintro rfl; exact h2 s.b)]; exact e2, r⟩, h1, h2, h3⟩ }
  len := o.len
  val := o.val
  own := by
    obtain ⟨f, h1, h2⟩ := o.own
    refine ⟨f, h1, fun i ds e => ?_⟩
    obtain ⟨a, c, d, xs, hx, da⟩ := h2 i ds e
    exact ⟨a, c, d, xs, by rw [upd_ne (s.f i ds _ e a)]; exact hx, da⟩
  dck := o.dck
  adr := o.adr
  fnc := o.fnc
theorem Side.grow {p : Addr} {u : HO} (s : Side B g σ G p) (o : Ok K (B.pin p u) g σ H G' n) : Side B g σ G' p :=
  ⟨s.b, s.bg, o.fm.new p (by show upd B.H p u p ≠ none; rw [upd_same]; simp) s.bg, s.f⟩
theorem Ok.side {p : Addr} (o : Ok K B g σ H G n) (h : H p = none) : Side B g σ G p := by
  obtain ⟨h1, h2⟩ := o.fresh h
  refine ⟨h1, ?_, o.free h, h2⟩
  cases e : B.G p with
  | none => rfl
  | some z => exact absurd h (o.fm.there (o.fm.old _ _ e))
/-! ### comprehensions -/
end
section
variable {m : Type → Type} [Mo m]
def lcA (f : D → m (Option D)) : List D → List D → m (List D)
  | [], acc => pure acc
  | d :: r, acc => f d >>= fun o => lcA f r (acc ++ o.toList)
/-- one turn of a block: target, tests, element -/
def CSem (K : PySem.W.Frag) (g : List Sl) (vs : List Nat) (f : D → m (Option D)) (gT : TG) (tt : TT) (te : TE) : Prop :=
  ∀ (B : Bs) (σ : L2.St) (H G : Hp) (n : Wd) (d : D) (v : V) (φ : Option D → Wd → Prop) (Qy : VK) (Qn : Hp → Prop), Ok K B (wipeG g vs) (L2.wipe σ vs) H G n → Da K G v d → Mo.sat (f d) n φ (fun _ _ => False) →
    (∀ H' G' n' y yv, Ok K B (wipeG g vs) (L2.wipe σ vs) H' G' n' → Same G G' → Da K G' yv y → φ (some y) n' → Qy yv H') →
    (∀ H' G' n', Ok K B (wipeG g vs) (L2.wipe σ vs) H' G' n' → Same G G' → φ none n' → Qn H') →
    gT v (L2.wipe σ vs) H fun σ2 H2 => L2.wipe σ2 vs = L2.wipe σ vs ∧ tt σ2 H2 fun b H3 => if b = true then te σ2 H3 Qy else Qn H3
variable [Calm m] {X : Cx} {EX : XR} {g : List Sl}
theorem tlc_of {gT : TG} {tt : TT} {te : TE} {x : m (List D)} {f : D → m (Option D)} {vs : List Nat} (hsem : CSem X.K g vs f gT tt te) (how : noOwn g vs = true) {σ : L2.St} {H : Hp} {Q : VK}
    (h : tlJ X EX g (x >>= fun ds => Mo.lift (small ds) >>= fun ds => lcA f ds []) σ H Q) : tLc (tiJ X EX g x) gT tt te vs σ H Q := by
  obtain ⟨B, G, n, φ, ξ, o, s, q, xw⟩ := h
  refine ⟨B, G, n, _, ξ, o, Mo.sat_bind s, fun J H1 G1 ds n1 o1 g1 wk s1 => ?_, xw⟩
  obtain ⟨es, ee, s1'⟩ := Mo.sat_lift (Mo.sat_bind s1)
  obtain ⟨rfl, hlen⟩ := small_eq ee
  intro D hD
  have sd := o1.side hD
  refine ⟨fun i k H' => k = es.length - i ∧ i ≤ es.length ∧ ∃ G' n' acc ac, Ok X.K B g σ H' G' n' ∧ Same G1 G' ∧ Side B g σ G' D ∧ H' D = some (.lst acc) ∧ DaAll X.K G' acc ac ∧ acc.length ≤ i ∧ Mo.sat (lcA f (es.drop i) ac) n' φ ξ, ⟨es.length, by omega, Nat.zero_le _, G1, n1, [], [], o1.raw hD, Same.refl _, sd, upd_same, .nil, Nat.zero_le _, s1'⟩, ?_⟩
  rintro i k H' ⟨rfl, hi, G', n', acc, ac, o', g', sd', hD', da, hal, s'⟩
  by_cases hlt : i < es.length
  · refine .inr ⟨wk.goes i H' hlt (g'.subm o'.fm.sub), fun H2 => ∃ G2 n2 acc2 ac2, Ok X.K B g σ H2 G2 n2 ∧ Same G1 G2 ∧ Side B g σ G2 D ∧ H2 D = some (.lst acc2) ∧ DaAll X.K G2 acc2 ac2 ∧ acc2.length ≤ i + 1 ∧ Mo.sat (lcA f (es.drop (i + 1)) ac2) n2 φ ξ,
      fun H2 ⟨G2, n2, acc2, ac2, r⟩ => ⟨es.length - (i + 1), by omega, rfl, hlt, G2, n2, acc2, ac2, r⟩, fun v H2 hy => ?_⟩
    obtain ⟨d, G2, ed, gr, dv⟩ := wk.yields i H' G' v H2 hlt g' o'.fm.sub hy
    have o2 := o'.gr gr
    have sd2 : Side B g σ G2 D := ⟨sd'.b, sd'.bg, gr.new D (by rw [hD']; simp) sd'.no, sd'.f⟩
    have hD2 : H2 D = some (.lst acc) := gr.h _ _ hD'
    have e0 : es.drop i = d :: es.drop (i + 1) := by
      rw [List.drop_eq_getElem_cons hlt]
      congr 1
      rw [List.getElem?_eq_getElem hlt] at ed
      exact Option.some.inj ed
    rw [e0] at s'
    have s2 := Calm.calm (ξ' := fun _ _ => False) (Mo.sat_bind s')
    have sdw : Side B (wipeG g vs) (L2.wipe σ vs) G2 D := ⟨sd2.b, sd2.bg, sd2.no, fun j es2 f2 e1 e2 => sd2.f j es2 f2 (wipeG_some e1 (by simp)).1 (wipe_some e2).1⟩
    refine hsem (B.pin D (.lst acc)) σ H2 G2 n' d v _ _ _ (o2.wipe.pin sdw hD2) dv s2 (fun H3 G3 n3 y yv o3 g3 dy s3 => ?_) (fun H3 G3 n3 o3 g3 s3 => ?_)
    · have o3' := o2.unwipe (o3.unpin o2.fm sd2.b) g3 how
      have sd3 : Side B g σ G3 D := ⟨sd2.b, sd2.bg, (sdw.grow o3).no, sd2.f⟩
      have h3 : H3 D = some (.lst acc) := o3.fm.keep D _ upd_same (o2.fm.side sd2.b)
      refine ⟨acc, h3, Nat.lt_of_le_of_lt hal (Nat.lt_of_lt_of_le hlt (le_line hlen)), G3, n3, _, ac ++ [y], o3'.poke sd3, (g'.trans gr.g).trans g3, sd3, upd_same, ((da.mono gr.g).mono g3).append (.one dy), ?_, s3⟩
      rw [List.length_append, List.length_singleton]
      omega
    · have o3' := o2.unwipe (o3.unpin o2.fm sd2.b) g3 how
      have sd3 : Side B g σ G3 D := ⟨sd2.b, sd2.bg, (sdw.grow o3).no, sd2.f⟩
      have h3 : H3 D = some (.lst acc) := o3.fm.keep D _ upd_same (o2.fm.side sd2.b)
      refine ⟨G3, n3, acc, ac, o3', (g'.trans gr.g).trans g3, sd3, h3, (da.mono gr.g).mono g3, by omega, ?_⟩
      have e9 : ac ++ (none : Option PyData).toList = ac := by simp
      have s4 : Mo.sat (lcA f (es.drop (i + 1)) (ac ++ (none : Option PyData).toList)) n3 φ ξ := s3
      rw [e9] at s4
      exact s4
  · have e : i = es.length := by omega
    subst e
    rw [List.drop_length] at s'
    have p := Mo.sat_pure s'
    exact .inl ⟨wk.stops H' (g'.subm o'.fm.sub), q D acc H' G' ac n' o' (g1.trans g') sd'.b sd'.no hD' sd'.f da p⟩
/-- a comprehension as a value, and as what a name is given on one line -/
structure LcP (X : Cx) (EX : XR) (e : Expr) (g : List Sl) (x : m (List D)) : Prop where
  expr : LJ X EX e g x
  stmt : ∀ {i : Nat} {y : Str} {py spos : Pos}, X.N.Nodup → X.N[i]? = some y → X.env.scope.names.lookup y = some .local → swapsWith e (some (.Name y py)) spos.line X.env = pure true → PS X (.Assign [.Name y py] e spos) (tAsg (tlJ X EX g x) (gName i))
theorem lj_lc {elt tg iter : Expr} {ifs : List Expr} {scope : Scope} {own : List (Str × Nat)} {pos : Pos} {gT : TG} {tt : TT} {te : TE} {x : m (List D)} {f : D → m (Option D)} (hc : X.calm = true) (hN : X.N.Nodup) (hi : IJ X EX tg iter g x) (ok : BlkOk X.N X.env.scope scope own)
    (hg : ∀ (s : Shared) (H : Hp) (C : Addr) (cl : List (Str × Addr)) (fp : List Addr), PG (X.blk s H scope (compEnvC scope cl C X.env) fp) tg gT) (ht : ∀ (s : Shared) (H : Hp) (C : Addr) (cl : List (Str × Addr)) (fp : List Addr), PTs (X.blk s H scope (compEnvC scope cl C X.env) fp) ifs tt)
    (he : ∀ (s : Shared) (H : Hp) (C : Addr) (cl : List (Str × Addr)) (fp : List Addr), PE (X.blk s H scope (compEnvC scope cl C X.env) fp) elt te) (hsem : CSem X.K g (own.map (·.2)) f gT tt te) (how : noOwn g (own.map (·.2)) = true) (hs : ∀ x, foldedSetIterable iter X.env x = pure x := by intro _; rfl) :
    LcP X EX (.ListComp elt [⟨tg, iter, ifs, 0⟩] scope pos) g (x >>= fun ds => Mo.lift (small ds) >>= fun ds => lcA f ds []) :=
  ⟨(pe_lc hc hN hi ok hg ht he hs).weak fun σ H Q h => tlc_of hsem how h, fun nd hy hl hsw => (ps_setLc hc nd hy hl hsw hi ok hg ht he hs).weak fun De σ H h => tlc_of hsem how h⟩
end
end DD
namespace DD
open PySem PySem.Spec PyProof.Rows L2
theorem pe_u {ι : Type} {X : Cx} {e : Expr} {F : ι → TE} (h : ∀ i, PE X e (F i)) : PE X e (fun σ H Q => ∃ i, F i σ H Q) := ⟨fun pins s σ H Q I ⟨i, q⟩ => (h i).run pins s σ H Q I q⟩
section
variable {K : PySem.W.Frag} {B : Bs} {g : List Sl} {σ : L2.St} {H G H' G' : Hp} {n n' : Wd} {vs : List Nat}
theorem Ok.rewipe {g' : List Sl} {σ' : L2.St} (o : Ok K B g' σ' H G n) (eg : wipeG g' vs = wipeG g vs) (es : L2.wipe σ' vs = L2.wipe σ vs) : Ok K B (wipeG g vs) (L2.wipe σ vs) H G n := by
  have := o.wipe (vs := vs)
  rw [eg, es] at this
  exact this
end
section
variable {m : Type → Type} [Mo m] [Calm m] {X : Cx} {EX : XR} {g : List Sl}
/-- the element alone -/
def someM (x : m D) : m (Option D) := x >>= fun y => pure (some y)
def ifM (t : m Bool) (x : m D) : m (Option D) := t >>= fun k => if k = true then someM x else pure none
theorem csem_end {vs : List Nat} {g' : List Sl} {σ σ' : L2.St} {B : Bs} {H G : Hp} {n : Wd} {x : m D} {φ : Option D → Wd → Prop} {Qy : VK} (eg : wipeG g' vs = wipeG g vs) (es : L2.wipe σ' vs = L2.wipe σ vs) (o : Ok X.K B g' σ' H G n) (s : Mo.sat (someM x) n φ (fun _ _ => False))
    (hy : ∀ H' G' n' y yv, Ok X.K B (wipeG g vs) (L2.wipe σ vs) H' G' n' → Same G G' → Da X.K G' yv y → φ (some y) n' → Qy yv H') : teJ X X0 g' x σ' H Qy :=
  ⟨B, G, n, _, _, o, Mo.sat_bind s, fun v H' G' d n' o' g' dv s' => hy H' G' n' d v (o'.rewipe eg es) g' dv (Mo.sat_pure s'), fun _ _ _ _ _ _ _ z => z.elim⟩
theorem csem1 {i : Nat} {vs : List Nat} {f : D → m D} (hin : i ∈ vs) : CSem X.K g vs (fun d => someM (f d)) (gName i) tYes (fun σ H Q => ∃ d : D, teJ X X0 ((wipeG g vs).set i (.val d)) (f d) σ H Q) := by
  intro B σ H G n d v φ Qy Qn o dv s hy hn
  have es : L2.wipe ((L2.wipe σ vs).set i (some v)) vs = L2.wipe σ vs := by rw [wipe_set hin, wipe_wipe]
  refine ⟨es, ?_⟩
  unfold tYes; dsimp only
  rw [if_pos rfl]
  exact ⟨d, csem_end (by rw [wipeG_set hin, wipeG_wipeG]) es (o.setV dv) s hy⟩
/-- two names -/
def pairM {α : Type} (d : D) (f : D → D → m α) : m α := match d with
  | .tuple [a, b] => f a b
  | _ => Mo.lift none
theorem ej_blk {s : Shared} {H : Hp} {scope : Scope} {env : Env} {fp : List Addr} {e : Expr} {x : m D} (h : EJ (X.blk s H scope env fp) X0 e g x) : PE (X.blk s H scope env fp) e (teJ X X0 g x) := h
/-- [e for x in it] -/
theorem lj_lc1 (own : List (Str × Nat)) (i : Nat) {elt tg iter : Expr} {scope : Scope} {pos : Pos} {x : m (List D)} {f : D → m D} (hN : X.N.Nodup) (hi : IJ X EX tg iter g x) (ok : BlkOk X.N X.env.scope scope own)
    (hg : ∀ (s : Shared) (H : Hp) (C : Addr) (cl : List (Str × Addr)) (fp : List Addr), PG (X.blk s H scope (compEnvC scope cl C X.env) fp) tg (gName i))
    (he : ∀ (s : Shared) (H : Hp) (C : Addr) (cl : List (Str × Addr)) (fp : List Addr) (d : D), EJ (X.blk s H scope (compEnvC scope cl C X.env) fp) X0 elt ((wipeG g (own.map (·.2))).set i (.val d)) (f d))
    (hin : i ∈ own.map (·.2) := by decide) (how : noOwn g (own.map (·.2)) = true := by rfl) (hc : X.calm = true := by rfl) (hs : ∀ x, foldedSetIterable iter X.env x = pure x := by intro _; rfl) :
    LcP X EX (.ListComp elt [⟨tg, iter, [], 0⟩] scope pos) g (x >>= fun ds => Mo.lift (small ds) >>= fun ds => lcA (fun d => someM (f d)) ds []) :=
  lj_lc hc hN hi ok hg (fun _ _ _ _ _ => pts_nil) (fun s H C cl fp => pe_u fun d => ej_blk (he s H C cl fp d)) (csem1 hin) how hs
end
end DD
namespace DD
open PySem PySem.Spec PyProof.Rows L2
/-! ### statements -/
inductive Fl (A : Type) where
  | nx (a : A) | rt (d : D)
section
variable {m : Type → Type} [Mo m] {A A' : Type}
def tsJ (X : Cx) (EX : XR) (g : List Sl) (x : m A) (P : A → List Sl) : TS := fun De σ H => ∃ B G n φ ξ, Ok X.K B g σ H G n ∧ Mo.sat x n φ ξ ∧ (∀ a σ' H' G' n', Ok X.K B (P a) σ' H' G' n' → Same G G' → φ a n' → De.nx σ' H') ∧ Xw X B EX ξ
/-- a plain statement: no return within -/
def SJ (X : Cx) (EX : XR) (s : Stmt) (g : List Sl) (x : m A) (P : A → List Sl) : Prop := PS X s (tsJ X EX g x P)
def tbJ (X : Cx) (EX : XR) (g : List Sl) (x : m (Fl A)) (P : A → List Sl) : TS := fun De σ H => ∃ B G n φ ξ, Ok X.K B g σ H G n ∧ Mo.sat x n φ ξ ∧ (∀ a σ' H' G' n', Ok X.K B (P a) σ' H' G' n' → Same G G' → φ (.nx a) n' → De.nx σ' H') ∧
  (∀ v H' G' d n', Fm X.K B H' G' n' → Da X.K G' v d → φ (.rt d) n' → De.rt v H') ∧ Xw X B EX ξ
/-- a block that may end or return -/
def BJ (X : Cx) (EX : XR) (ss : List Stmt) (g : List Sl) (x : m (Fl A)) (P : A → List Sl) : Prop := PSs X ss (tbJ X EX g x P)
def tfJ (X : Cx) (EX : XR) (fall : Bool) (g : List Sl) (x : m D) : TS := fun De σ H => ∃ B G n φ ξ, Ok X.K B g σ H G n ∧ Mo.sat x n φ ξ ∧ (∀ v H' G' d n', Fm X.K B H' G' n' → Da X.K G' v d → φ d n' → De.rt v H') ∧
  (fall = true → ∀ σ' H' G' n', Fm X.K B H' G' n' → φ .none n' → De.nx σ' H') ∧ Xw X B EX ξ
/-- the rest of a def's body (fall: it may come to its end, which hands back None) -/
def FJ (X : Cx) (EX : XR) (fall : Bool) (ss : List Stmt) (g : List Sl) (x : m D) : Prop := PSs X ss (tfJ X EX fall g x)
end
section
variable {m : Type → Type} [Mo m] {A A' : Type} {X : Cx} {EX : XR} {g : List Sl} {fall : Bool}
theorem fj_seq {s : Stmt} {rest : List Stmt} {x : m A} {P : A → List Sl} {y : A → m D} (h : SJ X EX s g x P) (hr : ∀ a, FJ X EX fall rest (P a) (y a)) : FJ X EX fall (s :: rest) g (x >>= y) :=
  (pss_cons h (u := fun De σ H => ∃ a, tfJ X EX fall (P a) (y a) De σ H) ⟨fun pins s σ H De I ⟨a, q⟩ => (hr a).run pins s σ H De I q⟩).weak fun De σ H ⟨B, G, n, φ, ξ, o, s, q1, q2, xw⟩ =>
    ⟨B, G, n, _, ξ, o, Mo.sat_bind s, fun a σ' H' G' n' o' g' s' => ⟨a, B, G', n', φ, ξ, o', s', q1, q2, xw⟩, xw⟩
theorem bj_seq {s : Stmt} {rest : List Stmt} {x : m A} {P : A → List Sl} {y : A → m (Fl A')} {P' : A' → List Sl} (h : SJ X EX s g x P) (hr : ∀ a, BJ X EX rest (P a) (y a) P') : BJ X EX (s :: rest) g (x >>= y) P' :=
  (pss_cons h (u := fun De σ H => ∃ a, tbJ X EX (P a) (y a) P' De σ H) ⟨fun pins s σ H De I ⟨a, q⟩ => (hr a).run pins s σ H De I q⟩).weak fun De σ H ⟨B, G, n, φ, ξ, o, s, q1, q2, xw⟩ =>
    ⟨B, G, n, _, ξ, o, Mo.sat_bind s, fun a σ' H' G' n' o' g' s' => ⟨a, B, G', n', φ, ξ, o', s', fun c τ K' L' k oc gc pc => q1 c τ K' L' k oc (g'.trans gc) pc, q2, xw⟩, xw⟩
/-- what a later block need not know is forgotten -/
def Sub : List Sl → List Sl → Prop
  | [], [] => True
  | s :: g, t :: h => (t = .any ∨ t = s) ∧ Sub g h
  | _, _ => False
theorem Sub.len : ∀ {g h : List Sl}, Sub g h → h.length = g.length
  | [], [], _ => rfl
  | _ :: _, _ :: _, q => by simp [Sub.len q.2]
  | [], _ :: _, q => q.elim
  | _ :: _, [], q => q.elim
theorem Sub.get : ∀ {g h : List Sl}, Sub g h → ∀ (i : Nat) (s : Sl), h[i]? = some s → s = .any ∨ g[i]? = some s
  | [], [], _, i, s, e => by simp at e
  | a :: g, b :: h, q, 0, s, e => by
    simp at e
    subst e
    rcases q.1 with z | z
    · exact .inl z
    · exact .inr (by simp [z])
  | a :: g, b :: h, q, i + 1, s, e => by
    simp only [List.getElem?_cons_succ] at e ⊢
    exact Sub.get q.2 i s e
  | [], _ :: _, q, _, _, _ => q.elim
  | _ :: _, [], q, _, _, _ => q.elim
theorem Ok.forget {K : PySem.W.Frag} {B : Bs} {σ : L2.St} {H G : Hp} {n : Wd} {g' : List Sl} (o : Ok K B g σ H G n) (h : Sub g g') : Ok K B g' σ H G n := o.sub h.len h.get
theorem bj_nil {a : A} {P : A → List Sl} (h : Sub g (P a)) : BJ (m := m) X EX [] g (pure (.nx a)) P := pss_nil.weak fun De σ H ⟨B, G, n, φ, ξ, o, s, q1, q2, xw⟩ => q1 a σ H G n (o.forget h) (Same.refl _) (Mo.sat_pure s)
theorem pss_ret {e : Expr} {rest : List Stmt} {pos : Pos} {te : TE} (h : PE X e te) : PSs X (.Return (some e) pos :: rest) (fun De σ H => te σ H De.rt) := (pss_cons (ps_ret h) (u := tNever) ⟨fun _ _ _ _ _ _ h => h.elim⟩)
theorem fj_ret {e : Expr} {rest : List Stmt} {pos : Pos} {x : m D} (h : EJ X EX e g x) : FJ X EX fall (.Return (some e) pos :: rest) g x :=
  (pss_ret h).weak fun De σ H ⟨B, G, n, φ, ξ, o, s, q1, q2, xw⟩ => ⟨B, G, n, φ, ξ, o, s, fun v H' G' d n' o' g' d' p => q1 v H' G' d n' o'.fm d' p, xw⟩
/-! ### if -/
/-- if c: .. (it returns) -/
theorem fj_ifr {c : Expr} {thn rest : List Stmt} {pos : Pos} {t : m Bool} {x y : m D} (hc : TJ X EX c g t) (h1 : FJ X EX false thn g x) (h2 : FJ X EX fall rest g y) : FJ X EX fall (.If c thn [] pos :: rest) g (t >>= fun k => if k = true then x else y) :=
  (pss_cons (ps_if hc h1 pss_nil) h2).weak fun De σ H ⟨B, G, n, φ, ξ, o, s, q1, q2, xw⟩ => tt_one o s (fun b H1 G1 n1 o1 g1 s1 => by
    cases b with
    | true =>
      rw [if_pos rfl] at s1 ⊢
      exact ⟨B, G1, n1, φ, ξ, o1, s1, q1, (fun z => by cases z), xw⟩
    | false =>
      rw [if_neg Bool.false_ne_true] at s1 ⊢
      exact ⟨B, G1, n1, φ, ξ, o1, s1, q1, q2, xw⟩) xw
theorem bj_ifr {c : Expr} {thn rest : List Stmt} {pos : Pos} {t : m Bool} {x : m D} {y : m (Fl A)} {P : A → List Sl} (hc : TJ X EX c g t) (h1 : FJ X EX false thn g x) (h2 : BJ X EX rest g y P) : BJ X EX (.If c thn [] pos :: rest) g (t >>= fun k => if k = true then (x >>= fun d => pure (.rt d)) else y) P :=
  (pss_cons (ps_if hc h1 pss_nil) h2).weak fun De σ H ⟨B, G, n, φ, ξ, o, s, q1, q2, xw⟩ => tt_one o s (fun b H1 G1 n1 o1 g1 s1 => by
    cases b with
    | true =>
      rw [if_pos rfl] at s1 ⊢
      exact ⟨B, G1, n1, _, ξ, o1, Mo.sat_bind s1, (fun v H' G' d n' f' d' p => q2 v H' G' d n' f' d' (Mo.sat_pure p)), (fun z => by cases z), xw⟩
    | false =>
      rw [if_neg Bool.false_ne_true] at s1 ⊢
      exact ⟨B, G1, n1, φ, ξ, o1, s1, fun c τ K' L' k oc gc pc => q1 c τ K' L' k oc (g1.trans gc) pc, q2, xw⟩) xw
def thenM (f : Fl A) (y : A → m D) : m D := match f with
  | .nx a => y a
  | .rt d => pure d
def thenB (f : Fl A) (y : A → m (Fl A')) : m (Fl A') := match f with
  | .nx a => y a
  | .rt d => pure (.rt d)
theorem pss_any {ι : Type} {ss : List Stmt} {F : ι → TS} (h : ∀ i, PSs X ss (F i)) : PSs X ss (fun De σ H => ∃ i, F i De σ H) := ⟨fun pins s σ H De I ⟨i, q⟩ => (h i).run pins s σ H De I q⟩
/-! ### for -/
def loopM (f : D → A → m (Fl A)) : List D → A → m (Fl A)
  | [], a => pure (.nx a)
  | d :: r, a => f d a >>= fun z => match z with
    | .nx a' => loopM f r a'
    | .rt v => pure (.rt v)
/-- the target's store at a turn: from the loop's slots P a and the item d to what the body finds -/
def GSem (K : PySem.W.Frag) (gT : TG) (P : A → List Sl) (b : D → A → m (Fl A)) (f : D → A → List Sl → m (Fl A) → Prop) : Prop :=
  ∀ (B : Bs) (σ : L2.St) (H G : Hp) (n : Wd) (d : D) (a : A) (v : V) (φ : Fl A → Wd → Prop) (ξ : Exn → Wd → Prop) (Q : L2.St → Hp → Prop), Ok K B (P a) σ H G n → Da K G v d → Mo.sat (b d a) n φ ξ → (∀ g' y σ', f d a g' y → Ok K B g' σ' H G n → Mo.sat y n φ ξ → Q σ' H) → gT v σ H Q
theorem for_core {tg iter : Expr} {body : List Stmt} {pos : Pos} {xi : m (List D)} {gT : TG} {P : A → List Sl} {a0 : A} {b : D → A → m (Fl A)} {F : D → A → List Sl → m (Fl A) → Prop} (hp : PassesOwn (model X.prog X.w) X.A X.env X.xe) (hc : X.calm = true) (hi : IJ X EX tg iter g xi) (hg : PG X tg gT)
    (hb : ∀ d a g' y, F d a g' y → BJ X EX body g' y P) (hsem : GSem X.K gT P b F) (h0 : Sub g (P a0)) (hs : ∀ x, foldedSetIterable iter X.env x = pure x := by intro _; rfl) :
    PS X (.For tg iter body [] pos) (tbJ X EX g (xi >>= fun ds => loopM b ds a0) P) := by
  have hbody : PSs X body (fun De σ H => ∃ t : { t : D × A × List Sl × m (Fl A) // F t.1 t.2.1 t.2.2.1 t.2.2.2 }, tbJ X EX t.1.2.2.1 t.1.2.2.2 P De σ H) := pss_any fun t => hb _ _ _ _ t.2
  refine (ps_for hp hc hi hg hbody hs).weak fun De σ H ⟨B, G, n, φ, ξ, o, s, q1, q2, xw⟩ => ⟨B, G, n, _, ξ, o, Mo.sat_bind s, fun J H1 G1 ds n1 o1 g1 wk s1 => ?_, xw⟩
  refine ⟨fun i k σ' H' => k = ds.length - i ∧ i ≤ ds.length ∧ ∃ G' n' a, Ok X.K B (P a) σ' H' G' n' ∧ Same G1 G' ∧ Mo.sat (loopM b (ds.drop i) a) n' φ ξ, ⟨ds.length, by omega, Nat.zero_le _, G1, n1, a0, o1.forget h0, Same.refl _, s1⟩, ?_⟩
  rintro i k σ' H' ⟨rfl, hi, G', n', a, o', g', s'⟩
  by_cases hlt : i < ds.length
  · refine .inr ⟨wk.goes i H' hlt (g'.subm o'.fm.sub), fun σ2 H2 => ∃ G2 n2 a2, Ok X.K B (P a2) σ2 H2 G2 n2 ∧ Same G1 G2 ∧ Mo.sat (loopM b (ds.drop (i + 1)) a2) n2 φ ξ, fun σ2 H2 ⟨G2, n2, a2, r⟩ => ⟨ds.length - (i + 1), by omega, rfl, hlt, G2, n2, a2, r⟩, fun v H2 hy => ?_⟩
    obtain ⟨d, G2, ed, gr, dv⟩ := wk.yields i H' G' v H2 hlt g' o'.fm.sub hy
    have e0 : ds.drop i = d :: ds.drop (i + 1) := by
      rw [List.drop_eq_getElem_cons hlt]
      congr 1
      rw [List.getElem?_eq_getElem hlt] at ed
      exact Option.some.inj ed
    rw [e0] at s'
    refine hsem B σ' H2 G2 n' d a v _ ξ _ (o'.gr gr) dv (Mo.sat_bind s') fun g2 y σ2 hF o2 s2 => ?_
    refine ⟨⟨(d, a, g2, y), hF⟩, B, G2, n', _, ξ, o2, s2, fun a3 σ3 H3 G3 n3 o3 g3 s3 => ⟨G3, n3, a3, o3, (g'.trans gr.g).trans g3, s3⟩, fun w H3 G3 e n3 f3 d3 s3 => q2 w H3 G3 e n3 f3 d3 (Mo.sat_pure s3), xw⟩
  · have e : i = ds.length := by omega
    subst e
    rw [List.drop_length] at s'
    exact .inl ⟨wk.stops H' (g'.subm o'.fm.sub), q1 a σ' H' G' n' o' (g1.trans g') (Mo.sat_pure s')⟩
end
end DD
namespace DD
open PySem PySem.Spec PyProof.Rows L2
section
variable {m : Type → Type} [Mo m] {A A' : Type} {X : Cx} {EX : XR} {g : List Sl} {fall : Bool}
/-! ### for, by its target -/
theorem gsem1 {i : Nat} {P : A → List Sl} {b : D → A → m (Fl A)} : GSem X.K (gName i) P b (fun d a g' y => g' = (P a).set i (.val d) ∧ y = b d a) := by
  intro B σ H G n d a v φ ξ Q o dv s q
  exact q _ _ _ ⟨rfl, rfl⟩ (o.setV dv) s
theorem gsem2 {i j : Nat} {P : A → List Sl} {b : D → D → A → m (Fl A)} : GSem X.K (gTup X.K 2 (gCons (gName i) (gCons (gName j) gNil))) P (fun d a => pairM d fun u w => b u w a) (fun d a g' y => ∃ u w, g' = ((P a).set i (.val u)).set j (.val w) ∧ y = b u w a) := by
  intro B σ H G n d a v φ ξ Q o dv s q
  unfold pairM at s
  dsimp only at s
  split at s
  · rename_i u w
    cases dv with
    | tup h da =>
      cases da with
      | cons d1 r =>
        cases r with
        | cons d2 r =>
          cases r
          exact ⟨_, _, rfl, sameT o.fm.sub h, rfl, _, _, rfl, _, _, rfl, rfl, q _ _ _ ⟨u, w, rfl, rfl⟩ ((o.setV d1).setV d2) s⟩
  · obtain ⟨_, e, _⟩ := Mo.sat_lift s
    cases e
theorem fj_of_for {s : Stmt} {rest : List Stmt} {x : m (Fl A)} {P : A → List Sl} {y : A → m D} (h : PS X s (tbJ X EX g x P)) (hr : ∀ a, FJ X EX fall rest (P a) (y a)) : FJ X EX fall (s :: rest) g (x >>= fun f => thenM f y) :=
  (pss_cons h (pss_any hr)).weak fun De σ H ⟨B, G, n, φ, ξ, o, s, q1, q2, xw⟩ =>
    ⟨B, G, n, _, ξ, o, Mo.sat_bind s, fun a σ' H' G' n' o' g' s' => ⟨a, B, G', n', φ, ξ, o', s', q1, q2, xw⟩, fun v H' G' d n' f' d' p => q1 v H' G' d n' f' d' (Mo.sat_pure p), xw⟩
theorem bj_of_for {s : Stmt} {rest : List Stmt} {x : m (Fl A)} {P : A → List Sl} {y : A → m (Fl A')} {P' : A' → List Sl} (h : PS X s (tbJ X EX g x P)) (hr : ∀ a, BJ X EX rest (P a) (y a) P') : BJ X EX (s :: rest) g (x >>= fun f => thenB f y) P' :=
  (pss_cons h (pss_any hr)).weak fun De σ H ⟨B, G, n, φ, ξ, o, s, q1, q2, xw⟩ =>
    ⟨B, G, n, _, ξ, o, Mo.sat_bind s, fun a σ' H' G' n' o' g' s' => ⟨a, B, G', n', φ, ξ, o', s', fun c τ K' L' k oc gc pc => q1 c τ K' L' k oc (g'.trans gc) pc, q2, xw⟩, fun v H' G' d n' f' d' p => q2 v H' G' d n' f' d' (Mo.sat_pure p), xw⟩
theorem for1 (i : Nat) {tg iter : Expr} {body : List Stmt} {pos : Pos} {xi : m (List D)} {P : A → List Sl} {a0 : A} {b : D → A → m (Fl A)} (hp : PassesOwn (model X.prog X.w) X.A X.env X.xe) (hi : IJ X EX tg iter g xi) (hg : PG X tg (gName i))
    (hb : ∀ d a, BJ X EX body ((P a).set i (.val d)) (b d a) P) (h0 : Sub g (P a0)) (hc : X.calm = true := by rfl) (hs : ∀ x, foldedSetIterable iter X.env x = pure x := by intro _; rfl) :
    PS X (.For tg iter body [] pos) (tbJ X EX g (xi >>= fun ds => loopM b ds a0) P) :=
  for_core hp hc hi hg (fun d a g' y ⟨e1, e2⟩ => by subst e1 e2; exact hb d a) gsem1 h0 hs
theorem for2 (i j : Nat) {tg iter : Expr} {body : List Stmt} {pos : Pos} {xi : m (List D)} {P : A → List Sl} {a0 : A} {b : D → D → A → m (Fl A)} (hp : PassesOwn (model X.prog X.w) X.A X.env X.xe) (hi : IJ X EX tg iter g xi) (hg : PG X tg (gTup X.K 2 (gCons (gName i) (gCons (gName j) gNil))))
    (hb : ∀ u w a, BJ X EX body (((P a).set i (.val u)).set j (.val w)) (b u w a) P) (h0 : Sub g (P a0)) (hc : X.calm = true := by rfl) (hs : ∀ x, foldedSetIterable iter X.env x = pure x := by intro _; rfl) :
    PS X (.For tg iter body [] pos) (tbJ X EX g (xi >>= fun ds => loopM (fun d a => pairM d fun u w => b u w a) ds a0) P) :=
  for_core hp hc hi hg (fun d a g' y ⟨u, w, e1, e2⟩ => by subst e1 e2; exact hb u w a) gsem2 h0 hs
/-! ### plain statements -/
theorem sj_set (i : Nat) {y : Str} {py pos : Pos} {e : Expr} {x : m D} (hN : X.N.Nodup) (h : EJ X EX e g x) (hi : X.N[i]? = some y := by rfl) (hx : Loc X.env.scope y := by first | exact Or.inl rfl | exact Or.inr rfl) (hs : swapsWith e (some (.Name y py)) pos.line X.env = pure false := by kernel_rfl)
    (hf : X.fn y = true ∨ X.env.scope.names.lookup y = some .local := by first | exact .inl rfl | exact .inr rfl) : SJ X EX (.Assign [.Name y py] e pos) g x (fun d => g.set i (.val d)) :=
  (ps_set hN hi hx h hs hf).weak fun De σ H ⟨B, G, n, φ, ξ, o, s, q, xw⟩ => ⟨B, G, n, φ, ξ, o, s, fun v H' G' d n' o' g' dv p => q d _ H' G' n' (o'.setV dv) g' p, xw⟩
/-- a slot is given a list of its own -/
theorem Ok.setO {K : PySem.W.Frag} {B : Bs} {σ : L2.St} {H G : Hp} {n : Wd} {p : Addr} {xs : List V} {ds : List D} {i : Nat} (o : Ok K B g σ H G n) (hb : B.H p = none) (hg : G p = none) (hh : H p = some (.lst xs))
    (hf : ∀ (i : Nat) (es : List D) (f : Addr), g[i]? = some (Sl.own es) → σ[i]? = some (some (V.ref f)) → f ≠ p) (da : DaAll K G xs ds) : Ok K B (g.set i (.own ds)) (σ.set i (some (.ref p))) H G n where
  fm := o.fm
  len := by rw [List.length_set, List.length_set, o.len]
  val := fun j e he => by
    by_cases hj : i = j
    · subst hj
      by_cases hl : i < g.length
      · rw [List.getElem?_set_self hl] at he; cases he
      · rw [List.getElem?_eq_none (by rw [List.length_set]; omega)] at he; cases he
    · rw [List.getElem?_set_ne hj] at he ⊢
      exact o.val j e he
  own := by
    obtain ⟨f, h1, h2⟩ := o.own
    have out : ∀ (j : Nat) (es : List D), i ≠ j → (g.set i (.own ds))[j]? = some (Sl.own es) → g[j]? = some (Sl.own es) := fun j es hj e => by
      rw [List.getElem?_set_ne hj] at e; exact e
    refine ⟨fun j => if j = i then p else f j, fun j k es es' a b e => ?_, fun j es e => ?_⟩
    · dsimp only at e
      by_cases hj : j = i <;> by_cases hk : k = i
      · rw [hj, hk]
      · rw [if_pos hj, if_neg hk] at e
        have b' := out k es' (Ne.symm hk) b
        obtain ⟨q, _⟩ := h2 k es' b'
        exact absurd e.symm (hf k es' _ b' q)
      · rw [if_neg hj, if_pos hk] at e
        have a' := out j es (Ne.symm hj) a
        obtain ⟨q, _⟩ := h2 j es a'
        exact absurd e (hf j es _ a' q)
      · rw [if_neg hj, if_neg hk] at e
        exact h1 j k es es' (out j es (Ne.symm hj) a) (out k es' (Ne.symm hk) b) e
    · dsimp only
      by_cases hj : j = i
      · subst hj
        by_cases hl : j < g.length
        · rw [List.getElem?_set_self hl] at e
          cases e
          rw [if_pos rfl, List.getElem?_set_self (by rw [← o.len]; exact hl)]
          exact ⟨rfl, hg, hb, xs, hh, da⟩
        · rw [List.getElem?_eq_none (by rw [List.length_set]; omega)] at e; cases e
      · rw [if_neg hj, List.getElem?_set_ne (Ne.symm hj)]
        exact h2 j es (out j es (Ne.symm hj) e)
  dck := fun j e => by
    by_cases hj : i = j
    · subst hj
      by_cases hl : i < g.length
      · rw [List.getElem?_set_self hl] at e; cases e
      · rw [List.getElem?_eq_none (by rw [List.length_set]; omega)] at e; cases e
    · rw [List.getElem?_set_ne hj] at e ⊢
      exact o.dck j e
  adr := fun j b od fs e => by
    by_cases hj : i = j
    · subst hj
      by_cases hl : i < g.length
      · rw [List.getElem?_set_self hl] at e; cases e
      · rw [List.getElem?_eq_none (by rw [List.length_set]; omega)] at e; cases e
    · rw [List.getElem?_set_ne hj] at e ⊢
      exact o.adr j b od fs e
  fnc := fun j b fs e => by
    by_cases hj : i = j
    · subst hj
      by_cases hl : i < g.length
      · rw [List.getElem?_set_self hl] at e; cases e
      · rw [List.getElem?_eq_none (by rw [List.length_set]; omega)] at e; cases e
    · rw [List.getElem?_set_ne hj] at e ⊢
      exact o.fnc j b fs e
theorem sj_setO (i : Nat) {y : Str} {py pos : Pos} {e : Expr} {x : m (List D)} (hN : X.N.Nodup) (h : LJ X EX e g x) (hi : X.N[i]? = some y := by rfl) (hx : Loc X.env.scope y := by first | exact Or.inl rfl | exact Or.inr rfl) (hs : swapsWith e (some (.Name y py)) pos.line X.env = pure false := by kernel_rfl)
    (hf : X.fn y = true ∨ X.env.scope.names.lookup y = some .local := by first | exact .inl rfl | exact .inr rfl) : SJ X EX (.Assign [.Name y py] e pos) g x (fun ds => g.set i (.own ds)) :=
  (ps_set hN hi hx h hs hf).weak fun De σ H ⟨B, G, n, φ, ξ, o, s, q, xw⟩ => ⟨B, G, n, φ, ξ, o, s, fun p xs H' G' ds n' o' g' hb hg hh hf da pd => q ds _ H' G' n' (o'.setO hb hg hh hf da) g' pd, xw⟩
/-- y = [..] on one line, y a local -/
theorem sj_lcV (i : Nat) {y : Str} {py pos : Pos} {e : Expr} {x : m (List D)} (hN : X.N.Nodup) (h : LcP X EX e g x) (hw : swapsWith e (some (.Name y py)) pos.line X.env = pure true) (hi : X.N[i]? = some y := by rfl) (hl : X.env.scope.names.lookup y = some .local := by rfl) :
    SJ X EX (.Assign [.Name y py] e pos) g x (fun ds => g.set i (.val (.list ds))) :=
  (h.stmt hN hi hl hw).weak fun De σ H ⟨B, G, n, φ, ξ, o, s, q, xw⟩ => ⟨B, G, n, φ, ξ, o, s, fun p xs H' G' ds n' o' g' hb hg hh hf da pd => by
    obtain ⟨o2, g2⟩ := o'.freeze hb hg hh hf
    exact q ds _ H' _ n' (o2.setV (.lst upd_same (da.mono g2))) (g'.trans g2) pd, xw⟩
/-- the list in slot i is changed -/
theorem Ok.write {K : PySem.W.Frag} {B : Bs} {σ : L2.St} {H G : Hp} {n : Wd} {a : Addr} {xs : List V} {ds es : List D} {i : Nat} (o : Ok K B g σ H G n) (hi : g[i]? = some (Sl.own es)) (ha : σ[i]? = some (some (V.ref a))) (da : DaAll K G xs ds) : Ok K B (g.set i (.own ds)) σ (upd H a (.lst xs)) G n := by
  obtain ⟨f, h1, h2⟩ := id o.own
  obtain ⟨e1, e2, e3, ys, e4, e5⟩ := h2 i es hi
  rw [ha] at e1
  obtain rfl : a = f i := by cases e1; rfl
  have hl : i < g.length := (List.getElem?_eq_some_iff.mp hi).1
  have sd : Side B (g.set i .any) σ G (f i) := by
    refine ⟨e3, ?_, e2, fun j es' q z y => ?_⟩
    · cases e : B.G (f i) with
      | none => rfl
      | some z => rw [o.fm.old _ _ e] at e2; cases e2
    · by_cases hj : i = j
      · subst hj
        rw [List.getElem?_set_self hl] at z; cases z
      · rw [List.getElem?_set_ne hj] at z
        rintro rfl
        obtain ⟨q1, _⟩ := h2 j es' z
        rw [q1] at y
        exact hj (h1 i j es es' hi z (V.ref.inj (Option.some.inj (Option.some.inj y))).symm)
  have o1 : Ok K B (g.set i .any) σ H G n := o.sub (by simp) fun j s e => by
    by_cases hj : i = j
    · subst hj
      rw [List.getElem?_set_self hl] at e
      cases e
      exact .inl rfl
    · rw [List.getElem?_set_ne hj] at e
      exact .inr e
  have o2 := (o1.poke (u := .lst xs) sd).setO (i := i) (p := f i) sd.b sd.no upd_same sd.f da
  rw [List.set_set] at o2
  have : σ.set i (some (V.ref (f i))) = σ := by
    apply List.ext_getElem?
    intro j
    by_cases hj : i = j
    · subst hj
      rw [List.getElem?_set_self (by rw [← o.len]; exact hl), ha]
    · rw [List.getElem?_set_ne hj]
  rw [this] at o2
  exact o2
end
end DD
namespace DD
open PySem PySem.Spec PyProof.Rows L2
section
variable {m : Type → Type} [Mo m] {A A' : Type} {X : Cx} {EX : XR} {g : List Sl} {fall : Bool}
theorem own_at {K : PySem.W.Frag} {B : Bs} {σ : L2.St} {H G : Hp} {n : Wd} {i : Nat} {ds : List D} (o : Ok K B g σ H G n) (hi : g[i]? = some (Sl.own ds)) : ∃ a xs, σ[i]? = some (some (V.ref a)) ∧ H a = some (.lst xs) ∧ DaAll K G xs ds := by
  obtain ⟨f, _, h2⟩ := o.own
  obtain ⟨e1, _, _, xs, e4, e5⟩ := h2 i ds hi
  exact ⟨f i, xs, e1, e4, e5⟩
def fits (k : Nat) : Option Unit := if k < 1000000 then some () else none
theorem fits_lt {k : Nat} {u : Unit} (h : fits k = some u) : k < sizeLine := by
  unfold fits at h
  split at h
  · rename_i hl; exact Nat.lt_trans hl (by decide)
  · cases h
/-- x.append(e), x a list of one's own -/
theorem sj_append (i : Nat) {ds : List D} {y : Str} {py apos cpos pos : Pos} {e : Expr} {x : m D} (h : EJ X EX e g x) (hg : g[i]? = some (Sl.own ds) := by rfl) (hN : X.N[i]? = some y := by rfl) (hv : Vis X.env.scope y := by first | exact Or.inl rfl | exact Or.inr (Or.inl rfl) | exact Or.inr (Or.inr rfl))
    (hd : (y == ("__debug__" : Str)) = false := by decide) (hcd : (y == ("__classdict__" : Str)) = false := by decide)
    (hbase : attributeBase (.Name y py) "append" X.env (eval (.Name y py) X.env) = eval (.Name y py) X.env := by rfl)
    (hfew : ((backTo cpos (starEach [e] X.env)).all (fun x => !x.1) && (backToKw cpos (keywordEach [] X.env)).all (fun x => x.1.isSome) && decide ([e].length + ([] : List Keyword).length + (if ([] : List Keyword).isEmpty then 0 else 1) < 30)) = true := by rfl)
    (hline : (apos.endLine == cpos.line) = true := by rfl) (hs : starEach [e] X.env = (false, eval e X.env) :: starEach [] X.env := by rfl) (hpl : (backTo cpos (starEach [] X.env)).any (·.1) = false := by rfl)
    (hw : swapsWith (.Call (.Attribute (.Name y py) "append" apos) [e] [] cpos) none pos.line X.env = pure false := by rfl) :
    SJ X EX (.Expr (.Call (.Attribute (.Name y py) "append" apos) [e] [] cpos) pos) g (x >>= fun d => Mo.lift (fits ds.length) >>= fun _ => pure d) (fun d => g.set i (.own (ds ++ [d]))) :=
  (ps_expr (pe_bm PySem.F.plainAttrs_list PySem.F.slot_list_append PySem.F.type_list_append mt_append (pe_var hN hv hd hcd) (pa_cons h pa_nil hs) hbase hfew hline hs hpl) hw).weak fun De σ H ⟨B, G, n, φ, ξ, o, s, q, xw⟩ => by
    obtain ⟨a, xs, e1, e2, e3⟩ := own_at o hg
    refine ⟨.ref a, e1, .inl ⟨rfl, xs, .inl (.inl e2)⟩, te_one o s (fun v H1 G1 d n1 o1 g1 d1 s1 => ?_) xw⟩
    obtain ⟨u, eu, s2⟩ := Mo.sat_lift (Mo.sat_bind s1)
    obtain ⟨a', xs', e1', e2', e3'⟩ := own_at o1 hg
    rw [e1] at e1'
    cases e1'
    refine ⟨a, xs', v, rfl, rfl, e2', by rw [e3'.length]; exact fits_lt eu, q d _ _ G1 n1 (o1.write hg e1 (e3'.append (.one d1))) g1 (Mo.sat_pure s2)⟩
def putD (ds : List D) (k : D) (d : D) : Option (List D) := match k with
  | .int j => (ixN ds.length j).map fun i => ds.set i d
  | _ => none
/-- x op= e -/
theorem sj_aug (i : Nat) {d0 : D} {y : Str} {py pos : Pos} {op : Operator} {e : Expr} {x : m D} {r : R2} {f : D → D → Option D} (hn : X.N.Nodup) (ho : OpR X (inplaceOp op) r) (hr : RD X.K r f) (h : EJ X EX e g x) (hg : g[i]? = some (Sl.val d0) := by rfl) (hi : X.N[i]? = some y := by rfl) (hx : Loc X.env.scope y := by first | exact Or.inl rfl | exact Or.inr rfl)
    (hf : X.fn y = true ∨ X.env.scope.names.lookup y = some .local := by first | exact .inl rfl | exact .inr rfl) : SJ X EX (.AugAssign (.Name y py) op e pos) g (x >>= fun d => Mo.lift (f d0 d)) (fun d => g.set i (.val d)) :=
  (ps_aug hn hi hx h ho hf).weak fun De σ H ⟨B, G, n, φ, ξ, o, s, q, xw⟩ => by
    obtain ⟨v, h1, h2⟩ := o.val i d0 hg
    refine ⟨v, h1, te_one o s (fun w H1 G1 d n1 o1 g1 d1 s1 => ?_) xw⟩
    obtain ⟨z, ez, pz⟩ := Mo.sat_lift s1
    exact hr v w d0 d z H1 G1 _ (h2.mono g1) d1 o1.fm.sub ez fun u H3 G3 gr du => q z _ H3 G3 n1 ((o1.gr gr).setV du) (g1.trans gr.g) pz
/-- a, b = e1, e2 -/
theorem sj_par (i j : Nat) {y z : Str} {a b : Expr} {px py pt pos : Pos} {kt k2 pt2} {x1 x2 : m D} (hN : X.N.Nodup) (ha : EJ X EX a g x1) (hb : EJ X EX b g x2) (hij : i ≠ j := by decide) (hi : X.N[i]? = some y := by rfl) (hj : X.N[j]? = some z := by rfl) (hc : X.calm = true := by rfl)
    (hx : X.env.scope.names.lookup y = some .local := by rfl) (hy : X.env.scope.names.lookup z = some .local := by rfl)
    (hw : swappedStores [.Tuple [.Name y px, .Name z py] kt pt] (.Tuple [a, b] k2 pt2) X.env = pure (some [y, z]) := by kernel_rfl) (hs : swapsWithSole [.Tuple [.Name y px, .Name z py] kt pt] (.Tuple [a, b] k2 pt2) pos.line X.env = pure false := by kernel_rfl)
    (hs1 : starEach [a, b] X.env = (false, eval a X.env) :: starEach [b] X.env := by rfl) (hs2 : starEach [b] X.env = (false, eval b X.env) :: starEach [] X.env := by rfl) :
    SJ X EX (.Assign [.Tuple [.Name y px, .Name z py] kt pt] (.Tuple [a, b] k2 pt2) pos) g (x1 >>= fun d => x2 >>= fun e => pure (d, e)) (fun de => (g.set i (.val de.1)).set j (.val de.2)) :=
  (ps_par hc hN hi hj hij hx hy (pa_cons ha (pa_cons hb pa_nil hs2) hs1) hw hs).weak fun De σ H ⟨B, G, n, φ, ξ, o, s, q, xw⟩ => te_one o s (fun v H1 G1 d n1 o1 g1 d1 s1 => te_one o1 s1 (fun w H2 G2 e n2 o2 g2 d2 s2 =>
    ⟨v, w, rfl, q (d, e) _ H2 G2 n2 ((o2.setV (d1.mono g2)).setV d2) (g1.trans g2) (Mo.sat_pure s2)⟩) xw) xw
/-- .. b a list of its own -/
theorem sj_parO (i j : Nat) {y z : Str} {a b : Expr} {px py pt pos : Pos} {kt k2 pt2} {x1 : m D} {x2 : m (List D)} (hN : X.N.Nodup) (ha : EJ X EX a g x1) (hb : LJ X EX b g x2) (hij : i ≠ j := by decide) (hi : X.N[i]? = some y := by rfl) (hj : X.N[j]? = some z := by rfl) (hc : X.calm = true := by rfl)
    (hx : X.env.scope.names.lookup y = some .local := by rfl) (hy : X.env.scope.names.lookup z = some .local := by rfl) (hno : noOwn g [i] = true := by rfl)
    (hw : swappedStores [.Tuple [.Name y px, .Name z py] kt pt] (.Tuple [a, b] k2 pt2) X.env = pure (some [y, z]) := by kernel_rfl) (hs : swapsWithSole [.Tuple [.Name y px, .Name z py] kt pt] (.Tuple [a, b] k2 pt2) pos.line X.env = pure false := by kernel_rfl)
    (hs1 : starEach [a, b] X.env = (false, eval a X.env) :: starEach [b] X.env := by rfl) (hs2 : starEach [b] X.env = (false, eval b X.env) :: starEach [] X.env := by rfl) :
    SJ X EX (.Assign [.Tuple [.Name y px, .Name z py] kt pt] (.Tuple [a, b] k2 pt2) pos) g (x1 >>= fun d => x2 >>= fun e => pure (d, e)) (fun de => (g.set i (.val de.1)).set j (.own de.2)) :=
  (ps_par hc hN hi hj hij hx hy (pa_cons ha (pa_cons hb pa_nil hs2) hs1) hw hs).weak fun De σ H ⟨B, G, n, φ, ξ, o, s, q, xw⟩ => te_one o s (fun v H1 G1 d n1 o1 g1 d1 s1 => ⟨B, G1, n1, _, ξ, o1, Mo.sat_bind s1, fun p xs H2 G2 es n2 o2 g2 hb' hg' hh hf da s2 =>
    ⟨v, .ref p, rfl, q (d, es) _ H2 G2 n2 ((o2.setV (d1.mono g2)).setO hb' hg' hh (fun k es' f e1 e2 => by
      by_cases hk : i = k
      · subst hk
        by_cases hl : i < g.length
        · rw [List.getElem?_set_self hl] at e1; cases e1
        · rw [List.getElem?_eq_none (by rw [List.length_set]; omega)] at e1; cases e1
      · rw [List.getElem?_set_ne hk] at e1 e2
        exact hf k es' f e1 e2) da) (g1.trans g2) (Mo.sat_pure s2)⟩, xw⟩) xw
/-! ### a list of one's own, read -/
theorem Ok.freezeS {K : PySem.W.Frag} {B : Bs} {σ : L2.St} {H G : Hp} {n : Wd} {i : Nat} {ds : List D} (o : Ok K B g σ H G n) (hi : g[i]? = some (Sl.own ds)) : ∃ G', Ok K B (g.set i (.val (.list ds))) σ H G' n ∧ Same G G' := by
  obtain ⟨f, h1, h2⟩ := id o.own
  obtain ⟨e1, e2, e3, ys, e4, e5⟩ := h2 i ds hi
  have hl : i < g.length := (List.getElem?_eq_some_iff.mp hi).1
  have o1 : Ok K B (g.set i .any) σ H G n := o.sub (by simp) fun j s e => by
    by_cases hj : i = j
    · subst hj
      rw [List.getElem?_set_self hl] at e
      cases e
      exact .inl rfl
    · rw [List.getElem?_set_ne hj] at e
      exact .inr e
  obtain ⟨o2, g2⟩ := o1.freeze e3 e2 e4 fun j es' q z y => by
    by_cases hj : i = j
    · subst hj
      rw [List.getElem?_set_self hl] at z; cases z
    · rw [List.getElem?_set_ne hj] at z
      rintro rfl
      obtain ⟨q1, _⟩ := h2 j es' z
      rw [q1] at y
      exact hj (h1 i j ds es' hi z (V.ref.inj (Option.some.inj (Option.some.inj y))).symm)
  refine ⟨_, ?_, g2⟩
  have o3 := o2.setV (i := i) (v := .ref (f i)) (d := .list ds) (.lst upd_same (e5.mono g2))
  rw [List.set_set] at o3
  have : σ.set i (some (V.ref (f i))) = σ := by
    apply List.ext_getElem?
    intro j
    by_cases hj : i = j
    · subst hj
      rw [List.getElem?_set_self (by rw [← o.len]; exact hl), e1]
    · rw [List.getElem?_set_ne hj]
  rw [this] at o3
  exact o3
/-- from here on the list in slot i is data -/
theorem fj_fr (i : Nat) {ds : List D} {ss : List Stmt} {x : m D} (h : FJ X EX fall ss (g.set i (.val (.list ds))) x) (hi : g[i]? = some (Sl.own ds) := by rfl) : FJ X EX fall ss g x :=
  PSs.weak h fun De σ H ⟨B, G, n, φ, ξ, o, s, q1, q2, xw⟩ => by
    obtain ⟨G', o', g'⟩ := o.freezeS hi
    exact ⟨B, G', n, φ, ξ, o', s, q1, q2, xw⟩
end
end DD
namespace DD
open PySem PySem.Spec PyProof.Rows L2
/-! ### defs: as FnOk, where no repr runs around the call -/
structure FnG (P : Program) (w : World) (K : PySem.W.Frag) (mg : Str → Option Value) (base : Heap) (k : Nat) (f : Addr) (fd : FuncData) (ps : List Str) (sp : Sp) : Prop where
  len : ∀ vs H Q E, sp vs H Q E → vs.length = ps.length
  run : ∀ (A : Around) (outer : List Env) (s : Shared) (H : Hp) (args : Args) (us : List Value) (vs : List V) (Q : VK) (E : XK), Room k A → A.guards = some [] → Env0 P w K mg base A outer s H → BindsTo s fd args (ps.zip us) → Vals vs us → sp vs H Q E →
    codeAny (model P w) A (.call (.ref f) args) (CR CX0 outer P w H s Q E) s
theorem FnG.mono {P : Program} {w : World} {K : PySem.W.Frag} {mg : Str → Option Value} {base : Heap} {j k : Nat} {f : Addr} {fd : FuncData} {ps : List Str} {sp : Sp} (F : FnG P w K mg base j f fd ps sp) (h : j ≤ k) : FnG P w K mg base k f fd ps sp :=
  ⟨F.len, fun A outer s H args us vs Q E hr => F.run A outer s H args us vs Q E (hr.mono h)⟩
theorem fng_of {P : Program} {w : World} {K : PySem.W.Frag} {mg : Str → Option Value} {base : Heap} {k : Nat} {x qual : Str} {st : Stmt} {f : Addr} {fd : FuncData} {N ps : List Str} {sp : Sp} (F : Fun K x qual st f fd) (S : FnScope N ps (defScope st)) (len : ∀ vs H Q E, sp vs H Q E → vs.length = ps.length)
    (hb : ∀ (cdv : Value) (A : Around) (outer : List Env) (s : Shared) (H : Hp) (vs : List V) (Q : VK) (E : XK), Room k (A.deeper (envOfC qual (defScope st) s.heap.objs.size f cdv)) → A.guards = some [] → sp vs H Q E →
      ∃ t, PSs (cxOf CX0 P w K mg base N qual (defScope st) f cdv A outer s H E).nox (defBody st) t ∧ t { nx := fun _ H' => Q .non H', rt := Q } (start N vs) H) : FnG P w K mg base (k + 1) f fd ps sp := by
  obtain ⟨oc, od, kV, doc, pm, an, cdv, ct, osl, rfl, lk, hcd⟩ := F.ex
  refine ⟨len, fun A outer s H args us vs Q E room gu e0 bi rv hsp => ?_⟩
  have KH : K.In s.heap := e0.mod.kin.keeps fun b o z => (e0.bs b o z).1
  have kinds : ∀ y ∈ ps.zip us, (defScope st).names.lookup y.1 = some .local ∨ ((defScope st).names.lookup y.1 = some .cell ∧ ((cellsFrom (s.heap.objs.size + 1) (defScope st).names []).lookup y.1).isSome = true) := by
    rintro ⟨nm, _⟩ hy
    exact (S.par nm (List.of_mem_zip hy).1).imp id fun z => ⟨z, PySem.W.cellsFrom_some _ _ _ (.inl z)⟩
  refine codeAny_call_function room.depth (KH _ _ lk) rfl S.co S.gen rfl (PySem.W.codeRec_of KH hcd) (bi _ _ _ _ (wpAny_newFunctionEnv_cells S.kind kinds fun env he s1 nw => ?_))
  subst he
  refine ⟨(e0.mod.nolimit.keeps fun b o z => (e0.bs b o z).1).keeps nw.toInCall.keep, codeAny_func ?_⟩
  obtain ⟨t, ht, hq⟩ := hb cdv A outer s H vs Q E (room.deeper _) gu hsp
  refine wpAny_mono (ht.nox.run [] s1 (start N vs) H _ (inv_start S room.hd e0 (len _ _ _ _ hsp) rv nw) hq) (fun fl s' h => ?_) fun _ _ z => z
  cases fl with
  | ret u =>
    obtain ⟨v, _, H', J, r', q⟩ := h
    exact ⟨v, H', J.os, J.bare, J.base, J.hok, r', q⟩
  | next =>
    obtain ⟨_, H', J, q⟩ := h
    exact ⟨.non, H', J.os, J.bare, J.base, J.hok, rfl, q⟩
  | brk => obtain ⟨_, _, _, q⟩ := h; exact q.elim
  | cont => obtain ⟨_, _, _, q⟩ := h; exact q.elim
/-! ### promises by mirrors -/
section
variable {m : Type → Type} [Mo m]
def spJ (K : PySem.W.Frag) (F : List Sl → m D) : Sp := fun vs H Q _ => ∃ G n dk as φ, ArgsOk K ⟨H, G, dk, G⟩ G vs as ∧ Fm K ⟨H, G, dk, G⟩ H G n ∧ Mo.sat (F as) n φ (fun _ _ => False) ∧
  ∀ v H' G' d n', Fm K ⟨H, G, dk, G⟩ H' G' n' → Da K G' v d → φ d n' → Q v H'
theorem ArgsOk.length {K : PySem.W.Frag} {B : Bs} {G : Hp} : ∀ {vs : List V} {as : List Sl}, ArgsOk K B G vs as → vs.length = as.length
  | _, _, .nil => rfl
  | _, _, .cons _ r => by simp [ArgsOk.length r]
theorem ArgsOk.get {K : PySem.W.Frag} {B : Bs} {G : Hp} : ∀ {vs : List V} {as : List Sl}, ArgsOk K B G vs as → ∀ (i : Nat) (a : Sl), as[i]? = some a → ∃ v, vs[i]? = some v ∧ ArgOk K B G v a
  | _, _, .nil, _, _, e => by simp at e
  | _, _, .cons h _, 0, a, e => by simp at e; subst e; exact ⟨_, rfl, h⟩
  | _, _, .cons _ r, i + 1, a, e => by
    obtain ⟨v, h1, h2⟩ := r.get i a (by simpa using e)
    exact ⟨v, by simpa using h1, h2⟩
theorem ok_start {K : PySem.W.Frag} {B : Bs} {H G : Hp} {n : Wd} {N : List Str} {vs : List V} {as : List Sl} (a : ArgsOk K B G vs as) (f : Fm K B H G n) : Ok K B (as ++ List.replicate (N.length - as.length) .any) (start N vs) H G n := by
  have hl := a.length
  have pick : ∀ (i : Nat) (s : Sl), (as ++ List.replicate (N.length - as.length) Sl.any)[i]? = some s → s ≠ .any → ∃ v, (start N vs)[i]? = some (some v) ∧ ArgOk K B G v s := fun i s e ne => by
    by_cases hi : i < as.length
    · rw [List.getElem?_append_left hi] at e
      obtain ⟨v, h1, h2⟩ := a.get i s e
      refine ⟨v, ?_, h2⟩
      unfold L2.start
      rw [List.getElem?_append_left (by rw [List.length_map]; omega), List.getElem?_map, h1]
      rfl
    · rw [List.getElem?_append_right (by omega), List.getElem?_replicate] at e
      split at e
      · cases e; exact absurd rfl ne
      · cases e
  refine ⟨f, ?_, fun i d e => ?_, ⟨fun _ => 0, fun i j ds es e => ?_, fun i ds e => ?_⟩, fun i e => ?_, fun i a od fs e => ?_, fun i f F e => ?_⟩
  · unfold L2.start
    simp only [List.length_append, List.length_map, List.length_replicate]
    omega
  · obtain ⟨v, h1, h2⟩ := pick i _ e (by simp)
    exact ⟨v, h1, h2⟩
  · obtain ⟨v, _, h2⟩ := pick i _ e (by simp)
    exact h2.elim
  · obtain ⟨v, _, h2⟩ := pick i _ e (by simp)
    exact h2.elim
  · obtain ⟨v, h1, a, b, h2, rfl⟩ := pick i _ e (by simp)
    exact ⟨a, b, h2, h1⟩
  · obtain ⟨v, _, h2⟩ := pick i _ e (by simp)
    exact h2.elim
  · obtain ⟨v, _, h2⟩ := pick i _ e (by simp)
    exact h2.elim
/-- a def keeps its mirror's promise, by its body -/
theorem fn_j {P : Program} {w : World} {K : PySem.W.Frag} {mg : Str → Option Value} {base : Heap} {k : Nat} {x qual : Str} {st : Stmt} {f : Addr} {fd : FuncData} {N ps : List Str} {F : List Sl → m D} (Fu : Fun K x qual st f fd) (S : FnScope N ps (defScope st))
    (hb : ∀ (as : List Sl) (n : Wd) (φ : D → Wd → Prop), Mo.sat (F as) n φ (fun _ _ => False) → as.length = ps.length ∧ ∀ (cdv : Value) (A : Around) (outer : List Env) (s : Shared) (H : Hp) (E : XK), Room k (A.deeper (envOfC qual (defScope st) s.heap.objs.size f cdv)) → A.guards = some [] →
      FJ (cxOf CX0 P w K mg base N qual (defScope st) f cdv A outer s H E).nox X0 true (defBody st) (as ++ List.replicate (N.length - as.length) .any) (F as)) : FnG P w K mg base (k + 1) f fd ps (spJ K F) := by
  refine fng_of Fu S (fun vs H Q E ⟨G, n, dk, as, φ, a, _, s, _⟩ => a.length.trans (hb as n φ s).1) fun cdv A outer s H vs Q E hr gu ⟨G, n, dk, as, φ, a, fm, st, q⟩ => ⟨_, (hb as n φ st).2 cdv A outer s H E hr gu, ⟨H, G, dk, G⟩, G, n, φ, fun _ _ => False, ok_start a fm, st, q, fun _ σ' H' G' n' f' p => q .non H' G' .none n' f' .non p, fun _ _ _ _ _ _ _ z => z.elim⟩
/-! ### calls of such defs -/
variable {X : Cx} {EX : XR} {g : List Sl} {k : Nat} {f : Addr} {fd : FuncData} {ps : List Str}
theorem call_g {pins : List (Addr × Obj)} {σ : L2.St} {H : Hp} {s : Shared} {Q : VK} {us : List Value} {vs : List V} {sp : Sp} (F : FnG X.prog X.w X.K X.mg X.base k f fd ps sp) (hr : Room k X.A) (gu : X.A.guards = some []) (hb : Binds X.K fd ps [])
    (I : Inv X pins σ H s) (r : Vals vs us) (h : sp vs H Q E0) : wpAny (model X.prog X.w) X.A (call (.ref f) us) (EP X pins σ Q) X.xe s := by
  have hl : us.length = ps.length := by rw [← r.length]; exact F.len _ _ _ _ h
  have hb' := hb s us I.kIn (by rw [List.append_nil]; exact hl)
  rw [List.append_nil] at hb'
  refine wpAny_call (codeAny_mono (F.run X.A X.stack s H ⟨us, []⟩ us vs Q E0 hr gu I.env0 hb' r h) fun z s' hq => ?_)
  cases z with
  | error e => exact False.elim hq
  | ok fl =>
    cases fl with
    | ret u => exact I.after hq
    | next => exact False.elim hq
    | brk => exact False.elim hq
    | cont => exact False.elim hq
theorem pe_g {x : Str} {p pos : Pos} {e : Expr} {es : List Expr} {t : TA} {sp : Sp} (F : FnG X.prog X.w X.K X.mg X.base k f fd ps sp) (hr : Room k X.A) (gu : X.A.guards = some []) (hg : Gl X x) (hm : X.mg x = some (.ref f)) (hk : PySem.W.keepIn X.K (.ref f) = true) (hb : Binds X.K fd ps [])
    (ha : PA X (e :: es) t) (hd : (x == ("__debug__" : Str)) = false) (he : starEach (e :: es) X.env = (false, eval e X.env) :: starEach es X.env) (hpl : (backTo pos (starEach es X.env)).any (·.1) = false) : PE X (.Call (.Name x p) (e :: es) [] pos) (fun σ H Q => t σ H fun vs H1 => sp vs H1 Q E0) :=
  ⟨fun pins s σ H Q I h => wpAny_Call_Name_kw (ld_glob I hg hm (PySem.W.callWith_K (h₀ := X.base) I.ok.mod.kin hk (thn (ha.run pos pins s σ H _ I h) fun us s1 ⟨vs, H1, I1, r, q⟩ => ⟨I1.kIn, call_g F hr gu hb I1 r q⟩) he hpl) hd)⟩
/-- a deck that the callee does not see stays -/
theorem Fm.back {K : PySem.W.Frag} {B : Bs} {H G H' G' : Hp} {n n' : Wd} {dk : Option (Addr × Addr)} {σ : L2.St} (o : Ok K B g σ H G n) (hd : dk = none ∧ n'.n = n.n ∨ dk = B.dk) (f : Fm K ⟨H, G, dk, G⟩ H' G' n') : Ok K B g σ H' G' n' ∧ Same G G' := by
  have old : Same G G' := f.old
  have dkB : ∀ x y, dk = some (x, y) → B.dk = some (x, y) := fun x y e => by
    rcases hd with ⟨hd, _⟩ | hd
    · rw [hd] at e; cases e
    · exact hd.symm.trans e
  have hfp : ∀ a, B.H a ≠ none → (⟨H, G, dk, G⟩ : Bs).fp a → B.fp a := fun a ha hp => by
    rcases hp with ⟨x, y, e, r⟩ | ⟨k, e, m⟩
    · exact .inl ⟨x, y, dkB x y e, r⟩
    · cases eb : B.G a with
      | none =>
        have e' : G a = some k := e
        rw [o.fm.new a ha eb] at e'
        cases e'
      | some u =>
        have e' : G a = some k := e
        rw [o.fm.old _ _ eb] at e'
        cases e'
        exact .inr ⟨_, eb, m⟩
  have nfp : ∀ a, B.H a = none → G a = none → ¬ (⟨H, G, dk, G⟩ : Bs).fp a := fun a ha hg hp => by
    rcases hp with ⟨x, y, e, r⟩ | ⟨k, e, _⟩
    · exact o.fm.side ha (.inl ⟨x, y, dkB x y e, r⟩)
    · have e' : G a = some k := e
      rw [hg] at e'; cases e'
  have some_of : ∀ a, B.H a ≠ none → H a ≠ none := fun a ha => by
    by_cases hp : B.fp a
    · exact o.fm.fpThere hp
    · cases hb : B.H a with
      | none => exact absurd hb ha
      | some z => rw [o.fm.keep a z hb hp]; simp
  refine ⟨⟨⟨fun a z e q => f.keep a z (o.fm.keep a z e q) fun hp => q (hfp a (by rw [e]; simp) hp), f.sub, o.fm.old.trans old, f.obs, o.fm.bt, o.fm.tg.trans old, fun a e q => f.new a (some_of a e) (o.fm.new a e q), fun a b e => ?_⟩, o.len, fun i d e => ?_, ?_, o.dck, fun i a od fs e => ⟨(o.adr i a od fs e).1, (o.adr i a od fs e).2.mono old⟩, fun i f F e => ⟨(o.fnc i f F e).1, (o.fnc i f F e).2.2 _ _ old (o.fnc i f F e).2.1, (o.fnc i f F e).2.2⟩⟩, old⟩
  · obtain ⟨d1, r⟩ := o.fm.deck a b e
    rcases hd with ⟨hd, hn⟩ | hd
    · obtain ⟨cs, c, h1, h2, h3⟩ := d1
      have nf : ∀ z, B.H z ≠ none → B.G z = none → ¬ (⟨H, G, dk, G⟩ : Bs).fp z := fun z hz hg hp => by
        rcases hp with ⟨x, y, e2, _⟩ | ⟨k, e2, _⟩
        · have e' : dk = some (x, y) := e2
          rw [hd] at e'; cases e'
        · have e' : G z = some k := e2
          rw [o.fm.new z hz hg] at e'; cases e'
      exact ⟨⟨cs, c, f.keep a _ h1 (nf a r.1 r.2.2.1), f.keep b _ h2 (nf b r.2.1 r.2.2.2), by rw [hn]; exact h3⟩, r⟩
    · exact ⟨(f.deck a b (by show dk = some (a, b); rw [hd]; exact e)).1, r⟩
  · obtain ⟨v, h1, h2⟩ := o.val i d e
    exact ⟨v, h1, h2.mono old⟩
  · obtain ⟨fn, h1, h2⟩ := o.own
    refine ⟨fn, h1, fun i ds e => ?_⟩
    obtain ⟨a, b, c, xs, d, da⟩ := h2 i ds e
    exact ⟨a, f.new _ (by show H (fn i) ≠ none; rw [d]; simp) b, c, xs, f.keep _ _ d (nfp _ c b), da.mono old⟩
theorem ArgsOk.base {K : PySem.W.Frag} {B B' : Bs} {G : Hp} (h : B'.dk = B.dk) : ∀ {vs : List V} {as : List Sl}, ArgsOk K B G vs as → ArgsOk K B' G vs as
  | _, _, .nil => .nil
  | _, _, .cons (a := .val d) q r => .cons (show Da _ _ _ _ from q) (r.base h)
  | _, _, .cons (a := .deck) ⟨a, b, e, ev⟩ r => .cons ⟨a, b, h.trans e, ev⟩ (r.base h)
  | _, _, .cons (a := .own _) q _ => q.elim
  | _, _, .cons (a := .any) q _ => q.elim
  | _, _, .cons (a := .exn _ _ _) q _ => q.elim
  | _, _, .cons (a := .fn _ _) q _ => q.elim
theorem Fm.at_call {K : PySem.W.Frag} {B : Bs} {H G : Hp} {n : Wd} (f : Fm K B H G n) : Fm K ⟨H, G, B.dk, G⟩ H G n where
  keep := fun a o e _ => e
  sub := f.sub
  old := Same.refl _
  obs := f.obs
  bt := f.sub.t
  tg := Same.refl _
  new := fun a _ q => q
  deck := fun a b e => by
    obtain ⟨d, h1, h2, h3, h4⟩ := f.deck a b e
    obtain ⟨cs, c, e1, e2, r⟩ := id d
    exact ⟨d, by show H a ≠ none; rw [e1]; simp, by show H b ≠ none; rw [e2]; simp, f.new a h1 h3, f.new b h2 h4⟩
/-- f(..) by its mirror -/
theorem ej_call {x : Str} {p pos : Pos} {e : Expr} {es : List Expr} {F : List Sl → m D} {y : m (List Sl)} [Calm m] (Fn : FnG X.prog X.w X.K X.mg X.base k f fd ps (spJ X.K F)) (hr : Room k X.A) (gu : X.A.guards = some []) (hm : X.mg x = some (.ref f)) (hk : PySem.W.keepIn X.K (.ref f) = true) (hb : Binds X.K fd ps [])
    (ha : AJ X EX (e :: es) g y) (hg : Gl X x := by rfl) (hd : (x == ("__debug__" : Str)) = false := by decide) (he : starEach (e :: es) X.env = (false, eval e X.env) :: starEach es X.env := by rfl) (hpl : (backTo pos (starEach es X.env)).any (·.1) = false := by rfl) :
    EJ X EX (.Call (.Name x p) (e :: es) [] pos) g (y >>= F) :=
  (pe_g Fn hr gu hg hm hk hb ha hd he hpl).weak fun σ H Q ⟨B, G, n, φ, ξ, o, s, q, xw⟩ => ⟨B, G, n, _, ξ, o, Mo.sat_bind s, fun vs H1 G1 as n1 o1 g1 a1 s1 =>
    ⟨G1, n1, B.dk, as, φ, ArgsOk.base (B := B) (B' := ⟨H1, G1, B.dk, G1⟩) rfl a1, o1.fm.at_call, Calm.calm s1, fun v H' G' d n' f' dv p => by
      obtain ⟨o2, g2⟩ := Fm.back o1 (.inr rfl) f'
      exact q v H' G' d n' o2 (g1.trans g2) dv p⟩, xw⟩
/-- .. a mirror without the deck, lifted -/
class Up (m' m : Type → Type) [Mo m'] [Mo m] where
  up : {α : Type} → m' α → m α
  sat_up : ∀ {α : Type} {x : m' α} {n : Wd} {φ : α → Wd → Prop} {ξ : Exn → Wd → Prop}, Mo.sat (up x) n φ ξ → Mo.sat x n φ ξ
instance : Up Option W where
  up := Mo.lift
  sat_up := fun {α x n φ ξ} h => by
    obtain ⟨h1, a, e, h2⟩ := h
    obtain ⟨k, ob⟩ := n
    cases h1
    exact ⟨rfl, a, e, h2⟩
instance : Up Option Option where
  up := fun o => o
  sat_up := fun h => h
end
end DD
namespace DD
open PySem PySem.Spec PyProof.Rows L2
def orR (r q : R2) : R2 := fun x y H Q => r x y H Q ∨ q x y H Q
theorem op_or {X : Cx} {f : Value → Value → Sem Value} {r q : R2} (a : OpR X f r) (b : OpR X f q) : OpR X f (orR r q) := by
  intro pins s σ H x y v u Q I rx ry h
  rcases h with h | h
  · exact a pins s σ H x y v u Q I rx ry h
  · exact b pins s σ H x y v u Q I rx ry h
section
variable {X : Cx} {K : PySem.W.Frag}
theorem Da.toI {G : Hp} {v : V} {i : Int} (h : Da K G v (.int i)) : v = .int i := by cases h; rfl
theorem Da.toS {G : Hp} {v : V} {i : Str} (h : Da K G v (.str i)) : v = .str i := by cases h; rfl
theorem Da.toT {G : Hp} {v : V} {ds : List D} (h : Da K G v (.tuple ds)) : ∃ a xs, v = .ref a ∧ SqT K G a xs ∧ DaAll K G xs ds := by cases h with | tup a b => exact ⟨_, _, rfl, a, b⟩
theorem Da.toL {G : Hp} {v : V} {ds : List D} (h : Da K G v (.list ds)) : ∃ a xs, v = .ref a ∧ G a = some (.lst xs) ∧ DaAll K G xs ds := by cases h with | lst a b => exact ⟨_, _, rfl, a, b⟩
/-! ### + -/
def addD : D → D → Option D
  | .int i, .int j => some (.int (i + j))
  | .tuple a, .tuple b => (small (a ++ b)).map .tuple
  | .list a, .list b => (small (a ++ b)).map .list
  | .str a, .str b => if a.length + b.length ≤ 1000000 then some (.str (a ++ b)) else none
  | _, _ => none
abbrev rAddD (K : PySem.W.Frag) : R2 := orR (rI0 fun i j => .int (i + j)) (orR (rCatA K) (orR rCat (fun x y H Q => ∃ a b, x = .str a ∧ y = .str b ∧ a.length + b.length ≤ sizeLine ∧ Q (.str (a ++ b)) H)))
theorem op_addD : OpR X (binaryOp .Add) (rAddD X.K) := op_or op_add (op_or op_catA (op_or op_cat op_add_str))
theorem rd_add : RD K (rAddD K) addD := by
  intro x y dx dy z H G Q hx hy hs e q
  unfold addD at e
  split at e
  · cases e
    exact .inl ⟨_, _, hx.toI, hy.toI, q _ H G (Gr.refl hs) (.int _)⟩
  · rename_i as bs
    obtain ⟨es, ee, rfl⟩ := Option.map_eq_some_iff.mp e
    obtain ⟨rfl, hl⟩ := small_eq ee
    obtain ⟨a, xs, rfl, ha, da⟩ := hx.toT
    obtain ⟨b, ys, rfl, hb, db⟩ := hy.toT
    rw [List.length_append] at hl
    refine .inr (.inl ⟨a, b, xs, ys, rfl, rfl, sameT hs ha, sameT hs hb, by rw [da.length, db.length]; exact le_line hl, fun e => ?_, fun n e => ?_, fun n k p hp => ?_⟩)
    · subst e
      cases da
      exact q _ H G (Gr.refl hs) (.tup hb db)
    · subst e
      cases db
      rw [List.append_nil] at q
      exact q _ H G (Gr.refl hs) (.tup ha da)
    · have gr := Gr.alloc (u := .tup (xs ++ ys)) hs hp
      exact q _ _ _ gr (.tup (.inl (.inl upd_same)) ((da.append db).mono gr.g))
  · rename_i as bs
    obtain ⟨es, ee, rfl⟩ := Option.map_eq_some_iff.mp e
    obtain ⟨rfl, hl⟩ := small_eq ee
    obtain ⟨a, xs, rfl, ha, da⟩ := hx.toL
    obtain ⟨b, ys, rfl, hb, db⟩ := hy.toL
    rw [List.length_append] at hl
    refine .inr (.inr (.inl ⟨a, b, xs, ys, rfl, rfl, hs.h _ _ ha rfl, hs.h _ _ hb rfl, by rw [da.length, db.length]; exact le_line hl, fun p hp => ?_⟩))
    have gr := Gr.alloc (u := .lst (xs ++ ys)) hs hp
    exact q _ _ _ gr (.lst upd_same ((da.append db).mono gr.g))
  · split at e
    · rename_i hl
      cases e
      exact .inr (.inr (.inr ⟨_, _, hx.toS, hy.toS, le_line hl, q _ H G (Gr.refl hs) (.str _)⟩))
    · cases e
  · cases e
/-! ### ints -/
def intD2 (f : Int → Int → Option D) : D → D → Option D
  | .int i, .int j => f i j
  | _, _ => none
theorem rd_int {C : Int → Int → Prop} {h : Int → Int → V} {f : Int → Int → Option D} (hf : ∀ i j z, f i j = some z → C i j ∧ ∀ K G, Da K G (h i j) z) : RD K (rI C h) (intD2 f) := by
  intro x y dx dy z H G Q hx hy hs e q
  unfold intD2 at e
  split at e
  · obtain ⟨c, d⟩ := hf _ _ _ e
    exact ⟨_, _, hx.toI, hy.toI, c, q _ H G (Gr.refl hs) (d _ _)⟩
  · cases e
theorem rd_int0 {h : Int → Int → V} {f : Int → Int → Option D} (hf : ∀ i j z, f i j = some z → ∀ K G, Da K G (h i j) z) : RD K (rI0 h) (intD2 f) := by
  intro x y dx dy z H G Q hx hy hs e q
  unfold intD2 at e
  split at e
  · exact ⟨_, _, hx.toI, hy.toI, q _ H G (Gr.refl hs) (hf _ _ _ e _ _)⟩
  · cases e
def subD : D → D → Option D := intD2 fun i j => some (.int (i - j))
theorem rd_sub : RD K (rI0 fun i j => .int (i - j)) subD := rd_int0 fun i j z e _ _ => by cases e; exact .int _
def divD : D → D → Option D := intD2 fun i j => if 0 < j ∧ j.natAbs < 1073741824 then some (.int (i / j)) else none
theorem rd_div : RD K (rI CDiv fun i j => .int (i / j)) divD := rd_int fun i j z e => by
  split at e
  · rename_i h; cases e; exact ⟨⟨h.1, by omega⟩, fun _ _ => .int _⟩
  · cases e
def modD : D → D → Option D := intD2 fun i j => if 0 < j then some (.int (i % j)) else none
theorem rd_mod : RD K (rI (fun _ j => 0 < j) fun i j => .int (i % j)) modD := rd_int fun i j z e => by
  split at e
  · rename_i h; cases e; exact ⟨h, fun _ _ => .int _⟩
  · cases e
def powD : D → D → Option D := intD2 fun i j => if 0 ≤ j ∧ j ≤ 1000000 ∧ i.natAbs < 2 ^ 64 then some (.int (i ^ j.toNat)) else none
theorem rd_pow : RD K (rI CPow fun i j => .int (i ^ j.toNat)) powD := rd_int fun i j z e => by
  split at e
  · rename_i h; cases e; exact ⟨h, fun _ _ => .int _⟩
  · cases e
def ltD : D → D → Option D := intD2 fun i j => some (.bool (decide (i < j)))
def leD : D → D → Option D := intD2 fun i j => some (.bool (decide (i ≤ j)))
def gtD : D → D → Option D := intD2 fun i j => some (.bool (decide (j < i)))
def geD : D → D → Option D := intD2 fun i j => some (.bool (decide (j ≤ i)))
theorem rd_gt : RD K (rI0 fun i j => .bl (decide (j < i))) gtD := rd_int0 fun i j z e _ _ => by cases e; exact .bl _
def negD : D → Option D
  | .int i => some (.int (-i))
  | _ => none
/-! ### == != of data -/
/-- == of what is told apart (or alike) without a look at the items: lists of unlike lengths, a tuple and the empty one -/
def lensD : D → D → Option Bool
  | .list xs, .list ys => if xs.length = ys.length then none else some false
  | .tuple xs, .tuple ys => if xs.length = 0 ∨ ys.length = 0 then some (decide (xs.length = ys.length)) else none
  | _, _ => none
def eqD : D → D → Option D
  | .str a, .str b => some (.bool (decide (a = b)))
  | a, b => if SeqAt.shaped a = true ∧ SeqAt.shaped b = true then some (.bool (PyData.eqv a b)) else (lensD a b).map fun k => .bool k
def neD : D → D → Option D
  | .str a, .str b => some (.bool (!decide (a = b)))
  | a, b => if SeqAt.shaped a = true ∧ SeqAt.shaped b = true then some (.bool (!PyData.eqv a b)) else (lensD a b).map fun k => .bool (!k)
def rEqS (K : PySem.W.Frag) : R2 := fun x y H Q => ∃ d e, Da K H x d ∧ Da K H y e ∧ SeqAt.shaped d = true ∧ SeqAt.shaped e = true ∧ Q (.bl (PyData.eqv d e)) H
def rNeS (K : PySem.W.Frag) : R2 := fun x y H Q => ∃ d e, Da K H x d ∧ Da K H y e ∧ SeqAt.shaped d = true ∧ SeqAt.shaped e = true ∧ Q (.bl (!PyData.eqv d e)) H
def LenAt (K : PySem.W.Frag) (H : Hp) (x y : V) (k : Bool) : Prop := (∃ a b xs ys, x = .ref a ∧ y = .ref b ∧ SqL K H a xs ∧ SqL K H b ys ∧ xs.length ≠ ys.length ∧ k = false) ∨
  (∃ a b xs ys, x = .ref a ∧ y = .ref b ∧ SqT K H a xs ∧ SqT K H b ys ∧ (xs.length = 0 ∨ ys.length = 0) ∧ k = decide (xs.length = ys.length))
def rEqL (K : PySem.W.Frag) : R2 := fun x y H Q => ∃ k, LenAt K H x y k ∧ Q (.bl k) H
def rNeL (K : PySem.W.Frag) : R2 := fun x y H Q => ∃ k, LenAt K H x y k ∧ Q (.bl (!k)) H
abbrev rEqA (K : PySem.W.Frag) : R2 := orR (rEqS K) (orR (rEqL K) rEq)
abbrev rNeA (K : PySem.W.Frag) : R2 := orR (rNeS K) (orR (rNeL K) rNe)
theorem op_eqS (hy : Sys X) (hu : X.A.units + 64 < cLine) : OpR X (compareOp .Eq) (rEqS X.K) := by
  intro pins s σ H x y v u Q I rx ry ⟨d, e, hd, he, sd, se, q⟩
  obtain ⟨as, r1, _⟩ := Da.reads hy I d x v hd (ok_canLay d (SeqAt.canLay_of_shaped sd)) rx
  obtain ⟨bs, r2, _⟩ := Da.reads hy I e y u he (ok_canLay e (SeqAt.canLay_of_shaped se)) ry
  exact SeqAt.compareEq_shaped r1 r2 sd se hu ⟨.bl _, H, I, rfl, q⟩
theorem op_neS (hy : Sys X) (hu : X.A.units + 64 < cLine) : OpR X (compareOp .NotEq) (rNeS X.K) := by
  intro pins s σ H x y v u Q I rx ry ⟨d, e, hd, he, sd, se, q⟩
  obtain ⟨as, r1, _⟩ := Da.reads hy I d x v hd (ok_canLay d (SeqAt.canLay_of_shaped sd)) rx
  obtain ⟨bs, r2, _⟩ := Da.reads hy I e y u he (ok_canLay e (SeqAt.canLay_of_shaped se)) ry
  exact SeqAt.compareNe_shaped r1 r2 sd se hu ⟨.bl _, H, I, rfl, q⟩
theorem lens_at {pins : List (Addr × Obj)} {σ : L2.St} {H : Hp} {s : Shared} {A : Around} {x y : V} {k : Bool} {v u : Value} (I : Inv X pins σ H s) (rx : RelV x v) (ry : RelV y u) (hk : LenAt X.K H x y k) (hu : A.units < cLine) : SeqAt.RcAt A s v u k ∧ SeqAt.RcNeAt A s v u (!k) := by
  rcases hk with ⟨a, b, xs, ys, rfl, rfl, ha, hb, hne, rfl⟩ | ⟨a, b, xs, ys, rfl, rfl, ha, hb, hz, rfl⟩
  · cases rx
    cases ry
    obtain ⟨its, rv, ⟨o, n, h1, h2, _, h3⟩, _⟩ := I.list ha
    obtain ⟨jts, rw, ⟨p, m, k1, k2, _, k3⟩, _⟩ := I.list hb
    have n1 := rv.length
    have n2 := rw.length
    exact ⟨SeqAt.RcAt.lists_lengths ⟨_, h1, h2, _, h3⟩ ⟨_, k1, k2, _, k3⟩ (by simp at n1 n2 ⊢; omega) hu, SeqAt.RcNeAt.lists_lengths ⟨_, h1, h2, _, h3⟩ ⟨_, k1, k2, _, k3⟩ (by simp at n1 n2 ⊢; omega) hu⟩
  · cases rx
    cases ry
    obtain ⟨its, rv, ⟨o, h1, h2, n, h3⟩, _⟩ := I.tuple ha
    obtain ⟨jts, rw, ⟨p, k1, k2, m, k3⟩, _⟩ := I.tuple hb
    have n1 : its.toArray.size = xs.length := by simpa using rv.length.symm
    have n2 : jts.toArray.size = ys.length := by simpa using rw.length.symm
    have e0 : ((List.range (min its.toArray.size jts.toArray.size)).all (fun _ => true) && its.toArray.size == jts.toArray.size) = decide (xs.length = ys.length) := by
      rw [n1, n2]
      rw [Bool.eq_iff_iff]; simp
    have q1 := SeqAt.RcAt.tuples (A := A) (e := fun _ => true) (s := s) (l := a) (b := b) (items := its.toArray) (items2 := jts.toArray) ⟨_, h1, h2, _, h3⟩ ⟨_, k1, k2, _, k3⟩ hu (fun j j1 j2 => by omega)
    have q2 := SeqAt.RcNeAt.tuples (A := A) (e := fun _ => true) (s := s) (l := a) (b := b) (items := its.toArray) (items2 := jts.toArray) ⟨_, h1, h2, _, h3⟩ ⟨_, k1, k2, _, k3⟩ hu (fun j j1 j2 => by omega)
    rw [e0] at q1 q2
    exact ⟨q1, q2⟩
theorem op_eqL (hu : X.A.units + 64 < cLine) : OpR X (compareOp .Eq) (rEqL X.K) := by
  intro pins s σ H x y v u Q I rx ry ⟨k, hk, q⟩
  exact (lens_at I rx ry hk (by omega)).1 X.prog X.w X.xe _ ⟨.bl _, H, I, rfl, q⟩
theorem op_neL (hu : X.A.units + 64 < cLine) : OpR X (compareOp .NotEq) (rNeL X.K) := by
  intro pins s σ H x y v u Q I rx ry ⟨k, hk, q⟩
  exact (lens_at I rx ry hk (by omega)).2 X.prog X.w X.xe _ ⟨.bl _, H, I, rfl, q⟩
theorem lens_da {x y : V} {dx dy : D} {k : Bool} {G H : Hp} (hx : Da K G x dx) (hy : Da K G y dy) (hs : SubM G H) (hk : lensD dx dy = some k) : LenAt K H x y k := by
  unfold lensD at hk
  split at hk
  · split at hk
    · cases hk
    · rename_i hne
      cases hk
      obtain ⟨a, xs, rfl, ha, da⟩ := hx.toL
      obtain ⟨b, ys, rfl, hb, db⟩ := hy.toL
      exact .inl ⟨a, b, xs, ys, rfl, rfl, .of (hs.h _ _ ha rfl), .of (hs.h _ _ hb rfl), by rw [da.length, db.length]; exact hne, rfl⟩
  · split at hk
    · rename_i hz
      cases hk
      obtain ⟨a, xs, rfl, ha, da⟩ := hx.toT
      obtain ⟨b, ys, rfl, hb, db⟩ := hy.toT
      exact .inr ⟨a, b, xs, ys, rfl, rfl, sameT hs ha, sameT hs hb, by rw [da.length, db.length]; exact hz, by rw [da.length, db.length]⟩
    · cases hk
  · cases hk
theorem op_eqA (hy : Sys X) (hu : X.A.units + 64 < cLine) : OpR X (compareOp .Eq) (rEqA X.K) := op_or (op_eqS hy hu) (op_or (op_eqL hu) op_eq)
theorem op_neA (hy : Sys X) (hu : X.A.units + 64 < cLine) : OpR X (compareOp .NotEq) (rNeA X.K) := op_or (op_neS hy hu) (op_or (op_neL hu) op_ne)
theorem str_eqV (a b : Str) : decide (V.str a = V.str b) = decide (a = b) := by
  by_cases h : a = b
  · rw [decide_eq_true h, decide_eq_true (by rw [h])]
  · rw [decide_eq_false h, decide_eq_false (fun e => h (V.str.inj e))]
theorem rd_eq : RD K (rEqA K) eqD := by
  intro x y dx dy z H G Q hx hy hs e q
  unfold eqD at e
  split at e
  · rename_i a b
    cases e
    cases hx
    cases hy
    exact .inr (.inr ⟨rfl, by rw [str_eqV]; exact q _ H G (Gr.refl hs) (.bl _)⟩)
  · split at e
    · rename_i h
      cases e
      exact .inl ⟨dx, dy, hx.toH hs (ok_canLay _ (SeqAt.canLay_of_shaped h.1)), hy.toH hs (ok_canLay _ (SeqAt.canLay_of_shaped h.2)), h.1, h.2, q _ H G (Gr.refl hs) (.bl _)⟩
    · obtain ⟨k, hk, rfl⟩ := Option.map_eq_some_iff.mp e
      exact .inr (.inl ⟨k, lens_da hx hy hs hk, q _ H G (Gr.refl hs) (.bl _)⟩)
theorem rd_ne : RD K (rNeA K) neD := by
  intro x y dx dy z H G Q hx hy hs e q
  unfold neD at e
  split at e
  · rename_i a b
    cases e
    cases hx
    cases hy
    exact .inr (.inr ⟨rfl, by rw [str_eqV]; exact q _ H G (Gr.refl hs) (.bl _)⟩)
  · split at e
    · rename_i h
      cases e
      exact .inl ⟨dx, dy, hx.toH hs (ok_canLay _ (SeqAt.canLay_of_shaped h.1)), hy.toH hs (ok_canLay _ (SeqAt.canLay_of_shaped h.2)), h.1, h.2, q _ H G (Gr.refl hs) (.bl _)⟩
    · obtain ⟨k, hk, rfl⟩ := Option.map_eq_some_iff.mp e
      exact .inr (.inl ⟨k, lens_da hx hy hs hk, q _ H G (Gr.refl hs) (.bl _)⟩)
/-! ### is None -/
def isNone : D → Bool
  | .none => true
  | _ => false
def isD (a b : D) : Option D := if isNone b then some (.bool (isNone a)) else none
def isnD (a b : D) : Option D := if isNone b then some (.bool (!isNone a)) else none
/-! ### subscripts -/
theorem DaAll.atI {G : Hp} {vs : List V} {ds : List D} {i : Int} {d : D} (h : DaAll K G vs ds) (e : L2.atI ds i = some d) : ∃ v, L2.atI vs i = some v ∧ Da K G v d := by
  unfold L2.atI at e ⊢
  rw [h.length]
  cases hk : ixN ds.length i with
  | none => rw [hk] at e; cases e
  | some j =>
    rw [hk] at e
    obtain ⟨v, h1, h2⟩ := h.get (i := j) (d := d) e
    exact ⟨v, h1, h2⟩
def getD : D → D → Option D
  | .list ds, .int i => L2.atI ds i
  | .tuple ds, .int i => L2.atI ds i
  | .str z, .int i => if z.length ≤ 1000000 then (L2.atI z.cps.toList i).map fun c => .str ⟨#[c]⟩ else none
  | _, _ => none
theorem rd_ix : RD K (rIx K) getD := by
  intro x y dx dy z H G Q hx hy hs e q
  unfold getD at e
  split at e
  · obtain ⟨a, xs, rfl, ha, da⟩ := hx.toL
    obtain ⟨v, h1, h2⟩ := da.atI e
    exact .inl ⟨a, xs, _, v, rfl, hy.toI, .of (hs.h _ _ ha rfl), h1, q v H G (Gr.refl hs) h2⟩
  · obtain ⟨a, xs, rfl, ha, da⟩ := hx.toT
    obtain ⟨v, h1, h2⟩ := da.atI e
    exact .inr (.inl ⟨a, xs, _, v, rfl, hy.toI, sameT hs ha, h1, q v H G (Gr.refl hs) h2⟩)
  · split at e
    · rename_i hl
      obtain ⟨c, hc, rfl⟩ := Option.map_eq_some_iff.mp e
      exact .inr (.inr ⟨_, _, c, hx.toS, hy.toI, le_line hl, hc, q _ H G (Gr.refl hs) (.str _)⟩)
    · cases e
  · cases e
end
end DD
namespace DD
open PySem PySem.Spec PyProof.Rows L2
/-! ### * -/
theorem tuple_mul1 (l : Addr) (items : Array Value) (n : Nat) (dd : Option Addr) (sl : Array (Option Value)) (u : Tok) :
    Meets (Builtin.«tuple.__mul__» ⟨[.ref l, .int 1 u], []⟩) (fun _ R s => s.heap.get? l = some { cls := .type "tuple", dict := dd, data := .seq items n, slots := sl } ∧ R (.ok (.ret (Value.ref l))) s) :=
  .of_wp fun prog w A R s h => by
    obtain ⟨hp, g, d, tk, os⟩ := s
    obtain ⟨hl, h⟩ := h
    have f1 := AutoSeq1.idx_int
    have c1 : (items.isEmpty || (1 : Int) == 1) = true := by simp
    wp_walk using wpAny_loadPart' hl
    exact ⟨_, rfl, h⟩
def rMul1 (K : PySem.W.Frag) : R2 := fun x y H Q => ∃ l xs, x = .ref l ∧ y = .int 1 ∧ SqT K H l xs ∧ Q (.ref l) H
section
variable {X : Cx} {K : PySem.W.Frag}
theorem op_mul1 : OpR X (binaryOp .Mult) (rMul1 X.K) := by
  intro pins s σ H x y v u Q I rx ry ⟨l, xs, ex, ey, hT, q⟩
  subst ex ey
  cases rx
  obtain ⟨t, rfl⟩ := ry
  obtain ⟨its, r, ⟨⟨cls, dd, data, sl⟩, ho, hc, n, hd⟩, hs⟩ := I.tuple hT
  simp only at hc hd
  subst hc hd
  exact wpAny_binaryOp_repeat_ref (T := "tuple") (U := "int") (by decide) ⟨_, ho, rfl⟩ (fun s' => typeIs_int s' 1 t) noFill_tuple_mul F.fills_int_mul F.slot_int_rmul repeat_tuple F.slot_int_index.lookup
    (call_meets F.slot_int_rmul (typeIs_int s 1 t) F.entry_int_rmul (F.args_int_rmul_2 _ _) (int_rmul_tuple 1 t l its.toArray n dd sl)
      ⟨ho, rfl, ⟨_, ho, rfl⟩, call_meets F.slot_tuple_mul ⟨_, ho, rfl⟩ F.entry_tuple_mul (F.args_tuple_mul_2 _ _) (tuple_mul1 l its.toArray n dd sl t) ⟨ho, ⟨.ref l, H, I, rfl, q⟩⟩⟩)
theorem tuple_mul0 (l : Addr) (items : Array Value) (n : Nat) (dd : Option Addr) (sl : Array (Option Value)) (u : Tok) (c1 : (items.isEmpty || (0 : Int) == 1) = false) :
    Meets (Builtin.«tuple.__mul__» ⟨[.ref l, .int 0 u], []⟩) (fun _ R s => s.heap.get? l = some { cls := .type "tuple", dict := dd, data := .seq items n, slots := sl } ∧ R (.ok (.ret (Value.ref s.heap.objs.size))) { s with heap := s.heap.push { cls := Value.type "tuple", data := Data.seq #[] }, toks := s.toks }) :=
  .of_wp fun prog w A R s h => by
    obtain ⟨hp, g, d, tk, os⟩ := s
    obtain ⟨hl, h⟩ := h
    have f1 := AutoSeq1.idx_int
    wp_walk using wpAny_loadPart' hl
    refine wpAny_ite_false (decide_eq_false (by rw [c1]; exact Bool.false_ne_true)) ?_
    wp_walk using wpAny_loadPart' hl
    exact ⟨_, rfl, h⟩
def rMul0 (K : PySem.W.Frag) : R2 := fun x y H Q => ∃ l xs, x = .ref l ∧ y = .int 0 ∧ SqT K H l xs ∧ xs ≠ [] ∧ ∀ p, H p = none → Q (.ref p) (upd H p (.tup []))
theorem op_mul0 : OpR X (binaryOp .Mult) (rMul0 X.K) := by
  intro pins s σ H x y v u Q I rx ry ⟨l, xs, ex, ey, hT, hne, q⟩
  subst ex ey
  cases rx
  obtain ⟨t, rfl⟩ := ry
  obtain ⟨its, r, ⟨⟨cls, dd, data, sl⟩, ho, hc, n, hd⟩, hs⟩ := I.tuple hT
  simp only at hc hd
  subst hc hd
  have c1 : (its.toArray.isEmpty || (0 : Int) == 1) = false := by
    cases its with
    | nil => cases r; exact absurd rfl hne
    | cons a b => rfl
  exact wpAny_binaryOp_repeat_ref (T := "tuple") (U := "int") (by decide) ⟨_, ho, rfl⟩ (fun s' => typeIs_int s' 0 t) noFill_tuple_mul F.fills_int_mul F.slot_int_rmul repeat_tuple F.slot_int_index.lookup
    (call_meets F.slot_int_rmul (typeIs_int s 0 t) F.entry_int_rmul (F.args_int_rmul_2 _ _) (int_rmul_tuple 0 t l its.toArray n dd sl)
      ⟨ho, rfl, ⟨_, ho, rfl⟩, call_meets F.slot_tuple_mul ⟨_, ho, rfl⟩ F.entry_tuple_mul (F.args_tuple_mul_2 _ _) (tuple_mul0 l its.toArray n dd sl t c1) ⟨ho, ⟨.ref _, _, I.laid (t' := s.toks) (o := .tup []) (fun b ob q => Heap.get?_push_of_some _ q) (Nat.le_refl _) ⟨Nat.zero_le _, [], .nil, IsTup.new _ _⟩, rfl, q _ (I.hok.fresh (Nat.le_refl _))⟩⟩⟩)
abbrev rMulD (K : PySem.W.Frag) : R2 := orR (rI CMul fun i j => .int (i * j)) (orR (rRepT K) (orR (rMul1 K) (orR (rMul0 K) rRep)))
theorem op_mulD : OpR X (binaryOp .Mult) (rMulD X.K) := op_or op_mul (op_or op_repT (op_or op_mul1 (op_or op_mul0 op_rep)))
def mulD : D → D → Option D
  | .int i, .int j => if i.natAbs < 2 ^ 64 ∨ j.natAbs < 2 ^ 64 then some (.int (i * j)) else none
  | .tuple a, .int k => if k = 1 then some (.tuple a) else if a ≠ [] ∧ 2 ≤ k ∧ k ≤ 1000 ∧ a.length ≤ 1000 then some (.tuple (List.replicate k.toNat a).flatten) else if a ≠ [] ∧ k = 0 then some (.tuple []) else none
  | .list a, .int k => if 0 ≤ k ∧ k ≤ 1000 ∧ a.length ≤ 1000 then some (.list (List.replicate k.toNat a).flatten) else none
  | _, _ => none
theorem rd_mul : RD K (rMulD K) mulD := by
  intro x y dx dy z H G Q hx hy hs e q
  unfold mulD at e
  split at e
  · split at e
    · rename_i h
      cases e
      exact .inl ⟨_, _, hx.toI, hy.toI, (show (-(2 ^ 64) < _ ∧ _ < 2 ^ 64) ∨ (-(2 ^ 64) < _ ∧ _ < 2 ^ 64) by omega), q _ H G (Gr.refl hs) (.int _)⟩
    · cases e
  · obtain ⟨a, xs, rfl, ha, da⟩ := hx.toT
    rename_i as k
    split at e
    · rename_i h
      subst h
      cases e
      exact .inr (.inr (.inl ⟨a, xs, rfl, hy.toI, sameT hs ha, q _ H G (Gr.refl hs) (.tup ha da)⟩))
    · split at e
      · rename_i h
        cases e
        refine .inr (.inl ⟨a, _, xs, rfl, hy.toI, sameT hs ha, fun z => h.1 (by subst z; cases da; rfl), h.2.1, h.2.2.1, by rw [da.length]; exact h.2.2.2, fun p hp => ?_⟩)
        have gr := Gr.alloc (u := .tup (List.replicate k.toNat xs).flatten) hs hp
        exact q _ _ _ gr (.tup (.inl (.inl upd_same)) ((da.flatReplicate _).mono gr.g))
      · split at e
        · rename_i h
          obtain ⟨h1, h2⟩ := h
          subst h2
          cases e
          refine .inr (.inr (.inr (.inl ⟨a, xs, rfl, hy.toI, sameT hs ha, fun z => h1 (by subst z; cases da; rfl), fun p hp => ?_⟩)))
          have gr := Gr.alloc (u := .tup []) hs hp
          exact q _ _ _ gr (.tup (.inl (.inl upd_same)) .nil)
        · cases e
  · obtain ⟨a, xs, rfl, ha, da⟩ := hx.toL
    rename_i as k
    split at e
    · rename_i h
      cases e
      refine .inr (.inr (.inr (.inr ⟨a, _, xs, rfl, hy.toI, hs.h _ _ ha rfl, by omega, by omega, ?_, fun p hp => ?_⟩)))
      · have h1 : xs.length * k.toNat ≤ 1000 * 1000 := Nat.mul_le_mul (by rw [da.length]; exact h.2.2) (by omega)
        exact le_line h1
      · have gr := Gr.alloc (u := .lst (List.replicate k.toNat xs).flatten) hs hp
        exact q _ _ _ gr (.lst upd_same ((da.flatReplicate _).mono gr.g))
    · cases e
  · cases e
/-! ### built-ins -/
def callOr (r q : List V → Hp → VK → Prop) : List V → Hp → VK → Prop := fun xs H Q => r xs H Q ∨ q xs H Q
theorem call_or {f : Value} {r q : List V → Hp → VK → Prop} (a : CallR X f r) (b : CallR X f q) : CallR X f (callOr r q) := by
  intro pins s σ H xs us Q I rx h
  rcases h with h | h
  · exact a pins s σ H xs us Q I rx h
  · exact b pins s σ H xs us Q I rx h
def lenD : D → Option D
  | .list ds => some (.int ds.length)
  | .tuple ds => some (.int ds.length)
  | .str z => if z.length ≤ 1000000 then some (.int z.length) else none
  | _ => none
abbrev rLenD (K : PySem.W.Frag) := callOr (fun xs H Q => ∃ p ys, xs = [V.ref p] ∧ (SqL K H p ys ∨ SqT K H p ys) ∧ Q (.int ys.length) H) (fun xs H Q => ∃ z : Str, xs = [V.str z] ∧ z.length ≤ sizeLine ∧ Q (.int z.length) H)
theorem call_lenD' : CallR X (.builtin "len") (rLenD X.K) := call_or call_len_seq call_len_str
theorem rc_len : RC1 K (rLenD K) lenD := by
  intro x dx z H G Q hx hs e q
  unfold lenD at e
  split at e
  · cases e
    obtain ⟨a, xs, rfl, ha, da⟩ := hx.toL
    rw [← da.length] at q
    exact .inl ⟨a, xs, rfl, .inl (.of (hs.h _ _ ha rfl)), q _ H G (Gr.refl hs) (.int _)⟩
  · cases e
    obtain ⟨a, xs, rfl, ha, da⟩ := hx.toT
    rw [← da.length] at q
    exact .inl ⟨a, xs, rfl, .inr (sameT hs ha), q _ H G (Gr.refl hs) (.int _)⟩
  · split at e
    · rename_i h
      cases e
      cases hx
      exact .inr ⟨_, rfl, le_line h, q _ H G (Gr.refl hs) (.int _)⟩
    · cases e
  · cases e
def intD : D → Option D
  | .int i => some (.int i)
  | .bool b => some (.int (if b then 1 else 0))
  | _ => none
theorem rc_int : RC1 K (fun xs H Q => (∃ i, xs = [V.int i] ∧ Q (.int i) H) ∨ ∃ k, xs = [V.bl k] ∧ Q (.int (if k then 1 else 0)) H) intD := by
  intro x dx z H G Q hx hs e q
  unfold intD at e
  split at e
  · cases e; cases hx; exact .inl ⟨_, rfl, q _ H G (Gr.refl hs) (.int _)⟩
  · cases e; cases hx; exact .inr ⟨_, rfl, q _ H G (Gr.refl hs) (.int _)⟩
  · cases e
def tupleD : D → Option D
  | .list ds => some (.tuple ds)
  | .tuple ds => some (.tuple ds)
  | _ => none
theorem rc_tuple : RC1 K (fun xs H Q => ∃ p ys, xs = [V.ref p] ∧ ((SqL K H p ys ∧ ∀ l, H l = none → Q (.ref l) (upd H l (.tup ys))) ∨ (SqT K H p ys ∧ Q (.ref p) H))) tupleD := by
  intro x dx z H G Q hx hs e q
  unfold tupleD at e
  split at e
  · cases e
    obtain ⟨a, xs, rfl, ha, da⟩ := hx.toL
    refine ⟨a, xs, rfl, .inl ⟨.of (hs.h _ _ ha rfl), fun l hl => ?_⟩⟩
    have gr := Gr.alloc (u := .tup xs) hs hl
    exact q _ _ _ gr (.tup (.inl (.inl upd_same)) (da.mono gr.g))
  · cases e
    obtain ⟨a, xs, rfl, ha, da⟩ := hx.toT
    exact ⟨a, xs, rfl, .inr ⟨sameT hs ha, q _ H G (Gr.refl hs) (.tup ha da)⟩⟩
  · cases e
def listD : D → Option D
  | .list ds => some (.list ds)
  | .tuple ds => some (.list ds)
  | _ => none
theorem rc_list : RC1 K (fun xs H Q => ∃ p ys, xs = [V.ref p] ∧ (SqL K H p ys ∨ SqT K H p ys) ∧ ∀ l, H l = none → Q (.ref l) (upd H l (.lst ys))) listD := by
  intro x dx z H G Q hx hs e q
  unfold listD at e
  split at e
  · cases e
    obtain ⟨a, xs, rfl, ha, da⟩ := hx.toL
    refine ⟨a, xs, rfl, .inl (.of (hs.h _ _ ha rfl)), fun l hl => ?_⟩
    have gr := Gr.alloc (u := .lst xs) hs hl
    exact q _ _ _ gr (.lst upd_same (da.mono gr.g))
  · cases e
    obtain ⟨a, xs, rfl, ha, da⟩ := hx.toT
    refine ⟨a, xs, rfl, .inr (sameT hs ha), fun l hl => ?_⟩
    have gr := Gr.alloc (u := .lst xs) hs hl
    exact q _ _ _ gr (.lst upd_same (da.mono gr.g))
  · cases e
def intsD : List D → Option (List Int)
  | [] => some []
  | .int b :: r => (intsD r).map (b :: ·)
  | _ :: _ => none
theorem ints_map : ∀ {ds : List D} {ns : List Int}, intsD ds = some ns → ds = ns.map .int
  | [], _, e => by cases e; rfl
  | .int b :: r, _, e => by
    obtain ⟨cs, ec, rfl⟩ := Option.map_eq_some_iff.mp e
    rw [ints_map ec]
    rfl
  | .none :: _, _, e => by cases e
  | .bool _ :: _, _, e => by cases e
  | .str _ :: _, _, e => by cases e
  | .list _ :: _, _, e => by cases e
  | .tuple _ :: _, _, e => by cases e
  | .dict _ :: _, _, e => by cases e
/-! ### sum, max, min of lists and tuples of ints -/
section
variable {prog : Program} {w : World} {A : Around} {E : Value → Shared → Prop} {s : Shared} {l : Addr} {its : List Value} {ns : List Int} {Q : Value → Shared → Prop}
theorem iter_tup {items : Array Value} (hl : s.heap.IsTuple l items)
    (h : ∀ s2 : Shared, s2 = { s with heap := s.heap.push { cls := .type "tuple_iterator", data := .fields #[.ref l, .int 0 0] } } → (s2.heap.IsTupleIter s.heap.objs.size l 0 ∧ s2.heap.IsTuple l items) → (∀ b ∈ [s.heap.objs.size, l], b < s2.heap.objs.size) → l ≠ s.heap.objs.size → Q (.ref s.heap.objs.size) s2) :
    wpAny (model prog w) A (pyIter (.ref l)) Q E s := by
  have hlt : l < s.heap.objs.size := by obtain ⟨_, e, _⟩ := hl; exact Heap.lt_size e
  refine wpAny_pyIter_tuple hl (h _ rfl ⟨⟨_, Heap.get?_push_size _ rfl, rfl, rfl⟩, hl.push _⟩ (fun b hb => ?_) (Nat.ne_of_lt hlt))
  show b < (s.heap.push _).objs.size
  rw [Heap.size_push]
  have hb' : b = s.heap.objs.size ∨ b = l := by simpa using hb
  rcases hb' with rfl | rfl
  · exact Nat.lt_succ_self _
  · exact Nat.lt_succ_of_lt hlt
theorem kept_tup {h' : Heap} (hk : ∀ b o, b ∉ [s.heap.objs.size] → (s.heap.push { cls := .type "tuple_iterator", data := .fields #[.ref l, .int 0 0] }).get? b = some o → h'.get? b = some o) : ∀ b o, s.heap.get? b = some o → h'.get? b = some o := fun b o e =>
  hk b o (fun hm => by rw [List.mem_singleton.mp hm] at e; exact absurd (Heap.lt_size e) (Nat.lt_irrefl _)) (Heap.get?_push_of_some _ e)
theorem sum_tup (hh : A.handled = none) (hl : s.heap.IsTuple l its.toArray) (hi : IntsAre its ns)
    (h : ∀ h' tk t', (∀ b o, s.heap.get? b = some o → h'.get? b = some o) → Q (.int ns.sum t') { s with heap := h', toks := tk }) : wpAny (model prog w) A (call (.builtin "sum") [.ref l]) Q E s := by
  obtain ⟨xs, e⟩ := hi.allInts.items
  have hn : numsOf (intItems xs).toList = ns := by rw [← e]; exact hi.numsOf
  rw [nums_intItems] at hn
  rw [e] at hl
  refine call_sum_walkG (iter_tup hl fun s2 e2 st hfp hne => ?_)
  subst e2
  refine ⟨_, _, _, _, _, _, numAt xs, rfl, Walks.tuple (A := A.in1) hh _ l hne (intItems xs), st, hfp, (fun _ _ => intItems_at), fun h' tk t' hk => ?_⟩
  have q := h h' tk t' (kept_tup hk)
  rw [preSum_eq, List.take_of_length_le (by simp [intItems]), hn]
  exact q
end
end
end DD
namespace DD
open PySem PySem.Spec PyProof.Rows L2
section
variable {X : Cx} {K : PySem.W.Frag}
def rSumT (K : PySem.W.Frag) : List V → Hp → VK → Prop := fun vs H Q => ∃ (a : Addr) (ns : List Int), vs = [V.ref a] ∧ SqT K H a (ns.map V.int) ∧ Q (.int ns.sum) H
theorem cr_sumT (hc : X.calm = true) : CallR X (.builtin "sum") (rSumT X.K) := by
  intro pins s σ H vs us Q I r ⟨a, ns, e, hs, q⟩
  subst e
  obtain ⟨its, rv, hl, _⟩ := I.tuple hs
  rw [Vals.ref1 r]
  exact sum_tup (I.ok.hd hc) hl rv.ints fun h' tk t' hk => ⟨.int _, H, I.kept hk, ⟨_, rfl⟩, q⟩
def sumD : D → Option D
  | .list ds => (intsD ds).map fun ns => .int ns.sum
  | .tuple ds => (intsD ds).map fun ns => .int ns.sum
  | _ => none
abbrev rSumD (K : PySem.W.Frag) := callOr (rSum K) (rSumT K)
theorem call_sumD (hc : X.calm = true) : CallR X (.builtin "sum") (rSumD X.K) := call_or (cr_sum hc) (cr_sumT hc)
theorem rc_sum : RC1 K (rSumD K) sumD := by
  intro x dx z H G Q hx hs e q
  unfold sumD at e
  split at e
  · obtain ⟨ns, en, rfl⟩ := Option.map_eq_some_iff.mp e
    have := ints_map en
    subst this
    obtain ⟨a, xs, rfl, ha, da⟩ := hx.toL
    have := da.ints
    subst this
    exact .inl ⟨a, ns, rfl, .of (hs.h _ _ ha rfl), q _ H G (Gr.refl hs) (.int _)⟩
  · obtain ⟨ns, en, rfl⟩ := Option.map_eq_some_iff.mp e
    have := ints_map en
    subst this
    obtain ⟨a, xs, rfl, ha, da⟩ := hx.toT
    have := da.ints
    subst this
    exact .inr ⟨a, ns, rfl, sameT hs ha, q _ H G (Gr.refl hs) (.int _)⟩
  · cases e
def max2D : D → D → Option D := intD2 fun i j => some (.int (if j > i then j else i))
def min2D : D → D → Option D := intD2 fun i j => some (.int (if j < i then j else i))
/-! ### repr -/
def reprD (d : D) : Option D := if d.showable = true ∧ d.shown.length ≤ 1000000 ∧ d.depth ≤ 50 then some (.str d.shown) else none
def rRepr (K : PySem.W.Frag) : List V → Hp → VK → Prop := fun xs H Q => ∃ v d, xs = [v] ∧ Da K H v d ∧ d.showable = true ∧ d.shown.length ≤ sizeLine ∧ d.depth ≤ 50 ∧ Q (.str d.shown) H
theorem call_repr (hy : Sys X) (hu : X.A.units + 64 < cLine) (gu : X.A.guards = some []) : CallR X (.builtin "repr") (rRepr X.K) := by
  intro pins s σ H xs us Q I r ⟨v, d, e, hd, h1, h2, h3, q⟩
  subst e
  obtain ⟨u, rfl, rv⟩ := r.one
  obtain ⟨as, hr, hn⟩ := Da.reads hy I d v u hd (hd.okS h1) rv
  have fin : ∀ (h' : Heap) (t : Tok) (tk : Nat), (∀ b o, s.heap.get? b = some o → h'.get? b = some o) → EP X pins σ Q (.str d.shown t) { s with heap := h', toks := tk } := fun h' t tk hk => ⟨.str _, H, I.kept hk, ⟨t, rfl⟩, q⟩
  have same : ∀ (t : Tok) (tk : Nat), EP X pins σ Q (.str d.shown t) { s with toks := tk } := fun t tk => ⟨.str _, H, I.tok tk, ⟨t, rfl⟩, q⟩
  cases u with
  | none =>
    cases hr
    have := same s.toks (s.toks + 1)
    simp only [PyData.shown] at this
    exact P.repr_of_none this
  | bool b =>
    cases hr
    have := same s.toks (s.toks + 1)
    simp only [PyData.shown] at this
    exact P.repr_of_bool this
  | int i t =>
    cases hr
    have := same s.toks (s.toks + 1)
    simp only [PyData.shown] at this
    exact P.repr_of_int (by simpa [PyData.showable] using h1) this
  | str x t =>
    cases hr
    have := same s.toks (s.toks + 1)
    simp only [PyData.shown] at this h2
    exact P.repr_of_str this h2
  | ref a => exact repr_of_reads' hr h1 (fun _ => hn) gu (by omega) (fun _ _ e => e) (fun h' u tk hk => fin h' u tk hk) h2
  | _ => cases hr
theorem rc_repr : RC1 K (rRepr K) reprD := by
  intro x dx z H G Q hx hs e q
  unfold reprD at e
  split at e
  · rename_i h
    cases e
    exact ⟨x, dx, rfl, hx.toH hs (hx.okS h.1), h.1, le_line h.2.1, h.2.2, q _ H G (Gr.refl hs) (.str _)⟩
  · cases e
/-! ### isinstance of a built-in class -/
def typeN : D → String
  | .none => "NoneType"
  | .bool _ => "bool"
  | .int _ => "int"
  | .str _ => "str"
  | .list _ => "list"
  | .tuple _ => "tuple"
  | .dict _ => "dict"
def isiB (T : String) (d : D) : Bool := typeN d == T || (typeN d == "bool" && T == "int")
variable {m : Type → Type} [Mo m] {EX : XR} {g : List Sl}
/-! ### slices -/
def cutD (ds : List D) (lo hi : Option Int) : List D := (ds.drop (HT.sIx ds.length 0 lo)).take (HT.sIx ds.length ds.length hi - HT.sIx ds.length 0 lo)
theorem DaAll.cut {G : Hp} {vs : List V} {ds : List D} (h : DaAll K G vs ds) (lo hi : Option Int) : DaAll K G (cutV vs lo hi) (cutD ds lo hi) := by
  unfold cutV cutD
  rw [h.length]
  exact (h.drop _).take _
def sliceD (d : D) (lo hi : Option Int) : Option D := match d with
  | .list ds => some (.list (cutD ds lo hi))
  | .tuple ds => some (.tuple (cutD ds lo hi))
  | _ => none
def oint : D → Option (Option Int)
  | .int i => some (some i)
  | _ => none
theorem sl_or {r q : V → Option Int → Option Int → Hp → VK → Prop} (a : SlR X r) (b : SlR X q) : SlR X (fun x l u H Q => r x l u H Q ∨ q x l u H Q) := by
  intro pins s σ H x v vl vu l u sl Q I rx hs pl pu h
  rcases h with h | h
  · exact a pins s σ H x v vl vu l u sl Q I rx hs pl pu h
  · exact b pins s σ H x v vl vu l u sl Q I rx hs pl pu h
theorem whole_cut {α : Type} {xs : List α} {lo hi : Option Int} (h : HT.sIx xs.length 0 lo = 0 ∧ HT.sIx xs.length xs.length hi = xs.length) : (xs.drop (HT.sIx xs.length 0 lo)).take (HT.sIx xs.length xs.length hi - HT.sIx xs.length 0 lo) = xs := by
  rw [h.1, h.2]
  simp
theorem sl_data {x : V} {d z : D} {H G : Hp} {lo hi : Option Int} {Q : VK} (hx : Da K G x d) (hs : SubM G H) (e : sliceD d lo hi = some z) (q : ∀ v H' G', Gr H G H' G' → Da K G' v z → Q v H') : rSlL K x lo hi H Q ∨ rSlA K x lo hi H Q := by
  unfold sliceD at e
  split at e
  · cases e
    obtain ⟨a, xs, rfl, ha, da⟩ := hx.toL
    refine .inl ⟨a, xs, rfl, .of (hs.h _ _ ha rfl), fun p hp => ?_⟩
    have gr := Gr.alloc (u := .lst (cutV xs lo hi)) hs hp
    exact q _ _ _ gr (.lst upd_same ((da.cut lo hi).mono gr.g))
  · cases e
    obtain ⟨a, xs, rfl, ha, da⟩ := hx.toT
    refine .inr ⟨a, xs, rfl, sameT hs ha, fun hw => ?_, fun hw p hp => ?_⟩
    · rw [da.length] at hw
      have : cutD _ lo hi = _ := whole_cut hw
      rw [this] at q
      exact q _ H G (Gr.refl hs) (.tup ha da)
    · have gr := Gr.alloc (u := .tup (cutV xs lo hi)) hs hp
      exact q _ _ _ gr (.tup (.inl (.inl upd_same)) ((da.cut lo hi).mono gr.g))
  · cases e
def toJ (X : Cx) (EX : XR) (g : List Sl) (x : m (Option Int)) : TO := fun σ H Q => ∃ B G n φ ξ, Ok X.K B g σ H G n ∧ Mo.sat x n φ ξ ∧ (∀ d H' G' n', Ok X.K B g σ H' G' n' → Same G G' → φ d n' → Q d H') ∧ Xw X B EX ξ
/-- a part of a slice -/
def OJ (X : Cx) (EX : XR) (e : Option Expr) (g : List Sl) (x : m (Option Int)) : Prop := PO X e (toJ X EX g x)
theorem _root_.L2.PO.weak {X : Cx} {e : Option Expr} {t t' : TO} (h : PO X e t) (w : ∀ σ H Q, t' σ H Q → t σ H Q) : PO X e t' := ⟨fun pins s σ H Q I q => h.run pins s σ H Q I (w _ _ _ q)⟩
theorem oj_none : OJ (m := m) X EX none g (pure none) := po_none.weak fun σ H Q ⟨B, G, n, φ, ξ, o, s, q, _⟩ => q none H G n o (Same.refl _) (Mo.sat_pure s)
theorem oj_some {e : Expr} {x : m D} (h : EJ X EX e g x) : OJ X EX (some e) g (x >>= fun d => Mo.lift (oint d)) :=
  (po_some h).weak fun σ H Q ⟨B, G, n, φ, ξ, o, s, q, xw⟩ => te_one o s (fun v H1 G1 d n1 o1 g1 d1 s1 => by
    obtain ⟨w, ew, pw⟩ := Mo.sat_lift s1
    cases d with
    | int i => cases ew; exact ⟨i, d1.toI, q _ H1 G1 n1 o1 g1 pw⟩
    | _ => cases ew) xw
theorem ej_slice {a : Expr} {lo hi : Option Expr} {pos p2 : Pos} {x : m D} {y z : m (Option Int)} (ha : EJ X EX a g x) (hb : OJ X EX lo g y) (hc : OJ X EX hi g z) : EJ X EX (.Subscript a (.Slice lo hi none p2) pos) g (x >>= fun d => y >>= fun l => z >>= fun h => Mo.lift (sliceD d l h)) :=
  (pe_slice (sl_or sl_list sl_tupA) ha hb hc).weak fun σ H Q ⟨B, G, n, φ, ξ, o, s, q, xw⟩ => te_one o s (fun v H1 G1 d n1 o1 g1 d1 s1 => ⟨B, G1, n1, _, ξ, o1, Mo.sat_bind s1, fun l H2 G2 n2 o2 g2 s2 => ⟨B, G2, n2, _, ξ, o2, Mo.sat_bind s2, fun h H3 G3 n3 o3 g3 s3 => by
    obtain ⟨w, ew, pw⟩ := Mo.sat_lift s3
    exact sl_data ((d1.mono g2).mono g3) o3.fm.sub ew fun u H4 G4 gr du => q u H4 G4 w n3 (o3.gr gr) (((g1.trans g2).trans g3).trans gr.g) du pw, xw⟩, xw⟩) xw
end
end DD
namespace DD
open PySem PySem.Spec PyProof.Rows
theorem forIn_wp {α β : Type} {M : Model} {A : Around} {E : Value → Shared → Prop} {Q : β → Shared → Prop} {b : α → β → Sem (ForInStep β)} (P : Nat → β → Shared → Prop) : ∀ (l : List α) (j : Nat) (r : β) (s : Shared), P j r s →
    (∀ i x r s, l[i]? = some x → P (j + i) r s → wpAny M A (b x r) (fun st s' => ∃ r', st = .yield r' ∧ P (j + i + 1) r' s') E s) → (∀ r s, P (j + l.length) r s → Q r s) → wpAny M A (forIn l r b) Q E s
  | [], j, r, s, h, _, hq => by
    simp only [List.forIn_nil]
    exact wpAny_pure (hq r s h)
  | x :: l, j, r, s, h, hs, hq => by
    simp only [List.forIn_cons]
    refine wpAny_bind (wpAny_mono (hs 0 x r s rfl h) (fun st s' ⟨r', e, p⟩ => ?_) fun _ _ z => z)
    subst e
    refine forIn_wp P l (j + 1) r' s' p (fun i y r2 s2 e p2 => ?_) fun r2 s2 p2 => hq r2 s2 (by rw [List.length_cons, show j + (l.length + 1) = j + 1 + l.length by omega]; exact p2)
    have := hs (i + 1) y r2 s2 (by simpa using e) (by rw [show j + (i + 1) = j + 1 + i by omega]; exact p2)
    rw [show j + (i + 1) + 1 = j + 1 + i + 1 by omega] at this
    exact this
/-! a list or a tuple, by its kind -/
def SqOf (k : Bool) (h : Heap) (l : Addr) (items : Array Value) : Prop := if k = true then h.IsList l items else h.IsTuple l items
def SqIter (k : Bool) (h : Heap) (a l : Addr) (i : Nat) : Prop := if k = true then h.IsListIter a l i else h.IsTupleIter a l i
section
variable {k : Bool} {h h' : Heap} {a l b : Addr} {i : Nat} {items : Array Value}
theorem SqOf.at (x : SqOf k h l items) (e : ∀ o, h.get? l = some o → h'.get? l = some o) : SqOf k h' l items := by
  cases k
  · obtain ⟨o, ho, r⟩ := (show h.IsTuple l items from x)
    exact (show h'.IsTuple l items from ⟨o, e o ho, r⟩)
  · obtain ⟨o, ho, r⟩ := (show h.IsList l items from x)
    exact (show h'.IsList l items from ⟨o, e o ho, r⟩)
theorem SqIter.at (x : SqIter k h a l i) (e : ∀ o, h.get? a = some o → h'.get? a = some o) : SqIter k h' a l i := by
  cases k
  · obtain ⟨o, ho, r⟩ := (show h.IsTupleIter a l i from x)
    exact (show h'.IsTupleIter a l i from ⟨o, e o ho, r⟩)
  · obtain ⟨o, ho, r⟩ := (show h.IsListIter a l i from x)
    exact (show h'.IsListIter a l i from ⟨o, e o ho, r⟩)
theorem SqOf.extBut (x : SqOf k h l items) (hs : Heap.ExtBut b h h') (hb : l ≠ b) : SqOf k h' l items := x.at fun o e => hs l o hb e
theorem SqIter.extBut (x : SqIter k h a l i) (hs : Heap.ExtBut b h h') (hb : a ≠ b) : SqIter k h' a l i := x.at fun o e => hs a o hb e
theorem SqIter.ex (x : SqIter k h a l i) : ∃ o, h.get? a = some o ∧ True ∧ o.data = .fields #[.ref l, .int i 0] := by
  cases k
  · obtain ⟨o, ho, _, r⟩ := (show h.IsTupleIter a l i from x)
    exact ⟨o, ho, trivial, r⟩
  · obtain ⟨o, ho, _, r⟩ := (show h.IsListIter a l i from x)
    exact ⟨o, ho, trivial, r⟩
end
section
variable {prog : Program} {w : World} {A : Around} {E : Value → Shared → Prop} {s : Shared} {k : Bool}
theorem sq_item {it l : Addr} {i : Nat} {items} {x : Value} {Q : Value → Shared → Prop} (hit : SqIter k s.heap it l i) (hl : SqOf k s.heap l items) (hx : items[i]? = some x) (hQ : ∀ h', SqIter k h' it l (i + 1) → Heap.SameBut it s.heap h' → Q x { s with heap := h' }) : wpAny (model prog w) A (Builtin.SmallTypes.nextOf (.ref it)) Q E s := by
  cases k
  · exact RZ.nextOf_tuple_item hit hl hx hQ
  · exact wpAny_nextOf_list_item hit hl hx hQ
theorem sq_end {it l : Addr} {i : Nat} {items} {Q : Value → Shared → Prop} (hh : A.handled = none) (hit : SqIter k s.heap it l i) (hl : SqOf k s.heap l items) (hx : items[i]? = none) (hE : ∀ h' e, Heap.ExtBut it s.heap h' → (∃ o, h'.get? e = some o ∧ o.cls = .type "StopIteration") → E (.ref e) { s with heap := h' }) : wpAny (model prog w) A (Builtin.SmallTypes.nextOf (.ref it)) Q E s := by
  cases k
  · exact RZ.nextOf_tuple_end hh hit hl hx hE
  · exact wpAny_nextOf_list_end hh hit hl hx hE
theorem sq_pyIter {l : Addr} {items} {Q : Value → Shared → Prop} (hl : SqOf k s.heap l items) (hQ : ∀ o : Obj, SqIter k (s.heap.push o) s.heap.objs.size l 0 → Q (.ref s.heap.objs.size) { s with heap := s.heap.push o }) : wpAny (model prog w) A (pyIter (.ref l)) Q E s := by
  cases k
  · exact wpAny_pyIter_tuple hl (hQ _ ⟨_, Heap.get?_push_size _ rfl, rfl, rfl⟩)
  · exact wpAny_pyIter_list hl (hQ _ ⟨_, Heap.get?_push_size _ rfl, rfl, rfl⟩)
end
def ZObj (f0 f1 : Value) (TI TO : Addr) : Obj := { cls := .type "zip", dict := none, data := .fields #[f0, f1, .bool false, .ref TI, .ref TO], slots := #[] }
/-- the zip at z, its iterators its over the tuples ls, each at turn i -/
structure ZSt (kd : Nat → Bool) (h : Heap) (z TI TO : Addr) (its ls : List Addr) (i : Nat) : Prop where
  zo : ∃ f0 f1, h.get? z = some (ZObj f0 f1 TI TO) ∧ (f0 = .none ∨ ∃ a : Int, f0 = rawInt a)
  ti : h.get? TI = some { cls := .type "tuple", data := .seq (its.map Value.ref).toArray }
  to : ∃ kept k, h.get? TO = some { cls := .type "tuple", data := .seq kept k } ∧ kept.size = its.length
  it : ∀ (t : Nat) (a l : Addr), its[t]? = some a → ls[t]? = some l → SqIter (kd t) h a l i
structure ZAp (z TI TO : Addr) (its ls : List Addr) : Prop where
  ne : its ≠ []
  len : ls.length = its.length
  few : its.length ≤ 1000
  nd : (z :: TI :: TO :: its).Nodup
  old : ∀ l ∈ ls, l ∉ z :: TI :: TO :: its
section
variable {prog : Program} {w : World} {A : Around} {E : Value → Shared → Prop} {s : Shared} {kd : Nat → Bool}
theorem ZAp.TIz {z TI TO : Addr} {its ls : List Addr} (D : ZAp z TI TO its ls) : TI ≠ z := fun e => by
  have := D.nd; subst e; simp at this
theorem ZAp.TOz {z TI TO : Addr} {its ls : List Addr} (D : ZAp z TI TO its ls) : TO ≠ z := fun e => by
  have := D.nd; subst e; simp at this
theorem ZAp.TITO {z TI TO : Addr} {its ls : List Addr} (D : ZAp z TI TO its ls) : TI ≠ TO := fun e => by
  have := D.nd; subst e; simp at this
theorem ZAp.itz {z TI TO a : Addr} {its ls : List Addr} (D : ZAp z TI TO its ls) (h : a ∈ its) : a ≠ z ∧ a ≠ TI ∧ a ≠ TO := by
  have := D.nd
  refine ⟨?_, ?_, ?_⟩ <;> (rintro rfl; simp_all)
theorem ZAp.inj {z TI TO a : Addr} {its ls : List Addr} {t u : Nat} (D : ZAp z TI TO its ls) (h : its[t]? = some a) (h' : its[u]? = some a) : t = u := by
  have nd : its.Nodup := ((D.nd.sublist (List.sublist_cons_self ..)).sublist (List.sublist_cons_self ..)).sublist (List.sublist_cons_self ..)
  exact L2.nd_ix nd h h'
theorem wpAny_alive {M : Model} {a : Addr} {Q : Option Obj → Shared → Prop} (h : Q (s.heap.get? a) s) : wpAny M A (loadIfAlive a) Q E s := fun Γ p _ => by
  unfold loadIfAlive
  rw [Sem.wp_loadIfAlive]
  exact (wpAny_pure (M := M) (A := A) (E := E) h) Γ p (by assumption)
theorem zipN_free {z TI TO : Addr} {its ls : List Addr} {i : Nat} {f1 : Value} {xs : List Value} {Q : Value → Shared → Prop} (D : ZAp z TI TO its ls) {f0 : Value} (hz : s.heap.get? z = some (ZObj f0 f1 TI TO)) (hf0 : f0 = .none ∨ ∃ a : Int, f0 = rawInt a ∧ s.heap.get? a.toNat = none) (S : ZSt kd s.heap z TI TO its ls i)
    (hl : xs.length = its.length) (hx : ∀ (t : Nat) (l : Addr) (x : Value), ls[t]? = some l → xs[t]? = some x → ∃ items, SqOf (kd t) s.heap l items ∧ items[i]? = some x)
    (hQ : ∀ h', ZSt kd h' z TI TO its ls (i + 1) → (h'.get? z = some (ZObj (rawInt s.heap.objs.size) (.bool false) TI TO)) → h'.get? s.heap.objs.size = some { cls := .type "tuple", data := .seq xs.toArray } → h'.objs.size = s.heap.objs.size + 1 →
      (∀ c o, c ∉ z :: TO :: its → s.heap.get? c = some o → h'.get? c = some o) → Q (.ref s.heap.objs.size) { s with heap := h' }) :
    wpAny (model prog w) A (Builtin.«zip.__next__» ⟨[.ref z], []⟩) (fun fin s' => ∃ v, fin = .done (.ret v) ∧ Q v s') E s := by
  obtain ⟨kept, k0, hTO, hks⟩ := S.to
  have hTI := S.ti
  show wpAny _ _ (field (.ref z) 2 >>= _) _ _ _
  refine wpAny_bind (wpAny_field hz rfl (x := .bool false) rfl ?_)
  show wpAny _ _ (field (.ref z) 3 >>= _) _ _ _
  refine wpAny_bind (wpAny_field hz rfl (x := .ref TI) rfl ?_)
  refine wpAny_bind (wpAny_seqItems hTI rfl ?_)
  have he : (its.map Value.ref).toArray.isEmpty = false := by have := D.ne; cases its <;> simp_all
  simp only [he]
  refine wpAny_bind ?_
  have isfree : ∀ {R : Bool → Shared → Prop}, R true s → wpAny (model prog w) A (Builtin.SmallTypes.ownedTupleIsFree (.ref z)) R E s := fun {R} hR => by
    unfold Builtin.SmallTypes.ownedTupleIsFree
    refine wpAny_bind (wpAny_field hz rfl (x := f0) rfl ?_)
    rcases hf0 with rfl | ⟨a, rfl, ha⟩
    · exact wpAny_pure hR
    · refine wpAny_bind (wpAny_alive ?_)
      rw [ha]
      exact wpAny_pure hR
  refine isfree ?_
  simp only [if_true]
  refine wpAny_bind (wpAny_rule ?_)
  refine wpAny_bind (wpAny_field hz rfl (x := .ref TO) rfl ?_)
  refine wpAny_bind (wpAny_setField_rec hz (by simp) fun h₁ hz₁ hs₁ => ?_)
  replace hz₁ : h₁.get? z = some (ZObj .ellipsis f1 TI TO) := hz₁
  have up1 : ∀ c o, c ≠ z → s.heap.get? c = some o → h₁.get? c = some o := fun c o hc e => (hs₁.2 c hc).trans e
  refine wpAny_bind (forIn_wp (fun j r s' => r = (none, ()) ∧ ∃ h kj kk, s' = { s with heap := h } ∧ h.get? z = some (ZObj .ellipsis f1 TI TO) ∧ h.get? TO = some { cls := .type "tuple", data := .seq kj kk } ∧ kj.size = its.length ∧ (∀ t : Nat, t < j → kj[t]? = xs[t]?) ∧
      (∀ (t : Nat) (a l : Addr), its[t]? = some a → ls[t]? = some l → SqIter (kd t) h a l (if t < j then i + 1 else i)) ∧ h.objs.size = s.heap.objs.size ∧ (∀ c o, c ∉ z :: TO :: its → s.heap.get? c = some o → h.get? c = some o)) _ 0 _ _
    ⟨rfl, h₁, kept, k0, rfl, hz₁, up1 _ _ D.TOz hTO, hks, fun t ht => absurd ht (Nat.not_lt_zero _), fun t a l e1 e2 => (S.it t a l e1 e2).extBut hs₁.extBut (D.itz (List.mem_of_getElem? e1)).1, hs₁.1, fun c o hc e => up1 c o (fun z => hc (by simp [z])) e⟩ (fun j p r s' e hp => ?_) fun r s' hp => ?_)
  · obtain ⟨rfl, h, kj, kk, rfl, hz2, hTO2, hk2, hpre, hit, hsz, hold⟩ := hp
    rw [Nat.zero_add] at *
    obtain ⟨a, ea⟩ : ∃ a, its[j]? = some a ∧ p = (Value.ref a, j) := by
      rw [List.getElem?_zipIdx, List.getElem?_map] at e
      cases hj : its[j]? with
      | none => rw [hj] at e; cases e
      | some a => rw [hj] at e; cases e; exact ⟨a, rfl, by simp⟩
    obtain ⟨ea, rfl⟩ := ea
    have hjl : j < its.length := (List.getElem?_eq_some_iff.mp ea).1
    obtain ⟨l, el⟩ : ∃ l, ls[j]? = some l := ⟨ls[j]'(by rw [D.len]; exact hjl), by simp [D.len, hjl]⟩
    obtain ⟨x, ex⟩ : ∃ x, xs[j]? = some x := ⟨xs[j]'(by rw [hl]; exact hjl), by simp [hl, hjl]⟩
    obtain ⟨items, ht, hix⟩ := hx j l x el ex
    have hlo : l ∉ z :: TI :: TO :: its := D.old l (List.mem_of_getElem? el)
    have ht2 : SqOf (kd j) h l items := ht.at fun o e => hold l o (fun hm => hlo (by
      simp only [List.mem_cons] at hm ⊢
      rcases hm with h | h | h
      · exact .inl h
      · exact .inr (.inr (.inl h))
      · exact .inr (.inr (.inr h)))) e
    have hi2 := hit j a l ea el
    rw [if_neg (Nat.lt_irrefl _)] at hi2
    have am := D.itz (List.mem_of_getElem? ea)
    refine wpAny_bind (wpAny_onRaise ?_)
    show wpAny _ _ (Builtin.SmallTypes.nextOf (.ref a) >>= _) _ _ _
    refine wpAny_bind (sq_item hi2 ht2 hix fun h₂ hi3 hs₂ => wpAny_pure ?_)
    have hTO3 : h₂.get? TO = some { cls := .type "tuple", data := .seq kj kk } := (hs₂.2 TO (Ne.symm am.2.2)).trans hTO2
    refine wpAny_bind (wpAny_seqItems hTO3 rfl ?_)
    have hfew := D.few
    have line : (1000 : Nat) ≤ sizeLine := by decide
    refine wpAny_bind (wpAny_updateSeq hTO3 rfl ?_ (by rw [hk2]; omega) (by rw [Array.size_setIfInBounds, hk2]; omega))
    refine wpAny_bind (wpAny_letGo (wpAny_pure ⟨_, rfl, rfl, _, _, _, rfl, ?_, Heap.get?_update_self _ hTO3 rfl, ?_, ?_, ?_, ?_, ?_⟩))
    · rw [Heap.get?_update_other _ _ D.TOz, hs₂.2 z am.1.symm]; exact hz2
    · simp [hk2]
    · intro t ht
      show (kj.setIfInBounds j x)[t]? = _
      by_cases htj : t = j
      · subst htj
        rw [Array.getElem?_setIfInBounds_self_of_lt (by rw [hk2]; exact hjl)]
        exact ex.symm
      · rw [Array.getElem?_setIfInBounds_ne (Ne.symm htj)]
        exact hpre t (by omega)
    · intro t a' l' e1 e2
      have am' := D.itz (List.mem_of_getElem? e1)
      by_cases htj : t = j
      · subst htj
        rw [ea] at e1; cases e1
        rw [el] at e2; cases e2
        rw [if_pos (Nat.lt_succ_self _)]
        exact hi3.at fun o e => (Heap.get?_update_other _ _ am'.2.2.symm).trans e
      · have hne : a' ≠ a := fun z => htj (D.inj e1 (z ▸ ea))
        have := hit t a' l' e1 e2
        have ei : (if t < j + 1 then i + 1 else i) = (if t < j then i + 1 else i) := by split <;> split <;> omega
        rw [ei]
        exact this.at fun o e => (Heap.get?_update_other _ _ am'.2.2.symm).trans ((hs₂.2 a' hne).trans e)
    · rw [show ∀ hh : Heap, (hh.update TO (Obj.mapSeq fun b => b.setIfInBounds j x)).objs.size = hh.objs.size from fun _ => by simp [Heap.update], hs₂.1]; exact hsz
    · intro c o hc e
      have h1 : c ≠ TO := fun z => hc (by simp [z])
      have h2 : c ≠ a := fun z => hc (by subst z; exact List.mem_cons_of_mem _ (List.mem_cons_of_mem _ (List.mem_of_getElem? ea)))
      exact (Heap.get?_update_other _ _ h1.symm).trans ((hs₂.2 c h2).trans (hold c o hc e))
  · obtain ⟨rfl, h, kj, kk, rfl, hz2, hTO2, hk2, hpre, hit, hsz, hold⟩ := hp
    rw [Nat.zero_add, List.length_zipIdx, List.length_map] at hpre
    have hkx : kj = xs.toArray := by
      apply Array.ext_getElem?
      intro t
      by_cases ht : t < its.length
      · rw [hpre t ht]; simp
      · rw [Array.getElem?_eq_none (by omega), Array.getElem?_eq_none (by simp; omega)]
    subst hkx
    refine wpAny_bind (wpAny_seqItems hTO2 rfl ?_)
    refine wpAny_bind (wpAny_newTuple ?_ (by have := D.few; have line : (1000 : Nat) ≤ sizeLine := (by decide); simp at hk2 ⊢; omega))
    have hit' : ∀ (t : Nat) (a l : Addr), its[t]? = some a → ls[t]? = some l → SqIter (kd t) h a l (i + 1) := fun t a l e1 e2 => by
      have := hit t a l e1 e2
      rw [if_pos (by rw [Nat.zero_add, List.length_zipIdx, List.length_map]; exact (List.getElem?_eq_some_iff.mp e1).1)] at this
      exact this
    have zlt : z < h.objs.size := Heap.lt_size hz2
    refine wpAny_bind ?_
    unfold Builtin.SmallTypes.ownedTupleHandOut
    have hz3 : (h.push { cls := .type "tuple", data := .seq xs.toArray }).get? z = some (ZObj .ellipsis f1 TI TO) := Heap.get?_push_of_some _ hz2
    refine wpAny_bind (wpAny_setField_rec hz3 (by simp) fun h₇ hz₇ hs₇ => ?_)
    replace hz₇ : h₇.get? z = some (ZObj (rawInt h.objs.size) f1 TI TO) := hz₇
    refine wpAny_setField_rec hz₇ (by simp) fun h₈ hz₈ hs₈ => ?_
    replace hz₈ : h₈.get? z = some (ZObj (rawInt h.objs.size) (.bool false) TI TO) := hz₈
    have up : ∀ c o, c ≠ z → h.get? c = some o → h₈.get? c = some o := fun c o c1 e => (hs₈.2 c c1).trans ((hs₇.2 c c1).trans (Heap.get?_push_of_some _ e))
    have hT : h₈.get? h.objs.size = some { cls := .type "tuple", data := .seq xs.toArray } := (hs₈.2 _ (Nat.ne_of_gt zlt)).trans ((hs₇.2 _ (Nat.ne_of_gt zlt)).trans (Heap.get?_push_size _ rfl))
    have hz8 : h₈.objs.size = h.objs.size + 1 := by rw [hs₈.1, hs₇.1, Heap.size_push]
    have hTI2 : h.get? TI = _ := hold TI _ (fun hm => by
      rcases List.mem_cons.mp hm with q | hm
      · exact D.TIz q
      rcases List.mem_cons.mp hm with q | hm
      · exact D.TITO q
      · exact (D.itz hm).2.1 rfl) hTI
    have st : ZSt kd h₈ z TI TO its ls (i + 1) := ⟨⟨_, _, hz₈, .inr ⟨_, rfl⟩⟩, up _ _ D.TIz hTI2, ⟨_, _, up _ _ D.TOz hTO2, hk2⟩, fun t a l e1 e2 => (hit' t a l e1 e2).at fun o e => up _ o (D.itz (List.mem_of_getElem? e1)).1 e⟩
    rw [hsz] at hz₈ hT hz8
    refine wpAny_pure ⟨_, rfl, ?_⟩
    show Q (.ref h.objs.size) _
    rw [hsz]
    exact hQ h₈ st hz₈ hT hz8 fun c o hc e => up c o (fun q => hc (by simp [q])) (hold c o hc e)
theorem zipN_busy {z TI TO : Addr} {its ls : List Addr} {i : Nat} {a0 : Int} {f1 : Value} {xs : List Value} {Q : Value → Shared → Prop} (D : ZAp z TI TO its ls) (hz : s.heap.get? z = some (ZObj (rawInt a0) f1 TI TO)) {oa : Obj} (ha : s.heap.get? a0.toNat = some oa) (S : ZSt kd s.heap z TI TO its ls i)
    (hl : xs.length = its.length) (hx : ∀ (t : Nat) (l : Addr) (x : Value), ls[t]? = some l → xs[t]? = some x → ∃ items, SqOf (kd t) s.heap l items ∧ items[i]? = some x)
    (hQ : ∀ h', ZSt kd h' z TI TO its ls (i + 1) → h'.get? s.heap.objs.size = some { cls := .type "tuple", data := .seq xs.toArray } → h'.objs.size = s.heap.objs.size + 1 →
      (∀ c o, c ∉ z :: TO :: its → s.heap.get? c = some o → h'.get? c = some o) → Q (.ref s.heap.objs.size) { s with heap := h' }) :
    wpAny (model prog w) A (Builtin.«zip.__next__» ⟨[.ref z], []⟩) (fun fin s' => ∃ v, fin = .done (.ret v) ∧ Q v s') E s := by
  obtain ⟨kept, k0, hTO, hks⟩ := S.to
  have hTI := S.ti
  show wpAny _ _ (field (.ref z) 2 >>= _) _ _ _
  refine wpAny_bind (wpAny_field hz rfl (x := .bool false) rfl ?_)
  show wpAny _ _ (field (.ref z) 3 >>= _) _ _ _
  refine wpAny_bind (wpAny_field hz rfl (x := .ref TI) rfl ?_)
  refine wpAny_bind (wpAny_seqItems hTI rfl ?_)
  have he : (its.map Value.ref).toArray.isEmpty = false := by have := D.ne; cases its <;> simp_all
  simp only [he]
  refine wpAny_bind ?_
  have isbusy : ∀ {R : Bool → Shared → Prop}, (∀ h f1', h.get? z = some (ZObj (rawInt a0) f1' TI TO) → Heap.SameBut z s.heap h → R false { s with heap := h }) → wpAny (model prog w) A (Builtin.SmallTypes.ownedTupleIsFree (.ref z)) R E s := fun {R} hR => by
    unfold Builtin.SmallTypes.ownedTupleIsFree
    refine wpAny_bind (wpAny_field hz rfl (x := rawInt a0) rfl ?_)
    refine wpAny_bind (wpAny_alive ?_)
    rw [ha]
    refine wpAny_bind (wpAny_field hz rfl (x := f1) rfl ?_)
    by_cases hf : (f1 != Value.bool true) = true
    · simp only [hf, if_true]
      exact wpAny_bind (wpAny_setField_rec hz (by simp) fun h1 hz1 hs1 => wpAny_pure (hR h1 _ hz1 hs1))
    · simp only [hf]
      exact wpAny_pure (hR s.heap f1 hz (Heap.SameBut.refl _ _))
  refine isbusy fun h₁ f2 hz₁ hs₁ => ?_
  simp only [Bool.false_eq_true, if_false, List.forIn_toArray]
  have up1 : ∀ c o, c ≠ z → s.heap.get? c = some o → h₁.get? c = some o := fun c o hc e => (hs₁.2 c hc).trans e
  refine wpAny_bind (forIn_wp (fun j r s' => r = (none, (xs.take j).toArray) ∧ ∃ h, s' = { s with heap := h } ∧ h.get? z = some (ZObj (rawInt a0) f2 TI TO) ∧
      (∀ (t : Nat) (a l : Addr), its[t]? = some a → ls[t]? = some l → SqIter (kd t) h a l (if t < j then i + 1 else i)) ∧ h.objs.size = s.heap.objs.size ∧ (∀ c o, c ∉ z :: its → s.heap.get? c = some o → h.get? c = some o)) _ 0 _ _
    ⟨by simp, h₁, rfl, hz₁, fun t a l e1 e2 => (S.it t a l e1 e2).extBut hs₁.extBut (D.itz (List.mem_of_getElem? e1)).1, hs₁.1, fun c o hc e => up1 c o (fun z => hc (by simp [z])) e⟩ (fun j p r s' e hp => ?_) fun r s' hp => ?_)
  · obtain ⟨rfl, h, rfl, hz2, hit, hsz, hold⟩ := hp
    rw [Nat.zero_add] at *
    obtain ⟨a, ea, rfl⟩ : ∃ a, its[j]? = some a ∧ p = Value.ref a := by
      rw [List.getElem?_map] at e
      cases hj : its[j]? with
      | none => rw [hj] at e; cases e
      | some a => rw [hj] at e; cases e; exact ⟨a, rfl, rfl⟩
    have hjl : j < its.length := (List.getElem?_eq_some_iff.mp ea).1
    obtain ⟨l, el⟩ : ∃ l, ls[j]? = some l := ⟨ls[j]'(by rw [D.len]; exact hjl), by simp [D.len, hjl]⟩
    obtain ⟨x, ex⟩ : ∃ x, xs[j]? = some x := ⟨xs[j]'(by rw [hl]; exact hjl), by simp [hl, hjl]⟩
    obtain ⟨items, ht, hix⟩ := hx j l x el ex
    have hlo : l ∉ z :: TI :: TO :: its := D.old l (List.mem_of_getElem? el)
    have ht2 : SqOf (kd j) h l items := ht.at fun o e => hold l o (fun hm => hlo (by
      simp only [List.mem_cons] at hm ⊢
      rcases hm with h | h
      · exact .inl h
      · exact .inr (.inr (.inr h)))) e
    have hi2 := hit j a l ea el
    rw [if_neg (Nat.lt_irrefl _)] at hi2
    refine wpAny_bind (wpAny_holding ?_)
    show wpAny _ _ (Builtin.SmallTypes.nextOf (.ref a) >>= _) _ _ _
    refine wpAny_bind (sq_item hi2 ht2 hix fun h₂ hi3 hs₂ => wpAny_pure ?_)
    refine wpAny_pure ⟨_, rfl, ?_, h₂, rfl, ?_, ?_, ?_, ?_⟩
    · show (none, (xs.take j).toArray.push x) = _
      rw [List.take_add_one, ex]
      simp
    · rw [hs₂.2 z (D.itz (List.mem_of_getElem? ea)).1.symm]; exact hz2
    · intro t a' l' e1 e2
      by_cases htj : t = j
      · subst htj
        rw [ea] at e1; cases e1
        rw [el] at e2; cases e2
        rw [if_pos (Nat.lt_succ_self _)]
        exact hi3
      · have hne : a' ≠ a := fun z => htj (D.inj e1 (z ▸ ea))
        have := hit t a' l' e1 e2
        have ei : (if t < j + 1 then i + 1 else i) = (if t < j then i + 1 else i) := by split <;> split <;> omega
        rw [ei]
        exact this.at fun o e => (hs₂.2 a' hne).trans e
    · rw [hs₂.1]; exact hsz
    · intro c o hc e
      exact (hs₂.2 c (fun z => hc (by subst z; exact List.mem_cons_of_mem _ (List.mem_of_getElem? ea)))).trans (hold c o hc e)
  · obtain ⟨rfl, h, rfl, hz2, hit, hsz, hold⟩ := hp
    have hlen : 0 + (its.map Value.ref).length = xs.length := by rw [Nat.zero_add, List.length_map, hl]
    rw [hlen, List.take_length]
    have few := D.few
    have line : (1000 : Nat) ≤ sizeLine := by decide
    refine wpAny_bind (wpAny_newTuple ?_ (by simp; omega))
    have hit' : ∀ (t : Nat) (a l : Addr), its[t]? = some a → ls[t]? = some l → SqIter (kd t) h a l (i + 1) := fun t a l e1 e2 => by
      have := hit t a l e1 e2
      rw [if_pos (by rw [hlen, hl]; exact (List.getElem?_eq_some_iff.mp e1).1)] at this
      exact this
    have notin : ∀ c, (c = TI ∨ c = TO) → c ∉ z :: its := fun c hc hm => by
      rcases List.mem_cons.mp hm with q | hm
      · rcases hc with rfl | rfl
        · exact D.TIz q
        · exact D.TOz q
      · rcases hc with rfl | rfl
        · exact (D.itz hm).2.1 rfl
        · exact (D.itz hm).2.2 rfl
    have st : ZSt kd (h.push { cls := .type "tuple", data := .seq xs.toArray }) z TI TO its ls (i + 1) := ⟨⟨_, _, Heap.get?_push_of_some _ hz2, .inr ⟨_, rfl⟩⟩, Heap.get?_push_of_some _ (hold _ _ (notin TI (.inl rfl)) hTI), ⟨_, _, Heap.get?_push_of_some _ (hold _ _ (notin TO (.inr rfl)) hTO), hks⟩,
      fun t a l e1 e2 => (hit' t a l e1 e2).at fun o e => Heap.get?_push_of_some _ e⟩
    refine wpAny_pure ⟨_, rfl, ?_⟩
    show Q (.ref h.objs.size) _
    have hT := Heap.get?_push_size h (o := { cls := .type "tuple", data := .seq xs.toArray }) rfl
    have hz8 : (h.push { cls := .type "tuple", data := .seq xs.toArray }).objs.size = h.objs.size + 1 := Heap.size_push ..
    rw [hsz] at hT hz8 ⊢
    exact hQ _ st hT hz8 fun c o hc e => Heap.get?_push_of_some _ (hold c o (fun hm => hc (by
      rcases List.mem_cons.mp hm with q | hm
      · simp [q]
      · exact List.mem_cons_of_mem _ (List.mem_cons_of_mem _ hm))) e)
/-- one item more: the tuple of the i-th items -/
theorem zipN_item {z TI TO : Addr} {its ls : List Addr} {i : Nat} {xs : List Value} {Q : Option Value → Shared → Prop} (D : ZAp z TI TO its ls) (S : ZSt kd s.heap z TI TO its ls i)
    (hl : xs.length = its.length) (hx : ∀ (t : Nat) (l : Addr) (x : Value), ls[t]? = some l → xs[t]? = some x → ∃ items, SqOf (kd t) s.heap l items ∧ items[i]? = some x)
    (hQ : ∀ h', ZSt kd h' z TI TO its ls (i + 1) → h'.get? s.heap.objs.size = some { cls := .type "tuple", data := .seq xs.toArray } → h'.objs.size = s.heap.objs.size + 1 →
      (∀ c o, c ∉ z :: TO :: its → s.heap.get? c = some o → h'.get? c = some o) → Q (some (.ref s.heap.objs.size)) { s with heap := h' }) :
    wpAny (model prog w) A (pyNext (.ref z)) Q E s := by
  obtain ⟨f0, f1, hz, hf⟩ := id S.zo
  have hT : s.TypeIs (.ref z) "zip" := ⟨_, hz, rfl⟩
  unfold pyNext
  refine wpAny_bind (wpAny_attempt (wpAny_callSpecial?_slot (name := Str.ofString "__next__") hT F.slot_zip_next (wpAny_call_entry F.slot_zip_next hT F.entry_zip_next ?_ (F.args_zip_next_1 _))))
  rcases hf with rfl | ⟨a, rfl⟩
  · exact zipN_free D hz (.inl rfl) S hl hx fun h' a1 _ a3 a4 a5 => wpAny_pure (hQ h' a1 a3 a4 a5)
  · cases ea : s.heap.get? a.toNat with
    | none => exact zipN_free D hz (.inr ⟨a, rfl, ea⟩) S hl hx fun h' a1 _ a3 a4 a5 => wpAny_pure (hQ h' a1 a3 a4 a5)
    | some oa => exact zipN_busy D hz ea S hl hx fun h' a1 a3 a4 a5 => wpAny_pure (hQ h' a1 a3 a4 a5)
/-- a turn of the walk over the parts that ends in an error -/
theorem forIn_stop {α β : Type} {M : Model} {Q : β → Shared → Prop} {b : α → β → Sem (ForInStep β)} (P : Nat → β → Shared → Prop) : ∀ (t : Nat) (l : List α) (j : Nat) (r : β) (s : Shared) (x : α), l[t]? = some x → P j r s →
    (∀ i x r s, i < t → l[i]? = some x → P (j + i) r s → wpAny M A (b x r) (fun st s' => ∃ r', st = .yield r' ∧ P (j + i + 1) r' s') E s) → (∀ r s, P (j + t) r s → wpAny M A (b x r) (fun _ _ => False) E s) → wpAny M A (forIn l r b) Q E s
  | _, [], j, r, s, x, hx, _, _, _ => by simp at hx
  | 0, y :: l, j, r, s, x, hx, h, _, hq => by
    simp only [List.forIn_cons]
    obtain rfl : y = x := by simpa using hx
    exact wpAny_bind (wpAny_mono (hq r s h) (fun _ _ z => z.elim) fun _ _ z => z)
  | t + 1, y :: l, j, r, s, x, hx, h, hs, hq => by
    simp only [List.forIn_cons]
    refine wpAny_bind (wpAny_mono (hs 0 y r s (Nat.succ_pos _) rfl h) (fun st s' ⟨r', e, p⟩ => ?_) fun _ _ z => z)
    subst e
    refine forIn_stop P t l (j + 1) r' s' x (by simpa using hx) p (fun i y r2 s2 hi e p2 => ?_) fun r2 s2 p2 => hq r2 s2 (by rw [show j + (t + 1) = j + 1 + t by omega]; exact p2)
    have := hs (i + 1) y r2 s2 (by omega) (by simpa using e) (by rw [show j + (i + 1) = j + 1 + i by omega]; exact p2)
    rw [show j + (i + 1) + 1 = j + 1 + i + 1 by omega] at this
    exact this
/-- the part at place t is at its end, the ones ahead are not -/
theorem zipN_stop {z TI TO a l : Addr} {its ls : List Addr} {i t : Nat} {items : Array Value} {Q : Fin → Shared → Prop} (hh : A.handled = none) (D : ZAp z TI TO its ls) (S : ZSt kd s.heap z TI TO its ls i) (hta : its[t]? = some a) (htl : ls[t]? = some l) (ht : SqOf (kd t) s.heap l items) (hend : items[i]? = none)
    (hx : ∀ (u : Nat) (l : Addr), u < t → ls[u]? = some l → ∃ items x, SqOf (kd u) s.heap l items ∧ items[i]? = some x)
    (hE : ∀ h' e, (∀ c o, c ∉ z :: TO :: its → s.heap.get? c = some o → h'.get? c = some o) → (∃ o, h'.get? e = some o ∧ o.cls = .type "StopIteration") → E (.ref e) { s with heap := h' }) :
    wpAny (model prog w) A (Builtin.«zip.__next__» ⟨[.ref z], []⟩) Q E s := by
  obtain ⟨kept, k0, hTO, hks⟩ := S.to
  obtain ⟨f0, f1, hz, hf⟩ := id S.zo
  have hTI := S.ti
  have am := D.itz (List.mem_of_getElem? hta)
  have notin : ∀ {u : Nat} {l : Addr}, ls[u]? = some l → l ∉ z :: TO :: its := fun {u l} el hm => D.old l (List.mem_of_getElem? el) (by
    simp only [List.mem_cons] at hm ⊢
    rcases hm with h | h | h
    · exact .inl h
    · exact .inr (.inr (.inl h))
    · exact .inr (.inr (.inr h)))
  show wpAny _ _ (field (.ref z) 2 >>= _) _ _ _
  refine wpAny_bind (wpAny_field hz rfl (x := .bool false) rfl ?_)
  show wpAny _ _ (field (.ref z) 3 >>= _) _ _ _
  refine wpAny_bind (wpAny_field hz rfl (x := .ref TI) rfl ?_)
  refine wpAny_bind (wpAny_seqItems hTI rfl ?_)
  have he : (its.map Value.ref).toArray.isEmpty = false := by have := D.ne; cases its <;> simp_all
  simp only [he]
  refine wpAny_bind ?_
  have freeGo : wpAny (model prog w) A (Builtin.SmallTypes.ownedTupleIsFree (.ref z)) (fun b s' => s' = s ∧ b = true ∨ b = false ∧ ∃ h, s' = { s with heap := h } ∧ Heap.SameBut z s.heap h) E s := by
    unfold Builtin.SmallTypes.ownedTupleIsFree
    refine wpAny_bind (wpAny_field hz rfl (x := f0) rfl ?_)
    rcases hf with rfl | ⟨a9, rfl⟩
    · exact wpAny_pure (.inl ⟨rfl, rfl⟩)
    · refine wpAny_bind (wpAny_alive ?_)
      cases ea : s.heap.get? a9.toNat with
      | none => exact wpAny_pure (.inl ⟨rfl, rfl⟩)
      | some oa =>
        refine wpAny_bind (wpAny_field hz rfl (x := f1) rfl ?_)
        by_cases hf : (f1 != Value.bool true) = true
        · simp only [hf, if_true]
          exact wpAny_bind (wpAny_setField_rec hz (by simp) fun h1 hz1 hs1 => wpAny_pure (.inr ⟨rfl, h1, rfl, hs1⟩))
        · simp only [hf]
          exact wpAny_pure (.inr ⟨rfl, s.heap, rfl, Heap.SameBut.refl _ _⟩)
  refine wpAny_mono freeGo (fun b s' hb => ?_) fun _ _ z => z
  have itAt : ∀ {u : Nat} {p : Value × Nat}, (its.map Value.ref).zipIdx[u]? = some p → ∃ a, its[u]? = some a ∧ p = (Value.ref a, u) := fun {u p} e => by
    rw [List.getElem?_zipIdx, List.getElem?_map] at e
    cases hj : its[u]? with
    | none => rw [hj] at e; cases e
    | some a => rw [hj] at e; cases e; exact ⟨a, rfl, by simp⟩
  rcases hb with ⟨rfl, rfl⟩ | ⟨rfl, h₁, rfl, hs₁⟩
  · simp only [if_true]
    refine wpAny_bind (wpAny_rule ?_)
    refine wpAny_bind (wpAny_field hz rfl (x := .ref TO) rfl ?_)
    refine wpAny_bind (wpAny_setField_rec hz (by simp) fun h₁ hz₁ hs₁ => ?_)
    replace hz₁ : h₁.get? z = some (ZObj .ellipsis f1 TI TO) := hz₁
    have up1 : ∀ c o, c ≠ z → s'.heap.get? c = some o → h₁.get? c = some o := fun c o hc e => (hs₁.2 c hc).trans e
    refine wpAny_bind (forIn_stop (fun j r s2 => r = (none, ()) ∧ ∃ h kj kk, s2 = { s' with heap := h } ∧ h.get? z = some (ZObj .ellipsis f1 TI TO) ∧ h.get? TO = some { cls := .type "tuple", data := .seq kj kk } ∧ kj.size = its.length ∧
        (∀ (u : Nat) (a l : Addr), its[u]? = some a → ls[u]? = some l → SqIter (kd u) h a l (if u < j then i + 1 else i)) ∧ (∀ c o, c ∉ z :: TO :: its → s'.heap.get? c = some o → h.get? c = some o)) t _ 0 _ _ (Value.ref a, t)
      (by rw [List.getElem?_zipIdx, List.getElem?_map, hta]; simp) ⟨rfl, h₁, kept, k0, rfl, hz₁, up1 _ _ D.TOz hTO, hks, fun u a l e1 e2 => (S.it u a l e1 e2).extBut hs₁.extBut (D.itz (List.mem_of_getElem? e1)).1, fun c o hc e => up1 c o (fun z => hc (by simp [z])) e⟩ (fun j p r s2 hj e hp => ?_) fun r s2 hp => ?_)
    · obtain ⟨rfl, h, kj, kk, rfl, hz2, hTO2, hk2, hit, hold⟩ := hp
      rw [Nat.zero_add] at *
      obtain ⟨a, ea, rfl⟩ := itAt e
      have hjl : j < its.length := (List.getElem?_eq_some_iff.mp ea).1
      obtain ⟨l, el⟩ : ∃ l, ls[j]? = some l := ⟨ls[j]'(by rw [D.len]; exact hjl), by simp [D.len, hjl]⟩
      obtain ⟨items, x, ht, hix⟩ := hx j l hj el
      have ht2 : SqOf (kd j) h l items := ht.at fun o e => hold l o (notin el) e
      have hi2 := hit j a l ea el
      rw [if_neg (Nat.lt_irrefl _)] at hi2
      have am := D.itz (List.mem_of_getElem? ea)
      refine wpAny_bind (wpAny_onRaise ?_)
      show wpAny _ _ (Builtin.SmallTypes.nextOf (.ref a) >>= _) _ _ _
      refine wpAny_bind (sq_item hi2 ht2 hix fun h₂ hi3 hs₂ => wpAny_pure ?_)
      have hTO3 : h₂.get? TO = some { cls := .type "tuple", data := .seq kj kk } := (hs₂.2 TO (Ne.symm am.2.2)).trans hTO2
      refine wpAny_bind (wpAny_seqItems hTO3 rfl ?_)
      have hfew := D.few
      have line : (1000 : Nat) ≤ sizeLine := by decide
      refine wpAny_bind (wpAny_updateSeq hTO3 rfl ?_ (by rw [hk2]; omega) (by rw [Array.size_setIfInBounds, hk2]; omega))
      refine wpAny_bind (wpAny_letGo (wpAny_pure ⟨_, rfl, rfl, _, _, _, rfl, ?_, Heap.get?_update_self _ hTO3 rfl, ?_, ?_, ?_⟩))
      · rw [Heap.get?_update_other _ _ D.TOz, hs₂.2 z am.1.symm]; exact hz2
      · simp [hk2]
      · intro u a' l' e1 e2
        have am' := D.itz (List.mem_of_getElem? e1)
        by_cases htj : u = j
        · subst htj
          rw [ea] at e1; cases e1
          rw [el] at e2; cases e2
          rw [if_pos (Nat.lt_succ_self _)]
          exact hi3.at fun o e => (Heap.get?_update_other _ _ am'.2.2.symm).trans e
        · have hne : a' ≠ a := fun z => htj (D.inj e1 (z ▸ ea))
          have := hit u a' l' e1 e2
          have ei : (if u < j + 1 then i + 1 else i) = (if u < j then i + 1 else i) := by split <;> split <;> omega
          rw [ei]
          exact this.at fun o e => (Heap.get?_update_other _ _ am'.2.2.symm).trans ((hs₂.2 a' hne).trans e)
      · intro c o hc e
        have h1 : c ≠ TO := fun z => hc (by simp [z])
        have h2 : c ≠ a := fun z => hc (by subst z; exact List.mem_cons_of_mem _ (List.mem_cons_of_mem _ (List.mem_of_getElem? ea)))
        exact (Heap.get?_update_other _ _ h1.symm).trans ((hs₂.2 c h2).trans (hold c o hc e))
    · obtain ⟨rfl, h, kj, kk, rfl, hz2, hTO2, hk2, hit, hold⟩ := hp
      rw [Nat.zero_add] at *
      have hi2 := hit t a l hta htl
      rw [if_neg (Nat.lt_irrefl _)] at hi2
      refine wpAny_bind (wpAny_onRaise ?_)
      show wpAny _ _ (Builtin.SmallTypes.nextOf (.ref a) >>= _) _ _ _
      refine wpAny_bind (sq_end hh hi2 (ht.at fun o e => hold l o (notin htl) e) hend fun h₂ e hs₂ he => ?_)
      obtain ⟨oe, hoe, hce⟩ := he
      have hz₂ : h₂.get? z = some (ZObj .ellipsis f1 TI TO) := hs₂ _ _ am.1.symm hz2
      have hez : e ≠ z := fun x => by subst x; rw [hz₂] at hoe; cases hoe; simp [ZObj] at hce
      refine wpAny_setField_rec hz₂ (by simp) fun h₃ _ hs₃ => hE h₃ e (fun c o hc x => hs₃.extBut _ _ (fun q => hc (by simp [q])) (hs₂ _ _ (fun q => hc (by subst q; exact List.mem_cons_of_mem _ (List.mem_cons_of_mem _ (List.mem_of_getElem? hta)))) (hold c o hc x))) ⟨oe, hs₃.extBut _ _ hez hoe, hce⟩
  · simp only [Bool.false_eq_true, if_false, List.forIn_toArray]
    have up1 : ∀ c o, c ≠ z → s.heap.get? c = some o → h₁.get? c = some o := fun c o hc e => (hs₁.2 c hc).trans e
    refine wpAny_bind (forIn_stop (fun j r s2 => r.1 = none ∧ ∃ h, s2 = { s with heap := h } ∧
        (∀ (u : Nat) (a l : Addr), its[u]? = some a → ls[u]? = some l → SqIter (kd u) h a l (if u < j then i + 1 else i)) ∧ (∀ c o, c ∉ z :: TO :: its → s.heap.get? c = some o → h.get? c = some o)) t _ 0 _ _ (Value.ref a)
      (by rw [List.getElem?_map, hta]; rfl) ⟨rfl, h₁, rfl, fun u a l e1 e2 => (S.it u a l e1 e2).extBut hs₁.extBut (D.itz (List.mem_of_getElem? e1)).1, fun c o hc e => up1 c o (fun z => hc (by simp [z])) e⟩ (fun j p r s2 hj e hp => ?_) fun r s2 hp => ?_)
    · obtain ⟨r1, r2⟩ := r
      obtain ⟨rfl, h, rfl, hit, hold⟩ := hp
      rw [Nat.zero_add] at *
      obtain ⟨a, ea, rfl⟩ : ∃ a, its[j]? = some a ∧ p = Value.ref a := by
        rw [List.getElem?_map] at e
        cases hj : its[j]? with
        | none => rw [hj] at e; cases e
        | some a => rw [hj] at e; cases e; exact ⟨a, rfl, rfl⟩
      have hjl : j < its.length := (List.getElem?_eq_some_iff.mp ea).1
      obtain ⟨l, el⟩ : ∃ l, ls[j]? = some l := ⟨ls[j]'(by rw [D.len]; exact hjl), by simp [D.len, hjl]⟩
      obtain ⟨items, x, ht, hix⟩ := hx j l hj el
      have ht2 : SqOf (kd j) h l items := ht.at fun o e => hold l o (notin el) e
      have hi2 := hit j a l ea el
      rw [if_neg (Nat.lt_irrefl _)] at hi2
      refine wpAny_bind (wpAny_holding ?_)
      show wpAny _ _ (Builtin.SmallTypes.nextOf (.ref a) >>= _) _ _ _
      refine wpAny_bind (sq_item hi2 ht2 hix fun h₂ hi3 hs₂ => wpAny_pure ?_)
      refine wpAny_pure ⟨_, rfl, rfl, h₂, rfl, ?_, ?_⟩
      · intro u a' l' e1 e2
        by_cases htj : u = j
        · subst htj
          rw [ea] at e1; cases e1
          rw [el] at e2; cases e2
          rw [if_pos (Nat.lt_succ_self _)]
          exact hi3
        · have hne : a' ≠ a := fun z => htj (D.inj e1 (z ▸ ea))
          have := hit u a' l' e1 e2
          have ei : (if u < j + 1 then i + 1 else i) = (if u < j then i + 1 else i) := by split <;> split <;> omega
          rw [ei]
          exact this.at fun o e => (hs₂.2 a' hne).trans e
      · intro c o hc e
        exact (hs₂.2 c (fun z => hc (by subst z; exact List.mem_cons_of_mem _ (List.mem_cons_of_mem _ (List.mem_of_getElem? ea))))).trans (hold c o hc e)
    · obtain ⟨r1, r2⟩ := r
      obtain ⟨rfl, h, rfl, hit, hold⟩ := hp
      rw [Nat.zero_add] at *
      have hi2 := hit t a l hta htl
      rw [if_neg (Nat.lt_irrefl _)] at hi2
      refine wpAny_bind (wpAny_holding ?_)
      show wpAny _ _ (Builtin.SmallTypes.nextOf (.ref a) >>= _) _ _ _
      refine wpAny_bind (sq_end hh hi2 (ht.at fun o e => hold l o (notin htl) e) hend fun h₂ e hs₂ he => ?_)
      exact hE h₂ e (fun c o hc x => hs₂ _ _ (fun q => hc (by subst q; exact List.mem_cons_of_mem _ (List.mem_cons_of_mem _ (List.mem_of_getElem? hta)))) (hold c o hc x)) he
theorem zipN_end {z TI TO a l : Addr} {its ls : List Addr} {i t : Nat} {items : Array Value} {Q : Option Value → Shared → Prop} (hh : A.handled = none) (D : ZAp z TI TO its ls) (S : ZSt kd s.heap z TI TO its ls i) (hta : its[t]? = some a) (htl : ls[t]? = some l) (ht : SqOf (kd t) s.heap l items) (hend : items[i]? = none)
    (hx : ∀ (u : Nat) (l : Addr), u < t → ls[u]? = some l → ∃ items x, SqOf (kd u) s.heap l items ∧ items[i]? = some x)
    (hQ : ∀ h', (∀ c o, c ∉ z :: TO :: its → s.heap.get? c = some o → h'.get? c = some o) → Q none { s with heap := h' }) : wpAny (model prog w) A (pyNext (.ref z)) Q E s := by
  obtain ⟨f0, f1, hz, hf⟩ := id S.zo
  have hT : s.TypeIs (.ref z) "zip" := ⟨_, hz, rfl⟩
  unfold pyNext
  refine wpAny_bind (wpAny_attempt (wpAny_callSpecial?_slot (name := Str.ofString "__next__") hT F.slot_zip_next (wpAny_call_entry F.slot_zip_next hT F.entry_zip_next (zipN_stop hh D S hta htl ht hend hx fun h' e hk he => ?_) (F.args_zip_next_1 _))))
  obtain ⟨o, ho, hc⟩ := he
  exact wpAny_bind (wpAny_isInstance (T := "StopIteration") (b := true) ⟨o, ho, hc⟩ isSubtype_stop (wpAny_pure (hQ _ hk)))
theorem zip_self {z TI TO : Addr} {f0 f1 : Value} {Q : Value → Shared → Prop} (hz : s.heap.get? z = some (ZObj f0 f1 TI TO)) (h : Q (.ref z) s) : wpAny (model prog w) A (pyIter (.ref z)) Q E s := by
  have hT : s.TypeIs (.ref z) "zip" := ⟨_, hz, rfl⟩
  refine wpAny_pyIter_slot hT F.slot_zip_iter (wpAny_call_entry F.slot_zip_iter hT F.entry_zip_iter ?_ (F.args_zip_iter_1 _))
  show wpAny _ _ (ret (.ref z)) _ _ s
  exact wpAny_pure ⟨_, rfl, "zip", _, hT, F.slot_zip_next.lookup, h⟩
/-- zip(..) of tuples -/
theorem meets_zipN (ls : List Addr) (hl : ls.length ≤ 1000) : Meets (Builtin.«zip.__new__» ⟨.type "zip" :: ls.map Value.ref, []⟩) (fun _ R s => (∀ (t : Nat) (l : Addr), ls[t]? = some l → ∃ items, SqOf (kd t) s.heap l items) ∧
    ∀ h' its, ZSt kd h' (s.heap.objs.size + ls.length + 2) (s.heap.objs.size + ls.length) (s.heap.objs.size + ls.length + 1) its ls 0 → its = (List.range ls.length).map (s.heap.objs.size + ·) → (∀ c o, s.heap.get? c = some o → h'.get? c = some o) → R (.ok (.ret (.ref (s.heap.objs.size + ls.length + 2)))) { s with heap := h' }) :=
  .of_wp fun prog w A R s ⟨ht, h⟩ => by
    have hsub := sub_zip
    obtain ⟨hp, g, d, tk, os⟩ := s
    wp_walk
    show wpAny (model prog w) A.in1 (forIn (ls.map Value.ref) (#[] : Array Value) (fun x its => do let v ← holding its.toList (pyIter x); pure (ForInStep.yield (its.push v)))) _ _ _
    refine forIn_wp (fun j r s' => r = ((List.range j).map fun t => Value.ref (hp.objs.size + t)).toArray ∧ ∃ hh, s' = ⟨hh, g, d, tk, os⟩ ∧ hh.objs.size = hp.objs.size + j ∧ (∀ (t : Nat) (l : Addr), t < j → ls[t]? = some l → SqIter (kd t) hh (hp.objs.size + t) l 0) ∧ ∀ c o, hp.get? c = some o → hh.get? c = some o) _ 0 _ _
      ⟨rfl, hp, rfl, rfl, fun t l ht => absurd ht (Nat.not_lt_zero _), fun _ _ e => e⟩ (fun j x r s' e hq => ?_) fun r s' hq => ?_
    · obtain ⟨rfl, hh, rfl, hsz, hit, hold⟩ := hq
      rw [Nat.zero_add] at *
      obtain ⟨l, el, rfl⟩ : ∃ l, ls[j]? = some l ∧ x = Value.ref l := by
        rw [List.getElem?_map] at e
        cases hj : ls[j]? with
        | none => rw [hj] at e; cases e
        | some a => rw [hj] at e; cases e; exact ⟨a, rfl, rfl⟩
      obtain ⟨items, htl⟩ := ht j l el
      have htl' : SqOf (kd j) hp l items := htl
      refine wpAny_bind (wpAny_holding (sq_pyIter (s := ⟨hh, g, d, tk, os⟩) (htl'.at fun o e => hold l o e) fun ob hob => wpAny_pure ⟨_, rfl, ?_, _, rfl, ?_, ?_, ?_⟩))
      · rw [List.range_succ, List.map_append]
        show Array.push _ (Value.ref hh.objs.size) = _
        rw [hsz]
        simp
      · rw [Heap.size_push, hsz]; omega
      · intro t l' ht' el'
        by_cases htj : t = j
        · subst htj
          rw [el] at el'; cases el'
          rw [← hsz]
          exact hob
        · exact (hit t l' (by omega) el').at fun o e => Heap.get?_push_of_some _ e
      · exact fun c o e => Heap.get?_push_of_some _ (hold c o e)
    · obtain ⟨rfl, hh, rfl, hsz, hit, hold⟩ := hq
      rw [Nat.zero_add, List.length_map] at *
      have line : (1000 : Nat) ≤ sizeLine := (by decide)
      refine wpAny_pure ?_
      refine wpAny_bind (wpAny_newTuple ?_ (by simp; omega))
      refine wpAny_bind (wpAny_newTuple ?_ (by simp; omega))
      show wpAny _ _ (newObj (.type "zip") (.fields #[.none, .bool false, .bool false, _, _]) >>= _) _ _ _
      refine wpAny_bind (wpAny_newObj_type ?_)
      have e1 : ((List.range ls.length).map fun t => Value.ref (hp.objs.size + t)).toArray.toList = ((List.range ls.length).map (hp.objs.size + ·)).map Value.ref := by simp
      have s1 : (hh.push { cls := .type "tuple", data := .seq (((List.range ls.length).map fun t => Value.ref (hp.objs.size + t)).toArray.toList).toArray }).objs.size = hp.objs.size + ls.length + 1 := by rw [Heap.size_push, hsz]
      refine wpAny_pure ⟨_, rfl, ?_⟩
      have hgo := h
      simp only at hgo
      rw [e1] at s1 ⊢
      generalize hits : (List.range ls.length).map (hp.objs.size + ·) = its at *
      have lits : its.length = ls.length := by rw [← hits]; simp
      generalize hA : hh.push { cls := .type "tuple", data := .seq (its.map Value.ref).toArray } = h1 at *
      have zA : h1.objs.size = hp.objs.size + ls.length + 1 := s1
      generalize hB : h1.push { cls := .type "tuple", data := .seq ((its.map Value.ref).map fun _ => Value.none).toArray } = h2 at *
      have zB : h2.objs.size = hp.objs.size + ls.length + 2 := by rw [← hB, Heap.size_push, zA]
      have up : ∀ c o, hh.get? c = some o → h2.get? c = some o := fun c o e => by rw [← hB, ← hA]; exact Heap.get?_push_of_some _ (Heap.get?_push_of_some _ e)
      have gI : h2.get? (hp.objs.size + ls.length) = some { cls := .type "tuple", data := .seq (its.map Value.ref).toArray } := by
        rw [← hB]
        refine Heap.get?_push_of_some _ ?_
        rw [← hA, ← hsz]
        exact Heap.get?_push_size _ rfl
      have gO : h2.get? (hp.objs.size + ls.length + 1) = some { cls := .type "tuple", data := .seq ((its.map Value.ref).map fun _ => Value.none).toArray } := by
        rw [← hB, ← zA]
        exact Heap.get?_push_size _ rfl
      show R (.ok (.ret (.ref h2.objs.size))) ⟨h2.push { cls := .type "zip", data := .fields #[.none, .bool false, .bool false, .ref hh.objs.size, .ref h1.objs.size] }, g, d, tk, os⟩
      rw [hsz, zA]
      have gZ := Heap.get?_push_size h2 (o := { cls := .type "zip", data := .fields #[.none, .bool false, .bool false, .ref (hp.objs.size + ls.length), .ref (hp.objs.size + ls.length + 1)] }) rfl
      rw [zB] at gZ ⊢
      refine hgo _ its ⟨⟨_, _, gZ, .inl rfl⟩, Heap.get?_push_of_some _ gI, ⟨_, _, Heap.get?_push_of_some _ gO, by simp⟩, fun t a l e2 e3 => ?_⟩ rfl fun c o e => Heap.get?_push_of_some _ (up c o (hold c o e))
      have ht3 : t < ls.length := (List.getElem?_eq_some_iff.mp e3).1
      have ea : a = hp.objs.size + t := by
        rw [← hits, List.getElem?_map, List.getElem?_range ht3] at e2
        cases e2; rfl
      subst ea
      exact (hit t l ht3 e3).at fun o e => Heap.get?_push_of_some _ (up _ o e)
end
end DD
namespace DD
open PySem PySem.Spec PyProof.Rows L2
theorem typeCall_zip1 (a : Value) : checkTypeCall "zip" ⟨[a], []⟩ = pure () := by kernel_rfl
theorem typeCall_zip3 (a b c : Value) : checkTypeCall "zip" ⟨[a, b, c], []⟩ = pure () := by kernel_rfl
theorem typeCall_zip4 (a b c d : Value) : checkTypeCall "zip" ⟨[a, b, c, d], []⟩ = pure () := by kernel_rfl
theorem newCall_zip1 (a : Value) : checkBuiltinCall "zip.__new__" ⟨[.type "zip", a], []⟩ = pure () := by kernel_rfl
theorem newCall_zip3 (a b c : Value) : checkBuiltinCall "zip.__new__" ⟨[.type "zip", a, b, c], []⟩ = pure () := by kernel_rfl
theorem newCall_zip4 (a b c d : Value) : checkBuiltinCall "zip.__new__" ⟨[.type "zip", a, b, c, d], []⟩ = pure () := by kernel_rfl
theorem initOk4 (a b c d : Value) : argsOk "object.__init__" ⟨[a, b, c, d], []⟩ := by
  unfold argsOk
  rw [signature?_of (id := "object.__init__") (n := ['_', '_', 't', 'i', 'n', 'i', '_', '_']) (o := ['t', 'c', 'e', 'j', 'b', 'o']) (by kernel_rfl) F.owner_object]
  kernel_rfl
theorem initOk5 (a b c d e : Value) : argsOk "object.__init__" ⟨[a, b, c, d, e], []⟩ := by
  unfold argsOk
  rw [signature?_of (id := "object.__init__") (n := ['_', '_', 't', 'i', 'n', 'i', '_', '_']) (o := ['t', 'c', 'e', 'j', 'b', 'o']) (by kernel_rfl) F.owner_object]
  kernel_rfl
section
variable {prog : Program} {w : World} {A : Around} {E : Value → Shared → Prop} {s : Shared} {kd : Nat → Bool}
theorem call_zipN {ls : List Addr} {Q : Value → Shared → Prop} (h0 : ls ≠ []) (h4 : ls.length ≤ 4) (ht : ∀ (t : Nat) (l : Addr), ls[t]? = some l → ∃ items, SqOf (kd t) s.heap l items)
    (h : ∀ h' its, ZSt kd h' (s.heap.objs.size + ls.length + 2) (s.heap.objs.size + ls.length) (s.heap.objs.size + ls.length + 1) its ls 0 → its = (List.range ls.length).map (s.heap.objs.size + ·) → (∀ c o, s.heap.get? c = some o → h'.get? c = some o) → Q (.ref (s.heap.objs.size + ls.length + 2)) { s with heap := h' }) :
    wpAny (model prog w) A (call (.type "zip") (ls.map Value.ref)) Q E s := by
  have hct : checkTypeCall "zip" ⟨ls.map Value.ref, []⟩ = pure () := by
    match ls, h0, h4 with
    | [a], _, _ => exact typeCall_zip1 _
    | [a, b], _, _ => exact F.typeCall_zip_2 _ _
    | [a, b, c], _, _ => exact typeCall_zip3 _ _ _
    | [a, b, c, d], _, _ => exact typeCall_zip4 _ _ _ _
    | _ :: _ :: _ :: _ :: _ :: _, _, h => simp at h
  have hcn : checkBuiltinCall "zip.__new__" ⟨.type "zip" :: ls.map Value.ref, []⟩ = pure () := by
    match ls, h0, h4 with
    | [a], _, _ => exact newCall_zip1 _
    | [a, b], _, _ => exact F.newCall_zip_2 _ _
    | [a, b, c], _, _ => exact newCall_zip3 _ _ _
    | [a, b, c, d], _, _ => exact newCall_zip4 _ _ _ _
    | _ :: _ :: _ :: _ :: _ :: _, _, h => simp at h
  have hok : ∀ obj, argsOk "object.__init__" ⟨obj :: ls.map Value.ref, []⟩ := fun obj => by
    match ls, h0, h4 with
    | [a], _, _ => exact F.args_object_init_2 _ _
    | [a, b], _, _ => exact F.args_object_init_3 _ _ _
    | [a, b, c], _, _ => exact initOk4 _ _ _ _
    | [a, b, c, d], _, _ => exact initOk5 _ _ _ _ _
    | _ :: _ :: _ :: _ :: _ :: _, _, h => simp at h
  have h5 : ls.length ≤ 1000 := by omega
  refine callType_new F.called_zip (by decide) hct hcn hok F.entry_zip_new (meets_zipN (kd := kd) ls h5) ?_
  refine ⟨ht, fun h' its hz he hk => ?_⟩
  obtain ⟨f0, f1, hzo, _⟩ := hz.zo
  exact ⟨⟨_, hzo, rfl⟩, h h' its hz he hk⟩
end
/-- a list or a tuple, by its kind -/
def SqK (k : Bool) (K : PySem.W.Frag) (H : Hp) (a : Addr) (row : List V) : Prop := if k = true then SqL K H a row else SqT K H a row
theorem SqK.mono {k : Bool} {K : PySem.W.Frag} {H H' : Hp} {a : Addr} {row : List V} (e : SubM H H') (h : SqK k K H a row) : SqK k K H' a row := by
  cases k
  · exact sameT e h
  · exact e.seq h
theorem sqk_inv {X : Cx} {pins : List (Addr × Obj)} {σ : L2.St} {H : Hp} {s : Shared} (I : Inv X pins σ H s) {k : Bool} {a : Addr} {row : List V} (h : SqK k X.K H a row) : ∃ its : List Value, Vals row its ∧ SqOf k s.heap a its.toArray ∧ row.length ≤ sizeLine := by
  cases k
  · obtain ⟨its, r, p, z⟩ := I.tuple h
    exact ⟨its, r, p, z⟩
  · obtain ⟨its, r, p, z⟩ := I.list h
    exact ⟨its, r, p.isList, z⟩
theorem sqk_inj {X : Cx} {pins : List (Addr × Obj)} {σ : L2.St} {H : Hp} {s : Shared} (I : Inv X pins σ H s) {k : Bool} {a : Addr} {row row' : List V} (h : SqK k X.K H a row) (h' : SqK k X.K H a row') : row = row' := by
  cases k
  · exact I.tuple_inj h h'
  · exact I.list_inj h h'
/-- the sequences at as, turn by turn: new tuples of their items -/
def Itn (K : PySem.W.Frag) (kd : Nat → Bool) (as : List Addr) : It :=
  ⟨fun i H => ∀ (t : Nat) (a : Addr), as[t]? = some a → ∃ row x, SqK (kd t) K H a row ∧ row[i]? = some x,
    fun i H v H' => ∃ T xs, v = .ref T ∧ H T = none ∧ H' = upd H T (.tup xs) ∧ xs.length = as.length ∧ ∀ (t : Nat) (a : Addr) (row : List V), as[t]? = some a → SqK (kd t) K H a row → ∃ x, xs[t]? = some x ∧ row[i]? = some x,
    fun i H => ∃ t a row, as[t]? = some a ∧ SqK (kd t) K H a row ∧ row.length ≤ i ∧ ∀ (u : Nat) (b : Addr), u < t → as[u]? = some b → ∃ row x, SqK (kd u) K H b row ∧ row[i]? = some x⟩
theorem zip_go {prog : Program} {w : World} {A : Around} {E : Value → Shared → Prop} {s : Shared} {tg : Expr} {z TI TO T : Addr} {its as : List Addr} {i : Nat} {kd : Nat → Bool} {R : Unit → Shared → Prop} (D : ZAp z TI TO its as) (st : ZSt kd s.heap z TI TO its as i)
    (hR : ∀ h2, ZSt kd h2 z TI TO its as i → (∀ c o, c ≠ z → s.heap.get? c = some o → h2.get? c = some o) → R () { s with heap := h2 }) : wpAny (model prog w) A (letOwnedTupleGo tg (.ref z) (.ref T)) R E s := by
  have plain : wpAny (model prog w) A (pure ()) R E s := wpAny_pure (hR s.heap st fun _ _ _ e => e)
  obtain ⟨f0, f1, hz, hf0⟩ := id st.zo
  have hit : ∀ {R' : Unit → Shared → Prop}, (∀ s', R () s' → R' () s') → wpAny (model prog w) A (setField (.ref z) 0 .none) R' E s := fun {R'} hw => by
    refine wpAny_setField_rec hz (by simp) fun h2 hz2 hs2 => hw _ (hR h2 ?_ fun c o hc e => (hs2.2 c hc).trans e)
    obtain ⟨kp, k0, hTO, hks⟩ := st.to
    exact ⟨⟨.none, f1, hz2, .inl rfl⟩, (hs2.2 _ D.TIz).trans st.ti, ⟨kp, k0, (hs2.2 _ D.TOz).trans hTO, hks⟩, fun t a l e1 e2 => (st.it t a l e1 e2).at fun o e => (hs2.2 a (D.itz (List.mem_of_getElem? e1)).1).trans e⟩
  unfold letOwnedTupleGo
  split
  · refine wpAny_bind (wpAny_load hz ?_)
    simp only [ZObj]
    split
    · exact wpAny_bind (wpAny_rule (hit fun _ h => h))
    · exact plain
  · refine wpAny_bind (wpAny_load hz ?_)
    simp only [ZObj]
    split
    · exact wpAny_bind (wpAny_rule (hit fun _ h => h))
    · exact plain
  · exact plain
theorem turn_zipN {P : Program} {w : World} {K : PySem.W.Frag} {tg : Expr} {z TI TO : Addr} {its as : List Addr} {kd : Nat → Bool} (D : ZAp z TI TO its as) : Turn P w K tg (Itn K kd as) (z :: TI :: TO :: its) z (fun i h => ZSt kd h z TI TO its as i) where
  mem := by simp
  obj := fun i h st c hc => by
    obtain ⟨f0, f1, hz, _⟩ := st.zo
    obtain ⟨kp, k0, hTO, _⟩ := st.to
    simp only [List.mem_cons] at hc
    rcases hc with rfl | rfl | rfl | hc
    · exact ⟨_, hz, fun v q => nomatch q⟩
    · exact ⟨_, st.ti, fun v q => nomatch q⟩
    · exact ⟨_, hTO, fun v q => nomatch q⟩
    · obtain ⟨t, ht⟩ := List.getElem?_of_mem hc
      have hl : t < as.length := by rw [D.len]; exact (List.getElem?_eq_some_iff.mp ht).1
      obtain ⟨o, ho, _, hd⟩ := (st.it t c as[t] ht (List.getElem?_eq_getElem hl)).ex
      exact ⟨o, ho, fun v q => by rw [hd] at q; cases q⟩
  keep := fun i h h' st k => by
    obtain ⟨f0, f1, hz, hf⟩ := st.zo
    obtain ⟨kp, k0, hTO, hs⟩ := st.to
    exact ⟨⟨f0, f1, k z (by simp) _ hz, hf⟩, k TI (by simp) _ st.ti, ⟨kp, k0, k TO (by simp) _ hTO, hs⟩, fun t a l e1 e2 => (st.it t a l e1 e2).at fun o q => k a (by simp [List.mem_of_getElem? e1]) o q⟩
  item := by
    intro X hP hw hK hc i pins s σ H E I hf st hg
    subst hP hw hK
    have hg' : ∀ (t : Nat) (a : Addr), as[t]? = some a → ∃ row x, SqK (kd t) X.K H a row ∧ row[i]? = some x := hg
    -- the values, one a tuple
    have vals : ∀ (bs : List Addr) (off : Nat), (∀ (t : Nat) (a : Addr), bs[t]? = some a → ∃ row x, SqK (kd (off + t)) X.K H a row ∧ row[i]? = some x) → ∃ (xs : List V) (us : List Value), Vals xs us ∧ xs.length = bs.length ∧ ∀ (t : Nat) (a : Addr), bs[t]? = some a → ∃ x u row items, xs[t]? = some x ∧ us[t]? = some u ∧ SqK (kd (off + t)) X.K H a row ∧ row[i]? = some x ∧ SqOf (kd (off + t)) s.heap a items ∧ items[i]? = some u := by
      intro bs
      induction bs with
      | nil => intro _ _; exact ⟨[], [], .nil, rfl, fun t a e => by simp at e⟩
      | cons b bs ih =>
        intro off hb
        obtain ⟨xs, us, r, hl, q⟩ := ih (off + 1) fun t a e => by
          have := hb (t + 1) a (by simpa using e)
          rwa [show off + (t + 1) = off + 1 + t by omega] at this
        obtain ⟨row, x, sq, hx⟩ := hb 0 b rfl
        obtain ⟨its', rv, p, _⟩ := sqk_inv I sq
        obtain ⟨u, hu, ru⟩ := rv.get hx
        refine ⟨x :: xs, u :: us, .cons ru r, by simp [hl], fun t a e => ?_⟩
        cases t with
        | zero =>
          simp at e
          subst e
          exact ⟨x, u, row, _, rfl, rfl, sq, hx, p, by simpa using hu⟩
        | succ t =>
          have := q t a (by simpa using e)
          rw [show off + 1 + t = off + (t + 1) by omega] at this
          simpa using this
    obtain ⟨xs, us, rv, hlx, q⟩ := vals as 0 fun t a e => by rw [Nat.zero_add]; exact hg' t a e
    simp only [Nat.zero_add] at q
    obtain ⟨f0', f1', hz0, _⟩ := id st.zo
    have hzl : ∀ c ∈ z :: TI :: TO :: its, c < s.heap.objs.size := fun c hc => by
      obtain ⟨kp, k0, hTO, _⟩ := st.to
      simp only [List.mem_cons] at hc
      rcases hc with rfl | rfl | rfl | hc
      · exact Heap.lt_size hz0
      · exact Heap.lt_size st.ti
      · exact Heap.lt_size hTO
      · obtain ⟨t, ht⟩ := List.getElem?_of_mem hc
        have hl : t < as.length := by rw [D.len]; exact (List.getElem?_eq_some_iff.mp ht).1
        obtain ⟨o, ho, _, hd⟩ := (st.it t c as[t] ht (List.getElem?_eq_getElem hl)).ex
        exact Heap.lt_size ho
    have hus : us.length = its.length := by rw [← rv.length, hlx, D.len]
    have hux : ∀ (t : Nat) (l : Addr) (x : Value), as[t]? = some l → us[t]? = some x → ∃ items, SqOf (kd t) s.heap l items ∧ items[i]? = some x := fun t l x e1 e2 => by
      obtain ⟨x', u, row, items, _, e4, _, _, e5, e6⟩ := q t l e1
      rw [e2] at e4
      cases e4
      exact ⟨items, e5, e6⟩
    apply zipN_item D st hus hux
    intro h' st' hT hsz hk
    refine ⟨_, rfl, ?_⟩
    refine zip_go (s := { s with heap := h' }) D st' fun h2 st2 hk2 => ?_
    have hT2 : h2.get? s.heap.objs.size = some { cls := .type "tuple", data := .seq us.toArray } := hk2 _ _ (Nat.ne_of_gt (hzl z (by simp))) hT
    have few := D.few
    have line : (1000 : Nat) ≤ sizeLine := by decide
    have new : ObjOk X.prog X.w (upd H s.heap.objs.size (.tup xs)) h2 s.heap.objs.size (.tup xs) := ⟨by rw [hlx, D.len]; omega, us, rv, ⟨_, hT2, rfl, _, rfl⟩⟩
    have I1 : Inv X pins σ (upd H s.heap.objs.size (.tup xs)) { s with heap := h2 } :=
      I.turnedNew (t' := s.toks) (ch := z :: TI :: TO :: its) (fun c o hb e => hk2 c o (fun q => hb (by simp [q])) (hk c o (fun hm => hb (by
        simp only [List.mem_cons] at hm ⊢
        rcases hm with h | h | h
        · exact .inl h
        · exact .inr (.inr (.inl h))
        · exact .inr (.inr (.inr h)))) e)) hf (Nat.le_refl _) new
    have hy : (Itn X.K kd as).yld i H (.ref s.heap.objs.size) (upd H s.heap.objs.size (.tup xs)) := by
      refine ⟨s.heap.objs.size, xs, rfl, I.hok.fresh (Nat.le_refl _), rfl, hlx, fun t a row e1 e2 => ?_⟩
      obtain ⟨x', u, row', items, h1, _, h3, h4, _⟩ := q t a e1
      rw [sqk_inj I h3 e2] at h4
      exact ⟨x', h1, h4⟩
    have hfree : ∀ b ∈ z :: TI :: TO :: its, (upd H s.heap.objs.size (.tup xs)) b = none := fun c hcm => by
      rw [upd_ne (Nat.ne_of_lt (hzl c hcm))]
      exact (hf c hcm).1
    exact ⟨.ref s.heap.objs.size, upd H s.heap.objs.size (.tup xs), I1, rfl, hy, st2, hfree⟩
  done := by
    intro X hP hw hK hc i pins s σ H E I hf st hg
    subst hP hw hK
    obtain ⟨t, a, row, ha, sq, hlen, hpre⟩ := hg
    obtain ⟨its', rv, p, _⟩ := sqk_inv I sq
    have htl : t < its.length := by rw [← D.len]; exact (List.getElem?_eq_some_iff.mp ha).1
    refine zipN_end (I.ok.hd hc) D st (List.getElem?_eq_getElem htl) ha p (by rw [List.getElem?_toArray, ← List.getElem?_eq_none_iff.mpr (show its'.length ≤ i by rw [← rv.length]; exact hlen)]) (fun u l hu el => by
      obtain ⟨row', x, sq', hx'⟩ := hpre u l hu el
      obtain ⟨its2, rv2, p2, _⟩ := sqk_inv I sq'
      obtain ⟨v, hv, _⟩ := rv2.get hx'
      exact ⟨_, v, p2, by simpa using hv⟩) fun h' hk => ⟨rfl, I.turnedL (t' := s.toks) (ch := z :: TI :: TO :: its) (fun c o hb e => hk c o (fun hm => hb (by
        simp only [List.mem_cons] at hm ⊢
        rcases hm with h | h | h
        · exact .inl h
        · exact .inr (.inr (.inl h))
        · exact .inr (.inr (.inr h)))) e) hf⟩
  self := fun A i s Q E st h => let ⟨_, _, hz, _⟩ := st.zo; zip_self hz h
end DD
namespace DD
open PySem PySem.Spec PyProof.Rows L2
def iZipN (K : PySem.W.Frag) (ta : TA) : TI := fun σ H R => ta σ H fun vs H1 => ∃ (kd : Nat → Bool) (as : List Addr), vs = as.map V.ref ∧ as ≠ [] ∧ as.length ≤ 4 ∧ (∀ (t : Nat) (a : Addr), as[t]? = some a → ∃ row, SqK (kd t) K H1 a row) ∧ R (Itn K kd as) H1
theorem vals_refs : ∀ {as : List Addr} {us : List Value}, Vals (as.map V.ref) us → us = as.map Value.ref
  | [], _, .nil => rfl
  | a :: as, _, .cons r rs => by
    rw [vals_refs rs]
    cases r
    rfl
section
variable {X : Cx} {tg : Expr}
theorem zip_come {pins : List (Addr × Obj)} {s : Shared} {σ : L2.St} {H : Hp} {R : It → Hp → Prop} {as : List Addr} {kd : Nat → Bool} (I : Inv X pins σ H s) (h0 : as ≠ []) (h4 : as.length ≤ 4) (ht : ∀ (t : Nat) (a : Addr), as[t]? = some a → ∃ row, SqK (kd t) X.K H a row) (hR : R (Itn X.K kd as) H) :
    wpAny (model X.prog X.w) X.A (call (.type "zip") (as.map Value.ref)) (fun v s1 => wpAny (model X.prog X.w) X.A (pyIter v) (PIE X pins σ tg R) X.xe s1) X.xe s := by
  have htl : ∀ a : Nat, a ∈ as → a < s.heap.objs.size := fun a ha => by
    obtain ⟨t, hta⟩ := List.getElem?_of_mem ha
    obtain ⟨row, sq⟩ := ht t a hta
    obtain ⟨its, _, p, _⟩ := sqk_inv I sq
    generalize kd t = k at p
    cases k
    · obtain ⟨o, ho, _⟩ := (show s.heap.IsTuple a _ from p)
      exact Heap.lt_size ho
    · obtain ⟨o, ho, _⟩ := (show s.heap.IsList a _ from p)
      exact Heap.lt_size ho
  refine call_zipN (kd := kd) h0 h4 (fun t l hl => by obtain ⟨row, sq⟩ := ht t l hl; obtain ⟨its, _, p, _⟩ := sqk_inv I sq; exact ⟨_, p⟩) fun h' its hz he hk => ?_
  obtain ⟨f0, f1, hzo, _⟩ := id hz.zo
  refine zip_self hzo ?_
  have I2 : Inv X pins σ H { s with heap := h' } := I.kept (t' := s.toks) hk
  have hle : ∀ c : Nat, c ∈ (s.heap.objs.size + as.length + 2) :: (s.heap.objs.size + as.length) :: (s.heap.objs.size + as.length + 1) :: its → s.heap.objs.size ≤ c := fun c hc => by
    simp only [List.mem_cons] at hc
    rcases hc with rfl | rfl | rfl | hc
    · omega
    · omega
    · omega
    · rw [he] at hc
      obtain ⟨t, _, rfl⟩ := List.mem_map.mp hc
      omega
  have D : ZAp (s.heap.objs.size + as.length + 2) (s.heap.objs.size + as.length) (s.heap.objs.size + as.length + 1) its as := by
    have hi : ∀ c : Nat, c ∈ its → c < s.heap.objs.size + as.length := fun c hc => by
      rw [he] at hc
      obtain ⟨t, ht, rfl⟩ := List.mem_map.mp hc
      have := List.mem_range.mp ht
      omega
    refine ⟨?_, by rw [he]; simp, by rw [he]; simp; omega, ?_, fun l hl hm => ?_⟩
    · rw [he]
      intro e
      have : as.length = 0 := by simpa using congrArg List.length e
      exact h0 (List.eq_nil_of_length_eq_zero this)
    · refine List.nodup_cons.mpr ⟨fun hm => ?_, List.nodup_cons.mpr ⟨fun hm => ?_, List.nodup_cons.mpr ⟨fun hm => ?_, ?_⟩⟩⟩
      · simp only [List.mem_cons] at hm
        rcases hm with e | e | e
        · exact absurd (show (_ : Nat) = _ from e) (by omega)
        · exact absurd (show (_ : Nat) = _ from e) (by omega)
        · have := hi _ e; omega
      · simp only [List.mem_cons] at hm
        rcases hm with e | e
        · exact absurd (show (_ : Nat) = _ from e) (by omega)
        · have := hi _ e; omega
      · have := hi _ hm; omega
      · rw [he]
        exact (List.pairwise_map.mpr (List.nodup_range.imp (fun {a b} h e => h (Nat.add_left_cancel e))))
    · have := hle l hm
      have := htl l hl
      omega
  exact ⟨_, _, _, _, H, rfl, I2, turn_zipN D, hz, fun b hb => I.fpOk (hle b hb) (I.hok.fresh (hle b hb)), hR⟩
theorem pi_zipN {e : Expr} {es : List Expr} {ta : TA} {p pos : Pos} (hg : Gl X "zip") (hm : X.mg "zip" = none) (ha : PA X (e :: es) ta)
    (hs : starEach (e :: es) X.env = (false, eval e X.env) :: starEach es X.env := by rfl) (hpl : (backTo pos (starEach es X.env)).any (·.1) = false := by rfl) :
    PI X tg (.Call (.Name "zip" p) (e :: es) [] pos) (iZipN X.K ta) := by
  refine ⟨fun pins s σ H R I h => ?_⟩
  refine Call_ (ld_blt I hg hm PyProof.Rows.boot_zip (PyProof.Rows.callWith_type1 (thn (ha.run pos pins s σ H _ I h) fun us s1 ⟨vs, H1, I1, r1, q1⟩ => ?_) hs hpl))
  obtain ⟨kd, as, ex, h0, h4, ht, q⟩ := q1
  subst ex
  rw [vals_refs r1]
  exact zip_come I1 h0 h4 ht q
end
/-- the rows of a table: tuples or lists -/
def rowsD : List D → Option (List (List D))
  | [] => some []
  | .tuple r :: ds => (rowsD ds).map (r :: ·)
  | .list r :: ds => (rowsD ds).map (r :: ·)
  | _ :: _ => none
def kindsD : List D → List Bool
  | [] => []
  | .list _ :: ds => true :: kindsD ds
  | _ :: ds => false :: kindsD ds
/-- the least length -/
def leastL : Nat → List (List D) → Nat
  | n, [] => n
  | n, r :: rs => leastL (min n r.length) rs
theorem leastL_le : ∀ (n : Nat) (rs : List (List D)), leastL n rs ≤ n
  | n, [] => Nat.le_refl _
  | n, r :: rs => Nat.le_trans (leastL_le _ rs) (Nat.min_le_left ..)
theorem leastL_mem : ∀ (n : Nat) (rs : List (List D)) (r : List D), r ∈ rs → leastL n rs ≤ r.length
  | n, r' :: rs, r, h => by
    rcases List.mem_cons.mp h with rfl | h
    · exact Nat.le_trans (leastL_le _ rs) (Nat.min_le_right ..)
    · exact leastL_mem _ rs r h
theorem leastL_eq : ∀ (n : Nat) (rs : List (List D)), (∀ r ∈ rs, n ≤ r.length) → leastL n rs = n
  | n, [], _ => rfl
  | n, r :: rs, h => by
    unfold leastL
    rw [Nat.min_eq_left (h r List.mem_cons_self)]
    exact leastL_eq n rs fun x hx => h x (List.mem_cons_of_mem _ hx)
/-- the first that is that short -/
theorem leastL_at : ∀ (r : List D) (rs : List (List D)), ∃ (t : Nat) (x : List D), (r :: rs)[t]? = some x ∧ x.length = leastL r.length rs ∧ ∀ (u : Nat) (y : List D), u < t → (r :: rs)[u]? = some y → leastL r.length rs < y.length := by
  intro r rs
  have ex : ∃ (t : Nat) (x : List D), (r :: rs)[t]? = some x ∧ x.length = leastL r.length rs := by
    have gen : ∀ (n : Nat) (rs : List (List D)), leastL n rs = n ∨ ∃ x ∈ rs, x.length = leastL n rs := by
      intro n rs
      induction rs generalizing n with
      | nil => exact .inl rfl
      | cons a rs ih =>
        unfold leastL
        rcases ih (min n a.length) with h | ⟨x, hx, e⟩
        · rcases Nat.le_total n a.length with h2 | h2
          · left; rw [h, Nat.min_eq_left h2]
          · right; exact ⟨a, List.mem_cons_self, by rw [h, Nat.min_eq_right h2]⟩
        · exact .inr ⟨x, List.mem_cons_of_mem _ hx, e⟩
    rcases gen r.length rs with h | ⟨x, hx, e⟩
    · exact ⟨0, r, rfl, h.symm⟩
    · obtain ⟨t, ht⟩ := List.getElem?_of_mem hx
      exact ⟨t + 1, x, by simpa using ht, e⟩
  obtain ⟨t, x, h1, h2⟩ := ex
  induction t using Nat.strongRecOn generalizing x with
  | ind t ih =>
    by_cases hc : ∃ (u : Nat) (y : List D), u < t ∧ (r :: rs)[u]? = some y ∧ y.length = leastL r.length rs
    · obtain ⟨u, y, hu, e1, e2⟩ := hc
      exact ih u hu y e1 e2
    · refine ⟨t, x, h1, h2, fun u y hu e => ?_⟩
      have hle : leastL r.length rs ≤ y.length := by
        cases u with
        | zero => simp at e; subst e; exact leastL_le _ _
        | succ u => exact leastL_mem _ _ _ (List.mem_of_getElem? (by simpa using e))
      rcases Nat.lt_or_eq_of_le hle with h | h
      · exact h
      · exact absurd ⟨u, y, hu, e, h.symm⟩ hc
def zipD (ds : List D) : Option (List D) :=
  match rowsD ds with
  | some (r :: rs) => if rs.length ≤ 3 then some ((List.range (leastL r.length rs)).map fun i => .tuple ((r :: rs).map fun x => x.getD i .none)) else none
  | _ => none
theorem zipD_old {ds : List D} {r : List D} {rs : List (List D)} (h : rowsD ds = some (r :: rs)) (h3 : rs.length ≤ 3) (hl : ∀ x ∈ rs, r.length ≤ x.length) : zipD ds = some ((List.range r.length).map fun i => .tuple ((r :: rs).map fun x => x.getD i .none)) := by
  unfold zipD
  rw [h]
  simp only
  rw [if_pos h3, leastL_eq _ _ hl]
theorem rows_da {K : PySem.W.Frag} {G : Hp} : ∀ {ds : List D} {rs : List (List D)} {xs : List V}, DaAll K G xs ds → rowsD ds = some rs → ∃ as : List Addr, xs = as.map V.ref ∧ as.length = rs.length ∧ ∀ (t : Nat) (a : Addr), as[t]? = some a → ∃ row r, SqK ((kindsD ds).getD t false) K G a row ∧ rs[t]? = some r ∧ DaAll K G row r
  | [], rs, _, .nil, e => by cases e; exact ⟨[], rfl, rfl, fun t a h => by simp at h⟩
  | .tuple r :: ds, rs, _, .cons h hs, e => by
    unfold rowsD at e
    obtain ⟨rs', e', rfl⟩ := Option.map_eq_some_iff.mp e
    obtain ⟨as, ex, el, q⟩ := rows_da hs e'
    obtain ⟨a, xs, rfl, sq, da⟩ := h.toT
    refine ⟨a :: as, by rw [ex]; rfl, by simp [el], fun t b hb => ?_⟩
    cases t with
    | zero => simp at hb; subst hb; exact ⟨xs, r, sq, rfl, da⟩
    | succ t => exact q t b (by simpa using hb)
  | .list r :: ds, rs, _, .cons h hs, e => by
    unfold rowsD at e
    obtain ⟨rs', e', rfl⟩ := Option.map_eq_some_iff.mp e
    obtain ⟨as, ex, el, q⟩ := rows_da hs e'
    cases h with
    | lst hl da =>
      rename_i a xs
      refine ⟨a :: as, by rw [ex]; rfl, by simp [el], fun t b hb => ?_⟩
      cases t with
      | zero => simp at hb; subst hb; exact ⟨xs, r, SqL.of hl, rfl, da⟩
      | succ t => exact q t b (by simpa using hb)
  | .none :: _, _, _, .cons _ _, e => by cases e
  | .bool _ :: _, _, _, .cons _ _, e => by cases e
  | .int _ :: _, _, _, .cons _ _, e => by cases e
  | .str _ :: _, _, _, .cons _ _, e => by cases e
  | .dict _ :: _, _, _, .cons _ _, e => by cases e
theorem zipD_w {K : PySem.W.Frag} {G : Hp} {ds out : List D} {xs : List V} (da : DaAll K G xs ds) (e : zipD ds = some out) : ∃ (kd : Nat → Bool) (as : List Addr), xs = as.map V.ref ∧ as ≠ [] ∧ as.length ≤ 4 ∧ (∀ (t : Nat) (a : Addr), as[t]? = some a → ∃ row, SqK (kd t) K G a row) ∧ WalkD K G (Itn K kd as) out := by
  unfold zipD at e
  split at e
  · rename_i r rs er
    split at e
    · rename_i h3
      cases e
      obtain ⟨as, rfl, el, q⟩ := rows_da da er
      have hlen : ∀ (t : Nat) (x : List D), (r :: rs)[t]? = some x → leastL r.length rs ≤ x.length := fun t x hx => by
        cases t with
        | zero => simp at hx; subst hx; exact leastL_le _ _
        | succ t => exact leastL_mem _ _ x (List.mem_of_getElem? (by simpa using hx))
      refine ⟨fun t => (kindsD ds).getD t false, as, rfl, fun e => by subst e; simp at el, by simp at el; omega, fun t a ht => ?_, ?_, ?_, ?_⟩
      · obtain ⟨row, _, sq, _⟩ := q t a ht
        exact ⟨row, sq⟩
      · intro i H hi sm t a ht
        obtain ⟨row, x, sq, hx, dr⟩ := q t a ht
        have h1 := hlen t x hx
        have h2 := dr.length
        have h3 : i < row.length := by simp at hi; omega
        exact ⟨row, row[i], sq.mono sm, by simp [h3]⟩
      · intro H sm
        obtain ⟨t, x, hx, hxl, hpre⟩ := leastL_at r rs
        have ht : t < as.length := by rw [el]; exact (List.getElem?_eq_some_iff.mp hx).1
        obtain ⟨row, x', sq, hx', dr⟩ := q t as[t] (List.getElem?_eq_getElem ht)
        rw [hx] at hx'
        cases hx'
        refine ⟨t, as[t], row, List.getElem?_eq_getElem ht, sq.mono sm, by rw [dr.length, hxl]; simp, fun u b hu hb => ?_⟩
        obtain ⟨row', y, sq', hy, dr'⟩ := q u b hb
        have h1 := hpre u y hu hy
        have h2 := dr'.length
        have h3 : leastL r.length rs < row'.length := by omega
        exact ⟨row', row'[leastL r.length rs], sq'.mono sm, by simp [h3]⟩
      · intro i H G1 x H' hi sm s1 y
        obtain ⟨T, ys, rfl, hT, rfl, hyl, hy⟩ := y
        have hi' : i < leastL r.length rs := by simpa using hi
        refine ⟨.tuple ((r :: rs).map fun x => x.getD i .none), upd G1 T (.tup ys), by simp [hi'], Gr.alloc s1 hT, ?_⟩
        have gr := Gr.alloc (u := .tup ys) s1 hT
        refine .tup (.inl (.inl upd_same)) ?_
        have all : ∀ (bs : List Addr) (zs : List V) (rr : List (List D)), zs.length = bs.length → bs.length = rr.length → (∀ (t : Nat) (a : Addr), bs[t]? = some a → ∃ x row r', zs[t]? = some x ∧ row[i]? = some x ∧ rr[t]? = some r' ∧ DaAll K G row r') → DaAll K (upd G1 T (.tup ys)) zs (rr.map fun x => x.getD i .none) := by
          intro bs
          induction bs with
          | nil =>
            intro zs rr e1 e2 _
            obtain rfl := List.eq_nil_of_length_eq_zero (by simpa using e1)
            obtain rfl := List.eq_nil_of_length_eq_zero (by simpa using e2.symm)
            exact .nil
          | cons b bs ih =>
            intro zs rr e1 e2 hq
            cases zs with
            | nil => simp at e1
            | cons z zs =>
              cases rr with
              | nil => simp at e2
              | cons r1 rr =>
                refine .cons ?_ (ih zs rr (by simpa using e1) (by simpa using e2) fun t a ha => by
                  have := hq (t + 1) a (by simpa using ha)
                  simpa using this)
                obtain ⟨x, row, r', z1, z2, z3, z4⟩ := hq 0 b rfl
                simp at z1 z3
                subst z1 z3
                obtain ⟨d, z5, z6⟩ := z4.getV z2
                have : r1.getD i .none = d := by simp [List.getD, z5]
                show Da K _ z (r1.getD i .none)
                rw [this]
                exact z6.mono (sm.trans gr.g)
        refine all as ys (r :: rs) (by omega) el fun t a ha => ?_
        obtain ⟨row, x, sq, hx, dr⟩ := q t a ha
        obtain ⟨z, z1, z2⟩ := hy t a row ha (sq.mono (sm.subm s1))
        exact ⟨z, row, x, z1, z2, hx, dr⟩
    · cases e
  · cases e
section
variable {m : Type → Type} [Mo m] {X : Cx} {EX : XR} {g : List Sl} {tg : Expr}
/-- zip(a, b), tuples -/
theorem ij_zip2 {a b : Expr} {p pos : Pos} {x y : m D} (hm : X.mg "zip" = none) (h : EJ X EX a g x) (h2 : EJ X EX b g y) (hg : Gl X "zip" := by rfl)
    (hs' : starEach [a, b] X.env = (false, eval a X.env) :: starEach [b] X.env := by rfl) (hs2' : starEach [b] X.env = (false, eval b X.env) :: starEach [] X.env := by rfl) (hpl : (backTo pos (starEach [b] X.env)).any (·.1) = false := by rfl) :
    IJ X EX tg (.Call (.Name "zip" p) [a, b] [] pos) g (x >>= fun d => y >>= fun e => Mo.lift (zipD [d, e])) :=
  (pi_zipN hg hm (pa_cons h (pa_cons h2 pa_nil hs2') hs') hs' hpl).weak fun σ H R ⟨B, G, n, φ, ξ, o, s, q, xw⟩ => te_one o s (fun v H1 G1 d n1 o1 g1 d1 s1 => te_one o1 s1 (fun w H2 G2 e n2 o2 g2 d2 s2 => by
    obtain ⟨out, ed, pd⟩ := Mo.sat_lift s2
    obtain ⟨kd, as, ex, h0, h4, ht, wk⟩ := zipD_w (.cons (d1.mono g2) (.cons d2 .nil)) ed
    exact ⟨kd, as, ex, h0, h4, fun t b hb => by obtain ⟨row, z⟩ := ht t b hb; exact ⟨row, z.mono o2.fm.sub⟩, q _ H2 G2 out n2 o2 (g1.trans g2) wk pd⟩) xw) xw
end
end DD
namespace DD
open PySem PySem.Spec PyProof.Rows L2
/-! ### the law's call, where no repr runs around it -/
abbrev SysAt (h : Heap) : Prop := ∃ o es ep, h.get? sysModules = some o ∧ o.data = .dict es ep
def scrO (vs : List Value) : Obj := { cls := .type "list", data := .seq vs.toArray }
def scrH (K : PySem.W.Frag) (a : Addr) (vs : List Value) (ns : List Int) : Hp := fun b => if b = a ∧ K.lookup a = none then some (.frz (scrO vs) (.lst (ns.map V.int))) else none
theorem scr_at {K : PySem.W.Frag} {a b : Addr} {vs : List Value} {ns : List Int} {u : HO} (h : scrH K a vs ns b = some u) : b = a ∧ K.lookup a = none ∧ u = .frz (scrO vs) (.lst (ns.map V.int)) := by
  unfold scrH at h
  split at h
  · rename_i e
    cases h
    exact ⟨e.1, e.2, rfl⟩
  · cases h
theorem scr_seq {K : PySem.W.Frag} {h : Heap} {a : Addr} {vs : List Value} {ns : List Int} (KX : K.In h) (ha : h.get? a = some (scrO vs)) (hi : IntsAre vs ns) (hl : ns.length ≤ sizeLine) : SqL K (scrH K a vs ns) a (ns.map V.int) := by
  cases hk : K.lookup a with
  | none => exact .inl (.inr ⟨scrO vs, by unfold scrH; rw [if_pos ⟨rfl, hk⟩]⟩)
  | some o =>
    have e := (KX a o hk).symm.trans ha
    cases e
    exact .inr ⟨_, vs.toArray, _, hk, rfl, rfl, rfl, by rw [List.size_toArray, hi.length]; exact hl, by simpa using vals_ints hi⟩
theorem call_lawG {P : Program} {w : World} {K : PySem.W.Frag} {mg mb : Str → Option Value} {k : Nat} {fa a : Addr} {fd : FuncData} {x : Str} {sp : Sp} {s : Shared} {vs : List Value} {ns : List Int}
    (KX : K.In s.heap) (hns : s.heap.Ns mainGlobals mg) (hb : s.heap.Ns builtinsNs mb) (hbb : ∀ y : Str, y ≠ "__name__" → mb y = bootBuiltins y) (hlim : s.heap.NoLimit) (hy : SysAt s.heap) (hg : s.gens = #[])
    (ha : s.heap.get? a = some (scrO vs)) (hi : IntsAre vs ns) (hl : ns.length ≤ sizeLine) (hr : Room k callerA)
    (F : ∀ base : Heap, K.In base → base.Ns mainGlobals mg → SysAt base → FnG P w K mg base k fa fd [x] sp) (hbind : ∀ (s : Shared) (u : Value), BindsTo s fd ⟨[u], []⟩ [(x, u)])
    (hsp : ∀ H : Hp, SqL K H a (ns.map V.int) → sp [.ref a] H (fun v _ => v = .bl true) E0) :
    codeAny (model P w) callerA (.call (.ref fa) ⟨[.ref a], []⟩) (fun r s' => r = .ok (.ret (.bool true)) ∧ OldK s.heap s'.heap ∧ s'.os = s.os ∧ AllBare s'.gens) s := by
  have hok : HOk P w (scrH K a vs ns) s.heap := fun b u z => by
    obtain ⟨rfl, _, rfl⟩ := scr_at z
    exact ⟨ha, by rw [List.length_map]; exact hl, vs, _, vals_ints hi, ha⟩
  have noA : ∀ {b : Addr} {o : Obj} {es : Array DictEntry} {ep : Nat}, s.heap.get? b = some o → o.data = .dict es ep → scrH K a vs ns b = none := fun {b o es ep} e d => by
    cases q : scrH K a vs ns b with
    | none => rfl
    | some u =>
      obtain ⟨rfl, _, _⟩ := scr_at q
      rw [ha] at e
      cases e
      exact absurd (show Data.seq vs.toArray _ = Data.dict es ep from d) (by simp)
  have nsK : ∀ {b : Addr} {m : Str → Option Value}, s.heap.Ns b m → (hidT s.heap (scrH K a vs ns)).Ns b m := fun ⟨o, es, ep, e, d, r⟩ => ⟨o, es, ep, hidT_get e (noA e d), d, r⟩
  have hKb : K.In (hidT s.heap (scrH K a vs ns)) := fun b o e => hidT_get (KX b o e) (by
    cases q : scrH K a vs ns b with
    | none => rfl
    | some u =>
      obtain ⟨rfl, hn, _⟩ := scr_at q
      rw [hn] at e
      cases e)
  have hyb : SysAt (hidT s.heap (scrH K a vs ns)) := let ⟨o, es, ep, e, d⟩ := hy; ⟨o, es, ep, hidT_get e (noA e d), d⟩
  have hM : Mod K mg (hidT s.heap (scrH K a vs ns)) := ⟨hKb, nsK hns, ⟨mb, nsK hb, hbb⟩, let ⟨mc, h1, h2⟩ := hlim; ⟨mc, nsK h1, h2⟩⟩
  have nil : ∀ b : Addr, ¬ b ∈ frs ([] : List Env) := fun b h => by simp [frs] at h
  have e0 : Env0 P w K mg (hidT s.heap (scrH K a vs ns)) callerA [] s (scrH K a vs ns) := ⟨rfl, hM, fun b o e => of_hidT e, Nat.le_of_eq (hidT_size _ _), trivial, fun b h => absurd h (nil b), hok, .of_eq hg⟩
  refine codeAny_mono ((F _ hKb (nsK hns) hyb).run callerA [] s _ ⟨[.ref a], []⟩ [.ref a] [.ref a] _ _ hr rfl e0 (hbind s (.ref a)) (.cons rfl .nil) (hsp _ (scr_seq KX ha hi hl))) fun r s' h => ?_
  match r, h with
  | .error _, h => exact False.elim h
  | .ok (.ret u), ⟨v, H', os, bare, un, hok', r', q⟩ =>
    have q' : v = .bl true := q
    subst q'
    obtain rfl : u = Value.bool true := r'
    refine ⟨rfl, OldK.of_keep fun b o e => ?_, os, bare⟩
    cases q : scrH K a vs ns b with
    | none => exact un.keep b o e q (nil b) (by simp)
    | some z =>
      obtain ⟨rfl, _, rfl⟩ := scr_at q
      rw [ha] at e
      cases e
      exact (hok' _ _ (un.frzs _ _ _ q)).1
theorem walk_g {l : PySem.W.OpenLaw} {n k : Nat} {q : Program} {loose : List Str} {XP : (Str → Option Value) → Heap → Prop} {YP : World → Heap → Prop} {d : DefRec} {K : Params → PySem.W.Frag} {sp : World → Sp} {x : Str}
    (hn : l.most = some n) (hn2 : n ≤ sizeLine) (hdf : d.params.defaults = []) (hr : Room k callerA) (himp : importsNone q = true) (hY : ∀ (w : World) (h : Heap), YP w h → (K w.params).In h)
    (F : ∀ (w : World) (mg : Str → Option Value) (fa : Addr) (h : Heap), (K w.params).In h → h.Ns mainGlobals mg → mg d.name = some (.ref fa) →
      ∃ fd : FuncData, (∀ (s : Shared) (u : Value), BindsTo s fd ⟨[u], []⟩ [(x, u)]) ∧ ∀ base : Heap, (K w.params).In base → base.Ns mainGlobals mg → SysAt base → FnG l.prog w (K w.params) mg base k fa fd [x] (sp w))
    (hsp : ∀ (w : World) (H : Hp) (a : Addr) (ns : List Int), ns.length ≤ n → SqL (K w.params) H a (ns.map V.int) → sp w [.ref a] H (fun v _ => v = .bl true) E0) :
    PySem.W.WalkO q loose XP YP l.row.toRowW d [] (fun f vs => PySem.call f vs) := by
  refine Att.attach_call hn hdf fun w s0 s1 mg mb fa o pm cd doc a vs ns G Y ho hd hcd hmg hobj hints hlen hg => ?_
  obtain ⟨fd, hb, hF⟩ := F w mg fa _ (hY w _ Y) G.T.g hmg
  have hy : SysAt s1.heap := let ⟨_, ⟨o, es, ep, e, d, _⟩, _⟩ := (G.T.seer himp).mods; ⟨o, es, ep, e, d⟩
  exact call_lawG (hY w _ Y) G.T.g G.T.b G.T.builtins G.T.nolimit hy hg hobj hints (Nat.le_trans hlen hn2) hr hF hb fun H hS => hsp w H a ns hlen hS
end DD
namespace DD
open PySem PySem.Spec PyProof.Rows L2
/-! ### the deck: made, drawn from -/
def spLaw (K : PySem.W.Frag) : Sp := fun vs H Q _ => ∃ (a : Addr) (ns : List Int), vs = [.ref a] ∧ SqL K H a (ns.map V.int) ∧ ∀ H', Q (.bl true) H'
theorem FnG.weak {P : Program} {w : World} {K : PySem.W.Frag} {mg : Str → Option Value} {base : Heap} {k : Nat} {f : Addr} {fd : FuncData} {ps : List Str} {sp sp' : Sp} (F : FnG P w K mg base k f fd ps sp) (h : ∀ vs H Q E, sp' vs H Q E → sp vs H Q E) : FnG P w K mg base k f fd ps sp' :=
  ⟨fun vs H Q E q => F.len vs H Q E (h _ _ _ _ q), fun A outer s H args us vs Q E r gu e b v q => F.run A outer s H args us vs Q E r gu e b v (h _ _ _ _ q)⟩
theorem DeckAt.more {H : Hp} {a b : Addr} {n n' : Nat} (h : DeckAt H a b n) (hn : n ≤ n') : DeckAt H a b n' := by
  obtain ⟨cs, c, h1, h2, h3, h4, h5, h6⟩ := h
  exact ⟨cs, c, h1, h2, h3, h4, by omega, h6⟩
end DD
namespace DD
open PySem PySem.Spec PyProof.Rows L2
/-! ### the deck's own code: what it means -/
theorem same_new {H : Hp} {p : Addr} (h : H p = none) (o : HO) : Same H (upd H p o) := same_upd h
theorem line63 {n : Nat} (h : n ≤ 1000) : n ≤ sizeLine := Nat.le_trans h (by decide)
/-- a comprehension's scope, checked -/
def blkB (N : List Str) (sc scope : Scope) (own : List (Str × Nat)) : Bool :=
  decide (scope.kind = .function) && scope.names.all (fun y => decide (scope.names.lookup y.1 = some y.2)) && own.all (fun p => decide (N[p.2]? = some p.1)) &&
  scope.names.all (fun y => !decide (y.2 = .free) || (decide (sc.names.lookup y.1 = some .cell) || decide (sc.names.lookup y.1 = some .free))) &&
  scope.names.all (fun y => !(decide (y.2 = .local) || decide (y.2 = .cell)) || (decide (y.1 ∈ own.map (·.1)) || !decide (y.1 ∈ N)))
theorem blk_of {N : List Str} {sc scope : Scope} {own : List (Str × Nat)} (h : blkB N sc scope own = true) : BlkOk N sc scope own := by
  unfold blkB at h
  simp only [Bool.and_eq_true, List.all_eq_true, Bool.or_eq_true, Bool.not_eq_true', decide_eq_true_eq, decide_eq_false_iff_not, Bool.or_eq_false_iff] at h
  obtain ⟨⟨⟨⟨h1, h2⟩, h3⟩, h4⟩, h5⟩ := h
  refine ⟨h1, h2, h3, fun y hy e => ?_, fun y hy e => ?_⟩
  · rcases h4 y hy with z | z
    · exact absurd e z
    · exact z
  · rcases h5 y hy with z | z
    · rcases e with e | e
      · exact absurd e z.1
      · exact absurd e z.2
    · exact z
theorem atI_at {α : Type} {xs : List α} {i : Int} {j : Nat} {x : α} (h : i = (j : Int)) (e : xs[j]? = some x) : atI xs i = some x := by
  subst h
  exact atI_nat e
theorem ixN_at {n : Nat} {i : Int} {j : Nat} (h : i = (j : Int)) (e : j < n) : ixN n i = some j := by
  subst h
  unfold ixN
  rw [if_pos (by omega), if_pos (by omega)]
  simp
end DD
namespace DD
open PySem PySem.Spec PyProof.Rows L2
/-! ### mirrors' words -/
section
variable {m : Type → Type} [Mo m]
abbrev op2 (f : D → D → Option D) (x y : m D) : m D := x >>= fun dx => y >>= fun dy => Mo.lift (f dx dy)
abbrev op1 (f : D → Option D) (x : m D) : m D := x >>= fun d => Mo.lift (f d)
abbrev cmp2 (f : D → D → Option D) (x y : m D) : m Bool := x >>= fun dx => y >>= fun dy => Mo.lift ((f dx dy).bind boolD)
abbrev chain3 (f f' : D → D → Option D) (x y z : m D) : m D := x >>= fun dx => y >>= fun dy => Mo.lift ((f dx dy).bind boolD) >>= fun k => if k = true then (z >>= fun dz => Mo.lift (f' dy dz)) else pure (.bool false)
abbrev tst (x : m D) : m Bool := x >>= fun d => Mo.lift (boolD d)
abbrev notB (x : m Bool) : m Bool := x >>= fun b => pure (!b)
abbrev andB (x y : m Bool) : m Bool := x >>= fun k => if k = true then y else pure false
abbrev orB (x y : m Bool) : m Bool := x >>= fun k => if k = true then pure true else y
abbrev andD (x y : m D) : m D := x >>= fun d => Mo.lift (boolD d) >>= fun k => if k = true then y else pure (.bool false)
abbrev orD (x y : m D) : m D := x >>= fun d => Mo.lift (boolD d) >>= fun k => if k = true then pure (.bool true) else y
abbrev iteM {α : Type} (t : m Bool) (x y : m α) : m α := t >>= fun k => if k = true then x else y
abbrev consM (x : m D) (y : m (List D)) : m (List D) := x >>= fun d => y >>= fun ds => pure (d :: ds)
abbrev starM (x : m D) (y : m (List D)) : m (List D) := x >>= fun d => Mo.lift (itemsD d) >>= fun as => y >>= fun ds => pure (as ++ ds)
abbrev smallM (x : m (List D)) : m (List D) := x >>= fun ds => Mo.lift (small ds)
abbrev tupM (x : m (List D)) : m D := x >>= fun ds => pure (.tuple ds)
abbrev tupSM (x : m (List D)) : m D := x >>= fun ds => Mo.lift (small ds) >>= fun ds => pure (.tuple ds)
abbrev lstM (x : m (List D)) : m D := x >>= fun ds => pure (.list ds)
abbrev argV (x : m D) (y : m (List Sl)) : m (List Sl) := x >>= fun d => y >>= fun as => pure (.val d :: as)
abbrev argK (y : m (List Sl)) : m (List Sl) := y >>= fun as => pure (.deck :: as)
abbrev comp1 (x : m (List D)) (f : D → m D) : m (List D) := x >>= fun ds => Mo.lift (small ds) >>= fun ds => lcA (fun d => someM (f d)) ds []
abbrev comp1i (x : m (List D)) (t : D → m Bool) (f : D → m D) : m (List D) := x >>= fun ds => Mo.lift (small ds) >>= fun ds => lcA (fun d => ifM (t d) (f d)) ds []
abbrev comp2 (x : m (List D)) (f : D → D → m D) : m (List D) := x >>= fun ds => Mo.lift (small ds) >>= fun ds => lcA (fun d => pairM d fun a b => someM (f a b)) ds []
abbrev comp2i (x : m (List D)) (t : D → D → m Bool) (f : D → D → m D) : m (List D) := x >>= fun ds => Mo.lift (small ds) >>= fun ds => lcA (fun d => pairM d fun a b => ifM (t a b) (f a b)) ds []
abbrev seqM (x : m D) : m (List D) := x >>= fun d => Mo.lift (itemsD d)
abbrev rng1 (x : m D) : m (List D) := x >>= fun d => Mo.lift (rangeD1 d)
abbrev rng2 (x y : m D) : m (List D) := x >>= fun d => y >>= fun e => Mo.lift (rangeD2 d e)
abbrev zipSM (x : m D) : m (List D) := x >>= fun d => Mo.lift ((itemsD d).bind zipD)
abbrev zip2M (x y : m D) : m (List D) := x >>= fun d => y >>= fun e => Mo.lift (zipD [d, e])
abbrev zip3M (x y z : m D) : m (List D) := x >>= fun d => y >>= fun e => z >>= fun f => Mo.lift (zipD [d, e, f])
abbrev partM (x : m D) : m (Option Int) := x >>= fun d => Mo.lift (oint d)
abbrev slcM (x : m D) (y z : m (Option Int)) : m D := x >>= fun d => y >>= fun l => z >>= fun h => Mo.lift (sliceD d l h)
abbrev isiM (T : String) (x : m D) : m D := x >>= fun d => pure (.bool (isiB T d))
abbrev rtM {A : Type} (x : m D) : m (Fl A) := x >>= fun d => pure (.rt d)
abbrev forM1 {A : Type} (x : m (List D)) (a0 : A) (b : D → A → m (Fl A)) : m (Fl A) := x >>= fun ds => loopM b ds a0
abbrev forM2 {A : Type} (x : m (List D)) (a0 : A) (b : D → D → A → m (Fl A)) : m (Fl A) := x >>= fun ds => loopM (fun d a => pairM d fun u w => b u w a) ds a0
abbrev parM {α β : Type} (x : m α) (y : m β) : m (α × β) := x >>= fun d => y >>= fun e => pure (d, e)
def pairD : D → Option (D × D)
  | .tuple [a, b] => some (a, b)
  | _ => none
def tripD : D → Option (D × D × D)
  | .tuple [a, b, c] => some (a, b, c)
  | _ => none
abbrev unp2 (x : m D) : m (D × D) := x >>= fun d => Mo.lift (pairD d)
abbrev unp3 (x : m D) : m (D × D × D) := x >>= fun d => Mo.lift (tripD d)
end
abbrev upW (o : Option D) : W D := Up.up (m' := Option) (m := W) o
/-! ### defs by their names -/
structure Def (P : Program) (w : World) (K : PySem.W.Frag) (mg : Str → Option Value) (base : Heap) (k : Nat) (x : Str) (ps : List Str) (sp : Sp) : Prop where
  ex : ∃ f fd, FnG P w K mg base k f fd ps sp ∧ mg x = some (.ref f) ∧ PySem.W.keepIn K (.ref f) = true ∧ Binds K fd ps []
section
variable {m : Type → Type} [Mo m] {A : Type} {X : Cx} {EX : XR} {g : List Sl} {k : Nat} {ps : List Str}
theorem ej_callD {x : Str} {p pos : Pos} {e : Expr} {es : List Expr} {F : List Sl → m D} {y : m (List Sl)} [Calm m] (Fn : Def X.prog X.w X.K X.mg X.base k x ps (spJ X.K F)) (hr : Room k X.A) (gu : X.A.guards = some [])
    (ha : AJ X EX (e :: es) g y) (hg : Gl X x := by rfl) (hd : (x == ("__debug__" : Str)) = false := by decide) (he : starEach (e :: es) X.env = (false, eval e X.env) :: starEach es X.env := by rfl) (hpl : (backTo pos (starEach es X.env)).any (·.1) = false := by rfl) :
    EJ X EX (.Call (.Name x p) (e :: es) [] pos) g (y >>= F) := by
  obtain ⟨f, fd, h1, h2, h3, h4⟩ := Fn.ex
  exact ej_call h1 hr gu h2 h3 h4 ha hg hd he hpl
theorem units_of {A : Around} {k : Nat} (h : Room k A) : A.units + 64 < cLine := by
  have := h.un
  omega
end
section
variable {m : Type → Type} [Mo m] {P : Program} {w : World} {K : PySem.W.Frag} {mg : Str → Option Value} {base : Heap} {k : Nat} {x qual : Str} {st : Stmt} {f : Addr} {fd : FuncData} {N ps : List Str}
def ar1 (F : D → m D) : List Sl → m D
  | [.val a0] => F a0
  | _ => Mo.lift none
theorem fn_ar1 {F : D → m D} (Fu : Fun K x qual st f fd) (S : FnScope N ps (defScope st)) (hl : ps.length = 1)
    (hb : ∀ (a0 : D), ∀ (cdv : Value) (A : Around) (outer : List Env) (s : Shared) (H : Hp) (E : XK), Room k (A.deeper (envOfC qual (defScope st) s.heap.objs.size f cdv)) → A.guards = some [] →
      FJ (cxOf CX0 P w K mg base N qual (defScope st) f cdv A outer s H E).nox X0 true (defBody st) ([Sl.val a0] ++ List.replicate (N.length - 1) .any) (F a0)) : FnG P w K mg base (k + 1) f fd ps (spJ K (ar1 F)) := by
  refine fn_j Fu S fun as n φ s => ?_
  unfold ar1 at s
  split at s
  · exact ⟨hl.symm, hb _⟩
  · obtain ⟨_, e, _⟩ := Mo.sat_lift s
    cases e
def ar2 (F : D → D → m D) : List Sl → m D
  | [.val a0, .val a1] => F a0 a1
  | _ => Mo.lift none
theorem fn_ar2 {F : D → D → m D} (Fu : Fun K x qual st f fd) (S : FnScope N ps (defScope st)) (hl : ps.length = 2)
    (hb : ∀ (a0 : D) (a1 : D), ∀ (cdv : Value) (A : Around) (outer : List Env) (s : Shared) (H : Hp) (E : XK), Room k (A.deeper (envOfC qual (defScope st) s.heap.objs.size f cdv)) → A.guards = some [] →
      FJ (cxOf CX0 P w K mg base N qual (defScope st) f cdv A outer s H E).nox X0 true (defBody st) ([Sl.val a0, Sl.val a1] ++ List.replicate (N.length - 2) .any) (F a0 a1)) : FnG P w K mg base (k + 1) f fd ps (spJ K (ar2 F)) := by
  refine fn_j Fu S fun as n φ s => ?_
  unfold ar2 at s
  split at s
  · exact ⟨hl.symm, hb _ _⟩
  · obtain ⟨_, e, _⟩ := Mo.sat_lift s
    cases e
def ar4 (F : D → D → D → D → m D) : List Sl → m D
  | [.val a0, .val a1, .val a2, .val a3] => F a0 a1 a2 a3
  | _ => Mo.lift none
theorem fn_ar4 {F : D → D → D → D → m D} (Fu : Fun K x qual st f fd) (S : FnScope N ps (defScope st)) (hl : ps.length = 4)
    (hb : ∀ (a0 : D) (a1 : D) (a2 : D) (a3 : D), ∀ (cdv : Value) (A : Around) (outer : List Env) (s : Shared) (H : Hp) (E : XK), Room k (A.deeper (envOfC qual (defScope st) s.heap.objs.size f cdv)) → A.guards = some [] →
      FJ (cxOf CX0 P w K mg base N qual (defScope st) f cdv A outer s H E).nox X0 true (defBody st) ([Sl.val a0, Sl.val a1, Sl.val a2, Sl.val a3] ++ List.replicate (N.length - 4) .any) (F a0 a1 a2 a3)) : FnG P w K mg base (k + 1) f fd ps (spJ K (ar4 F)) := by
  refine fn_j Fu S fun as n φ s => ?_
  unfold ar4 at s
  split at s
  · exact ⟨hl.symm, hb _ _ _ _⟩
  · obtain ⟨_, e, _⟩ := Mo.sat_lift s
    cases e
def dk1 (F : D → m D) : List Sl → m D
  | [.deck, .val a0] => F a0
  | _ => Mo.lift none
end
end DD
namespace DD
open PySem PySem.Spec PyProof.Rows L2
/-! ### reasoning about mirrors that draw: at most b draws, then φ -/
def Tri {α : Type} (b : Nat) (x : W α) (φ : α → Prop) : Prop := ∀ (n : Nat) (ψ : α → Nat → Prop), n + b ≤ 2 ^ 40 → (∀ a n', n' ≤ n + b → φ a → ψ a n') → x n ψ
section
variable {α β : Type} {b c : Nat}
theorem Tri.pure {a : α} {φ : α → Prop} (h : φ a) : Tri 0 (Pure.pure a : W α) φ := fun n ψ _ q => q a n (Nat.le_refl _) h
theorem Tri.bind {x : W α} {f : α → W β} {φ : α → Prop} {χ : β → Prop} (h : Tri b x φ) (hf : ∀ a, φ a → Tri c (f a) χ) : Tri (b + c) (x >>= f) χ := fun n ψ hn q =>
  h n (fun a n' => f a n' ψ) (by omega) fun a n' hn' ha => hf a ha n' ψ (by omega) fun a2 n2 h2 p2 => q a2 n2 (by omega) p2
theorem Tri.lift {o : Option α} {a : α} {φ : α → Prop} (e : o = some a) (h : φ a) : Tri 0 (Mo.lift o : W α) φ := fun n ψ _ q => ⟨a, e, q a n (Nat.le_refl _) h⟩
theorem Tri.mono {x : W α} {φ χ : α → Prop} (h : Tri b x φ) (hb : b ≤ c) (hp : ∀ a, φ a → χ a) : Tri c x χ := fun n ψ hn q => h n ψ (by omega) fun a n' hn' ha => q a n' (by omega) (hp a ha)
theorem Tri.le {x : W α} {φ : α → Prop} (h : Tri b x φ) (hb : b ≤ c) : Tri c x φ := h.mono hb fun _ z => z
theorem Tri.up {o : Option D} {a : D} {φ : D → Prop} (e : o = some a) (h : φ a) : Tri 0 (upW o) φ := fun n ψ _ q => ⟨a, e, q a n (Nat.le_refl _) h⟩
/-- behind a loop: it went on, or handed back -/
def Post {A : Type} (I : A → Prop) (R : D → Prop) : Fl A → Prop
  | .nx a => I a
  | .rt v => R v
theorem Tri.sat {x : W D} {φ : D → Prop} (h : Tri b x φ) (hb : b ≤ 2 ^ 40) : Mo.sat x 0 (fun d _ => φ d) (fun _ _ => False) := ⟨rfl, h 0 (fun d _ => φ d) (by omega) fun _ _ _ z => z⟩
end
/-! ### mirrors that do not draw -/
/-! ### tuples of ints -/
abbrev tI (r : List Int) : D := .tuple (r.map .int)
abbrev tT (rows : List (List Int)) : D := .tuple (rows.map tI)
theorem ints_of : ∀ r : List Int, intsD (r.map .int) = some r
  | [] => rfl
  | i :: r => by
    show (intsD (r.map .int)).map (i :: ·) = _
    rw [ints_of r]
    rfl
theorem sum_tI (r : List Int) : sumD (tI r) = some (.int r.sum) := by
  show (intsD (r.map .int)).map _ = _
  rw [ints_of]
  rfl
theorem sum_lI (r : List Int) : sumD (.list (r.map .int)) = some (.int r.sum) := by
  show (intsD (r.map .int)).map _ = _
  rw [ints_of]
  rfl
/-! ### what repr shows -/
mutual
def smallB : D → Bool
  | .none => true
  | .bool _ => true
  | .int i => decide (i.natAbs < 10 ^ 20)
  | .str x => PyData.strOk x && decide ((PyData.str x).shown.length ≤ 28)
  | .list xs => smallAll xs
  | .tuple xs => smallAll xs
  | .dict _ => false
def smallAll : List D → Bool
  | [] => true
  | x :: xs => smallB x && smallAll xs
end
mutual
def nodes : D → Nat
  | .list xs => nodesAll xs + 1
  | .tuple xs => nodesAll xs + 1
  | _ => 1
def nodesAll : List D → Nat
  | [] => 0
  | x :: xs => nodes x + nodesAll xs
end
theorem int_len {i : Int} (h : i.natAbs < 10 ^ 20) : (Str.ofString (toString i)).length ≤ 21 := by
  rw [PySem.ofString_length, Int.toString_eq_repr, Int.repr_eq_if]
  split
  · exact Nat.le_trans ((Nat.length_repr_le_iff (k := 20) (by decide)).mpr (by omega)) (by decide)
  · rw [String.length_append]
    have := (Nat.length_repr_le_iff (n := (-i).toNat) (k := 20) (by decide)).mpr (by omega)
    have e : ("-" : String).length = 1 := by decide
    omega
theorem log_lt {i : Int} (h : i.natAbs < 10 ^ 20) : i.natAbs.log2 < 1920 := by
  by_cases h0 : i.natAbs = 0
  · rw [h0]; decide
  · exact Nat.lt_of_lt_of_le ((Nat.log2_lt h0).mpr (Nat.lt_of_lt_of_le h (show 10 ^ 20 ≤ 2 ^ 70 by decide))) (by decide)
theorem list_len (ts : List Str) : (listText ts).length ≤ 2 + piled ts := by
  unfold listText
  rw [strLen_append]
  have e : ((("]" : String) : Str)).length = 1 := rfl
  cases ts with
  | nil =>
    show ((("[" : String) : Str)).length + _ ≤ _
    have e' : ((("[" : String) : Str)).length = 1 := rfl
    rw [e, e', piled_nil]
    omega
  | cons t r =>
    show (textFrom 1 (Str.ofString "[" ++ Str.ofString (if 0 > 0 then ", " else "") ++ t) r).length + _ ≤ _
    rw [textFrom_length_pos r 1 _ (by decide), strLen_append, strLen_append, piled_cons, e]
    have e' : (Str.ofString "[").length = 1 := rfl
    have e2 : (Str.ofString (if 0 > 0 then ", " else "")).length = 0 := rfl
    omega
theorem tup_len (ts : List Str) : (tupleText ts).length ≤ 3 + piled ts := by
  unfold tupleText
  rw [strLen_append, strLen_append]
  have e1 : ((("(" : String) : Str)).length = 1 := rfl
  have e3 : (((if ts.length == 1 then ",)" else ")" : String) : Str)).length ≤ 2 := by split <;> decide
  by_cases h : ts = []
  · subst h
    have e2 : (Str.join (Str.ofString ", ") []).length = 0 := rfl
    rw [e1, e2]
    omega
  · have := join_length_add ts h
    rw [e1]
    omega
mutual
theorem shown_len : ∀ d : D, smallB d = true → d.shown.length + 2 ≤ 30 * nodes d ∧ d.showable = true ∧ d.depth ≤ nodes d
  | .none, _ => ⟨by decide, rfl, by decide⟩
  | .bool b, _ => ⟨by cases b <;> decide, rfl, by cases b <;> decide⟩
  | .int i, h => by
    have h' : i.natAbs < 10 ^ 20 := of_decide_eq_true h
    refine ⟨?_, decide_eq_true (log_lt h'), by simp [PyData.depth, nodes]⟩
    have := int_len h'
    show (Str.ofString (toString i)).length + 2 ≤ 30 * 1
    omega
  | .str x, h => by
    have h' : PyData.strOk x = true ∧ (PyData.str x).shown.length ≤ 28 := by
      have : (PyData.strOk x && decide ((PyData.str x).shown.length ≤ 28)) = true := h
      simpa using this
    refine ⟨?_, rfl, by simp [PyData.depth, nodes]⟩
    show (PyData.str x).shown.length + 2 ≤ 30 * 1
    omega
  | .list xs, h => by
    obtain ⟨h1, h2, h3⟩ := shownAll_len xs h
    refine ⟨?_, h2, ?_⟩
    · show (listText (PyData.shownAll xs)).length + 2 ≤ 30 * (nodesAll xs + 1)
      have := list_len (PyData.shownAll xs)
      omega
    · simp only [PyData.depth, nodes]
      omega
  | .tuple xs, h => by
    obtain ⟨h1, h2, h3⟩ := shownAll_len xs h
    refine ⟨?_, h2, ?_⟩
    · show (tupleText (PyData.shownAll xs)).length + 2 ≤ 30 * (nodesAll xs + 1)
      have := tup_len (PyData.shownAll xs)
      omega
    · simp only [PyData.depth, nodes]
      omega
  | .dict _, h => by cases h
theorem shownAll_len : ∀ xs : List D, smallAll xs = true → piled (PyData.shownAll xs) ≤ 30 * nodesAll xs ∧ PyData.showableAll xs = true ∧ PyData.depthAll xs ≤ nodesAll xs
  | [], _ => ⟨by simp [PyData.shownAll, piled], rfl, by simp [PyData.depthAll]⟩
  | x :: xs, h => by
    have h' : smallB x = true ∧ smallAll xs = true := by
      have : (smallB x && smallAll xs) = true := h
      simpa using this
    obtain ⟨a1, a2, a3⟩ := shown_len x h'.1
    obtain ⟨b1, b2, b3⟩ := shownAll_len xs h'.2
    refine ⟨?_, ?_, ?_⟩
    · show piled (x.shown :: PyData.shownAll xs) ≤ 30 * (nodes x + nodesAll xs)
      rw [piled_cons]
      omega
    · show (x.showable && PyData.showableAll xs) = true
      rw [a2, b2]
      rfl
    · show _ ≤ nodes x + nodesAll xs
      simp only [PyData.depthAll]
      omega
end
theorem repr_ok {d : D} (h : smallB d = true) (hn : nodes d ≤ 30000) (hd : d.depth ≤ 50) : reprD d = some (.str d.shown) := by
  obtain ⟨a, b, c⟩ := shown_len d h
  unfold reprD
  rw [if_pos ⟨b, by omega, hd⟩]
/-! ### drawing mirrors' shapes -/
theorem small_ok {ds : List D} (h : ds.length ≤ 1000000) : small ds = some ds := by
  unfold small
  rw [if_pos h]
theorem rangeL_length (lo : Int) (n : Nat) : (rangeL lo n).length = n := by simp [rangeL]
theorem range1_ok {k : Int} (h1 : k < 2 ^ 62) (h0 : -(2 ^ 62) < k) : rangeD1 (.int k) = some (rangeL 0 k.toNat) := by
  show (if k.natAbs < 2 ^ 62 then some (rangeL 0 k.toNat) else none) = _
  rw [if_pos (by omega)]
theorem eq_str (x y : Str) : eqD (.str x) (.str y) = some (.bool (decide (x = y))) := rfl
theorem ne_str (x y : Str) : neD (.str x) (.str y) = some (.bool (!decide (x = y))) := rfl
section
variable {α β : Type} {b c d : Nat}
theorem Tri.st {x : W α} {f : α → W β} {φ : α → Prop} {χ : β → Prop} (h : Tri b x φ) (hf : ∀ a, φ a → Tri (d - b) (f a) χ) (hd : b ≤ d := by decide) : Tri d (x >>= f) χ := (h.bind hf).le (by omega)
end
/-! ### columns -/
theorem at_int {r : List Int} {i : Nat} (h : i < r.length) : getD (tI r) (.int (i : Nat)) = some (.int (r.getD i 0)) := by
  refine atI_at rfl ?_
  rw [List.getElem?_map, List.getElem?_eq_getElem h]
  simp [List.getD, h]
theorem ob_pure {α β : Type} (a : α) (f : α → Option β) : ((Pure.pure a : Option α) >>= f) = f a := rfl
theorem ob_some {α β : Type} (a : α) (f : α → Option β) : (some a >>= f) = f a := rfl
theorem ob_lift {α : Type} (o : Option α) : (Mo.lift o : Option α) = o := rfl
section
variable {γ : Type}
theorem lcA_mapM {f : D → Option D} {F G : γ → D} (xs : List γ) (acc : List D) (h : ∀ x ∈ xs, f (F x) = some (G x)) : lcA (m := Option) (fun d => someM (f d)) (xs.map F) acc = some (acc ++ xs.map G) := by
  induction xs generalizing acc with
  | nil => simp [lcA]
  | cons x xs ih =>
    show ((f (F x) >>= fun y => Pure.pure (some y)) >>= fun o => lcA (m := Option) (fun d => someM (f d)) (xs.map F) (acc ++ o.toList)) = _
    rw [h x List.mem_cons_self]
    show lcA (m := Option) (fun d => someM (f d)) (xs.map F) (acc ++ [G x]) = _
    rw [ih (acc ++ [G x]) fun y hy => h y (List.mem_cons_of_mem _ hy)]
    simp
end
section
variable {b c d : Nat}
theorem Tri.nx {A : Type} {a : A} {I : A → Prop} {R : D → Prop} (h : I a) : Tri d (Pure.pure (Fl.nx a) : W (Fl A)) (Post I R) := (Tri.pure (φ := Post I R) (a := Fl.nx a) h).le (Nat.zero_le _)
theorem Tri.rt {A : Type} {v : D} {I : A → Prop} {R : D → Prop} (h : R v) : Tri d (Pure.pure (Fl.rt v) : W (Fl A)) (Post I R) := (Tri.pure (φ := Post I R) (a := Fl.rt v) h).le (Nat.zero_le _)
end
theorem sum_in {B : Int} : ∀ l : List Int, (∀ x ∈ l, 0 ≤ x ∧ x ≤ B) → 0 ≤ l.sum ∧ l.sum ≤ l.length * B
  | [], _ => by simp
  | x :: l, h => by
    have h1 := sum_in l fun y hy => h y (List.mem_cons_of_mem _ hy)
    have h2 := h x List.mem_cons_self
    rw [List.sum_cons, List.length_cons]
    have e : ((l.length + 1 : Nat) : Int) * B = l.length * B + B := by
      rw [Int.natCast_add, Int.add_mul]
      simp
    omega
end DD
namespace DD
open PySem PySem.Spec PyProof.Rows L2
/-! ### enumerate(tuple) -/
def enumL (ds : List D) : List D := ds.zipIdx.map fun p => .tuple [.int (p.2 : Nat), p.1]
section
variable {m : Type → Type} [Mo m] {X : Cx} {EX : XR} {g : List Sl}
abbrev enumM (x : m D) : m (List D) := x >>= fun d => Mo.lift ((itemsD d).map enumL)
end
end DD
namespace DD
open PySem PySem.Spec PyProof.Rows L2
/-! ### a list of one's own, read in the middle: what comes out holds no list -/
mutual
def noL : D → Bool
  | .list _ => false
  | .tuple xs => noLs xs
  | .dict _ => false
  | _ => true
def noLs : List D → Bool
  | [] => true
  | x :: xs => noL x && noLs xs
end
def flatO (d : D) : Option D := if noL d = true then some d else none
/-- the data among what has come: what stood in the heap and was no data is left out -/
noncomputable def cutB (H G G' : Hp) : Hp := fun a => open Classical in if G a = none ∧ H a ≠ none then none else G' a
theorem cutB_in {H G G' : Hp} {a : Addr} (h : ¬ (G a = none ∧ H a ≠ none)) : cutB H G G' a = G' a := by unfold cutB; rw [if_neg h]
section
variable {K : PySem.W.Frag} {H G G' : Hp}
mutual
theorem Da.cut (hp : ∀ a o, G' a = some o → G a = none → H a ≠ none → ∃ xs, o = .lst xs) : ∀ {d : D} {v : V}, noL d = true → Da K G' v d → Da K (cutB H G G') v d
  | _, _, _, .non => .non
  | _, _, _, .bl b => .bl b
  | _, _, _, .int i => .int i
  | _, _, _, .str x => .str x
  | _, _, h, .lst _ _ => by cases h
  | .tuple ds, _, h, .tup sq a => by
    refine .tup ?_ (DaAll.cutA hp (show noLs ds = true from h) a)
    rcases sq with (sq | ⟨o, sq⟩) | sq
    · refine .inl (.inl ((cutB_in fun z => ?_).trans sq))
      obtain ⟨xs, e⟩ := hp _ _ sq z.1 z.2
      cases e
    · refine .inl (.inr ⟨o, (cutB_in fun z => ?_).trans sq⟩)
      obtain ⟨xs, e⟩ := hp _ _ sq z.1 z.2
      cases e
    · exact .inr sq
  | _, _, h, .dct _ _ => by cases h
  | _, _, h, .obj _ => by cases h
  | _, _, h, .cel _ => by cases h
  | _, _, h, .fin _ _ _ _ => by cases h
theorem DaAll.cutA (hp : ∀ a o, G' a = some o → G a = none → H a ≠ none → ∃ xs, o = .lst xs) : ∀ {ds : List D} {vs : List V}, noLs ds = true → DaAll K G' vs ds → DaAll K (cutB H G G') vs ds
  | _, _, _, .nil => .nil
  | d :: ds, _, h, .cons a b => by
    have h' : noL d = true ∧ noLs ds = true := by
      have : (noL d && noLs ds) = true := h
      simpa using this
    exact .cons (Da.cut hp h'.1 a) (DaAll.cutA hp h'.2 b)
end
end
section
variable {m : Type → Type} [Mo m] {X : Cx} {EX : XR} {g : List Sl}
variable [Calm m] [Plain m]
def flatsO (ds : List D) : Option (List D) := if noLs ds = true then some ds else none
end
/-! ### new lists by operations -/
section
variable {m : Type → Type} [Mo m] {X : Cx} {EX : XR} {g : List Sl}
def repO (ds : List D) (k : D) : Option (List D) := match k with
  | .int k => if 0 ≤ k ∧ k ≤ 1000 ∧ ds.length ≤ 1000 then some (List.replicate k.toNat ds).flatten else none
  | _ => none
def listOnly : D → Option (List D)
  | .list ds => some ds
  | _ => none
/-- [..] * k -/
theorem lj_rep {a b : Expr} {pos : Pos} {x : m (List D)} {y : m D} (ha : LJ X EX a g x) (hb : EJ X EX b g y) : LJ X EX (.BinOp a .Mult b pos) g ((x >>= fun ds => pure (PyData.list ds)) >>= fun d => y >>= fun k => Mo.lift ((listOnly d).bind fun ds => repO ds k)) :=
  (pe_op op_rep (ej_l ha) hb).weak fun σ H Q ⟨B, G, n, φ, ξ, o, s, q, xw⟩ => te_one o s (fun v H1 G1 d n1 o1 g1 d1 s1 => te_one o1 s1 (fun w H2 G2 k n2 o2 g2 d2 s2 => by
    obtain ⟨out, eo, po⟩ := Mo.sat_lift s2
    obtain ⟨ds, e1, e2⟩ := Option.bind_eq_some_iff.mp eo
    cases k with
    | int k =>
      cases d2
      have e2' : (if 0 ≤ k ∧ k ≤ 1000 ∧ ds.length ≤ 1000 then some (List.replicate k.toNat ds).flatten else none) = some out := e2
      split at e2'
      · rename_i hk
        cases e2'
        cases d with
        | list ds' =>
          cases e1
          obtain ⟨a, xs, rfl, ha', da⟩ := (d1.mono g2).toL
          refine ⟨a, k, xs, rfl, rfl, o2.fm.sub.h _ _ ha' rfl, by omega, by omega, ?_, fun p hp => ?_⟩
          · rw [da.length]
            have : ds.length * k.toNat ≤ 1000 * 1000 := Nat.mul_le_mul hk.2.2 (by omega)
            exact Nat.le_trans this (by decide)
          · obtain ⟨f1, f2⟩ := o2.fresh hp
            exact q p _ _ G2 _ n2 (o2.raw hp) (g1.trans g2) f1 (o2.free hp) upd_same f2 (da.flatReplicate k.toNat) po
        | _ => cases e1
      · cases e2'
    | _ => cases e2) xw) xw
/-- range(..) as what list() takes -/
def lrgO1 : D → Option (List D)
  | .int j => if 0 ≤ j ∧ j ≤ 1000000 then some (rangeL 0 j.toNat) else none
  | _ => none
abbrev repM (x : m (List D)) (y : m D) : m (List D) := (x >>= fun ds => pure (PyData.list ds)) >>= fun d => y >>= fun k => Mo.lift ((listOnly d).bind fun ds => repO ds k)
abbrev lrg1M (x : m D) : m (List D) := x >>= fun d => Mo.lift (lrgO1 d)
abbrev par3M (x y z : m D) : m (D × D × D) := x >>= fun d => y >>= fun e => z >>= fun f => pure (d, e, f)
abbrev rdM (x : m D) : m D := x >>= fun d => Mo.lift (flatO d)
abbrev rdLM (x : m (List D)) : m (List D) := x >>= fun ds => Mo.lift (flatsO ds)
end
def addI : D → D → Option D := intD2 fun i j => some (.int (i + j))
def subI : D → D → Option D := intD2 fun i j => some (.int (i - j))
section
variable {m : Type → Type} [Mo m] {X : Cx} {EX : XR} {g : List Sl}
/-- as ej_var, the slot looked up by the kernel -/
theorem ej_vk (i : Nat) {x : Str} {pos : Pos} {d : D} (hs : g[i]? = some (Sl.val d) := by kernel_rfl) (hN : X.N[i]? = some x := by rfl) (hv : Vis X.env.scope x := by first | exact Or.inl rfl | exact Or.inr (Or.inl rfl) | exact Or.inr (Or.inr rfl)) (hd : (x == ("__debug__" : Str)) = false := by decide)
    (hcd : (x == ("__classdict__" : Str)) = false := by decide) : EJ (m := m) X EX (.Name x pos) g (pure d) := ej_var i hs hN hv hd hcd
end
end DD
namespace DD
open PySem PySem.Spec PyProof.Rows L2
/-! ### mirrors without draws, by equations -/
class MoL (m : Type → Type) [Mo m] : Prop where
  pb : ∀ {α β : Type} (a : α) (f : α → m β), ((pure a : m α) >>= f) = f a
  as : ∀ {α β γ : Type} (x : m α) (f : α → m β) (g : β → m γ), ((x >>= f) >>= g) = (x >>= fun a => f a >>= g)
  ls : ∀ {α : Type} (a : α), (Mo.lift (some a) : m α) = pure a
theorem wl_some {α : Type} (a : α) : (Mo.lift (some a) : W α) = Pure.pure a := by
  funext n φ
  exact propext ⟨fun ⟨b, e, h⟩ => by cases e; exact h, fun h => ⟨a, rfl, h⟩⟩
instance : MoL W := ⟨fun _ _ => rfl, fun _ _ _ => rfl, wl_some⟩
instance : MoL Option := ⟨fun _ _ => rfl, fun x f g => by cases x <;> rfl, fun _ => rfl⟩
section
variable {m : Type → Type} [Mo m] [MoL m] {A γ : Type}
/-- a loop whose state is a function of what it has walked -/
theorem loop_from {f : D → A → m (Fl A)} {F : γ → D} {S : List γ → A} : ∀ (post pre : List γ), (∀ p x q, pre ++ post = p ++ x :: q → f (F x) (S p) = pure (.nx (S (p ++ [x])))) → loopM f (post.map F) (S pre) = pure (.nx (S (pre ++ post)))
  | [], pre, _ => by simp [loopM]
  | x :: post, pre, h => by
    show (f (F x) (S pre) >>= fun z => match z with | .nx a' => loopM f (post.map F) a' | .rt v => pure (.rt v)) = _
    rw [h pre x post rfl, MoL.pb]
    have := loop_from post (pre ++ [x]) fun p y q e => h p y q (by rw [← e]; simp)
    rw [show pre ++ x :: post = (pre ++ [x]) ++ post by simp]
    exact this
theorem loop_pre {f : D → A → m (Fl A)} {F : γ → D} (S : List γ → A) (all : List γ) (h : ∀ p x q, all = p ++ x :: q → f (F x) (S p) = pure (.nx (S (p ++ [x])))) : loopM f (all.map F) (S []) = pure (.nx (S all)) := by
  have := loop_from (S := S) all [] fun p x q e => h p x q e
  exact this
theorem loop_rng {f : D → A → m (Fl A)} (S : Nat → A) {n : Nat} (h : ∀ i, i < n → f (.int (i : Nat)) (S i) = pure (.nx (S (i + 1)))) : loopM f (rangeL 0 n) (S 0) = pure (.nx (S n)) := by
  have := loop_pre (f := f) (F := fun i : Nat => PyData.int (0 + (i : Nat))) (fun p => S p.length) (List.range n) fun p x q e => by
    have hx : x = p.length := by
      have := congrArg (fun l => l[p.length]?) e
      simp at this
      by_cases hl : p.length < n
      · rw [List.getElem?_eq_getElem (by simpa using hl)] at this; simp at this; exact this.symm
      · rw [List.getElem?_eq_none (by simpa using Nat.le_of_not_lt hl)] at this; cases this
    have hn : x < n := List.mem_range.mp (by rw [e]; simp)
    subst hx
    rw [Int.zero_add, h _ hn]
    simp
  simpa [rangeL] using this
end
theorem bindE {m : Type → Type} [Mo m] [MoL m] {α β : Type} {x : m α} {a : α} {f : α → m β} {y : m β} (e : x = pure a) (h : f a = y) : (x >>= f) = y := by
  rw [e, MoL.pb]
  exact h
/-! ### operations on data of known shape -/
theorem add_int (a b : Int) : addD (.int a) (.int b) = some (.int (a + b)) := rfl
theorem sub_int (a b : Int) : subD (.int a) (.int b) = some (.int (a - b)) := rfl
theorem lt_int (a b : Int) : ltD (.int a) (.int b) = some (.bool (decide (a < b))) := rfl
theorem le_int (a b : Int) : leD (.int a) (.int b) = some (.bool (decide (a ≤ b))) := rfl
theorem gt_int (a b : Int) : gtD (.int a) (.int b) = some (.bool (decide (b < a))) := rfl
theorem ge_int (a b : Int) : geD (.int a) (.int b) = some (.bool (decide (b ≤ a))) := rfl
theorem eq_int (a b : Int) : eqD (.int a) (.int b) = some (.bool (a == b)) := rfl
theorem ne_int (a b : Int) : neD (.int a) (.int b) = some (.bool (!(a == b))) := rfl
theorem min_int (a b : Int) : min2D (.int a) (.int b) = some (.int (min a b)) := by
  show some (PyData.int (if b < a then b else a)) = _
  congr 2
  omega
theorem max_int (a b : Int) : max2D (.int a) (.int b) = some (.int (max a b)) := by
  show some (PyData.int (if b > a then b else a)) = _
  congr 2
  omega
theorem neg_int (a : Int) : negD (.int a) = some (.int (-a)) := rfl
theorem bool_bool (b : Bool) : boolD (.bool b) = some b := rfl
theorem not_bool (b : Bool) : notD (.bool b) = some (.bool (!b)) := rfl
theorem is_none (d : D) : isD d .none = some (.bool (isNone d)) := rfl
theorem isn_none (d : D) : isnD d .none = some (.bool (!isNone d)) := rfl
theorem nn_int (i : Int) : isNone (.int i) = false := rfl
theorem nn_none : isNone .none = true := rfl
theorem nn_tup (xs : List D) : isNone (.tuple xs) = false := rfl
theorem len_tup (xs : List D) : lenD (.tuple xs) = some (.int xs.length) := rfl
theorem len_lst (xs : List D) : lenD (.list xs) = some (.int xs.length) := rfl
theorem tup_lst (xs : List D) : tupleD (.list xs) = some (.tuple xs) := rfl
theorem tup_tup (xs : List D) : tupleD (.tuple xs) = some (.tuple xs) := rfl
theorem it_lst (xs : List D) : itemsD (.list xs) = some xs := rfl
theorem it_tup (xs : List D) : itemsD (.tuple xs) = some xs := rfl
theorem int_bool (b : Bool) : intD (.bool b) = some (.int (if b then 1 else 0)) := rfl
theorem int_int (i : Int) : intD (.int i) = some (.int i) := rfl
theorem oint_int (i : Int) : oint (.int i) = some (some i) := rfl
theorem addI_int (a b : Int) : addI (.int a) (.int b) = some (.int (a + b)) := rfl
theorem subI_int (a b : Int) : subI (.int a) (.int b) = some (.int (a - b)) := rfl
theorem fits_ok {k : Nat} (h : k < 1000000) : fits k = some () := by unfold fits; rw [if_pos h]
theorem mod_int {a b : Int} (h : 0 < b) : modD (.int a) (.int b) = some (.int (a % b)) := by
  show (if 0 < b then some (PyData.int (a % b)) else none) = _
  rw [if_pos h]
theorem div_int {a b : Int} (h : 0 < b) (h1 : b < 1073741824) : divD (.int a) (.int b) = some (.int (a / b)) := by
  show (if 0 < b ∧ b.natAbs < 1073741824 then some (PyData.int (a / b)) else none) = _
  rw [if_pos ⟨h, by omega⟩]
theorem mul_int {a b : Int} (h : (-(2 ^ 64) < a ∧ a < 2 ^ 64) ∨ (-(2 ^ 64) < b ∧ b < 2 ^ 64)) : mulD (.int a) (.int b) = some (.int (a * b)) := by
  show (if a.natAbs < 2 ^ 64 ∨ b.natAbs < 2 ^ 64 then some (PyData.int (a * b)) else none) = _
  rw [if_pos (by omega)]
theorem add_tup {a b : List D} (h : a.length + b.length ≤ 1000000) : addD (.tuple a) (.tuple b) = some (.tuple (a ++ b)) := by
  show (small (a ++ b)).map PyData.tuple = _
  rw [small_ok (by rw [List.length_append]; exact h)]
  rfl
theorem add_lst {a b : List D} (h : a.length + b.length ≤ 1000000) : addD (.list a) (.list b) = some (.list (a ++ b)) := by
  show (small (a ++ b)).map PyData.list = _
  rw [small_ok (by rw [List.length_append]; exact h)]
  rfl
theorem range_map (n : Nat) : rangeL 0 n = (List.range n).map fun i : Nat => PyData.int (i : Nat) := by
  unfold rangeL
  refine List.map_congr_left fun i _ => ?_
  rw [Int.zero_add]
theorem range1_nat {k : Int} (h1 : k < 2 ^ 62) (h0 : 0 ≤ k) : rangeD1 (.int k) = some ((List.range k.toNat).map fun i : Nat => PyData.int (i : Nat)) := by
  rw [range1_ok h1 (by omega), range_map]
theorem zip_map {γ δ : Type} {F : γ → D} {G : δ → D} {xs : List γ} {ys : List δ} (h : xs.length ≤ ys.length) : zipD [.tuple (xs.map F), .tuple (ys.map G)] = some ((xs.zip ys).map fun p => .tuple [F p.1, G p.2]) := by
  rw [zipD_old (r := xs.map F) (rs := [ys.map G]) rfl (by simp) fun x hx => by rw [List.mem_singleton.mp hx]; simpa using h]
  congr 1
  refine List.ext_getElem (by simp; omega) fun i h1 h2 => ?_
  have hi : i < xs.length := by simpa using h1
  have hj : i < ys.length := by omega
  simp [List.getD, hi, hj]
theorem get_tup {γ : Type} {F : γ → D} {xs : List γ} {i : Nat} (h : i < xs.length) : getD (.tuple (xs.map F)) (.int (i : Nat)) = some (F xs[i]) := by
  refine atI_at rfl ?_
  rw [List.getElem?_map, List.getElem?_eq_getElem h]
  rfl
theorem get_lst {γ : Type} {F : γ → D} {xs : List γ} {i : Nat} (h : i < xs.length) : getD (.list (xs.map F)) (.int (i : Nat)) = some (F xs[i]) := by
  refine atI_at rfl ?_
  rw [List.getElem?_map, List.getElem?_eq_getElem h]
  rfl
theorem at_intL {r : List Int} {i : Nat} (h : i < r.length) : getD (.list (r.map .int)) (.int (i : Nat)) = some (.int (r.getD i 0)) := by
  refine atI_at rfl ?_
  rw [List.getElem?_map, List.getElem?_eq_getElem h]
  simp [List.getD, h]
/-! slices -/
theorem sIx_at {n d : Nat} {j : Int} (h0 : 0 ≤ j) (h : j ≤ n) : HT.sIx n d (some j) = j.toNat := by
  show (if j < 0 then (j + (n : Int)).toNat else min j.toNat n) = _
  rw [if_neg (by omega)]
  omega
theorem cut_loD {r : List D} {j : Int} (h0 : 0 ≤ j) (h : j ≤ r.length) : sliceD (.tuple r) none (some j) = some (.tuple (r.take j.toNat)) := by
  show some (PyData.tuple (cutD r none (some j))) = _
  unfold cutD
  rw [sIx_at h0 h, HT.sIx_none, List.drop_zero, Nat.sub_zero]
theorem cut_hiD {r : List D} {j : Int} (h0 : 0 ≤ j) (h : j ≤ r.length) : sliceD (.tuple r) (some j) none = some (.tuple (r.drop j.toNat)) := by
  show some (PyData.tuple (cutD r (some j) none)) = _
  unfold cutD
  rw [sIx_at h0 h, HT.sIx_none, List.take_of_length_le (by simp)]
theorem cut_lo {r : List Int} {j : Int} (h0 : 0 ≤ j) (h : j ≤ r.length) : sliceD (tI r) none (some j) = some (tI (r.take j.toNat)) := by
  rw [cut_loD h0 (by simpa using h), ← List.map_take]
theorem cut_hi {r : List Int} {j : Int} (h0 : 0 ≤ j) (h : j ≤ r.length) : sliceD (tI r) (some j) none = some (tI (r.drop j.toNat)) := by
  rw [cut_hiD h0 (by simpa using h), ← List.map_drop]
/-! no list within -/
theorem noL_map {γ : Type} {F : γ → D} : ∀ xs : List γ, (∀ x ∈ xs, noL (F x) = true) → noLs (xs.map F) = true
  | [], _ => rfl
  | x :: xs, h => by
    show (noL (F x) && noLs (xs.map F)) = true
    rw [h x List.mem_cons_self, noL_map xs fun y hy => h y (List.mem_cons_of_mem _ hy)]
    rfl
theorem noL_ints (r : List Int) : noLs (r.map .int) = true := noL_map r fun _ _ => rfl
theorem flat_ok {d : D} (h : noL d = true) : flatO d = some d := by unfold flatO; rw [if_pos h]
theorem flat_tI (r : List Int) : flatO (tI r) = some (tI r) := flat_ok (noL_ints r)
theorem flat_int (i : Int) : flatO (.int i) = some (.int i) := rfl
theorem flat_none : flatO .none = some .none := rfl
theorem put_at {ds : List D} {i : Nat} {d : D} (h : i < ds.length) : putD ds (.int (i : Nat)) d = some (ds.set i d) := by
  show (ixN ds.length (i : Nat)).map (fun j => ds.set j d) = _
  rw [ixN_at rfl h]
  rfl
/-! ### what repr can show: n nodes, depth k -/
structure Sm (n k : Nat) (d : D) : Prop where
  b : smallB d = true
  n : nodes d ≤ n
  k : d.depth ≤ k
structure SmA (n k : Nat) (ds : List D) : Prop where
  b : smallAll ds = true
  n : nodesAll ds ≤ n
  k : PyData.depthAll ds ≤ k
theorem Sm.repr {n k : Nat} {d : D} (h : Sm n k d) (hn : n ≤ 30000) (hk : k ≤ 50) : reprD d = some (.str d.shown) := repr_ok h.b (Nat.le_trans h.n hn) (Nat.le_trans h.k hk)
theorem Sm.le {n k n' k' : Nat} {d : D} (h : Sm n k d) (hn : n ≤ n') (hk : k ≤ k') : Sm n' k' d := ⟨h.b, Nat.le_trans h.n hn, Nat.le_trans h.k hk⟩
theorem Sm.int {i : Int} (h : i.natAbs < 10 ^ 20) : Sm 1 0 (.int i) := ⟨decide_eq_true h, Nat.le_refl _, by simp [PyData.depth]⟩
theorem Sm.str {x : Str} (h : PyData.strOk x = true) (h2 : (PyData.str x).shown.length ≤ 28) : Sm 1 0 (.str x) := ⟨by show (PyData.strOk x && decide ((PyData.str x).shown.length ≤ 28)) = true; rw [h, decide_eq_true h2]; rfl, Nat.le_refl _, by simp [PyData.depth]⟩
theorem Sm.none : Sm 1 0 .none := ⟨rfl, Nat.le_refl _, by simp [PyData.depth]⟩
theorem Sm.bool (b : Bool) : Sm 1 0 (.bool b) := ⟨rfl, Nat.le_refl _, by simp [PyData.depth]⟩
theorem SmA.nil : SmA 0 0 [] := ⟨rfl, Nat.le_refl _, by simp [PyData.depthAll]⟩
theorem SmA.cons {n k n' k' : Nat} {d : D} {ds : List D} (h : Sm n k d) (t : SmA n' k' ds) : SmA (n + n') (max k k') (d :: ds) :=
  ⟨by show (smallB d && smallAll ds) = true; rw [h.b, t.b]; rfl, by show nodes d + nodesAll ds ≤ _; have := h.n; have := t.n; omega, by show max d.depth (PyData.depthAll ds) ≤ _; have := h.k; have := t.k; omega⟩
theorem SmA.map {γ : Type} {n k : Nat} {F : γ → D} : ∀ xs : List γ, (∀ x ∈ xs, Sm n k (F x)) → SmA (xs.length * n) k (xs.map F)
  | [], _ => ⟨rfl, by simp [nodesAll], by simp [PyData.depthAll]⟩
  | x :: xs, h => by
    have := SmA.cons (h x List.mem_cons_self) (SmA.map xs fun y hy => h y (List.mem_cons_of_mem _ hy))
    exact ⟨this.b, by have := this.n; rw [List.length_cons, Nat.succ_mul]; simp only [List.map_cons]; omega, by have := this.k; simp only [List.map_cons]; omega⟩
theorem SmA.le {n k n' k' : Nat} {ds : List D} (h : SmA n k ds) (hn : n ≤ n') (hk : k ≤ k') : SmA n' k' ds := ⟨h.b, Nat.le_trans h.n hn, Nat.le_trans h.k hk⟩
theorem SmA.tup {n k : Nat} {ds : List D} (h : SmA n k ds) : Sm (n + 1) (k + 1) (.tuple ds) := ⟨h.b, by show nodesAll ds + 1 ≤ _; have := h.n; omega, by show PyData.depthAll ds + 1 ≤ _; have := h.k; omega⟩
theorem SmA.lst {n k : Nat} {ds : List D} (h : SmA n k ds) : Sm (n + 1) (k + 1) (.list ds) := ⟨h.b, by show nodesAll ds + 1 ≤ _; have := h.n; omega, by show PyData.depthAll ds + 1 ≤ _; have := h.k; omega⟩
mutual
theorem lay_small : ∀ d : D, smallB d = true → d.canLay0 = true
  | .none, _ => rfl
  | .bool _, _ => rfl
  | .int _, _ => rfl
  | .str x, h => by
    have h' : PyData.strOk x = true ∧ (PyData.str x).shown.length ≤ 28 := by
      have : (PyData.strOk x && decide ((PyData.str x).shown.length ≤ 28)) = true := h
      simpa using this
    exact h'.1
  | .list xs, h => layA_small xs h
  | .tuple xs, h => layA_small xs h
  | .dict _, h => by cases h
theorem layA_small : ∀ xs : List D, smallAll xs = true → PyData.canLayAll0 xs = true
  | [], _ => rfl
  | x :: xs, h => by
    have h' : smallB x = true ∧ smallAll xs = true := by
      have : (smallB x && smallAll xs) = true := h
      simpa using this
    show (x.canLay0 && PyData.canLayAll0 xs) = true
    rw [lay_small x h'.1, layA_small xs h'.2]
    rfl
end
theorem Sm.shaped {n k : Nat} {d : D} (h : Sm n k d) (hk : k ≤ 64) : SeqAt.shaped d = true := by
  unfold SeqAt.shaped
  rw [lay_small d h.b, Bool.true_and]
  exact decide_eq_true (Nat.le_trans h.k hk)
/-! data without bools and dicts: == is equality -/
theorem mul_one {x : D} {k : Int} (h : 0 ≤ k) (h1 : k ≤ 1000) : mulD (.tuple [x]) (.int k) = some (.tuple (List.replicate k.toNat x)) := by
  show (if k = 1 then some (PyData.tuple [x]) else if [x] ≠ [] ∧ 2 ≤ k ∧ k ≤ 1000 ∧ [x].length ≤ 1000 then some (.tuple (List.replicate k.toNat [x]).flatten) else if [x] ≠ [] ∧ k = 0 then some (.tuple []) else none) = _
  by_cases e : k = 1
  · rw [if_pos e, e]; rfl
  · by_cases e0 : k = 0
    · rw [if_neg e, if_neg (by omega), if_pos ⟨by simp, e0⟩, e0]
      rfl
    rw [if_neg e, if_pos ⟨by simp, by omega, h1, by simp⟩]
    congr 2
    generalize k.toNat = n
    induction n with
    | zero => rfl
    | succ n ih => rw [List.replicate_succ, List.flatten_cons, ih]; rfl
/-! the first index -/
theorem rep_ok {ds : List D} {k : Int} (h0 : 0 ≤ k) (h1 : k ≤ 1000) (h : ds.length ≤ 1000) : repO ds (.int k) = some (List.replicate k.toNat ds).flatten := by
  show (if 0 ≤ k ∧ k ≤ 1000 ∧ ds.length ≤ 1000 then some (List.replicate k.toNat ds).flatten else none) = _
  rw [if_pos ⟨h0, h1, h⟩]
end DD
namespace DD
open PySem PySem.Spec PyProof.Rows L2
theorem ob_assoc {α β γ : Type} (x : Option α) (f : α → Option β) (g : β → Option γ) : ((x >>= f) >>= g) = (x >>= fun a => f a >>= g) := by cases x <;> rfl
/-! ### other draws -/
end DD
namespace DD
open PySem PySem.Spec PyProof.Rows L2
/-! ### x in c, x not in c: data of any depth -/
/-- a list of texts -/
def strsOf : List D → Option (List Str)
  | [] => some []
  | .str x :: ds => (strsOf ds).map (x :: ·)
  | _ :: _ => none
/-! ### [e for x in it for y in it2] -/
section
variable {m : Type → Type} [Mo m]
def lc2B (f : D → m D) : List D → List D → m (List D)
  | [], acc => pure acc
  | e :: r, acc => f e >>= fun z => Mo.lift (fits acc.length) >>= fun _ => lc2B f r (acc ++ [z])
def lc2A (y : D → m (List D)) (f : D → D → m D) : List D → List D → m (List D)
  | [], acc => pure acc
  | d :: r, acc => y d >>= fun es => lc2B (f d) es acc >>= fun acc => lc2A y f r acc
variable [Calm m] {X : Cx} {EX : XR} {g : List Sl}
abbrev comp11 (x : m (List D)) (y : D → m (List D)) (f : D → D → m D) : m (List D) := x >>= fun ds => Mo.lift (small ds) >>= fun ds => lc2A y f ds []
end
/-! rows -/
theorem get_row {rows : List (List Int)} {d : Nat} (h : d < rows.length) : DD.getD (tT rows) (.int (d : Nat)) = some (tI (rows.getD d [])) := by
  have := get_tup (F := tI) h
  rw [this]
  simp [List.getD, h]
theorem mulL_one {x : D} {k : Int} (h : 0 ≤ k) (h1 : k ≤ 1000) : mulD (.list [x]) (.int k) = some (.list (List.replicate k.toNat x)) := by
  show (if 0 ≤ k ∧ k ≤ 1000 ∧ [x].length ≤ 1000 then some (PyData.list (List.replicate k.toNat [x]).flatten) else none) = _
  rw [if_pos ⟨h, h1, by simp⟩]
  congr 2
  generalize k.toNat = n
  induction n with
  | zero => rfl
  | succ n ih => rw [List.replicate_succ, List.flatten_cons, ih]; rfl
/-! ### defs that call themselves -/
/-- drawn wishes: one to four rows of k ints, none all zero -/
structure Wishes (k : Nat) (m : Int) (rows : List (List Int)) : Prop where
  one : 1 ≤ rows.length
  four : rows.length ≤ 4
  len : ∀ r ∈ rows, r.length = k
  ge : ∀ r ∈ rows, ∀ x ∈ r, 0 ≤ x ∧ x ≤ m
  pos : ∀ r ∈ rows, ∃ x ∈ r, 0 < x
theorem Wishes.take {k : Nat} {m : Int} {rows : List (List Int)} (w : Wishes k m rows) {n : Nat} (h : 1 ≤ n) : Wishes k m (rows.take n) :=
  ⟨by have := w.one; rw [List.length_take]; omega, by have := w.four; rw [List.length_take]; omega, fun r hr => w.len r (List.mem_of_mem_take hr), fun r hr => w.ge r (List.mem_of_mem_take hr), fun r hr => w.pos r (List.mem_of_mem_take hr)⟩
/-- a drawn stock -/
structure Stk (m : Int) (k : Nat) (rows : List (List Int)) : Prop where
  one : 1 ≤ rows.length
  four : rows.length ≤ 4
  k1 : 1 ≤ k
  k4 : k ≤ 4
  len : ∀ r ∈ rows, r.length = k
  ge : ∀ r ∈ rows, ∀ x ∈ r, 0 ≤ x ∧ x ≤ m
/-! ### is, is not of bools -/
/-! ### for with three names -/
section
variable {m : Type → Type} [Mo m] {A : Type} {X : Cx} {EX : XR} {g : List Sl}
def tripM {α : Type} (d : D) (f : D → D → D → m α) : m α := match d with
  | .tuple [a, b, c] => f a b c
  | _ => Mo.lift none
abbrev forM3 (x : m (List D)) (a0 : A) (b : D → D → D → A → m (Fl A)) : m (Fl A) := x >>= fun ds => loopM (fun d a => tripM d fun u w v => b u w v a) ds a0
end
end DD
namespace DD
open PySem PySem.Spec PyProof.Rows
/-! ### t[::-1] of a tuple -/
open L2
theorem log60 {i : Int} (h : i.natAbs < 10 ^ 60) : i.natAbs.log2 < 1920 := by
  by_cases h0 : i.natAbs = 0
  · rw [h0]; decide
  · exact Nat.lt_of_lt_of_le ((Nat.log2_lt h0).mpr (Nat.lt_of_lt_of_le h (show 10 ^ 60 ≤ 2 ^ 200 by decide))) (by decide)
section
variable {m : Type → Type} [Mo m] {X : Cx} {EX : XR} {g : List Sl} {K : PySem.W.Frag}
/-- xs + ys of lists: a new list -/
def catO : D → D → Option (List D)
  | .list a, .list b => if a.length + b.length ≤ 1000000 then some (a ++ b) else none
  | _, _ => none
end
section
variable {m : Type → Type} [Mo m] {X : Cx} {EX : XR} {g : List Sl}
abbrev par3LM (x : m (List D)) (y z : m D) : m (List D × D × D) := x >>= fun d => y >>= fun e => z >>= fun f => pure (d, e, f)
abbrev put2M (ds : List D) (x1 x2 z1 : m D) (z2 : List D → m D) : m (List D) := x1 >>= fun a => x2 >>= fun b => z1 >>= fun j1 => Mo.lift (putD ds j1 a) >>= fun es => z2 es >>= fun j2 => Mo.lift (putD es j2 b)
abbrev catM (x y : m D) : m (List D) := x >>= fun d => y >>= fun e => Mo.lift (catO d e)
end
/-! ### sep.join(texts) -/
def strOnly : D → Option Str
  | .str x => some x
  | _ => none
def joinD (a : Str) (d : D) : Option D := (itemsD d).bind fun xs => (strsOf xs).bind fun ss => if (ss.map (·.length)).sum + ss.length * a.length ≤ 1000000 then some (.str (Str.join a ss)) else none
section
variable {m : Type → Type} [Mo m] {X : Cx} {EX : XR} {g : List Sl}
abbrev joinM (x y : m D) : m D := x >>= fun a => Mo.lift (strOnly a) >>= fun s => y >>= fun d => Mo.lift (joinD s d)
end
/-! ### repr of any data: n nodes, depth k; dicts of constants -/
mutual
def repB : D → Bool
  | .none => true
  | .bool _ => true
  | .int i => decide (i.natAbs < 10 ^ 60)
  | .str x => decide ((PyData.str x).shown.length ≤ 250)
  | .list xs => repAll xs
  | .tuple xs => repAll xs
  | .dict kvs => decide ((PyData.dict kvs).shown.length ≤ 90) && (PyData.dict kvs).showable && decide ((PyData.dict kvs).depth ≤ 1)
def repAll : List D → Bool
  | [] => true
  | x :: xs => repB x && repAll xs
end
theorem int_len60 {i : Int} (h : i.natAbs < 10 ^ 60) : (Str.ofString (toString i)).length ≤ 61 := by
  rw [PySem.ofString_length, Int.toString_eq_repr, Int.repr_eq_if]
  split
  · exact Nat.le_trans ((Nat.length_repr_le_iff (k := 60) (by decide)).mpr (by omega)) (by decide)
  · rw [String.length_append]
    have := (Nat.length_repr_le_iff (n := (-i).toNat) (k := 60) (by decide)).mpr (by omega)
    have e : ("-" : String).length = 1 := by decide
    omega
mutual
theorem rep_len : ∀ d : D, repB d = true → d.shown.length + 2 ≤ 300 * nodes d ∧ d.showable = true
  | .none, _ => ⟨by decide, rfl⟩
  | .bool b, _ => ⟨by cases b <;> decide, rfl⟩
  | .int i, h => by
    have h' : i.natAbs < 10 ^ 60 := of_decide_eq_true h
    refine ⟨?_, decide_eq_true (log60 h')⟩
    have := int_len60 h'
    show (Str.ofString (toString i)).length + 2 ≤ 300 * 1
    omega
  | .str x, h => by
    have h' : (PyData.str x).shown.length ≤ 250 := of_decide_eq_true h
    refine ⟨?_, rfl⟩
    show (PyData.str x).shown.length + 2 ≤ 300 * 1
    omega
  | .list xs, h => by
    obtain ⟨h1, h2⟩ := repAll_len xs h
    refine ⟨?_, h2⟩
    show (listText (PyData.shownAll xs)).length + 2 ≤ 300 * (nodesAll xs + 1)
    have := list_len (PyData.shownAll xs)
    omega
  | .tuple xs, h => by
    obtain ⟨h1, h2⟩ := repAll_len xs h
    refine ⟨?_, h2⟩
    show (tupleText (PyData.shownAll xs)).length + 2 ≤ 300 * (nodesAll xs + 1)
    have := tup_len (PyData.shownAll xs)
    omega
  | .dict kvs, h => by
    have h' : ((PyData.dict kvs).shown.length ≤ 90 ∧ (PyData.dict kvs).showable = true) ∧ (PyData.dict kvs).depth ≤ 1 := by
      have : (decide ((PyData.dict kvs).shown.length ≤ 90) && (PyData.dict kvs).showable && decide ((PyData.dict kvs).depth ≤ 1)) = true := h
      simpa using this
    refine ⟨?_, h'.1.2⟩
    show (PyData.dict kvs).shown.length + 2 ≤ 300 * 1
    omega
theorem repAll_len : ∀ xs : List D, repAll xs = true → piled (PyData.shownAll xs) ≤ 300 * nodesAll xs ∧ PyData.showableAll xs = true
  | [], _ => ⟨by simp [PyData.shownAll, piled], rfl⟩
  | x :: xs, h => by
    have h' : repB x = true ∧ repAll xs = true := by
      have : (repB x && repAll xs) = true := h
      simpa using this
    obtain ⟨a1, a2⟩ := rep_len x h'.1
    obtain ⟨b1, b2⟩ := repAll_len xs h'.2
    refine ⟨?_, ?_⟩
    · show piled (x.shown :: PyData.shownAll xs) ≤ 300 * (nodes x + nodesAll xs)
      rw [piled_cons]
      omega
    · show (x.showable && PyData.showableAll xs) = true
      rw [a2, b2]
      rfl
end
/-- what repr can show: n nodes, depth k -/
structure Rp (n k : Nat) (d : D) : Prop where
  b : repB d = true
  n : nodes d ≤ n
  k : d.depth ≤ k
structure RpA (n k : Nat) (ds : List D) : Prop where
  b : repAll ds = true
  n : nodesAll ds ≤ n
  k : PyData.depthAll ds ≤ k
theorem Rp.repr {n k : Nat} {d : D} (h : Rp n k d) (hn : n ≤ 3300) (hk : k ≤ 50) : reprD d = some (.str d.shown) := by
  obtain ⟨a, b⟩ := rep_len d h.b
  have := h.n
  have := h.k
  unfold reprD
  rw [if_pos ⟨b, by omega, by omega⟩]
theorem Rp.le {n k n' k' : Nat} {d : D} (h : Rp n k d) (hn : n ≤ n') (hk : k ≤ k') : Rp n' k' d := ⟨h.b, Nat.le_trans h.n hn, Nat.le_trans h.k hk⟩
theorem Rp.int {i : Int} (h : i.natAbs < 10 ^ 60) : Rp 1 0 (.int i) := ⟨decide_eq_true h, Nat.le_refl _, by simp [PyData.depth]⟩
theorem Rp.none : Rp 1 0 .none := ⟨rfl, Nat.le_refl _, by simp [PyData.depth]⟩
theorem Rp.bool (b : Bool) : Rp 1 0 (.bool b) := ⟨rfl, Nat.le_refl _, by simp [PyData.depth]⟩
theorem Rp.str {x : Str} (h : (PyData.str x).shown.length ≤ 250) : Rp 1 0 (.str x) := ⟨decide_eq_true h, Nat.le_refl _, by simp [PyData.depth]⟩
theorem RpA.nil : RpA 0 0 [] := ⟨rfl, Nat.le_refl _, by simp [PyData.depthAll]⟩
theorem RpA.cons {n k n' k' : Nat} {d : D} {ds : List D} (h : Rp n k d) (t : RpA n' k' ds) : RpA (n + n') (max k k') (d :: ds) :=
  ⟨by show (repB d && repAll ds) = true; rw [h.b, t.b]; rfl, by show nodes d + nodesAll ds ≤ _; have := h.n; have := t.n; omega, by have := h.k; have := t.k; simp only [PyData.depthAll]; omega⟩
theorem RpA.map {γ : Type} {n k : Nat} {F : γ → D} : ∀ xs : List γ, (∀ x ∈ xs, Rp n k (F x)) → RpA (xs.length * n) k (xs.map F)
  | [], _ => ⟨rfl, by simp [nodesAll], by simp [PyData.depthAll]⟩
  | x :: xs, h => by
    have := RpA.cons (h x List.mem_cons_self) (RpA.map xs fun y hy => h y (List.mem_cons_of_mem _ hy))
    exact ⟨this.b, by have := this.n; rw [List.length_cons, Nat.succ_mul]; simp only [List.map_cons]; omega, by have := this.k; simp only [List.map_cons]; omega⟩
theorem RpA.le {n k n' k' : Nat} {ds : List D} (h : RpA n k ds) (hn : n ≤ n') (hk : k ≤ k') : RpA n' k' ds := ⟨h.b, Nat.le_trans h.n hn, Nat.le_trans h.k hk⟩
theorem RpA.tup {n k : Nat} {ds : List D} (h : RpA n k ds) : Rp (n + 1) (k + 1) (.tuple ds) := ⟨h.b, by show nodesAll ds + 1 ≤ _; have := h.n; omega, by show PyData.depthAll ds + 1 ≤ _; have := h.k; omega⟩
theorem RpA.lst {n k : Nat} {ds : List D} (h : RpA n k ds) : Rp (n + 1) (k + 1) (.list ds) := ⟨h.b, by show nodesAll ds + 1 ≤ _; have := h.n; omega, by show PyData.depthAll ds + 1 ≤ _; have := h.k; omega⟩
theorem Rp.all {n k : Nat} {d : D} {ds : List D} (h : Rp n k d) (e : d = .tuple ds ∨ d = .list ds) : RpA (n - 1) (k - 1) ds := by
  rcases e with rfl | rfl
  · exact ⟨h.b, by have : nodesAll ds + 1 ≤ n := h.n; omega, by have : PyData.depthAll ds + 1 ≤ k := h.k; omega⟩
  · exact ⟨h.b, by have : nodesAll ds + 1 ≤ n := h.n; omega, by have : PyData.depthAll ds + 1 ≤ k := h.k; omega⟩
theorem nodes_pos (d : D) : 1 ≤ nodes d := by cases d <;> simp [nodes]
theorem RpA.len {n k : Nat} : ∀ {ds : List D}, RpA n k ds → ds.length ≤ n
  | [], _ => Nat.zero_le _
  | x :: xs, h => by
    have hn : nodes x + nodesAll xs ≤ n := h.n
    have hb : repB x = true ∧ repAll xs = true := by
      have : (repB x && repAll xs) = true := h.b
      simpa using this
    have hk : max x.depth (PyData.depthAll xs) ≤ k := by have := h.k; simpa only [PyData.depthAll] using this
    have := RpA.len (n := n - 1) (k := k) (ds := xs) ⟨hb.2, by have := nodes_pos x; omega, by omega⟩
    have := nodes_pos x
    simp only [List.length_cons]
    omega
theorem repAll_append : ∀ (a b : List D), repAll (a ++ b) = (repAll a && repAll b)
  | [], b => rfl
  | x :: a, b => by show (repB x && repAll (a ++ b)) = _; rw [repAll_append a b, ← Bool.and_assoc]; rfl
theorem nodesAll_append : ∀ (a b : List D), nodesAll (a ++ b) = nodesAll a + nodesAll b
  | [], b => by simp [nodesAll]
  | x :: a, b => by show nodes x + nodesAll (a ++ b) = nodes x + nodesAll a + nodesAll b; rw [nodesAll_append a b]; omega
theorem depthAll_append : ∀ (a b : List D), PyData.depthAll (a ++ b) = max (PyData.depthAll a) (PyData.depthAll b)
  | [], b => by simp [PyData.depthAll]
  | x :: a, b => by rw [List.cons_append]; simp only [PyData.depthAll]; rw [depthAll_append a b]; omega
theorem RpA.append {n k n' k' : Nat} {a b : List D} (h : RpA n k a) (t : RpA n' k' b) : RpA (n + n') (max k k') (a ++ b) :=
  ⟨by rw [repAll_append, h.b, t.b]; rfl, by rw [nodesAll_append]; have := h.n; have := t.n; omega, by rw [depthAll_append]; have := h.k; have := t.k; omega⟩
theorem RpA.part {n k : Nat} {a b c : List D} (h : RpA n k (a ++ b ++ c)) : RpA n k b := by
  have h1 := h.b
  have h2 := h.n
  have h3 := h.k
  rw [repAll_append, repAll_append] at h1
  rw [nodesAll_append, nodesAll_append] at h2
  rw [depthAll_append, depthAll_append] at h3
  simp only [Bool.and_eq_true] at h1
  exact ⟨h1.1.2, by omega, by omega⟩
theorem RpA.take {n k : Nat} {ds : List D} (h : RpA n k ds) (i : Nat) : RpA n k (ds.take i) := RpA.part (a := []) (c := ds.drop i) (by rw [List.nil_append, List.take_append_drop]; exact h)
theorem RpA.drop {n k : Nat} {ds : List D} (h : RpA n k ds) (i : Nat) : RpA n k (ds.drop i) := RpA.part (a := ds.take i) (c := []) (by rw [List.append_nil, List.take_append_drop]; exact h)
theorem RpA.reverse {n k : Nat} : ∀ {ds : List D}, RpA n k ds → RpA n k ds.reverse
  | [], h => h
  | x :: xs, h => by
    rw [List.reverse_cons]
    have h1 := h.b
    have h2 : nodes x + nodesAll xs ≤ n := h.n
    have h3 : max x.depth (PyData.depthAll xs) ≤ k := by have := h.k; simpa only [PyData.depthAll] using this
    have hb : repB x = true ∧ repAll xs = true := by
      have : (repB x && repAll xs) = true := h1
      simpa using this
    have ih := RpA.reverse (ds := xs) (n := nodesAll xs) (k := k) ⟨hb.2, Nat.le_refl _, by omega⟩
    have := ih.append (RpA.cons (n := nodes x) (k := k) (d := x) ⟨hb.1, Nat.le_refl _, by omega⟩ RpA.nil)
    exact this.le (by omega) (by omega)
theorem RpA.each {n k : Nat} {ds : List D} (h : ∀ d ∈ ds, Rp n k d) : RpA (ds.length * n) k ds := by
  have := RpA.map (F := id) ds h
  rwa [List.map_id] at this
theorem Rp.tI {r : List Int} {n : Nat} (h : ∀ x ∈ r, x.natAbs < 10 ^ 60) (hn : r.length ≤ n) : Rp (n + 1) 1 (tI r) := (RpA.map (n := 1) (k := 0) r fun x hx => Rp.int (h x hx)).tup.le (by omega) (Nat.le_refl _)
theorem Rp.tT {rows : List (List Int)} {n k : Nat} (h : ∀ r ∈ rows, ∀ x ∈ r, x.natAbs < 10 ^ 60) (hk : ∀ r ∈ rows, r.length ≤ k) (hn : rows.length ≤ n) : Rp (n * (k + 1) + 1) 2 (tT rows) := (RpA.map (n := k + 1) (k := 1) rows fun r hr => Rp.tI (h r hr) (hk r hr)).tup.le (by have := Nat.mul_le_mul_right (k + 1) hn; omega) (Nat.le_refl _)
end DD
namespace DD
open PySem PySem.Spec PyProof.Rows L2
section
variable {m : Type → Type} [Mo m] {X : Cx} {EX : XR} {g : List Sl}
/-- what pop takes out, and what is left -/
def popD (ds : List D) (k : D) : Option (D × List D) := match k with
  | .int j => if 0 ≤ j ∧ j < 2 ^ 62 then (ds[j.toNat]?).map fun d => (d, ds.eraseIdx j.toNat) else none
  | _ => none
theorem DaAll.eraseIdx {K : PySem.W.Frag} {G : Hp} : ∀ {vs : List V} {ds : List D} (n : Nat), DaAll K G vs ds → DaAll K G (vs.eraseIdx n) (ds.eraseIdx n)
  | _, _, _, .nil => .nil
  | _, _, 0, .cons _ b => b
  | _, _, n + 1, .cons a b => .cons a (DaAll.eraseIdx n b)
abbrev popM (fs ds : List D) (x : m D) : m (D × List D) := x >>= fun k => Mo.lift (popD fs k) >>= fun p => Mo.lift (fits ds.length) >>= fun _ => pure p
abbrev parLV (x : m (List D)) (y : m D) : m (List D × D) := x >>= fun d => y >>= fun e => pure (d, e)
abbrev putVM (ds : List D) (x1 x2 zk : m D) : m (List D × D) := x1 >>= fun a => x2 >>= fun b => zk >>= fun j1 => Mo.lift (putD ds j1 a) >>= fun es => pure (es, b)
end
/-! ### sorted of ints -/
def insI (x : Int) : List Int → List Int
  | [] => [x]
  | y :: l => if x ≤ y then x :: y :: l else y :: insI x l
def sortI : List Int → List Int
  | [] => []
  | x :: l => insI x (sortI l)
end DD
namespace DD
open PySem PySem.Spec PyProof.Rows L2 StX
/-! ### a, *b = t -/
/-- what is first, and the rest -/
def headD : D → Option (D × List D)
  | .tuple (d :: ds) => some (d, ds)
  | _ => none
section
variable {m : Type → Type} [Mo m] {A : Type} {X : Cx} {EX : XR} {g : List Sl}
abbrev unpS (x : m D) : m (D × List D) := x >>= fun d => Mo.lift (headD d)
end
/-! ### defs with a star parameter -/
end DD
namespace DD
open PySem PySem.Spec PyProof.Rows L2
section
variable {m : Type → Type} [Mo m] {A : Type} {X : Cx} {EX : XR} {g : List Sl}
abbrev trg1M (x : m D) : m D := x >>= fun d => Mo.lift (lrgO1 d) >>= fun ds => pure (.tuple ds)
/-- x or y, the value itself -/
def truD : D → Option Bool
  | .none => some false
  | .bool b => some b
  | .int i => some (!(i == 0))
  | _ => none
abbrev orV (x y : m D) : m D := x >>= fun d => Mo.lift (truD d) >>= fun k => if k = true then pure d else y
/-! ### while -/
end
end DD
namespace DD
open PySem PySem.Spec PyProof.Rows L2
/-- sorted, each once -/
def dedI : List Int → List Int
  | [] => []
  | x :: l => if decide (x ∈ l) = true then dedI l else x :: dedI l
def sortSetD : D → Option (List D)
  | .list ds => (intsD ds).bind fun ns => if ns.length < 63 then some ((sortI (dedI ns)).map .int) else none
  | _ => none
section
variable {m : Type → Type} [Mo m] {X : Cx} {EX : XR} {g : List Sl}
abbrev sortSetM (x : m D) : m D := x >>= fun d => Mo.lift (sortSetD d) >>= fun ds => pure (.list ds)
end
end DD
/-! errors whose context is None: the kit's L2N in the place of L2 (a class with its own __init__; an except clause without a name) -/
namespace DD
open PySem PySem.Spec PyProof.Rows L2
/-! ### mirrors that raise -/
/-- plain data, or an error -/
def Xo (α : Type) : Type := Option (Except Exn α)
instance : Mo Xo where
  pure := fun a => some (.ok a)
  bind := fun x f => match x with
    | some (.ok a) => f a
    | some (.error e) => some (.error e)
    | none => none
  sat := fun x n φ ξ => n.ob = [] ∧ ((∃ a, x = some (.ok a) ∧ φ a n) ∨ ∃ e, x = some (.error e) ∧ ξ e n)
  lift := fun o => o.map .ok
  sat_pure := fun h => by
    obtain ⟨_, ⟨a, e, q⟩ | ⟨a, e, q⟩⟩ := h
    · cases e; exact q
    · cases e
  sat_bind := fun {α β x f n φ ξ} h => by
    obtain ⟨hn, h⟩ := h
    refine ⟨hn, ?_⟩
    match x, h with
    | some (.ok a), h => exact .inl ⟨a, rfl, hn, h⟩
    | some (.error e), .inl ⟨a, e', q⟩ => cases e'
    | some (.error e), .inr ⟨e2, e', q⟩ => cases e'; exact .inr ⟨e, rfl, q⟩
    | none, .inl ⟨a, e', q⟩ => cases e'
    | none, .inr ⟨e2, e', q⟩ => cases e'
  sat_lift := fun {α o n φ ξ} h => by
    obtain ⟨_, ⟨a, e, q⟩ | ⟨a, e, q⟩⟩ := h
    · cases o with
      | none => cases e
      | some b => cases e; exact ⟨_, rfl, q⟩
    · cases o with
      | none => cases e
      | some b => cases e
class MoX (m : Type → Type) [Mo m] where
  throw : {α : Type} → Exn → m α
  sat_throw : ∀ {α : Type} {e : Exn} {n : Wd} {φ : α → Wd → Prop} {ξ : Exn → Wd → Prop}, Mo.sat (throw e : m α) n φ ξ → ξ e n
instance : MoX Xo where
  throw := fun e => some (.error e)
  sat_throw := fun h => by
    obtain ⟨_, ⟨a, e, q⟩ | ⟨a, e, q⟩⟩ := h
    · cases e
    · cases e; exact q
instance : Up Option Xo where
  up := fun o => o.map .ok
  sat_up := fun {α o n φ ξ} h => ⟨h.1, Mo.sat_lift (m := Xo) h⟩
/-- what is raised by one mirror is caught by another -/
class Tr (m₁ m : Type → Type) [Mo m₁] [Mo m] where
  try_ : {α : Type} → m₁ α → (Exn → m α) → m α
  sat_try : ∀ {α : Type} {x : m₁ α} {h : Exn → m α} {n : Wd} {φ : α → Wd → Prop} {ξ : Exn → Wd → Prop}, Mo.sat (try_ x h) n φ ξ → Mo.sat x n φ (fun e n' => Mo.sat (h e) n' φ ξ)
def tryO {α : Type} (x : Xo α) (h : Exn → Option α) : Option α := match x with
  | some (.ok a) => some a
  | some (.error e) => h e
  | none => none
instance : Tr Xo Option where
  try_ := tryO
  sat_try := fun {α x h n φ ξ} s => by
    obtain ⟨hn, a, e, q⟩ := s
    refine ⟨hn, ?_⟩
    match x, e with
    | some (.ok b), e => cases e; exact .inl ⟨_, rfl, q⟩
    | some (.error b), e => exact .inr ⟨b, rfl, hn, a, e, q⟩
    | none, e => cases e
/-! ### defs that raise -/
structure FnX (P : Program) (w : World) (K : PySem.W.Frag) (mg : Str → Option Value) (base : Heap) (k : Nat) (f : Addr) (fd : FuncData) (ps : List Str) (sp : Sp) : Prop where
  len : ∀ vs H Q E, sp vs H Q E → vs.length = ps.length
  run : ∀ (A : Around) (outer : List Env) (s : Shared) (H : Hp) (args : Args) (us : List Value) (vs : List V) (Q : VK) (E : XK), Room k A → A.guards = some [] → Env0 P w K mg base A outer s H → BindsTo s fd args (ps.zip us) → Vals vs us → sp vs H Q E →
    codeAny (model P w) A (.call (.ref f) args) (CR (L2N.CX P w) outer P w H s Q E) s
theorem FnX.mono {P : Program} {w : World} {K : PySem.W.Frag} {mg : Str → Option Value} {base : Heap} {j k : Nat} {f : Addr} {fd : FuncData} {ps : List Str} {sp : Sp} (F : FnX P w K mg base j f fd ps sp) (h : j ≤ k) : FnX P w K mg base k f fd ps sp :=
  ⟨F.len, fun A outer s H args us vs Q E hr => F.run A outer s H args us vs Q E (hr.mono h)⟩
end DD
namespace DD
open PySem PySem.Spec PyProof.Rows L2
/-! ### raise C(e), C with an __init__ that stores one field -/
/-! ### try: body, except C as n: suite -/
section
variable {m₁ m : Type → Type} [Mo m₁] [Mo m] [Tr m₁ m] {A : Type} {X : Cx} {EX : XR} {g gk : List Sl}
/-- what a suite may lean on -/
structure Held (X : Cx) (e : Exn) (a : Addr) (oe : Obj) (od : Option Addr) (C : Addr) : Prop where
  nm : X.mg e.cls = some (.ref C)
  zc : L2N.Zn (.ref C) od oe
  da : ∃ vs, oe.data = .fields vs
end
end DD
namespace DD
open PySem PySem.Spec PyProof.Rows L2
/-! ### instances that do not change any more: attributes, methods, properties -/
def keyIs (f : Str) : D → Bool
  | .str x => f == x
  | _ => false
section
variable {K : PySem.W.Frag} {G : Hp}
theorem ClsOk.one {c : Str} {C C' : Addr} (h : ClsOk K c C) (h' : ClsOk K c C') : C' = C := by
  have e := h.nm
  rw [h'.nm] at e
  cases e
  rfl
end
end DD
namespace DD
open PySem PySem.Spec PyProof.Rows L2
/-! ### the body of an __init__: checks, then attributes of self -/
def Bs.at (B : Bs) (x : Addr) (u : HO) : Bs := ⟨upd B.H x u, B.G, B.dk, B.tG⟩
end DD
namespace DD
open PySem PySem.Spec PyProof.Rows L2
/-! ### what may raise, where it does not -/
theorem sub_self : ∀ g : List Sl, Sub g g
  | [] => trivial
  | _ :: g => ⟨.inr rfl, sub_self g⟩
end DD
/-! list comprehensions within an except suite -/
namespace DD
open PySem PySem.Spec PySem.Calls PyProof.Rows HotX L2
/-- an iterator whose end is met while an exception is handled -/
structure TurnY (P : Program) (w : World) (K : PySem.W.Frag) (tg : Expr) (J : It) (fp : List Addr) (it : Addr) (tn : Nat → Heap → Prop) : Prop where
  mem : it ∈ fp
  obj : ∀ i h, tn i h → ∀ b ∈ fp, ∃ o, h.get? b = some o ∧ ∀ v, o.data ≠ .cell v
  keep : ∀ i h h', tn i h → (∀ b ∈ fp, ∀ o, h.get? b = some o → h'.get? b = some o) → tn i h'
  item : ∀ (X : Cx), X.prog = P → X.w = w → X.K = K → ∀ (i : Nat) (pins : List (Addr × Obj)) (s : Shared) (σ : L2.St) (H : Hp) (E : Value → Shared → Prop), Inv X pins σ H s → (∀ b ∈ fp, FpOk X pins H b) → tn i s.heap → J.go i H →
    wpAny (model P w) X.A (pyNext (.ref it)) (fun r s1 => ∃ u, r = some u ∧
      wpAny (model P w) X.A (letOwnedTupleGo tg (.ref it) u) (fun _ s2 => ∃ x H', Inv X pins σ H' s2 ∧ RelV x u ∧ J.yld i H x H' ∧ tn (i + 1) s2.heap ∧ ∀ b ∈ fp, H' b = none) E s1) E s
  done : ∀ (X : Cx), X.prog = P → X.w = w → X.K = K → ∀ (y : Addr) (i : Nat) (pins : List (Addr × Obj)) (s : Shared) (σ : L2.St) (H : Hp) (E : Value → Shared → Prop), HotAt X.A y s.heap → y ∉ fp → Inv X pins σ H s → (∀ b ∈ fp, FpOk X pins H b) → tn i s.heap → J.stop i H →
    wpAny (model P w) X.A (pyNext (.ref it)) (fun r s1 => r = none ∧ Inv X pins σ H s1) E s
  self : ∀ (A : Around) (i : Nat) (s : Shared) (Q : Value → Shared → Prop) (E : Value → Shared → Prop), tn i s.heap → Q (.ref it) s → wpAny (model P w) A (pyIter (.ref it)) Q E s
def PIEY (X : Cx) (pins : List (Addr × Obj)) (σ : L2.St) (tg : Expr) (R : It → Hp → Prop) (itv : Value) (s2 : Shared) : Prop :=
  ∃ (it : Addr) (fp : List Addr) (tn : Nat → Heap → Prop) (J : It) (H' : Hp), itv = .ref it ∧ Inv X pins σ H' s2 ∧ TurnY X.prog X.w X.K tg J fp it tn ∧ tn 0 s2.heap ∧ (∀ b ∈ fp, FpOk X pins H' b) ∧ R J H'
structure PIY (X : Cx) (tg iter : Expr) (wi : TI) : Prop where
  run : ∀ (pins : List (Addr × Obj)) (s : Shared) (σ : L2.St) (H : Hp) (R : It → Hp → Prop), Inv X pins σ H s → wi σ H R →
    wpAny (model X.prog X.w) X.A (eval iter X.env) (fun v s1 => wpAny (model X.prog X.w) X.A (pyIter v) (PIEY X pins σ tg R) X.xe s1) X.xe s
theorem PIY.weak {X : Cx} {tg e : Expr} {t t' : TI} (h : PIY X tg e t) (w : ∀ σ H R, t' σ H R → t σ H R) : PIY X tg e t' := ⟨fun pins s σ H R I q => h.run pins s σ H R I (w _ _ _ q)⟩
end DD
namespace DD
open PySem PySem.Spec PyProof.Rows L2
/-! ### mirrors over worlds: wishes about a value and the world behind it -/
def Z (α : Type) : Type := Wd → (α → Wd → Prop) → Prop
instance : Mo Z where
  pure := fun a n φ => φ a n
  bind := fun x f n φ => x n (fun a n' => f a n' φ)
  sat := fun z n φ _ => z n φ
  lift := fun o n φ => ∃ a, o = some a ∧ φ a n
  sat_pure := fun h => h
  sat_bind := fun h => h
  sat_lift := fun ⟨a, e, h⟩ => ⟨a, e, h⟩
instance : Calm Z := ⟨fun h => h⟩
theorem zl_some {α : Type} (a : α) : (Mo.lift (some a) : Z α) = Pure.pure a := by
  funext n φ
  exact propext ⟨fun ⟨b, e, h⟩ => by cases e; exact h, fun h => ⟨a, rfl, h⟩⟩
instance : MoL Z := ⟨fun _ _ => rfl, fun _ _ _ => rfl, zl_some⟩
/-! ### the things that may change, hidden -/
def hid (G : Hp) : Hp := fun a => match G a with
  | some u => if isMk u = true then none else some u
  | none => none
theorem hid_some {G : Hp} {a : Addr} {u : HO} (h : hid G a = some u) : G a = some u ∧ isMk u = false := by
  unfold hid at h
  split at h
  · rename_i w e
    split at h
    · cases h
    · rename_i hm
      cases h
      exact ⟨e, by simpa using hm⟩
  · cases h
theorem hid_of {G : Hp} {a : Addr} {u : HO} (h : G a = some u) (m : isMk u = false) : hid G a = some u := by
  unfold hid
  rw [h]
  dsimp only
  rw [m, if_neg Bool.false_ne_true]
theorem hid_none {G : Hp} {a : Addr} (h : G a = none) : hid G a = none := by unfold hid; rw [h]
theorem hid_mk {G : Hp} {a : Addr} {u : HO} (h : G a = some u) (m : isMk u = true) : hid G a = none := by
  unfold hid
  rw [h]
  dsimp only
  rw [m, if_pos rfl]
theorem hid_sub {G H : Hp} (s : SubM G H) : SubM (hid G) H := ⟨fun a o e _ => s.h a o (hid_some e).1 (hid_some e).2, fun a e => hid_none (s.t a e)⟩
theorem same_hid {G G' : Hp} (s : Same G G') : Same (DD.hid G) (DD.hid G') := fun a o e => hid_of (s _ _ (hid_some e).1) (hid_some e).2
/-! data that may be hidden: nothing in it changes (instances that do not change are among it) -/
mutual
def okH : D → Bool
  | .none => true
  | .bool _ => true
  | .int _ => true
  | .str _ => true
  | .list ds => okHs ds
  | .tuple ds => okHs ds
  | .dict kvs => okHK kvs
def okHs : List D → Bool
  | [] => true
  | d :: ds => okH d && okHs ds
def okHK : List (D × D) → Bool
  | [] => true
  | (.none, _) :: _ => false
  | (.bool true, _) :: r => okHv r
  | (.bool false, _) :: _ => false
  | (.int _, _) :: _ => true
  | (.str _, _) :: _ => true
  | (.list _, _) :: _ => true
  | (.tuple _, _) :: _ => true
  | (.dict _, _) :: _ => true
def okHv : List (D × D) → Bool
  | [] => true
  | (_, v) :: r => okH v && okHv r
end
theorem okHv_map : ∀ fs : List (Str × D), okHv (fs.map fun p => (.str p.1, p.2)) = okHs (fs.map (·.2))
  | [] => by simp [okHv, okHs]
  | p :: r => by
    rw [List.map_cons, List.map_cons, okHv, okHs, okHv_map r]
theorem okH_ins (c : Str) (fs : List (Str × D)) : okH (insD c fs) = okHs (fs.map (·.2)) := by
  unfold insD
  rw [okH, okHK, okHv, okH, okHv_map]
  rfl
section
variable {K : PySem.W.Frag} {G : Hp}
theorem SqT.hid {a : Addr} {xs : List V} (h : SqT K G a xs) : SqT K (DD.hid G) a xs := by
  rcases h with (h | ⟨o, h⟩) | h
  · exact .inl (.inl (hid_of h rfl))
  · exact .inl (.inr ⟨o, hid_of h rfl⟩)
  · exact .inr h
mutual
theorem Da.hid : ∀ {d : D} {v : V}, Da K G v d → okH d = true → Da K (DD.hid G) v d
  | _, _, .non, _ => .non
  | _, _, .bl b, _ => .bl b
  | _, _, .int i, _ => .int i
  | _, _, .str x, _ => .str x
  | _, _, .lst h a, ok => .lst (hid_of h rfl) (DaAll.hid a (by rw [okH] at ok; exact ok))
  | _, _, .tup h a, ok => .tup (SqT.hid h) (DaAll.hid a (by rw [okH] at ok; exact ok))
  | _, _, .dct h a, _ => .dct (hid_of h rfl) a
  | _, _, .obj h, ok => by simp [okH, okHK] at ok
  | _, _, .cel h, ok => by simp [okH, okHK] at ok
  | _, _, .fin (c := c) (fs := fs) h k l a, ok => .fin (hid_of h rfl) k l (DaAll.hid a (by rw [← okH_ins c fs]; exact ok))
theorem DaAll.hid : ∀ {ds : List D} {vs : List V}, DaAll K G vs ds → okHs ds = true → DaAll K (DD.hid G) vs ds
  | _, _, .nil, _ => .nil
  | _, _, .cons a b, ok => by
    simp only [okHs, Bool.and_eq_true] at ok
    exact .cons (Da.hid a ok.1) (DaAll.hid b ok.2)
end
end
/-- slots without things that may change -/
def okSl : List Sl → Bool
  | [] => true
  | .val d :: r => okH d && okSl r
  | .own ds :: r => okHs ds && okSl r
  | .deck :: r => okSl r
  | .any :: r => okSl r
  | .exn _ _ fs :: r => okHs (fs.map (·.2)) && okSl r
  | .fn _ _ :: _ => false
theorem okSl_fn : ∀ {g : List Sl} {i : Nat} {f : Addr} {F : Hp → Prop}, okSl g = true → g[i]? = some (.fn f F) → False
  | [], _, _, _, _, e => by cases e
  | .fn _ _ :: r, _, _, _, h, _ => by cases h
  | .val d :: r, i, _, _, h, e => by
    cases i with
    | zero => cases e
    | succ i => simp only [okSl, Bool.and_eq_true] at h; exact okSl_fn (g := r) h.2 e
  | .own d :: r, i, _, _, h, e => by
    cases i with
    | zero => cases e
    | succ i => simp only [okSl, Bool.and_eq_true] at h; exact okSl_fn (g := r) h.2 e
  | .exn a b c :: r, i, _, _, h, e => by
    cases i with
    | zero => cases e
    | succ i => simp only [okSl, Bool.and_eq_true] at h; exact okSl_fn (g := r) h.2 e
  | .any :: r, i, _, _, h, e => by
    cases i with
    | zero => cases e
    | succ i => exact okSl_fn (g := r) h e
  | .deck :: r, i, _, _, h, e => by
    cases i with
    | zero => cases e
    | succ i => simp only [okSl] at h; exact okSl_fn (g := r) h e
theorem okSl_get : ∀ {g : List Sl} {i : Nat} {s : Sl}, okSl g = true → g[i]? = some s → (∀ d, s = .val d → okH d = true) ∧ (∀ ds, s = .own ds → okHs ds = true) ∧ ∀ a od fs, s = .exn a od fs → okHs (fs.map (·.2)) = true
  | [], i, s, _, e => by simp at e
  | x :: g, 0, s, h, e => by
    simp at e
    subst e
    cases x with
    | val d => simp only [okSl, Bool.and_eq_true] at h; exact ⟨fun d' z => by cases z; exact h.1, fun ds z => (by cases z), fun _ _ _ z => by cases z⟩
    | own ds => simp only [okSl, Bool.and_eq_true] at h; exact ⟨fun d' z => (by cases z), fun ds z => by cases z; exact h.1, fun _ _ _ z => by cases z⟩
    | deck => exact ⟨fun d' z => (by cases z), fun ds z => (by cases z), fun _ _ _ z => by cases z⟩
    | any => exact ⟨fun d' z => (by cases z), fun ds z => (by cases z), fun _ _ _ z => by cases z⟩
    | exn a b c => simp only [okSl, Bool.and_eq_true] at h; exact ⟨fun d' z => (by cases z), fun ds z => (by cases z), fun _ _ _ z => by cases z; exact h.1⟩
    | fn _ _ => cases h
  | x :: g, i + 1, s, h, e => by
    have h' : okSl g = true := by
      cases x with
      | val d => simp only [okSl, Bool.and_eq_true] at h; exact h.2
      | own ds => simp only [okSl, Bool.and_eq_true] at h; exact h.2
      | deck => exact h
      | any => exact h
      | exn a b c => simp only [okSl, Bool.and_eq_true] at h; exact h.2
      | fn _ _ => cases h
    exact okSl_get h' (by simpa using e)
def hideZ {α : Type} (g : List Sl) (x : Option α) : Z α := fun n φ => okSl g = true ∧ ∃ a, x = some a ∧ φ a n
section
variable {K : PySem.W.Frag} {B : Bs} {g g' : List Sl} {σ : L2.St} {H G : Hp} {n : Wd}
theorem nomk {n : Nat} (o : Obs K H G ⟨n, []⟩) {a : Addr} {u : HO} (e : G a = some u) : isMk u = false := by
  cases hm : mkOf u with
  | none => unfold isMk; rw [hm]; rfl
  | some k =>
    obtain ⟨c, e2, _⟩ := o.at_ a u k e hm
    cases e2
theorem obs_no {n : Nat} (h : ∀ a u, G a = some u → isMk u = false) : Obs K H G ⟨n, []⟩ :=
  ⟨(fun a u k e hm => by have := h a u e; unfold isMk at this; rw [hm] at this; cases this), (fun a b u w k e _ hm => by have := h a u e; unfold isMk at this; rw [hm] at this; cases this), fun k c e => by cases e⟩
theorem hid_nomk {a : Addr} {u : HO} (e : hid G a = some u) : isMk u = false := (hid_some e).2
theorem Fm.alive (f : Fm K B H G n) {a : Addr} (h : B.H a ≠ none) : H a ≠ none := by
  by_cases hp : B.fp a
  · exact f.fpThere hp
  · cases hb : B.H a with
    | none => exact absurd hb h
    | some z => rw [f.keep a z hb hp]; simp
/-- the base of a hidden run: what stood at the def's entry, as it is now -/
noncomputable def Bs.now (B : Bs) (H G : Hp) : Bs := ⟨fun a => open Classical in if B.H a = none then none else H a, hid B.G, B.dk, hid B.tG⟩
theorem now_none {a : Addr} (h : B.H a = none) : (B.now H G).H a = none := by show (open Classical in if B.H a = none then none else H a) = none; rw [if_pos h]
theorem now_some {a : Addr} (h : B.H a ≠ none) : (B.now H G).H a = H a := by show (open Classical in if B.H a = none then none else H a) = H a; rw [if_neg h]
theorem now_in {a : Addr} (h : (B.now H G).H a ≠ none) : B.H a ≠ none := fun e => h (now_none e)
theorem Ok.hide (o : Ok K B g σ H G n) (sb : Sub g g') (hs : okSl g' = true) : Ok K (B.now H G) g' σ H (hid G) ⟨n.n, []⟩ := by
  have o' := o.forget sb
  refine ⟨⟨fun a u e _ => ?_, hid_sub o.fm.sub, same_hid o.fm.old, obs_no fun a u e => hid_nomk e, fun a e => ?_, same_hid o.fm.tg, fun a e q => ?_, fun a b e => ?_⟩, o'.len, fun i d e => ?_, ?_, o'.dck, fun i a od fs e => ?_, fun i f F e => ?_⟩
  · by_cases h : B.H a = none
    · rw [now_none h] at e; cases e
    · rw [now_some h] at e; exact e
  · by_cases h : B.H a = none
    · exact hid_none (o.fm.bt a h)
    · rw [now_some h] at e
      exact absurd e (o.fm.alive h)
  · have h := now_in e
    cases eb : B.G a with
    | none => exact hid_none (o.fm.new a h eb)
    | some u =>
      cases m : isMk u with
      | false =>
        have : hid B.G a = none := q
        rw [hid_of eb m] at this
        cases this
      | true => exact hid_mk (o.fm.old _ _ eb) m
  · obtain ⟨d1, h1, h2, h3, h4⟩ := o.fm.deck a b e
    exact ⟨d1, by rw [now_some h1]; exact o.fm.alive h1, by rw [now_some h2]; exact o.fm.alive h2, hid_none h3, hid_none h4⟩
  · obtain ⟨v, h1, h2⟩ := o'.val i d e
    exact ⟨v, h1, h2.hid ((okSl_get hs e).1 d rfl)⟩
  · obtain ⟨f, h1, h2⟩ := o'.own
    refine ⟨f, h1, fun i ds e => ?_⟩
    obtain ⟨q1, q2, q3, xs, q4, q5⟩ := h2 i ds e
    exact ⟨q1, hid_none q2, now_none q3, xs, q4, q5.hid ((okSl_get hs e).2.1 ds rfl)⟩
  · obtain ⟨h1, h2⟩ := o'.adr i a od fs e
    refine ⟨h1, ?_⟩
    rcases h2 with ⟨k1, k2⟩ | ⟨dx, vs, k1, k2, k3, k4⟩
    · exact .inl ⟨k1, k2⟩
    · exact .inr ⟨dx, vs, k1, hid_of k2 rfl, k3, DaAll.hid k4 ((okSl_get hs e).2.2 a od fs rfl)⟩
  · exact (okSl_fn hs e).elim
/-- the data that came, beside the marks -/
def mrk (G Gc : Hp) : Hp := fun a => match G a with
  | some u => some u
  | none => Gc a
theorem mrk_l {G Gc : Hp} {a : Addr} {u : HO} (h : G a = some u) : mrk G Gc a = some u := by unfold mrk; rw [h]
theorem mrk_r {G Gc : Hp} {a : Addr} (h : G a = none) : mrk G Gc a = Gc a := by unfold mrk; rw [h]
theorem Ok.unhide (o : Ok K B g σ H G n) {G1 H' G' Gc : Hp} {n' : Wd} (f : Fm K ⟨H, G1, B.dk, G1⟩ H' G' n') (g1 : ∀ a u, G1 a = some u → isMk u = false) (c1 : Same (hid G) Gc) (c2 : ∀ a, hid G a = none → H a ≠ none → Gc a = none) (c3 : SubM Gc H') (c4 : ∀ a u, Gc a = some u → isMk u = false) :
    Ok K B g σ H' (mrk G Gc) ⟨n'.n, n.ob⟩ ∧ Same G (mrk G Gc) ∧ Same Gc (mrk G Gc) := by
  have sG : Same G (mrk G Gc) := fun a u e => mrk_l e
  have sC : Same Gc (mrk G Gc) := fun a u e => by
    cases eg : G a with
    | none => rw [mrk_r eg]; exact e
    | some w =>
      rw [mrk_l eg]
      cases m : isMk w with
      | false => have := c1 a w (hid_of eg m); rw [this] at e; exact e
      | true =>
        have hH : H a ≠ none := o.fm.there eg
        rw [c2 a (hid_mk eg m) hH] at e
        cases e
  have fp : ∀ a, (⟨H, G1, B.dk, G1⟩ : Bs).fp a → ∃ x y, B.dk = some (x, y) ∧ (a = x ∨ a = y) := fun a h => by
    rcases h with h | ⟨u, e, m⟩
    · exact h
    · have := g1 a u e
      rw [m] at this; cases this
  have kp : ∀ a u, B.H a = none ∨ (∃ w, G a = some w) → H a = some u → H' a = some u := fun a u hb e => f.keep a u e fun h => by
    obtain ⟨x, y, ed, hxy⟩ := fp a h
    obtain ⟨_, h1, h2, h3, h4⟩ := o.fm.deck x y ed
    rcases hb with hb | ⟨w, hb⟩
    · rcases hxy with rfl | rfl
      · exact h1 hb
      · exact h2 hb
    · rcases hxy with rfl | rfl
      · rw [o.fm.new a h1 h3] at hb; cases hb
      · rw [o.fm.new a h2 h4] at hb; cases hb
  have alive : ∀ a, H a ≠ none → H' a ≠ none := fun a h => f.alive h
  refine ⟨⟨⟨fun a u e q => ?_, ⟨fun a u e m => ?_, fun a e => ?_⟩, o.fm.old.trans sG, ⟨fun a u k e m => ?_, fun a b u w k e e2 m m2 => ?_, fun k c e => ?_⟩, o.fm.bt, o.fm.tg.trans sG, fun a e q => ?_, fun a b e => ?_⟩, o.len, fun i d e => ?_, ?_, o.dck, fun i a od fs e => ⟨(o.adr i a od fs e).1, (o.adr i a od fs e).2.mono sG⟩, fun i f F e => ⟨(o.fnc i f F e).1, (o.fnc i f F e).2.2 _ _ sG (o.fnc i f F e).2.1, (o.fnc i f F e).2.2⟩⟩, sG, sC⟩
  · refine f.keep a u (o.fm.keep a u e q) fun h => q ?_
    obtain ⟨x, y, ed, hxy⟩ := fp a h
    exact .inl ⟨x, y, ed, hxy⟩
  · cases eg : G a with
    | none => rw [mrk_r eg] at e; exact c3.h a u e m
    | some w =>
      rw [mrk_l eg] at e
      cases e
      exact c3.h a u (c1 a u (hid_of eg m)) m
  · cases eg : G a with
    | none => rw [mrk_r eg]; exact c3.t a e
    | some w => exact absurd e (alive a (o.fm.there eg))
  · cases eg : G a with
    | none =>
      rw [mrk_r eg] at e
      have := c4 a u e
      unfold isMk at this
      rw [m] at this; cases this
    | some w =>
      rw [mrk_l eg] at e
      cases e
      obtain ⟨c, h1, h2⟩ := o.fm.obs.at_ a u k eg m
      exact ⟨c, h1, h2.mono sG fun x hx => kp a x (.inr ⟨u, eg⟩) hx⟩
  · have lft : ∀ z v j, mrk G Gc z = some v → mkOf v = some j → G z = some v := fun z v j ez mz => by
      cases eg : G z with
      | none =>
        rw [mrk_r eg] at ez
        have := c4 z v ez
        unfold isMk at this
        rw [mz] at this; cases this
      | some w => rw [mrk_l eg] at ez; exact ez
    exact o.fm.obs.inj a b u w k (lft _ _ _ e m) (lft _ _ _ e2 m2) m m2
  · obtain ⟨a, h⟩ := o.fm.obs.all k c e
    obtain ⟨u, hu, _⟩ := h.mark
    exact ⟨a, h.mono sG fun x hx => kp a x (.inr ⟨u, hu⟩) hx⟩
  · have ga := o.fm.new a e q
    rw [mrk_r ga]
    exact c2 a (hid_none ga) (o.fm.alive e)
  · obtain ⟨_, h1, h2, h3, h4⟩ := o.fm.deck a b e
    exact ⟨(f.deck a b e).1, h1, h2, h3, h4⟩
  · obtain ⟨v, h1, h2⟩ := o.val i d e
    exact ⟨v, h1, h2.mono sG⟩
  · obtain ⟨fn, h1, h2⟩ := o.own
    refine ⟨fn, h1, fun i ds e => ?_⟩
    obtain ⟨q1, q2, q3, xs, q4, q5⟩ := h2 i ds e
    exact ⟨q1, by rw [mrk_r q2]; exact c2 _ (hid_none q2) (by rw [q4]; simp), q3, xs, kp _ _ (.inl q3) q4, q5.mono sG⟩
end
end DD
namespace DD
open PySem PySem.Spec PyProof.Rows L2
/-! ### what sees no thing that may change, within a mirror over worlds -/
def noOwns (g : List Sl) : Bool := g.all fun s => match s with
  | .own _ => false
  | _ => true
section
variable {K : PySem.W.Frag} {B : Bs} {g g' : List Sl} {σ : L2.St} {H G : Hp} {n : Wd}
/-- without lists of one's own the base is the present heap -/
theorem Ok.hide0 (o : Ok K B g σ H G n) (sb : Sub g g') (hs : okSl g' = true) (ho : noOwns g' = true) : Ok K ⟨H, hid G, B.dk, hid G⟩ g' σ H (hid G) ⟨n.n, []⟩ := by
  have oh := o.hide sb hs
  refine ⟨⟨fun a u e _ => e, oh.fm.sub, Same.refl _, oh.fm.obs, oh.fm.sub.t, Same.refl _, fun a _ q => q, fun a b e => ?_⟩, oh.len, oh.val, ⟨fun _ => 0, fun i j ds es e => ?_, fun i ds e => ?_⟩, oh.dck, oh.adr, oh.fnc⟩
  · obtain ⟨d1, h1, h2, h3, h4⟩ := oh.fm.deck a b e
    exact ⟨d1, oh.fm.alive h1, oh.fm.alive h2, oh.fm.new a h1 h3, oh.fm.new b h2 h4⟩
  · have := List.all_eq_true.mp ho _ (List.mem_of_getElem? e)
    cases this
  · have := List.all_eq_true.mp ho _ (List.mem_of_getElem? e)
    cases this
end
/-! .. lists of one's own lent -/
end DD
namespace DD
open PySem PySem.Spec PyProof.Rows L2
/-! ### lists that may change: cells of the world -/
def celOf : D → Option Nat
  | .dict [(.bool false, .int i)] => if bigI ≤ i then some (i - bigI).toNat else none
  | _ => none
theorem cel_ref (k : Nat) : celOf (refL k) = some k := by
  show (if bigI ≤ bigI + (k : Int) then some (bigI + (k : Int) - bigI).toNat else none) = _
  rw [if_pos (by omega)]
  congr 1
  omega
def cellZ (k : Nat) : Z (List D) := fun n φ => ∃ ds, n.ob[k]? = some (.lst ds) ∧ φ ds n
def putZ (k : Nat) (ds : List D) : Z Unit := fun n φ => φ () ⟨n.n, n.ob.set k (.lst ds)⟩
def newZ (ds : List D) : Z D := fun n φ => φ (refL n.ob.length) ⟨n.n, n.ob ++ [.lst ds]⟩
section
variable {K : PySem.W.Frag} {B : Bs} {g : List Sl} {σ : L2.St} {H G : Hp} {n : Wd}
theorem Da.cell {v : V} {d : D} {k : Nat} (h : Da K G v d) (e : celOf d = some k) : ∃ a, v = .ref a ∧ G a = some (.met k k) := by
  cases h with
  | cel h =>
    rename_i a j
    have : celOf (refL j) = some k := e
    rw [cel_ref] at this
    cases this
    exact ⟨_, rfl, h⟩
  | @dct a kvs h _ =>
    unfold celOf at e
    split at e
    · rename_i z
      cases kvs with
      | nil => cases z
      | cons p r =>
        rw [List.map_cons] at z
        injection z with z
        injection z with z z2
        obtain ⟨key, w⟩ := p
        have z3 := congrArg Prod.fst z
        cases key <;> cases z3
    · cases e
  | obj h =>
    cases e
  | _ => cases e
theorem Obs.cell {a : Addr} {k : Nat} (o : Obs K H G n) (e : G a = some (.met k k)) : ∃ ds xs, n.ob[k]? = some (.lst ds) ∧ H a = some (.lst xs) ∧ DaAll K G xs ds := by
  obtain ⟨c, h1, h2⟩ := o.at_ a _ k e rfl
  cases c with
  | ins cl fs =>
    obtain ⟨q, _⟩ := h2
    rw [e] at q
    cases q
  | lst ds =>
    obtain ⟨_, xs, h3, h4⟩ := h2
    exact ⟨ds, xs, h1, h3, h4⟩
  | dic kvs =>
    obtain ⟨q, _⟩ := h2
    rw [e] at q
    cases q
  | tab P y =>
    have z := h2.1
    rw [e] at z
    have w := Option.some.inj z
    injection w with w1 w2
    exact absurd w2 (Nat.ne_of_lt (Nat.lt_succ_self _))
  | dir kvs =>
    obtain ⟨q, _⟩ := h2
    rw [e] at q
    cases q
  | dii kvs =>
    obtain ⟨q, _⟩ := h2
    rw [e] at q
    cases q
  | lck kvs ep =>
    obtain ⟨q, _⟩ := h2
    rw [e] at q
    cases q
theorem Ok.cellAt (o : Ok K B g σ H G n) {v : V} {d : D} {k : Nat} (h : Da K G v d) (e : celOf d = some k) : ∃ a ds xs, v = .ref a ∧ G a = some (.met k k) ∧ n.ob[k]? = some (.lst ds) ∧ H a = some (.lst xs) ∧ DaAll K G xs ds := by
  obtain ⟨a, rfl, ha⟩ := h.cell e
  obtain ⟨ds, xs, h1, h2, h3⟩ := o.fm.obs.cell ha
  exact ⟨a, ds, xs, rfl, ha, h1, h2, h3⟩
/-- a cell is given new items -/
theorem Ok.putC (o : Ok K B g σ H G n) {a : Addr} {k : Nat} {xs : List V} {ds : List D} (ha : G a = some (.met k k)) (hd : DaAll K G xs ds) : Ok K B g σ (upd H a (.lst xs)) G ⟨n.n, n.ob.set k (.lst ds)⟩ := by
  obtain ⟨ds0, xs0, hk, hH, _⟩ := o.fm.obs.cell ha
  have klt : k < n.ob.length := (List.getElem?_eq_some_iff.mp hk).1
  have ne : ∀ b, G b = none → b ≠ a := fun b h e => by rw [e, ha] at h; cases h
  refine ⟨⟨fun b u e q => ?_, ⟨fun b u e m => ?_, fun b e => ?_⟩, o.fm.old, ⟨fun b u j e m => ?_, o.fm.obs.inj, fun j c e => ?_⟩, o.fm.bt, o.fm.tg, o.fm.new, fun x y e => ?_⟩, o.len, o.val, ?_, o.dck, o.adr, o.fnc⟩
  · have : b ≠ a := by
      rintro rfl
      cases eb : B.G b with
      | none => rw [o.fm.new b (by rw [e]; simp) eb] at ha; cases ha
      | some w =>
        have := o.fm.old b w eb
        rw [ha] at this
        cases this
        exact q (.inr ⟨_, eb, rfl⟩)
    rw [upd_ne this]
    exact o.fm.keep b u e q
  · have : b ≠ a := by
      rintro rfl
      rw [ha] at e
      cases e
      cases m
    rw [upd_ne this]
    exact o.fm.sub.h b u e m
  · by_cases hb : b = a
    · rw [hb, upd_same] at e; cases e
    · rw [upd_ne hb] at e; exact o.fm.sub.t b e
  · by_cases hb : b = a
    · subst hb
      rw [ha] at e
      cases e
      have hj : k = j := by simpa [mkOf] using m
      subst hj
      refine ⟨.lst ds, ?_, ha, xs, upd_same, hd⟩
      show (n.ob.set k (.lst ds))[k]? = _
      rw [List.getElem?_set_self klt]
    · have hj : k ≠ j := fun z => hb (o.fm.obs.inj b a u _ k e ha (z ▸ m) rfl)
      obtain ⟨c, h1, h2⟩ := o.fm.obs.at_ b u j e m
      refine ⟨c, ?_, h2.mono (Same.refl _) ?_⟩
      · show (n.ob.set k (.lst ds))[j]? = _
        rw [List.getElem?_set_ne hj]; exact h1
      · intro x hx
        rw [upd_ne hb]; exact hx
  · by_cases hj : k = j
    · subst hj
      have e' : (n.ob.set k (.lst ds))[k]? = some c := e
      rw [List.getElem?_set_self klt] at e'
      cases e'
      exact ⟨a, ha, xs, upd_same, hd⟩
    · have e' : (n.ob.set k (.lst ds))[j]? = some c := e
      rw [List.getElem?_set_ne hj] at e'
      obtain ⟨b, hb⟩ := o.fm.obs.all j c e'
      obtain ⟨u, hu, hm⟩ := hb.mark
      have hba : b ≠ a := by
        rintro rfl
        rw [ha] at hu
        cases hu
        exact hj (by simpa [mkOf] using hm)
      refine ⟨b, hb.mono (Same.refl _) ?_⟩
      intro x hx
      rw [upd_ne hba]; exact hx
  · obtain ⟨⟨cs, c, e1, e2, r⟩, h1, h2, h3, h4⟩ := o.fm.deck x y e
    exact ⟨⟨cs, c, by rw [upd_ne (ne x (o.fm.new x h1 h3))]; exact e1, by rw [upd_ne (ne y (o.fm.new y h2 h4))]; exact e2, r⟩, h1, h2, h3, h4⟩
  · obtain ⟨f, h1, h2⟩ := o.own
    refine ⟨f, h1, fun i es e => ?_⟩
    obtain ⟨q1, q2, q3, ys, q4, q5⟩ := h2 i es e
    exact ⟨q1, q2, q3, ys, by rw [upd_ne (ne _ q2)]; exact q4, q5⟩
/-- a new list becomes a cell -/
theorem Ok.cellN (o : Ok K B g σ H G n) {p : Addr} {xs : List V} {ds : List D} (hb : B.H p = none) (hg : G p = none) (hh : H p = some (.lst xs)) (hf : ∀ (i : Nat) (es : List D) (f : Addr), g[i]? = some (Sl.own es) → σ[i]? = some (some (V.ref f)) → f ≠ p) (da : DaAll K G xs ds) :
    Ok K B g σ H (upd G p (.met n.ob.length n.ob.length)) ⟨n.n, n.ob ++ [.lst ds]⟩ ∧ Same G (upd G p (.met n.ob.length n.ob.length)) := by
  have sg : Same G (upd G p (.met n.ob.length n.ob.length)) := same_upd hg
  have old : ∀ b u, b ≠ p → upd G p (.met n.ob.length n.ob.length) b = some u → G b = some u := fun b u h e => by rw [upd_ne h] at e; exact e
  have low : ∀ b u j, b ≠ p → upd G p (.met n.ob.length n.ob.length) b = some u → mkOf u = some j → j < n.ob.length := fun b u j h e m => by
    obtain ⟨c, h1, _⟩ := o.fm.obs.at_ b u j (old b u h e) m
    exact (List.getElem?_eq_some_iff.mp h1).1
  refine ⟨⟨⟨o.fm.keep, ⟨fun a z e m => ?_, fun a e => ?_⟩, o.fm.old.trans sg, ⟨fun b u j e m => ?_, fun b c u w j e1 e2 m1 m2 => ?_, fun j c e => ?_⟩, o.fm.bt, o.fm.tg.trans sg, fun a e q => ?_, o.fm.deck⟩, o.len, fun i d e => ?_, ?_, o.dck, fun i a od fs e => ⟨(o.adr i a od fs e).1, (o.adr i a od fs e).2.mono sg⟩, fun i f F e => ⟨(o.fnc i f F e).1, (o.fnc i f F e).2.2 _ _ sg (o.fnc i f F e).2.1, (o.fnc i f F e).2.2⟩⟩, sg⟩
  · by_cases ha : a = p
    · rw [ha, upd_same] at e; cases e; cases m
    · exact o.fm.sub.h a z (old a z ha e) m
  · have : a ≠ p := by rintro rfl; rw [hh] at e; cases e
    rw [upd_ne this]; exact o.fm.sub.t a e
  · by_cases hbp : b = p
    · subst hbp
      rw [upd_same] at e
      cases e
      have hj : n.ob.length = j := by simpa [mkOf] using m
      subst hj
      exact ⟨.lst ds, by simp, upd_same, xs, hh, da.mono sg⟩
    · obtain ⟨c, h1, h2⟩ := o.fm.obs.at_ b u j (old b u hbp e) m
      have hl := (List.getElem?_eq_some_iff.mp h1).1
      exact ⟨c, by show (n.ob ++ [Cell.lst ds])[j]? = _; rw [List.getElem?_append_left hl]; exact h1, h2.mono sg fun _ z => z⟩
  · by_cases hbp : b = p <;> by_cases hcp : c = p
    · rw [hbp, hcp]
    · subst hbp
      rw [upd_same] at e1
      cases e1
      have hj : n.ob.length = j := by simpa [mkOf] using m1
      have := low c w j hcp e2 m2
      omega
    · subst hcp
      rw [upd_same] at e2
      cases e2
      have hj : n.ob.length = j := by simpa [mkOf] using m2
      have := low b u j hbp e1 m1
      omega
    · exact o.fm.obs.inj b c u w j (old b u hbp e1) (old c w hcp e2) m1 m2
  · have e' : (n.ob ++ [Cell.lst ds])[j]? = some c := e
    by_cases hl : j < n.ob.length
    · rw [List.getElem?_append_left hl] at e'
      obtain ⟨b, h⟩ := o.fm.obs.all j c e'
      exact ⟨b, h.mono sg fun _ z => z⟩
    · have hl' : n.ob.length ≤ j := Nat.le_of_not_lt hl
      rw [List.getElem?_append_right hl'] at e'
      have hj : j = n.ob.length := by
        have h3 : j - n.ob.length < 1 := (List.getElem?_eq_some_iff.mp e').1
        exact Nat.le_antisymm (Nat.le_of_sub_eq_zero (Nat.lt_one_iff.mp h3)) hl'
      subst hj
      rw [Nat.sub_self] at e'
      cases e'
      exact ⟨p, upd_same, xs, hh, da.mono sg⟩
  · have : a ≠ p := by rintro rfl; exact e hb
    rw [upd_ne this]; exact o.fm.new a e q
  · obtain ⟨v, h1, h2⟩ := o.val i d e
    exact ⟨v, h1, h2.mono sg⟩
  · obtain ⟨f, h1, h2⟩ := o.own
    refine ⟨f, h1, fun i es e => ?_⟩
    obtain ⟨a, b, c, ys, d, da'⟩ := h2 i es e
    exact ⟨a, by rw [upd_ne (hf i es _ e a)]; exact b, c, ys, d, da'.mono sg⟩
end
end DD
namespace DD
open PySem PySem.Spec PyProof.Rows L2
/-! ### rules for lists that may change -/
def ixZ (d j : D) : Z D := match celOf d with
  | some k => cellZ k >>= fun ds => Mo.lift (getD (.list ds) j)
  | none => Mo.lift (getD d j)
def lenZ (d : D) : Z D := match celOf d with
  | some k => cellZ k >>= fun ds => pure (.int ds.length)
  | none => Mo.lift (lenD d)
def tupleZ (d : D) : Z D := match celOf d with
  | some k => cellZ k >>= fun ds => pure (.tuple ds)
  | none => Mo.lift (tupleD d)
def onlyZ (d : D) : Z Nat := Mo.lift (celOf d)
def setZ (d j v : D) : Z Unit := onlyZ d >>= fun k => cellZ k >>= fun ds => Mo.lift (putD ds j v) >>= fun es => putZ k es
def tripZ (d : D) : Z (D × D × D) := match celOf d with
  | some k => cellZ k >>= fun ds => Mo.lift (tripD (.tuple ds))
  | none => Mo.lift (tripD d)
section
variable {X : Cx} {EX : XR} {g : List Sl}
/-- a new list as a thing that may change -/
theorem ej_cel {e : Expr} {x : Z (List D)} (h : LJ X EX e g x) : EJ X EX e g (x >>= newZ) :=
  PE.weak h fun σ H Q ⟨B, G, n, φ, ξ, o, s, q, xw⟩ => ⟨B, G, n, _, ξ, o, Mo.sat_bind s, fun p xs H1 G1 ds n1 o1 g1 hb hg hh hf a1 s1 => by
    obtain ⟨o2, g2⟩ := o1.cellN hb hg hh hf a1
    exact q _ H1 _ _ _ o2 (g1.trans g2) (.cel upd_same) s1, xw⟩
theorem ej_ixZ {a b : Expr} {pos : Pos} {x y : Z D} (ha : EJ X EX a g x) (hb : EJ X EX b g y) (hs : PlainIx b) : EJ X EX (.Subscript a b pos) g (x >>= fun d => y >>= fun j => ixZ d j) :=
  (pe_ix ix_seq ha hb hs).weak fun σ H Q ⟨B, G, n, φ, ξ, o, s, q, xw⟩ => te_one o s (fun v H1 G1 d n1 o1 g1 d1 s1 => te_one o1 s1 (fun w H2 G2 j n2 o2 g2 d2 s2 => by
    have s2 : ixZ d j n2 φ := s2
    unfold ixZ at s2
    rcases ek : celOf d with _ | k
    rotate_left
    · rw [ek] at s2
      obtain ⟨a, ds, xs, ev, ga, hk, hH, da⟩ := o2.cellAt (d1.mono g2) ek
      obtain ⟨ds', e1, z, ez, pz⟩ := s2
      rw [hk] at e1
      cases e1
      unfold getD at ez
      split at ez
      · rename_i e2
        cases e2
        obtain ⟨v', h1, h2⟩ := da.atI ez
        exact .inl ⟨a, xs, _, v', ev, d2.toI, .of hH, h1, q v' H2 G2 z n2 o2 (g1.trans g2) h2 pz⟩
      · rename_i e2; cases e2
      · rename_i e2; cases e2
      · cases ez
    · rw [ek] at s2
      obtain ⟨z, ez, pz⟩ := s2
      exact rd_ix v w d j z H2 G2 Q (d1.mono g2) d2 o2.fm.sub ez fun u H3 G3 gr du => q u H3 G3 z n2 (o2.gr gr) ((g1.trans g2).trans gr.g) du pz) xw) xw
theorem ej_lenZ {p pos : Pos} {a : Expr} {x : Z D} (hm : X.mg "len" = none) (ha : EJ X EX a g x) (hg : Gl X "len" := by rfl) (hs : starEach [a] X.env = (false, eval a X.env) :: starEach [] X.env := by rfl) :
    EJ X EX (.Call (.Name "len" p) [a] [] pos) g (x >>= fun d => lenZ d) :=
  (pe_callB call_lenD' hg hm (by decide +kernel) (pa_cons ha pa_nil hs) (by decide) (by decide) hs rfl).weak fun σ H Q ⟨B, G, n, φ, ξ, o, s, q, xw⟩ => te_one o s (fun v H1 G1 d n1 o1 g1 d1 s1 => by
    have s1 : lenZ d n1 φ := s1
    unfold lenZ at s1
    rcases ek : celOf d with _ | k
    rotate_left
    · rw [ek] at s1
      obtain ⟨a, ds, xs, ev, ga, hk, hH, da⟩ := o1.cellAt d1 ek
      obtain ⟨ds', e1, pz⟩ := s1
      rw [hk] at e1
      cases e1
      refine .inl ⟨a, xs, by rw [ev], .inl (.of hH), ?_⟩
      rw [da.length]
      exact q _ H1 G1 _ n1 o1 g1 (.int _) pz
    · rw [ek] at s1
      obtain ⟨z, ez, pz⟩ := s1
      exact rc_len v d z H1 G1 Q d1 o1.fm.sub ez fun u H3 G3 gr du => q u H3 G3 z n1 (o1.gr gr) (g1.trans gr.g) du pz) xw
theorem ej_tupleZ {p pos : Pos} {a : Expr} {x : Z D} (hm : X.mg "tuple" = none) (ha : EJ X EX a g x) (hg : Gl X "tuple" := by rfl) (hs : starEach [a] X.env = (false, eval a X.env) :: starEach [] X.env := by rfl) :
    EJ X EX (.Call (.Name "tuple" p) [a] [] pos) g (x >>= fun d => tupleZ d) :=
  (pe_callTy call_tuple_of hg hm (by decide +kernel) (pa_cons ha pa_nil hs) (by decide) (by decide) hs rfl).weak fun σ H Q ⟨B, G, n, φ, ξ, o, s, q, xw⟩ => te_one o s (fun v H1 G1 d n1 o1 g1 d1 s1 => by
    have s1 : tupleZ d n1 φ := s1
    unfold tupleZ at s1
    rcases ek : celOf d with _ | k
    rotate_left
    · rw [ek] at s1
      obtain ⟨a, ds, xs, ev, ga, hk, hH, da⟩ := o1.cellAt d1 ek
      obtain ⟨ds', e1, pz⟩ := s1
      rw [hk] at e1
      cases e1
      refine ⟨a, xs, by rw [ev], .inl ⟨.of hH, fun l hl => ?_⟩⟩
      obtain ⟨o2, g2⟩ := o1.alloc (u := .tup xs) hl
      exact q _ _ _ _ n1 o2 (g1.trans g2) (.tup (.inl (.inl upd_same)) (da.mono g2)) pz
    · rw [ek] at s1
      obtain ⟨z, ez, pz⟩ := s1
      exact rc_tuple v d z H1 G1 Q d1 o1.fm.sub ez fun u H3 G3 gr du => q u H3 G3 z n1 (o1.gr gr) (g1.trans gr.g) du pz) xw
/-- o[k] = e -/
theorem sj_putZ {o0 k e : Expr} {p2 pos : Pos} {x y z : Z D} (h : EJ X EX e g x) (ho : EJ X EX o0 g y) (hk : EJ X EX k g z)
    (ha : ∀ v, assign (.Subscript o0 k p2) X.env v = (do
      let ov ← holding [v] (eval o0 X.env)
      let iv ← holding [v, ov] (eval k X.env)
      standAt p2
      holding [v, ov, iv] (setItem ov iv v)
      release [v, ov, iv] []) := by intro _; rfl)
    (hs : swapsWithSole [.Subscript o0 k p2] e pos.line X.env = pure false := by kernel_rfl) (hw : swappedStores [.Subscript o0 k p2] e X.env = pure none := by kernel_rfl)
    (h1 : (assignEach [.Subscript o0 k p2] X.env).map (·.2) = [assign (.Subscript o0 k p2) X.env] := by rfl) :
    SJ X EX (.Assign [.Subscript o0 k p2] e pos) g (x >>= fun v => y >>= fun d => z >>= fun j => setZ d j v) (fun _ => g) :=
  (ps_asg h (pg_sub ho hk set_list ha) hs hw h1).weak fun De σ H ⟨B, G, n, φ, ξ, o, s, q, xw⟩ => te_one o s (fun v H1 G1 dv n1 o1 g1 d1 s1 => te_one o1 s1 (fun w H2 G2 d n2 o2 g2 d2 s2 => te_one o2 s2 (fun u H3 G3 j n3 o3 g3 d3 s3 => by
    obtain ⟨k, ek, ds', e1, es, ee, pe⟩ := (show setZ d j dv n3 φ from s3)
    obtain ⟨a, ds, xs, ev, ga, hk, hH, da⟩ := o3.cellAt (d2.mono g3) ek
    rw [hk] at e1
    cases e1
    unfold putD at ee
    cases j with
    | int j =>
      obtain ⟨t, et, rfl⟩ := Option.map_eq_some_iff.mp ee
      cases d3
      exact ⟨a, xs, j, t, ev, rfl, hH, by rw [da.length]; exact et, q () _ _ G3 _ (o3.putC ga (da.set ((d1.mono g2).mono g3) t)) ((g1.trans g2).trans g3) pe⟩
    | _ => cases ee) xw) xw) xw
/-- a, b, c = e -/
theorem sj_unp3Z (i j l : Nat) {elts : List Expr} {kk : Nat} {tpos : Pos} {e : Expr} {pos : Pos} {x : Z D} (h : EJ X EX e g x) (h1t : PG X (.Tuple elts kk tpos) (gTup X.K 3 (gCons (gName i) (gCons (gName j) (gCons (gName l) gNil))))) (h1l : PG X (.Tuple elts kk tpos) (gUnl X.K 3 (gCons (gName i) (gCons (gName j) (gCons (gName l) gNil)))))
    (hs : swapsWithSole [.Tuple elts kk tpos] e pos.line X.env = pure false := by kernel_rfl) (hw : swappedStores [.Tuple elts kk tpos] e X.env = pure none := by kernel_rfl)
    (h1 : (assignEach [.Tuple elts kk tpos] X.env).map (·.2) = [assign (.Tuple elts kk tpos) X.env] := by rfl) : SJ X EX (.Assign [.Tuple elts kk tpos] e pos) g (x >>= fun d => tripZ d) (fun de => ((g.set i (.val de.1)).set j (.val de.2.1)).set l (.val de.2.2)) := by
  have hor : PG X (.Tuple elts kk tpos) (fun v σ H Q => gTup X.K 3 (gCons (gName i) (gCons (gName j) (gCons (gName l) gNil))) v σ H Q ∨ gUnl X.K 3 (gCons (gName i) (gCons (gName j) (gCons (gName l) gNil))) v σ H Q) :=
    ⟨fun pins s σ H v u Q I r hw => hw.elim (fun hw => h1t.run pins s σ H v u Q I r hw) fun hw => h1l.run pins s σ H v u Q I r hw⟩
  refine (ps_asg h hor hs hw h1).weak fun De σ H ⟨B, G, n, φ, ξ, o, s, q, xw⟩ => te_one o s (fun v H1 G1 d n1 o1 g1 d1 s1 => ?_) xw
  have s1 : tripZ d n1 φ := s1
  unfold tripZ at s1
  rcases ek : celOf d with _ | k
  rotate_left
  · rw [ek] at s1
    obtain ⟨a, ds, xs, ev, ga, hk, hH, da⟩ := o1.cellAt d1 ek
    subst ev
    obtain ⟨ds', e1, de, ed, pd⟩ := s1
    rw [hk] at e1
    cases e1
    unfold tripD at ed
    split at ed
    · rename_i e2
      cases e2
      cases ed
      cases da with
      | cons e1 r =>
        cases r with
        | cons e2 r =>
          cases r with
          | cons e3 r =>
            cases r
            exact .inr ⟨_, _, rfl, .of hH, rfl, _, _, rfl, _, _, rfl, _, _, rfl, rfl, q _ _ _ G1 n1 (((o1.setV e1).setV e2).setV e3) g1 pd⟩
    · cases ed
  · rw [ek] at s1
    obtain ⟨de, ed, pd⟩ := s1
    unfold tripD at ed
    split at ed
    · cases ed
      cases d1 with
      | tup h da =>
        cases da with
        | cons e1 r =>
          cases r with
          | cons e2 r =>
            cases r with
            | cons e3 r =>
              cases r
              exact .inl ⟨_, _, rfl, sameT o1.fm.sub h, rfl, _, _, rfl, _, _, rfl, _, _, rfl, rfl, q _ _ _ G1 n1 (((o1.setV e1).setV e2).setV e3) g1 pd⟩
    · cases ed
end
end DD
namespace DD
open PySem PySem.Spec PyProof.Rows L2
/-! ### the deck of three parts, as cells -/
def deck3 (c : Int) (cs rs : List Int) : List Cell := [.lst [refL 1, .int c, refL 2], .lst (cs.map .int), .lst (rs.map .int)]
def spDeckZ (K : PySem.W.Frag) : Sp := fun vs H Q _ => ∃ (a : Addr) (ns : List Int), vs = [.ref a] ∧ SqL K H a (ns.map V.int) ∧
  ∀ (x y z : Addr) (H' : Hp) (cs rs : List Int), Same H H' → x ≠ y → x ≠ z → y ≠ z → H' x = some (.lst [.ref y, .int 0, .ref z]) → H' y = some (.lst (cs.map V.int)) → H' z = some (.lst (rs.map V.int)) → cs.length = rs.length → 0 < cs.length → cs.length ≤ 64 → (∀ r ∈ rs, 0 ≤ r) → Q (.ref x) H'
def deckG (x y z : Addr) : Hp := fun a => if a = x then some (.met 0 0) else if a = y then some (.met 1 1) else if a = z then some (.met 2 2) else none
theorem deckG_cases {x y z a : Addr} {u : HO} (h : deckG x y z a = some u) : (a = x ∧ u = .met 0 0) ∨ (a ≠ x ∧ a = y ∧ u = .met 1 1) ∨ (a ≠ x ∧ a ≠ y ∧ a = z ∧ u = .met 2 2) := by
  unfold deckG at h
  split at h
  · rename_i e; cases h; exact .inl ⟨e, rfl⟩
  · rename_i e1
    split at h
    · rename_i e; cases h; exact .inr (.inl ⟨e1, e, rfl⟩)
    · rename_i e2
      split at h
      · rename_i e; cases h; exact .inr (.inr ⟨e1, e2, e, rfl⟩)
      · cases h
theorem deck_fm {K : PySem.W.Frag} {x y z : Addr} {H : Hp} {cs rs : List Int} (h1 : x ≠ y) (h2 : x ≠ z) (h3 : y ≠ z) (hx : H x = some (.lst [.ref y, .int 0, .ref z])) (hy : H y = some (.lst (cs.map V.int))) (hz : H z = some (.lst (rs.map V.int))) :
    Fm K ⟨H, deckG x y z, none, deckG x y z⟩ H (deckG x y z) ⟨0, deck3 0 cs rs⟩ := by
  have gx : deckG x y z x = some (.met 0 0) := if_pos rfl
  have gy : deckG x y z y = some (.met 1 1) := by unfold deckG; rw [if_neg (Ne.symm h1), if_pos rfl]
  have gz : deckG x y z z = some (.met 2 2) := by unfold deckG; rw [if_neg (Ne.symm h2), if_neg (Ne.symm h3), if_pos rfl]
  have cx : CellAt K (deckG x y z) H x 0 (.lst [refL 1, .int 0, refL 2]) := ⟨gx, _, hx, .cons (.cel gy) (.cons (.int 0) (.cons (.cel gz) .nil))⟩
  have cy : CellAt K (deckG x y z) H y 1 (.lst (cs.map .int)) := ⟨gy, _, hy, daInts cs⟩
  have cz : CellAt K (deckG x y z) H z 2 (.lst (rs.map .int)) := ⟨gz, _, hz, daInts rs⟩
  have nn : ∀ a, H a = none → deckG x y z a = none := fun a e => by
    cases q : deckG x y z a with
    | none => rfl
    | some u =>
      rcases deckG_cases q with ⟨rfl, _⟩ | ⟨_, rfl, _⟩ | ⟨_, _, rfl, _⟩
      · rw [hx] at e; cases e
      · rw [hy] at e; cases e
      · rw [hz] at e; cases e
  refine ⟨fun a u e _ => e, ⟨fun a u e m => ?_, nn⟩, Same.refl _, ⟨fun a u k e m => ?_, fun a b u w k e1 e2 m1 m2 => ?_, fun k c e => ?_⟩, nn, Same.refl _, fun a _ q => q, fun a b e => by cases e⟩
  · rcases deckG_cases e with ⟨_, rfl⟩ | ⟨_, _, rfl⟩ | ⟨_, _, _, rfl⟩ <;> cases m
  · rcases deckG_cases e with ⟨rfl, rfl⟩ | ⟨_, rfl, rfl⟩ | ⟨_, _, rfl, rfl⟩
    · obtain rfl : 0 = k := by simpa [mkOf] using m
      exact ⟨_, rfl, cx⟩
    · obtain rfl : 1 = k := by simpa [mkOf] using m
      exact ⟨_, rfl, cy⟩
    · obtain rfl : 2 = k := by simpa [mkOf] using m
      exact ⟨_, rfl, cz⟩
  · rcases deckG_cases e1 with ⟨rfl, rfl⟩ | ⟨_, rfl, rfl⟩ | ⟨_, _, rfl, rfl⟩ <;> rcases deckG_cases e2 with ⟨rfl, rfl⟩ | ⟨_, rfl, rfl⟩ | ⟨_, _, rfl, rfl⟩ <;> first | rfl | (simp only [mkOf, Option.some.injEq] at m1 m2; omega)
  · match k, e with
    | 0, e => cases e; exact ⟨x, cx⟩
    | 1, e => cases e; exact ⟨y, cy⟩
    | 2, e => cases e; exact ⟨z, cz⟩
    | k + 3, e => cases e
/-- the law: its first statement makes the deck, the rest runs by a mirror over worlds -/
theorem law_jZ {P : Program} {w : World} {K : PySem.W.Frag} {mg : Str → Option Value} {base : Heap} {k : Nat} {x qual y z : Str} {st : Stmt} {f fk : Addr} {fd fkd : FuncData} {N : List Str} {px pn pc ps : Pos} {rest : List Stmt} {dx : Str} {pks : List Str} {M : Z D} (Fu : Fun K x qual st f fd) (S : FnScope N [y] (defScope st)) (Fk : FnG P w K mg base k fk fkd pks (spDeckZ K)) (bk : Binds K fkd pks []) (mk : mg dx = some (.ref fk))
    {pos : Pos} (hbody : defBody st = .Assign [.Name z px] (.Call (.Name dx pn) [.Name y pc] [] ps) pos :: rest) (hN0 : N[0]? = some y) (hN1 : N[1]? = some z)
    (hset : ∀ (cdv : Value) (A : Around) (outer : List Env) (s : Shared) (H : Hp) (E : XK), Room k (A.deeper (envOfC qual (defScope st) s.heap.objs.size f cdv)) → A.guards = some [] →
      PS (cxOf CX0 P w K mg base N qual (defScope st) f cdv A outer s H E).nox (.Assign [.Name z px] (.Call (.Name dx pn) [.Name y pc] [] ps) pos) (tAsg (fun σ H Q => tCons (tVar 0) tNil σ H fun vs H1 => spDeckZ K vs H1 Q E0) (gName 1)))
    (hrest : ∀ (cdv : Value) (A : Around) (outer : List Env) (s : Shared) (H : Hp) (E : XK), Room k (A.deeper (envOfC qual (defScope st) s.heap.objs.size f cdv)) → A.guards = some [] →
      FJ (cxOf CX0 P w K mg base N qual (defScope st) f cdv A outer s H E).nox X0 true rest (.any :: .val (refL 0) :: List.replicate (N.length - 2) .any) M)
    (hM : ∀ cs rs : List Int, cs.length = rs.length → 0 < cs.length → cs.length ≤ 64 → (∀ r ∈ rs, 0 ≤ r) → M ⟨0, deck3 0 cs rs⟩ (fun d _ => d = .bool true)) : FnG P w K mg base (k + 1) f fd [y] (spLaw K) := by
  refine fng_of Fu S (fun vs H Q E ⟨a, ns, e, _⟩ => by rw [e]; rfl) fun cdv A outer s H vs Q E hr gu ⟨a, ns, e, hS, hQ⟩ => ?_
  subst e
  rw [hbody]
  refine ⟨_, pss_cons (hset cdv A outer s H E hr gu) (hrest cdv A outer s H E hr gu), ?_⟩
  refine ⟨.ref a, ?_, a, ns, rfl, hS, fun x1 y1 z1 H' cs rs sm h1 h2 h3 hx hy hz hl h0 h64 hr0 => ?_⟩
  · unfold L2.start
    cases N with
    | nil => cases hN0
    | cons _ _ => rfl
  · have gx : deckG x1 y1 z1 x1 = some (.met 0 0) := if_pos rfl
    refine ⟨⟨H', deckG x1 y1 z1, none, deckG x1 y1 z1⟩, deckG x1 y1 z1, ⟨0, deck3 0 cs rs⟩, _, fun _ _ => False, ⟨deck_fm h1 h2 h3 hx hy hz, ?_, fun i d e => ?_, ⟨fun _ => 0, fun i j ds es e => ?_, fun i ds e => ?_⟩, fun i e => ?_, fun i _ _ _ e2 => ?_, fun i _ _ e2 => ?_⟩, hM cs rs hl h0 h64 hr0, fun v H2 G2 d n2 _ dv p => ?_, fun _ σ2 H2 G2 n2 _ p => ?_, fun _ _ _ _ _ _ _ z => z.elim⟩
    · match N, hN1 with
      | n0 :: n1 :: N', _ => simp [L2.start]
    · match i with
      | 0 => cases e
      | 1 =>
        cases e
        refine ⟨.ref x1, ?_, .cel gx⟩
        match N, hN1 with
        | n0 :: n1 :: N', _ => simp [L2.start]
      | i + 2 =>
        simp only [List.getElem?_cons_succ] at e
        rw [List.getElem?_replicate] at e
        split at e <;> cases e
    · match i with
      | 0 => cases e
      | 1 => cases e
      | i + 2 =>
        simp only [List.getElem?_cons_succ] at e
        rw [List.getElem?_replicate] at e
        split at e <;> cases e
    · match i with
      | 0 => cases e
      | 1 => cases e
      | i + 2 =>
        simp only [List.getElem?_cons_succ] at e
        rw [List.getElem?_replicate] at e
        split at e <;> cases e
    · match i with
      | 0 => cases e
      | 1 => cases e
      | i + 2 =>
        simp only [List.getElem?_cons_succ] at e
        rw [List.getElem?_replicate] at e
        split at e <;> cases e
    · match i with
      | 0 => cases e2
      | 1 => cases e2
      | i + 2 =>
        simp only [List.getElem?_cons_succ] at e2
        rw [List.getElem?_replicate] at e2
        split at e2 <;> cases e2
    · match i with
      | 0 => cases e2
      | 1 => cases e2
      | i + 2 =>
        simp only [List.getElem?_cons_succ] at e2
        rw [List.getElem?_replicate] at e2
        split at e2 <;> cases e2
    · subst p
      cases dv
      exact hQ H2
    · cases p
end DD
namespace DD
open PySem PySem.Spec PyProof.Rows L2
theorem cut63_eq (ns : List Int) : cutV (ns.map V.int) none (some 63) = (ns.take 63).map V.int := by
  unfold cutV
  rw [HT.sIx_none, List.drop_zero, Nat.sub_zero, List.map_take]
  have : HT.sIx (ns.map V.int).length (ns.map V.int).length (some 63) = min 63 (ns.map V.int).length := by
    show (if (63 : Int) < 0 then (63 + ((ns.map V.int).length : Int)).toNat else min (63 : Int).toNat (ns.map V.int).length) = _
    rw [if_neg (by decide)]
    rfl
  rw [this]
  exact List.take_eq_take_min.symm
/-- the cells: what is cut out, and one 0 where there is nothing -/
def csOf (f : Int → Int) (ns : List Int) : List Int := (ns.take 63).map f ++ (if ns.length = 0 then [0] else [])
theorem csOf_len (f : Int → Int) (ns : List Int) : 0 < (csOf f ns).length ∧ (csOf f ns).length ≤ 64 := by
  unfold csOf
  rw [List.length_append, List.length_map, List.length_take]
  split
  · rename_i h; simp; omega
  · rename_i h; simp; omega
def big18 (x : Int) : Int := x * (if decide ((10 : Int) ^ 18 ≤ x) = true then 1 else 0)
theorem big18_ge (x : Int) : 0 ≤ big18 x := by
  unfold big18
  split
  · rename_i h
    have h' : (10 : Int) ^ 18 ≤ x := of_decide_eq_true h
    have : (10 : Int) ^ 18 = 1000000000000000000 := by decide
    omega
  · omega
end DD
namespace DD
open PySem PySem.Spec PyProof.Rows L2
/-! ### reasoning about mirrors over worlds: the deck of three parts stands, other things may stand beside it -/
theorem zb_assoc {α β γ : Type} (x : Z α) (f : α → Z β) (g : β → Z γ) : (x >>= f) >>= g = x >>= fun a => f a >>= g := rfl
theorem zb_pure {α β : Type} (a : α) (f : α → Z β) : (Pure.pure a >>= f) = f a := rfl
theorem zb_some {α β : Type} (a : α) (f : α → Z β) : ((Mo.lift (some a) : Z α) >>= f) = f a := by rw [zl_some]; rfl
/-- the deck with room for b draws, then the other things -/
def DkZ (b : Nat) (E : List Cell) (n : Wd) : Prop := ∃ (c : Int) (cs rs : List Int), n.ob = deck3 c cs rs ++ E ∧ cs.length = rs.length ∧ 0 < cs.length ∧ cs.length ≤ 64 ∧ (∀ r ∈ rs, 0 ≤ r) ∧ 0 ≤ c ∧ c + b ≤ 2 ^ 24
theorem DkZ.le {b c : Nat} {E : List Cell} {n : Wd} (h : DkZ b E n) (hc : c ≤ b) : DkZ c E n := by
  obtain ⟨c0, cs, rs, h1, h2, h3, h4, h5, h6, h7⟩ := h
  exact ⟨c0, cs, rs, h1, h2, h3, h4, h5, h6, by omega⟩
def TrZ {α : Type} (b : Nat) (x : Z α) (φ : α → Prop) : Prop := ∀ (d : Nat) (E : List Cell) (n : Wd) (ψ : α → Wd → Prop), DkZ (b + d) E n → (∀ a E' n', DkZ d (E ++ E') n' → φ a → ψ a n') → x n ψ
section
variable {α β : Type} {b c d : Nat}
theorem TrZ.pure {a : α} {φ : α → Prop} (h : φ a) : TrZ 0 (Pure.pure a : Z α) φ := fun d E n ψ hn q => q a [] n (by rw [List.append_nil]; exact hn.le (by omega)) h
theorem TrZ.bind {x : Z α} {f : α → Z β} {φ : α → Prop} {χ : β → Prop} (h : TrZ b x φ) (hf : ∀ a, φ a → TrZ c (f a) χ) : TrZ (b + c) (x >>= f) χ := fun d E n ψ hn q =>
  h (c + d) E n (fun a n' => f a n' ψ) (hn.le (by omega)) fun a E' n' hn' ha => hf a ha d (E ++ E') n' ψ hn' fun a2 E2 n2 h2 p2 => q a2 (E' ++ E2) n2 (by rw [← List.append_assoc]; exact h2) p2
theorem TrZ.lift {o : Option α} {a : α} {φ : α → Prop} (e : o = some a) (h : φ a) : TrZ 0 (Mo.lift o : Z α) φ := fun d E n ψ hn q => ⟨a, e, q a [] n (by rw [List.append_nil]; exact hn.le (by omega)) h⟩
theorem TrZ.mono {x : Z α} {φ χ : α → Prop} (h : TrZ b x φ) (hb : b ≤ c) (hp : ∀ a, φ a → χ a) : TrZ c x χ := fun d E n ψ hn q => h d E n ψ (hn.le (by omega)) fun a E' n' hn' ha => q a E' n' hn' (hp a ha)
theorem TrZ.le {x : Z α} {φ : α → Prop} (h : TrZ b x φ) (hb : b ≤ c) : TrZ c x φ := h.mono hb fun _ z => z
/-- what sees no thing that may change -/
theorem TrZ.hide {g' : List Sl} {o : Option α} {a : α} {φ : α → Prop} (hs : okSl g' = true) (e : o = some a) (h : φ a) : TrZ 0 (hideZ g' o) φ := fun d E n ψ hn q => ⟨hs, a, e, q a [] n (by rw [List.append_nil]; exact hn.le (by omega)) h⟩
theorem TrZ.loop {A : Type} {f : D → A → Z (Fl A)} {I : List D → A → Prop} {R : D → Prop} (ds : List D) : ∀ a : A, I ds a → (∀ d r a, I (d :: r) a → TrZ c (f d a) (Post (I r) R)) → TrZ (ds.length * c) (loopM f ds a) (Post (I []) R) := by
  induction ds with
  | nil => exact fun a h _ => (TrZ.pure (φ := Post (I []) R) (a := Fl.nx a) h).le (by omega)
  | cons d r ih =>
    intro a h hf
    refine ((hf d r a h).bind (c := r.length * c) fun z hz => ?_).le (by rw [List.length_cons, Nat.succ_mul]; omega)
    cases z with
    | nx a' => exact ih a' hz hf
    | rt v => exact (TrZ.pure (φ := Post (I []) R) (a := Fl.rt v) hz).le (by omega)
theorem TrZ.thenB {A A' : Type} {x : Z (Fl A)} {y : A → Z (Fl A')} {I : A → Prop} {χ : Fl A' → Prop} (h : TrZ b x (Post I fun _ => False)) (hy : ∀ a, I a → TrZ c (y a) χ) : TrZ (b + c) (x >>= fun f => DD.thenB f y) χ := h.bind fun z hz => by
  cases z with
  | nx a => exact hy a hz
  | rt v => exact hz.elim
theorem TrZ.thenM {A : Type} {x : Z (Fl A)} {y : A → Z D} {I : A → Prop} {χ : D → Prop} (h : TrZ b x (Post I fun _ => False)) (hy : ∀ a, I a → TrZ c (y a) χ) : TrZ (b + c) (x >>= fun f => DD.thenM f y) χ := h.bind fun z hz => by
  cases z with
  | nx a => exact hy a hz
  | rt v => exact hz.elim
theorem TrZ.bindL {α β : Type} {c : Nat} {o : Option α} {a : α} {f : α → Z β} {χ : β → Prop} (e : o = some a) (h : TrZ c (f a) χ) : TrZ c ((Mo.lift o : Z α) >>= f) χ :=
  ((TrZ.lift (φ := fun z => z = a) e rfl).bind fun z hz => hz ▸ h).le (Nat.le_of_eq (Nat.zero_add c))
theorem TrZ.st {x : Z α} {f : α → Z β} {φ : α → Prop} {χ : β → Prop} (h : TrZ b x φ) (hf : ∀ a, φ a → TrZ (d - b) (f a) χ) (hd : b ≤ d := by decide) : TrZ d (x >>= f) χ := (h.bind hf).le (by omega)
theorem TrZ.loopR {A : Type} {f : D → A → Z (Fl A)} {I : Nat → A → Prop} {R : D → Prop} {lo : Int} {n : Nat} {a : A} (h0 : I 0 a) (h : ∀ i a, i < n → I i a → TrZ c (f (.int (lo + (i : Nat))) a) (Post (I (i + 1)) R)) : TrZ (n * c) (loopM f (rangeL lo n) a) (Post (I n) R) := by
  have := TrZ.loop (c := c) (f := f) (R := R) (I := fun ds a => ∃ i, i ≤ n ∧ ds = (rangeL lo n).drop i ∧ I i a) (rangeL lo n) a ⟨0, Nat.zero_le _, rfl, h0⟩ fun e r a ⟨i, hi, ei, hI⟩ => by
    have hl : i < n := by
      by_cases z : i < n
      · exact z
      · rw [List.drop_eq_nil_of_le (by rw [rangeL_length]; omega)] at ei
        cases ei
    rw [List.drop_eq_getElem_cons (by rw [rangeL_length]; exact hl)] at ei
    obtain ⟨e1, e2⟩ := List.cons.inj ei
    have e3 : (rangeL lo n)[i]'(by rw [rangeL_length]; exact hl) = .int (lo + (i : Nat)) := by simp [rangeL]
    rw [e1, e3]
    refine (h i a hl hI).mono (Nat.le_refl _) fun z hz => ?_
    cases z with
    | nx a' => exact ⟨i + 1, hl, e2, hz⟩
    | rt v => exact hz
  rw [rangeL_length] at this
  refine this.mono (Nat.le_refl _) fun z hz => ?_
  cases z with
  | nx a' =>
    obtain ⟨i, hi, ei, hI⟩ := hz
    have : n ≤ i := by
      have e := congrArg List.length ei
      rw [List.length_drop, rangeL_length] at e
      simp at e
      omega
    obtain rfl : i = n := by omega
    exact hI
  | rt v => exact hz
theorem TrZ.thB {A A' : Type} {x : Z (Fl A)} {y : A → Z (Fl A')} {I : A → Prop} {χ : Fl A' → Prop} (h : TrZ b x (Post I fun _ => False)) (hy : ∀ a, I a → TrZ (d - b) (y a) χ) (hd : b ≤ d := by decide) : TrZ d (x >>= fun f => DD.thenB f y) χ := (TrZ.thenB h hy).le (by omega)
theorem TrZ.thM {A : Type} {x : Z (Fl A)} {y : A → Z D} {I : A → Prop} {χ : D → Prop} (h : TrZ b x (Post I fun _ => False)) (hy : ∀ a, I a → TrZ (d - b) (y a) χ) (hd : b ≤ d := by decide) : TrZ d (x >>= fun f => DD.thenM f y) χ := (TrZ.thenM h hy).le (by omega)
theorem TrZ.nx {A : Type} {a : A} {I : A → Prop} {R : D → Prop} (h : I a) : TrZ d (Pure.pure (Fl.nx a) : Z (Fl A)) (Post I R) := (TrZ.pure (φ := Post I R) (a := Fl.nx a) h).le (Nat.zero_le _)
theorem TrZ.rt {A : Type} {v : D} {I : A → Prop} {R : D → Prop} (h : R v) : TrZ d (Pure.pure (Fl.rt v) : Z (Fl A)) (Post I R) := (TrZ.pure (φ := Post I R) (a := Fl.rt v) h).le (Nat.zero_le _)
theorem TrZ.li {α : Type} {o : Option α} {a : α} {φ : α → Prop} (e : o = some a) (h : φ a) : TrZ d (Mo.lift o : Z α) φ := (TrZ.lift e h).le (Nat.zero_le _)
theorem TrZ.loopP {A γ : Type} {f : D → A → Z (Fl A)} {F : γ → D} {I : List γ → A → Prop} {R : D → Prop} (all : List γ) {a : A} (h0 : I [] a) (h : ∀ p x q a, all = p ++ x :: q → I p a → TrZ c (f (F x) a) (Post (I (p ++ [x])) R)) : TrZ (all.length * c) (loopM f (all.map F) a) (Post (I all) R) := by
  have key : ∀ (post pre : List γ) (a : A), pre ++ post = all → I pre a → TrZ (post.length * c) (loopM f (post.map F) a) (Post (I all) R) := by
    intro post
    induction post with
    | nil =>
      intro pre a e hI
      rw [List.append_nil] at e
      subst e
      exact (TrZ.pure (φ := Post (I pre) R) (a := Fl.nx a) hI).le (by omega)
    | cons x post ih =>
      intro pre a e hI
      refine ((h pre x post a e.symm hI).bind (c := post.length * c) fun z hz => ?_).le (by rw [List.length_cons, Nat.succ_mul]; omega)
      cases z with
      | nx a' => exact ih (pre ++ [x]) a' (by simpa using e) hz
      | rt v => exact (TrZ.pure (φ := Post (I all) R) (a := Fl.rt v) hz).le (by omega)
  exact key all [] a rfl h0
end
/-! worlds step by step -/
section
variable {α β : Type} {n : Wd} {ψ : β → Wd → Prop}
theorem zL {o : Option α} {a : α} {f : α → Z β} (e : o = some a) (h : f a n ψ) : ((Mo.lift o : Z α) >>= f) n ψ := ⟨a, e, h⟩
theorem zIx {k : Nat} {ds : List D} {j d : D} {f : D → Z β} (e : n.ob[k]? = some (.lst ds)) (ej : getD (.list ds) j = some d) (h : f d n ψ) : (ixZ (refL k) j >>= f) n ψ := by
  unfold ixZ
  rw [cel_ref]
  exact ⟨ds, e, d, ej, h⟩
theorem zIx0 {a j d : D} {f : D → Z β} (hc : celOf a = none) (ej : getD a j = some d) (h : f d n ψ) : (ixZ a j >>= f) n ψ := by
  unfold ixZ
  rw [hc]
  exact ⟨d, ej, h⟩
theorem zLen {k : Nat} {ds : List D} {f : D → Z β} (e : n.ob[k]? = some (.lst ds)) (h : f (.int ds.length) n ψ) : (lenZ (refL k) >>= f) n ψ := by
  unfold lenZ
  rw [cel_ref]
  exact ⟨ds, e, h⟩
theorem zTup {k : Nat} {ds : List D} {f : D → Z β} (e : n.ob[k]? = some (.lst ds)) (h : f (.tuple ds) n ψ) : (tupleZ (refL k) >>= f) n ψ := by
  unfold tupleZ
  rw [cel_ref]
  exact ⟨ds, e, h⟩
theorem zTrip {k : Nat} {x y z : D} {f : D × D × D → Z β} (e : n.ob[k]? = some (.lst [x, y, z])) (h : f (x, y, z) n ψ) : (tripZ (refL k) >>= f) n ψ := by
  unfold tripZ
  rw [cel_ref]
  exact ⟨_, e, _, rfl, h⟩
theorem zSet {k : Nat} {ds es : List D} {j v : D} {f : Unit → Z β} (e : n.ob[k]? = some (.lst ds)) (ep : putD ds j v = some es) (h : f () ⟨n.n, n.ob.set k (.lst es)⟩ ψ) : (setZ (refL k) j v >>= f) n ψ := by
  unfold setZ onlyZ
  rw [cel_ref]
  exact ⟨k, rfl, ds, e, es, ep, h⟩
end
end DD
namespace DD
open PySem PySem.Spec PyProof.Rows L2
/-! ### a plain mirror (also one that draws) within a mirror over worlds -/
/-- monads over worlds -/
class OverZ (m : Type → Type) [Mo m] where
  up : {α : Type} → Z α → m α
  sat_up : ∀ {α : Type} {z : Z α} {n : Wd} {φ : α → Wd → Prop} {ξ : Exn → Wd → Prop}, Mo.sat (up z) n φ ξ → z n φ
instance : OverZ Z := ⟨fun z => z, fun h => h⟩
def hidP {m' : Type → Type} [Mo m'] {α : Type} (g : List Sl) (x : m' α) : Z α := fun n φ => okSl g = true ∧ Mo.sat x ⟨n.n, []⟩ (fun a n' => φ a ⟨n'.n, n.ob⟩) (fun _ _ => False)
section
variable {K : PySem.W.Frag} {B : Bs} {g g' : List Sl} {σ : L2.St} {H G : Hp} {n : Wd}
theorem hidP_back (o : Ok K B g σ H G n) {H' G' : Hp} {n' : Wd} (hn : n'.ob = []) (f : Fm K ⟨H, hid G, B.dk, hid G⟩ H' G' n') : Ok K B g σ H' (mrk G G') ⟨n'.n, n.ob⟩ ∧ Same G (mrk G G') ∧ Same G' (mrk G G') := by
  obtain ⟨k, ob⟩ := n'
  dsimp only at hn
  subst hn
  exact o.unhide (n' := ⟨k, []⟩) f (fun a u e => hid_nomk e) f.old (fun a e h => f.new a h e) f.sub fun a u e => nomk f.obs e
end
section
variable {m m' : Type → Type} [Mo m] [OverZ m] [Mo m'] [Plain m'] {X : Cx} {EX : XR} {g : List Sl}
theorem ej_hidP (g' : List Sl) {e : Expr} {x : m' D} (h : EJ (m := m') X X0 e g' x) (sb : Sub g g') (ho : noOwns g' = true := by rfl) : EJ (m := m) X EX e g (OverZ.up (hidP g' x)) :=
  PE.weak h fun σ H Q ⟨B, G, n, φ, ξ, o, s, q, xw⟩ => by
    obtain ⟨hs, sx⟩ := OverZ.sat_up s
    exact ⟨⟨H, hid G, B.dk, hid G⟩, hid G, ⟨n.n, []⟩, _, _, o.hide0 sb hs ho, (Plain.plain sx).2, fun v H' G' d n' o' g1 dv ⟨hn, p⟩ => by
      obtain ⟨o2, g2, g3⟩ := hidP_back o hn o'.fm
      exact q v H' _ d _ o2 g2 (dv.mono g3) p, fun _ _ _ _ _ _ _ z => z.2.elim⟩
theorem tl_hidP (g' : List Sl) {x : m' (List D)} (sb : Sub g g') (ho : noOwns g' = true) {σ : L2.St} {H : Hp} {Q : VK} (h : tlJ (m := m) X EX g (OverZ.up (hidP g' x)) σ H Q) : tlJ (m := m') X X0 g' x σ H Q := by
  obtain ⟨B, G, n, φ, ξ, o, s, q, xw⟩ := h
  obtain ⟨hs, sx⟩ := OverZ.sat_up s
  refine ⟨⟨H, hid G, B.dk, hid G⟩, hid G, ⟨n.n, []⟩, _, _, o.hide0 sb hs ho, (Plain.plain sx).2, fun p xs H' G' ds n' o' g1 hb hg hh hf da ⟨hn, pp⟩ => ?_, fun _ _ _ _ _ _ _ z => z.2.elim⟩
  obtain ⟨o2, g2, g3⟩ := hidP_back o hn o'.fm
  have hp : H p = none := hb
  have gp : G p = none := o.fm.sub.t p hp
  obtain ⟨f1, f2⟩ := o.fresh hp
  exact q p xs H' _ ds _ o2 g2 f1 (by rw [mrk_r gp]; exact hg) hh f2 (da.mono g3) pp
theorem lj_hidP (g' : List Sl) {e : Expr} {x : m' (List D)} (h : LJ (m := m') X X0 e g' x) (sb : Sub g g') (ho : noOwns g' = true := by rfl) : LJ (m := m) X EX e g (OverZ.up (hidP g' x)) := PE.weak h fun σ H Q => tl_hidP g' sb ho
theorem lcp_hidP (g' : List Sl) {e : Expr} {x : m' (List D)} (h : LcP (m := m') X X0 e g' x) (sb : Sub g g') (ho : noOwns g' = true := by rfl) : LcP (m := m) X EX e g (OverZ.up (hidP g' x)) := ⟨lj_hidP g' h.expr sb ho, fun nd hy hl hs => (h.stmt nd hy hl hs).weak fun De σ H => tl_hidP g' sb ho⟩
/-! .. lists of one's own lent -/
end
end DD
namespace DD
open PySem PySem.Spec PyProof.Rows L2
/-! ### instances that change: cells of the world -/
def ownOf : D → Option Nat
  | .dict [(.none, .int i)] => if bigI ≤ i then some (i - bigI).toNat else none
  | _ => none
theorem own_ref (k : Nat) : ownOf (refD k) = some k := by
  show (if bigI ≤ bigI + (k : Int) then some (bigI + (k : Int) - bigI).toNat else none) = _
  rw [if_pos (by omega)]
  congr 1
  omega
section
variable {K : PySem.W.Frag} {B : Bs} {g : List Sl} {σ : L2.St} {H G : Hp} {n : Wd}
theorem Da.own {v : V} {d : D} {k : Nat} (h : Da K G v d) (e : ownOf d = some k) : ∃ a, v = .ref a ∧ G a = some (.own k) := by
  cases h with
  | obj h =>
    rename_i a j
    have : ownOf (refD j) = some k := e
    rw [own_ref] at this
    cases this
    exact ⟨_, rfl, h⟩
  | @dct a kvs h _ =>
    unfold ownOf at e
    split at e
    · rename_i z
      cases kvs with
      | nil => cases z
      | cons p r =>
        rw [List.map_cons] at z
        injection z with z
        injection z with z z2
        obtain ⟨key, w⟩ := p
        have z3 := congrArg Prod.fst z
        cases key <;> cases z3
    · cases e
  | cel h =>
    cases e
  | _ => cases e
/-- a thing that may change is changed -/
theorem Ok.putG (o : Ok K B g σ H G n) {a : Addr} {k : Nat} {u w : HO} {c : Cell} (ha : G a = some u) (hm : mkOf u = some k) (hc : CellAt K G (upd H a w) a k c) : Ok K B g σ (upd H a w) G ⟨n.n, n.ob.set k c⟩ := by
  obtain ⟨c0, hk, h0⟩ := o.fm.obs.at_ a u k ha hm
  have klt : k < n.ob.length := (List.getElem?_eq_some_iff.mp hk).1
  have um : isMk u = true := by unfold isMk; rw [hm]; rfl
  have ne : ∀ b, G b = none → b ≠ a := fun b h e => by rw [e, ha] at h; cases h
  refine ⟨⟨fun b z e q => ?_, ⟨fun b z e m => ?_, fun b e => ?_⟩, o.fm.old, ⟨fun b z j e m => ?_, o.fm.obs.inj, fun j d e => ?_⟩, o.fm.bt, o.fm.tg, o.fm.new, fun x y e => ?_⟩, o.len, o.val, ?_, o.dck, o.adr, o.fnc⟩
  · have : b ≠ a := by
      rintro rfl
      cases eb : B.G b with
      | none => rw [o.fm.new b (by rw [e]; simp) eb] at ha; cases ha
      | some x =>
        have := o.fm.old b x eb
        rw [ha] at this
        cases this
        exact q (.inr ⟨_, eb, um⟩)
    rw [upd_ne this]
    exact o.fm.keep b z e q
  · have : b ≠ a := by
      rintro rfl
      rw [ha] at e
      cases e
      rw [um] at m
      cases m
    rw [upd_ne this]
    exact o.fm.sub.h b z e m
  · by_cases hb : b = a
    · rw [hb, upd_same] at e; cases e
    · rw [upd_ne hb] at e; exact o.fm.sub.t b e
  · by_cases hb : b = a
    · subst hb
      rw [ha] at e
      cases e
      have hj : k = j := Option.some.inj (hm.symm.trans m)
      subst hj
      refine ⟨c, ?_, hc⟩
      show (n.ob.set k c)[k]? = _
      rw [List.getElem?_set_self klt]
    · have hj : k ≠ j := fun x => hb (o.fm.obs.inj b a z u k e ha (x ▸ m) hm)
      obtain ⟨d, h1, h2⟩ := o.fm.obs.at_ b z j e m
      refine ⟨d, ?_, h2.mono (Same.refl _) ?_⟩
      · show (n.ob.set k c)[j]? = _
        rw [List.getElem?_set_ne hj]; exact h1
      · intro x hx
        rw [upd_ne hb]; exact hx
  · by_cases hj : k = j
    · subst hj
      have e' : (n.ob.set k c)[k]? = some d := e
      rw [List.getElem?_set_self klt] at e'
      cases e'
      exact ⟨a, hc⟩
    · have e' : (n.ob.set k c)[j]? = some d := e
      rw [List.getElem?_set_ne hj] at e'
      obtain ⟨b, hb⟩ := o.fm.obs.all j d e'
      obtain ⟨x, hu, hm'⟩ := hb.mark
      have hba : b ≠ a := by
        rintro rfl
        rw [ha] at hu
        cases hu
        exact hj (Option.some.inj (hm.symm.trans hm'))
      refine ⟨b, hb.mono (Same.refl _) ?_⟩
      intro x hx
      rw [upd_ne hba]; exact hx
  · obtain ⟨⟨cs, i, e1, e2, r⟩, h1, h2, h3, h4⟩ := o.fm.deck x y e
    exact ⟨⟨cs, i, by rw [upd_ne (ne x (o.fm.new x h1 h3))]; exact e1, by rw [upd_ne (ne y (o.fm.new y h2 h4))]; exact e2, r⟩, h1, h2, h3, h4⟩
  · obtain ⟨f, h1, h2⟩ := o.own
    refine ⟨f, h1, fun i es e => ?_⟩
    obtain ⟨q1, q2, q3, ys, q4, q5⟩ := h2 i es e
    exact ⟨q1, q2, q3, ys, by rw [upd_ne (ne _ q2)]; exact q4, q5⟩
/-- a new object is marked as a thing that may change -/
theorem Ok.mark (o : Ok K B g σ H G n) {p : Addr} {u w : HO} {c : Cell} (hb : B.H p = none) (hg : G p = none) (hh : H p = some w) (hf : ∀ (i : Nat) (es : List D) (f : Addr), g[i]? = some (Sl.own es) → σ[i]? = some (some (V.ref f)) → f ≠ p)
    (hm : mkOf u = some n.ob.length) (hc : CellAt K (upd G p u) H p n.ob.length c) : Ok K B g σ H (upd G p u) ⟨n.n, n.ob ++ [c]⟩ ∧ Same G (upd G p u) := by
  have sg : Same G (upd G p u) := same_upd hg
  have um : isMk u = true := by unfold isMk; rw [hm]; rfl
  have old : ∀ b z, b ≠ p → upd G p u b = some z → G b = some z := fun b z h e => by rw [upd_ne h] at e; exact e
  have low : ∀ b z j, b ≠ p → upd G p u b = some z → mkOf z = some j → j < n.ob.length := fun b z j h e m => by
    obtain ⟨d, h1, _⟩ := o.fm.obs.at_ b z j (old b z h e) m
    exact (List.getElem?_eq_some_iff.mp h1).1
  refine ⟨⟨⟨o.fm.keep, ⟨fun a z e m => ?_, fun a e => ?_⟩, o.fm.old.trans sg, ⟨fun b z j e m => ?_, fun b b' z z' j e1 e2 m1 m2 => ?_, fun j d e => ?_⟩, o.fm.bt, o.fm.tg.trans sg, fun a e q => ?_, o.fm.deck⟩, o.len, fun i d e => ?_, ?_, o.dck, fun i a od fs e => ⟨(o.adr i a od fs e).1, (o.adr i a od fs e).2.mono sg⟩, fun i f F e => ⟨(o.fnc i f F e).1, (o.fnc i f F e).2.2 _ _ sg (o.fnc i f F e).2.1, (o.fnc i f F e).2.2⟩⟩, sg⟩
  · by_cases ha : a = p
    · rw [ha, upd_same] at e; cases e; rw [um] at m; cases m
    · exact o.fm.sub.h a z (old a z ha e) m
  · have : a ≠ p := by rintro rfl; rw [hh] at e; cases e
    rw [upd_ne this]; exact o.fm.sub.t a e
  · by_cases hbp : b = p
    · subst hbp
      rw [upd_same] at e
      cases e
      have hj : n.ob.length = j := Option.some.inj (hm.symm.trans m)
      subst hj
      exact ⟨c, by simp, hc⟩
    · obtain ⟨d, h1, h2⟩ := o.fm.obs.at_ b z j (old b z hbp e) m
      have hl := (List.getElem?_eq_some_iff.mp h1).1
      exact ⟨d, by show (n.ob ++ [c])[j]? = _; rw [List.getElem?_append_left hl]; exact h1, h2.mono sg fun _ z => z⟩
  · by_cases hbp : b = p <;> by_cases hcp : b' = p
    · rw [hbp, hcp]
    · subst hbp
      rw [upd_same] at e1
      cases e1
      have hj : n.ob.length = j := Option.some.inj (hm.symm.trans m1)
      have := low b' z' j hcp e2 m2
      omega
    · subst hcp
      rw [upd_same] at e2
      cases e2
      have hj : n.ob.length = j := Option.some.inj (hm.symm.trans m2)
      have := low b z j hbp e1 m1
      omega
    · exact o.fm.obs.inj b b' z z' j (old b z hbp e1) (old b' z' hcp e2) m1 m2
  · have e' : (n.ob ++ [c])[j]? = some d := e
    by_cases hl : j < n.ob.length
    · rw [List.getElem?_append_left hl] at e'
      obtain ⟨b, h⟩ := o.fm.obs.all j d e'
      exact ⟨b, h.mono sg fun _ z => z⟩
    · have hl' : n.ob.length ≤ j := Nat.le_of_not_lt hl
      rw [List.getElem?_append_right hl'] at e'
      have hj : j = n.ob.length := by
        have h3 : j - n.ob.length < 1 := (List.getElem?_eq_some_iff.mp e').1
        exact Nat.le_antisymm (Nat.le_of_sub_eq_zero (Nat.lt_one_iff.mp h3)) hl'
      subst hj
      rw [Nat.sub_self] at e'
      cases e'
      exact ⟨p, hc⟩
  · have : a ≠ p := by rintro rfl; exact e hb
    rw [upd_ne this]; exact o.fm.new a e q
  · obtain ⟨v, h1, h2⟩ := o.val i d e
    exact ⟨v, h1, h2.mono sg⟩
  · obtain ⟨f, h1, h2⟩ := o.own
    refine ⟨f, h1, fun i es e => ?_⟩
    obtain ⟨a, b, x, ys, d, da'⟩ := h2 i es e
    exact ⟨a, by rw [upd_ne (hf i es _ e a)]; exact b, x, ys, d, da'.mono sg⟩
end
end DD
namespace DD
open PySem PySem.Spec PyProof.Rows L2
/-! ### match over texts -/
section
variable {m : Type → Type} [Mo m] {A : Type}
inductive MC (X : Cx) (EX : XR) (g : List Sl) (P : A → List Sl) : List MatchCase → (Str → m (Fl A)) → Prop
  | last {body : List Stmt} {y : m (Fl A)} {p : Pos} : BJ X EX body g y P → MC X EX g P [⟨.MatchAs none none p, none, body⟩] fun _ => y
  | one {c : Str} {k : Nat} {p1 p2 : Pos} {body : List Stmt} {y : m (Fl A)} {rest : List MatchCase} {f : Str → m (Fl A)} : BJ X EX body g y P → MC X EX g P rest f → MC X EX g P (⟨.MatchValue (.Constant (.str c) k p1) p2, none, body⟩ :: rest) fun s => if s = c then y else f s
theorem MC.run {X : Cx} {EX : XR} {g : List Sl} {P : A → List Sl} {cs : List MatchCase} {f : Str → m (Fl A)} (h : MC X EX g P cs f) : ∀ (pins : List (Addr × Obj)) (s : Shared) (σ : L2.St) (H : Hp) (De : Ends) (z : Str) (t : Tok) (b : Bool), Inv X pins σ H s → tbJ X EX g (f z) P De σ H → wpAny (model X.prog X.w) X.A (matchCases cs X.env (.str z t) b) (SP X pins De) X.xe s := by
  induction h with
  | last hb =>
    intro pins s σ H De z t b I q
    refine wpAny_matchCases_cons (wpAny_matchPattern_Capture ?_)
    show wpAny _ _ (pure ()) _ _ _
    exact wpAny_pure (hb.run pins s σ H De I q)
  | @one c k p1 p2 body y rest f hb _ ih =>
    intro pins s σ H De z t b I q
    refine wpAny_matchCases_cons (wpAny_matchPattern_Value (thn ((pe_str (X := X) (j := k) (pos := p1)).run pins s σ H (fun v H1 => v = .str c ∧ H1 = H) I ⟨rfl, rfl⟩) fun u s1 ⟨v, H1, I1, r1, e1, e2⟩ => ?_))
    subst e1 e2
    obtain ⟨t2, rfl⟩ := r1
    refine PyProof.Rows.eq_str (wpAny_truthy_bool ?_)
    by_cases hz : z = c
    · rw [beq_iff_eq.mpr hz, if_pos rfl]
      show wpAny _ _ (pure ()) _ _ _
      have q : tbJ X EX g (if z = c then y else f z) P De σ H1 := q
      rw [if_pos hz] at q
      exact wpAny_pure (hb.run pins s1 σ H1 De I1 q)
    · rw [beq_eq_false_iff_ne.mpr hz, if_neg Bool.false_ne_true]
      have q : tbJ X EX g (if z = c then y else f z) P De σ H1 := q
      rw [if_neg hz] at q
      exact ih pins s1 σ H1 De z t false I1 q
end
/-! ### if (x := e) op c: a block that does not come to its end -/
end DD
namespace DD
open PySem PySem.Spec PyProof.Rows L2
/-! ### reasoning about cells: what a mirror without draws does -/
def Run {α : Type} (x : Z α) (ob : List Cell) (a : α) (ob' : List Cell) : Prop := ∀ (n : Nat) (φ : α → Wd → Prop), φ a ⟨n, ob'⟩ → x ⟨n, ob⟩ φ
section
variable {α β : Type} {ob ob1 ob2 : List Cell} {k : Nat} {c f mn : Str} {v w : D} {ds : List D} {fs : List (Str × D)}
theorem Run.pure {a : α} : Run (Pure.pure a) ob a ob := fun n φ h => h
theorem Run.bind {x : Z α} {f : α → Z β} {a : α} {b : β} (h : Run x ob a ob1) (hf : Run (f a) ob1 b ob2) : Run (x >>= f) ob b ob2 := fun n φ q => h n _ (hf n φ q)
theorem Run.lift {o : Option α} {a : α} (e : o = some a) : Run (Mo.lift o) ob a ob := fun n φ q => ⟨a, e, q⟩
theorem Run.hid {g : List Sl} {o : Option α} {a : α} (hs : okSl g = true) (e : o = some a) : Run (OverZ.up (hidP g o)) ob a ob := fun n φ q => ⟨hs, rfl, a, e, q⟩
/-! with draws -/
def TrA (b : Nat) (ob : List Cell) (x : Z α) (Q : α → List Cell → Prop) : Prop := ∀ (n : Nat) (ψ : α → Wd → Prop), n + b ≤ 2 ^ 40 → (∀ a n' ob', n' ≤ n + b → Q a ob' → ψ a ⟨n', ob'⟩) → x ⟨n, ob⟩ ψ
theorem TrA.run {x : Z α} {a : α} {Q : α → List Cell → Prop} {b : Nat} (h : Run x ob a ob1) (q : Q a ob1) : TrA b ob x Q := fun n ψ _ hq => h n ψ (hq a n ob1 (by omega) q)
theorem TrA.bind {x : Z α} {f : α → Z β} {b c : Nat} {Q : α → List Cell → Prop} {R : β → List Cell → Prop} (h : TrA b ob x Q) (hf : ∀ a ob', Q a ob' → TrA c ob' (f a) R) : TrA (b + c) ob (x >>= f) R := fun n ψ hn q =>
  h n _ (by omega) fun a n' ob' hn' ha => hf a ob' ha n' ψ (by omega) fun a2 n2 ob2 h2 p2 => q a2 n2 ob2 (by omega) p2
theorem TrA.mono {x : Z α} {b c : Nat} {Q R : α → List Cell → Prop} (h : TrA b ob x Q) (hb : b ≤ c) (hp : ∀ a ob', Q a ob' → R a ob') : TrA c ob x R := fun n ψ hn q => h n ψ (by omega) fun a n' ob' hn' ha => q a n' ob' (by omega) (hp a ob' ha)
theorem TrA.le {x : Z α} {b c : Nat} {Q : α → List Cell → Prop} (h : TrA b ob x Q) (hb : b ≤ c) : TrA c ob x Q := h.mono hb fun _ _ z => z
theorem TrA.st {x : Z α} {f : α → Z β} {b d : Nat} {Q : α → List Cell → Prop} {R : β → List Cell → Prop} (h : TrA b ob x Q) (hf : ∀ a ob', Q a ob' → TrA (d - b) ob' (f a) R) (hd : b ≤ d := by decide) : TrA d ob (x >>= f) R := (h.bind hf).le (by omega)
/-- a step without draws -/
theorem TrA.r {x : Z α} {f : α → Z β} {a : α} {b : Nat} {R : β → List Cell → Prop} (h : Run x ob a ob1) (hf : TrA b ob1 (f a) R) : TrA b ob (x >>= f) R := fun n ψ hn q => h n _ (hf n ψ hn q)
theorem TrA.pure {a : α} {Q : α → List Cell → Prop} {b : Nat} (q : Q a ob) : TrA b ob (Pure.pure a) Q := TrA.run Run.pure q
def PostA {A : Type} (I : A → List Cell → Prop) (R : D → Prop) : Fl A → List Cell → Prop
  | .nx a, ob => I a ob
  | .rt d, _ => R d
theorem TrA.sat {x : Z D} {b : Nat} (h : TrA b [] x fun d _ => d = .bool true) (hb : b ≤ 2 ^ 40) : Mo.sat x 0 (fun d _ => d = .bool true) (fun _ _ => False) := h 0 (fun d _ => d = .bool true) (by omega) fun _ _ _ _ z => z
end
end DD
namespace DD
open PySem PySem.Spec PyProof.Rows L2
/-! ### mirrors over worlds that raise -/
def ZX (α : Type) : Type := Wd → (α → Wd → Prop) → (Exn → Wd → Prop) → Prop
instance : Mo ZX where
  pure := fun a n φ _ => φ a n
  bind := fun x f n φ ξ => x n (fun a n' => f a n' φ ξ) ξ
  sat := fun z n φ ξ => z n φ ξ
  lift := fun o n φ _ => ∃ a, o = some a ∧ φ a n
  sat_pure := fun h => h
  sat_bind := fun h => h
  sat_lift := fun ⟨a, e, h⟩ => ⟨a, e, h⟩
instance : OverZ ZX := ⟨fun z n φ _ => z n φ, fun h => h⟩
instance : MoX ZX := ⟨fun e n _ ξ => ξ e n, fun h => h⟩
instance : Up Z ZX := ⟨fun z n φ _ => z n φ, fun h => h⟩
instance : Tr ZX Z := ⟨fun x h n φ => x n φ fun e n' => h e n' φ, fun s => s⟩
abbrev upZ {α : Type} (z : Z α) : ZX α := Up.up (m' := Z) (m := ZX) z
def calmZ {α : Type} (x : ZX α) : Z α := fun n φ => x n φ fun _ _ => False
def hidX {α : Type} (g : List Sl) (x : Xo α) : ZX α := fun n φ ξ => okSl g = true ∧ ((∃ a, x = some (.ok a) ∧ φ a n) ∨ ∃ e, x = some (.error e) ∧ ξ e n)
/-! methods that raise -/
/-! raise C(), C without an __init__ of its own -/
end DD
namespace DD
open PySem PySem.Spec PyProof.Rows L2
/-! ### reasoning about cells: mirrors that raise -/
def RunX {α : Type} (x : ZX α) (ob : List Cell) (a : α) (ob' : List Cell) : Prop := ∀ (n : Nat) (φ : α → Wd → Prop) (ξ : Exn → Wd → Prop), φ a ⟨n, ob'⟩ → x ⟨n, ob⟩ φ ξ
def ThrX {α : Type} (x : ZX α) (ob : List Cell) (e : Exn) (ob' : List Cell) : Prop := ∀ (n : Nat) (φ : α → Wd → Prop) (ξ : Exn → Wd → Prop), ξ e ⟨n, ob'⟩ → x ⟨n, ob⟩ φ ξ
section
variable {α β : Type} {ob ob1 ob2 : List Cell} {e : Exn}
theorem RunX.pure {a : α} : RunX (Pure.pure a) ob a ob := fun n φ ξ h => h
theorem RunX.bind {x : ZX α} {f : α → ZX β} {a : α} {b : β} (h : RunX x ob a ob1) (hf : RunX (f a) ob1 b ob2) : RunX (x >>= f) ob b ob2 := fun n φ ξ q => h n _ ξ (hf n φ ξ q)
theorem RunX.lift {o : Option α} {a : α} (e : o = some a) : RunX (Mo.lift o) ob a ob := fun n φ ξ q => ⟨a, e, q⟩
theorem RunX.thr {x : ZX α} {f : α → ZX β} {a : α} (h : RunX x ob a ob1) (hf : ThrX (f a) ob1 e ob2) : ThrX (x >>= f) ob e ob2 := fun n φ ξ q => h n _ ξ (hf n φ ξ q)
theorem RunX.hid {g : List Sl} {x : Xo α} {a : α} (hs : okSl g = true) (e : x = some (.ok a)) : RunX (hidX g x) ob a ob := fun n φ ξ q => ⟨hs, .inl ⟨a, e, q⟩⟩
theorem ThrX.hid {g : List Sl} {x : Xo α} (hs : okSl g = true) (h : x = some (.error e)) : ThrX (hidX g x) ob e ob := fun n φ ξ q => ⟨hs, .inr ⟨e, h, q⟩⟩
theorem RunX.calm {x : ZX α} {a : α} (h : RunX x ob a ob1) : Run (calmZ x) ob a ob1 := fun n φ q => h n φ _ q
theorem TrA.calm {x : ZX α} {a : α} {f : α → Z β} {b : Nat} {R : β → List Cell → Prop} (h : RunX x ob a ob1) (hf : TrA b ob1 (f a) R) : TrA b ob (calmZ x >>= f) R := TrA.r h.calm hf
/-- what a mirror that raises does: the value and the cells, or the error, the cells as they were -/
def OutX (x : ZX α) (ob : List Cell) : Except Exn (α × List Cell) → Prop
  | .ok (a, ob') => RunX x ob a ob'
  | .error e => ThrX x ob e ob
theorem OutX.bind {x : ZX α} {f : α → ZX β} {a : α} {r : Except Exn (β × List Cell)} (h : RunX x ob a ob) (hf : OutX (f a) ob r) : OutX (x >>= f) ob r := by
  cases r with
  | ok p => exact h.bind hf
  | error e => exact h.thr hf
end
/-! two steps in order, for binds in Z written with the monad's own bind -/
section
variable {m : Type → Type}
theorem zx_assoc {α β γ : Type} (x : ZX α) (f : α → ZX β) (g : β → ZX γ) : (x >>= f) >>= g = x >>= fun a => f a >>= g := rfl
theorem zx_pure {α β : Type} (a : α) (f : α → ZX β) : (Pure.pure a >>= f) = f a := rfl
theorem zx_some {α β : Type} (a : α) (f : α → ZX β) : ((Mo.lift (some a) : ZX α) >>= f) = f a := by
  funext n φ ξ
  exact propext ⟨fun ⟨b, e, h⟩ => by cases e; exact h, fun h => ⟨a, rfl, h⟩⟩
theorem upz_pure {α : Type} (a : α) : (upZ (Pure.pure a) : ZX α) = Pure.pure a := rfl
end
end DD
namespace DD
open PySem PySem.Spec PyProof.Rows L2
/-! ### a, b = a tuple or a list -/
def pairA : D → Option (D × D)
  | .tuple [a, b] => some (a, b)
  | .list [a, b] => some (a, b)
  | _ => none
def tripA : D → Option (D × D × D)
  | .tuple [a, b, c] => some (a, b, c)
  | .list [a, b, c] => some (a, b, c)
  | _ => none
def quadA : D → Option (D × D × D × D)
  | .tuple [a, b, c, d] => some (a, b, c, d)
  | .list [a, b, c, d] => some (a, b, c, d)
  | _ => none
section
variable {m : Type → Type} [Mo m] {X : Cx} {EX : XR} {g : List Sl}
abbrev unp2A (x : m D) : m (D × D) := x >>= fun d => Mo.lift (pairA d)
abbrev unp3A (x : m D) : m (D × D × D) := x >>= fun d => Mo.lift (tripA d)
abbrev unp4A (x : m D) : m (D × D × D × D) := x >>= fun d => Mo.lift (quadA d)
theorem sj_unp2A (i j : Nat) {elts : List Expr} {kk : Nat} {tpos : Pos} {e : Expr} {pos : Pos} {x : m D} (h : EJ X EX e g x) (h1t : PG X (.Tuple elts kk tpos) (gTup X.K 2 (gCons (gName i) (gCons (gName j) gNil)))) (h1l : PG X (.Tuple elts kk tpos) (gUnl X.K 2 (gCons (gName i) (gCons (gName j) gNil))))
    (hs : swapsWithSole [.Tuple elts kk tpos] e pos.line X.env = pure false := by kernel_rfl) (hw : swappedStores [.Tuple elts kk tpos] e X.env = pure none := by kernel_rfl)
    (h1 : (assignEach [.Tuple elts kk tpos] X.env).map (·.2) = [assign (.Tuple elts kk tpos) X.env] := by rfl) : SJ X EX (.Assign [.Tuple elts kk tpos] e pos) g (unp2A x) (fun de => (g.set i (.val de.1)).set j (.val de.2)) := by
  have hor : PG X (.Tuple elts kk tpos) (fun v σ H Q => gTup X.K 2 (gCons (gName i) (gCons (gName j) gNil)) v σ H Q ∨ gUnl X.K 2 (gCons (gName i) (gCons (gName j) gNil)) v σ H Q) :=
    ⟨fun pins s σ H v u Q I r hw => hw.elim (fun hw => h1t.run pins s σ H v u Q I r hw) fun hw => h1l.run pins s σ H v u Q I r hw⟩
  refine (ps_asg h hor hs hw h1).weak fun De σ H ⟨B, G, n, φ, ξ, o, s, q, xw⟩ => te_one o s (fun v H1 G1 d n1 o1 g1 d1 s1 => ?_) xw
  obtain ⟨de, ed, pd⟩ := Mo.sat_lift s1
  unfold pairA at ed
  split at ed
  · cases ed
    cases d1 with
    | tup h da =>
        cases da with
        | cons e1 da =>
          cases da with
          | cons e2 da =>
            cases da
            exact .inl ⟨_, _, rfl, sameT o1.fm.sub h, rfl, _, _, rfl, _, _, rfl, rfl, q _ _ _ G1 n1 ((o1.setV e1).setV e2) g1 pd⟩
  · cases ed
    cases d1 with
    | lst h da =>
        cases da with
        | cons e1 da =>
          cases da with
          | cons e2 da =>
            cases da
            exact .inr ⟨_, _, rfl, .of (o1.fm.sub.h _ _ h rfl), rfl, _, _, rfl, _, _, rfl, rfl, q _ _ _ G1 n1 ((o1.setV e1).setV e2) g1 pd⟩
  · cases ed
end
end DD
namespace DD
open PySem PySem.Spec PyProof.Rows L2
/-! ### try: body, several clauses: except C as n, except (C, C2) as n -/
/-- the test of a clause -/
inductive ClT (X : Cx) : Expr → List Value → Prop
  | one {x : Str} {c : Value} {p : Pos} : Names X x c → ClT X (.Name x p) [c]
  | two {x1 x2 : Str} {c1 c2 : Value} {p1 p2 p : Pos} {j : Nat} : Names X x1 c1 → Names X x2 c2 → ClT X (.Tuple [.Name x1 p1, .Name x2 p2] j p) [c1, c2]
  | three {x1 x2 x3 : Str} {c1 c2 c3 : Value} {p1 p2 p3 p : Pos} {j : Nat} : Names X x1 c1 → Names X x2 c2 → Names X x3 c3 → ClT X (.Tuple [.Name x1 p1, .Name x2 p2, .Name x3 p3] j p) [c1, c2, c3]
  | four {x1 x2 x3 x4 : Str} {c1 c2 c3 c4 : Value} {p1 p2 p3 p4 p : Pos} {j : Nat} : Names X x1 c1 → Names X x2 c2 → Names X x3 c3 → Names X x4 c4 → ClT X (.Tuple [.Name x1 p1, .Name x2 p2, .Name x3 p3, .Name x4 p4] j p) [c1, c2, c3, c4]
/-- what a clause's name holds behind its suite: nothing -/
def off (i : Nat) (De : Ends) : Ends := { nx := fun τ H => De.nx (τ.set i none) H, rt := De.rt, bk := fun τ H => De.bk (τ.set i none) H, ct := fun τ H => De.ct (τ.set i none) H }
abbrev Cls : Type := List Value × Nat × (Addr → Value → Option Addr → TS)
inductive HdL (X : Cx) : List ExceptHandler → List Cls → Prop
  | nil : HdL X [] []
  | cons {te : Expr} {cs : List Value} {n : Str} {i : Nat} {ts : Addr → Value → Option Addr → TS} {b0 : Stmt} {bs : List Stmt} {p : Pos} {hds : List ExceptHandler} {l : List Cls} (t : ClT X te cs) (hi : X.N[i]? = some n) (hl : X.env.kindOf n = some .local)
      (su : ∀ (a : Addr) (ob : Obj) (cls : Value) (d : Option Addr) (pn : List (Addr × Obj)), L2N.Zn cls d ob → (∃ vs, ob.data = .fields vs) → PSs (X.suite a ((a, ob) :: pn)) (b0 :: bs) (ts a cls d)) (r : HdL X hds l) :
      HdL X (.ExceptHandler (some te) (some n) (b0 :: bs) p :: hds) ((cs, i, ts) :: l)
end DD
namespace DD
open PySem PySem.Spec PyProof.Rows L2
/-! ### mirrors of try with several clauses -/
section
variable {m₁ m : Type → Type} [Mo m₁] [Mo m] [Tr m₁ m] {A : Type} {X : Cx} {EX : XR} {g gk : List Sl}
inductive HdJ (X : Cx) (i : Nat) (gk : List Sl) (h : Exn → m (Fl A)) (P : A → List Sl) : List ExceptHandler → List (List Value) → Prop
  | nil : HdJ X i gk h P [] []
  | cons {te : Expr} {cs : List Value} {n : Str} {b0 : Stmt} {bs : List Stmt} {p : Pos} {hds : List ExceptHandler} {css : List (List Value)} (t : ClT X te cs) (hi : X.N[i]? = some n) (hl : X.env.kindOf n = some .local)
      (su : ∀ (e : Exn) (a : Addr) (oe : Obj) (od : Option Addr) (C : Addr) (pn : List (Addr × Obj)), Held X e a oe od C → PySem.W.exmAny X.K (.ref C) cs = some true → BJ (X.suite a ((a, oe) :: pn)) X0 (b0 :: bs) (gk.set i (.exn a od e.fs)) (h e) P) (r : HdJ X i gk h P hds css) :
      HdJ X i gk h P (.ExceptHandler (some te) (some n) (b0 :: bs) p :: hds) (cs :: css)
def tsJ2 (X : Cx) (i : Nat) (gk : List Sl) (h : Exn → m (Fl A)) (P : A → List Sl) (cs : List Value) : Addr → Value → Option Addr → TS := fun a cls od De σ H =>
  ∃ t : { t : Exn × Addr // X.mg t.1.cls = some (.ref t.2) ∧ cls = .ref t.2 ∧ PySem.W.exmAny X.K cls cs = some true }, tbJ X X0 (gk.set i (.exn a od t.1.1.fs)) (h t.1.1) P De σ H
theorem HdJ.list {i : Nat} {h : Exn → m (Fl A)} {P : A → List Sl} : ∀ {hds : List ExceptHandler} {css : List (List Value)}, HdJ X i gk h P hds css → HdL X hds (css.map fun cs => (cs, i, tsJ2 X i gk h P cs))
  | _, _, .nil => .nil
  | _, _, .cons t hi hl su r => .cons t hi hl (fun a ob cls od pn hz hd => pss_any fun t => by
    obtain ⟨⟨e, C⟩, h1, h2, h3⟩ := t
    dsimp only at h1 h2
    subst h2
    exact su e a ob od C pn ⟨h1, hz, hd⟩ h3) r.list
end
/-! x.pop(), x a list of one's own -/
end DD
namespace DD
open PySem PySem.Spec PyProof.Rows L2
/-! ### try whose body raises nothing; finally -/
/-! ### isinstance(x, (list, tuple)) -/
/-! ### a dict of the module: texts to ints -/
def cellE (e : DictEntry) : Option ((Str × Int) × Int) := match e.key, e.val with
  | .str x _, .int i _ => some ((x, e.hash), i)
  | _, _ => none
def tabW (K : PySem.W.Frag) (a : Addr) : Option (List (Option ((Str × Int) × Int))) := match K.lookup a with
  | some ⟨.type c, none, .dict es _, sl⟩ => (match decide (c = "dict") && (sl.isEmpty && !(a == sysModules)) with
    | true => some (es.toList.map cellE)
    | false => none)
  | _ => none
def tabIn (P : Params) (kvs : List (Str × Int)) : List (Option ((Str × Int) × Int)) := kvs.map fun p => some ((p.1, PyData.keyHash P p.1), p.2)
structure TabK (K : PySem.W.Frag) (w : World) (a : Addr) (kvs : List (Str × Int)) : Prop where
  ex : ∃ es n, K.lookup a = some ⟨.type "dict", none, .dict es n, #[]⟩ ∧ PySem.W.KeysLit w.params es.toList ∧ (a == sysModules) = false ∧
    ∀ x, (∀ i, kvs.lookup x = some i → ∃ t, findBy Value.isStrOf es x = some (.int i t)) ∧ (kvs.lookup x = none → findBy Value.isStrOf es x = none)
theorem cellE_some {e : DictEntry} {x : Str} {h i : Int} (q : cellE e = some ((x, h), i)) : (∃ t, e.key = .str x t) ∧ e.hash = h ∧ ∃ t, e.val = .int i t := by
  unfold cellE at q
  split at q
  · rename_i x' t' i' t2 h1 h2
    cases q
    exact ⟨⟨_, h1⟩, rfl, _, h2⟩
  · cases q
theorem tab_lit {P : Params} : ∀ {l : List DictEntry} {kvs : List (Str × Int)}, l.map cellE = tabIn P kvs → PySem.W.KeysLit P l
  | [], _, _ => trivial
  | e :: r, [], h => by cases h
  | e :: r, p :: ks, h => by
    have h1 : cellE e :: r.map cellE = some ((p.1, PyData.keyHash P p.1), p.2) :: tabIn P ks := h
    injection h1 with h2 h3
    obtain ⟨⟨t, h4⟩, h5, _⟩ := cellE_some h2
    exact ⟨⟨_, t, h4, h5⟩, tab_lit h3⟩
theorem tab_find {P : Params} (x : Str) : ∀ {l : List DictEntry} {kvs : List (Str × Int)}, l.map cellE = tabIn P kvs →
    (∀ i, kvs.lookup x = some i → ∃ t, (l.find? fun d => d.key.isStr x).map (·.val) = some (.int i t)) ∧ (kvs.lookup x = none → (l.find? fun d => d.key.isStr x).map (·.val) = none)
  | [], [], _ => ⟨fun i h => (by cases h), fun _ => rfl⟩
  | [], _ :: _, h => by cases h
  | e :: r, [], h => by cases h
  | e :: r, (k, j) :: ks, h => by
    have h1 : cellE e :: r.map cellE = some ((k, PyData.keyHash P k), j) :: tabIn P ks := h
    injection h1 with h2 h3
    obtain ⟨⟨t, h4⟩, _, t2, h6⟩ := cellE_some h2
    have ih := tab_find x h3
    have hk : e.key.isStr x = (x == k) := by
      rw [h4]
      show (k == x) = (x == k)
      exact Bool.beq_comm
    rw [List.find?_cons, List.lookup_cons, hk]
    cases hx : x == k with
    | true =>
      refine ⟨fun i hi => ?_, fun hi => (by cases hi)⟩
      cases hi
      exact ⟨t2, by rw [← h6]; rfl⟩
    | false => exact ih
theorem TabK.of {K : PySem.W.Frag} {w : World} {a : Addr} {kvs : List (Str × Int)} (h : tabW K a = some (tabIn w.params kvs)) : TabK K w a kvs := by
  unfold tabW at h
  split at h
  · rename_i c es n sl hl
    split at h
    · rename_i hz
      have hz := hz
      simp only [Bool.and_eq_true, decide_eq_true_eq, Bool.not_eq_true'] at hz
      obtain ⟨z1, z2, z3⟩ := hz
      have e2 : sl = #[] := Array.isEmpty_iff.mp z2
      subst z1 e2
      have h := Option.some.inj h
      refine ⟨es, n, hl, tab_lit h, z3, fun x => ?_⟩
      have := tab_find x h
      have ef : findBy Value.isStrOf es x = (es.toList.find? fun d => d.key.isStr x).map (·.val) := by
        obtain ⟨l⟩ := es
        unfold findBy
        have q : (fun d : DictEntry => Value.isStrOf x d.key) = fun d => d.key.isStr x := funext fun d => (PySem.W.isStr_of x d.key).symm
        rw [List.find?_toArray, q]
      rw [ef]
      exact this
    · cases h
  · cases h
/-! ### o.m(a, ..), the last parameters by their defaults -/
/-! ### range(a, -1, -1) -/
end DD
/-! == of two instances that change, by their class's own __eq__; isinstance of their class -/
/-! for in a generator's body -/
namespace DD
open PySem PySem.Spec PyProof.Rows L2 GenW
open Sem (wp)
/-! ### defs whose calls ask nothing of the stack's guards (a generator may be woken anywhere) -/
/-! ### generator methods -/
section
variable {X : Cx} {st : Stmt} {rest : List Stmt}
theorem _root_.L2.GSs.weak {t t' : TGn} (h : GSs X rest t) (w : ∀ D ys σ H, t' D ys σ H → t D ys σ H) : GSs X rest t' := ⟨fun A S ip R n ys s₀ c fs K J gd lv s σ H D gc hn k hI ht => h.run A S ip R n ys s₀ c fs K J gd lv s σ H D gc hn k hI (w _ _ _ _ ht)⟩
end
end DD
/-! classmethods that raise; class constants through an instance; isinstance of another class -/
/-! if a or (x := e) op c; for a, (b, c) in .. -/
namespace DD
open PySem PySem.Spec PyProof.Rows L2
/-! ### a, *b = l of a list -/
namespace UnL
open StX
end UnL
open UnL
/-! ### defs with a deck that raise -/
/-! ### triples of mirrors that may raise, but do not -/
def TrX {α : Type} (b : Nat) (ob : List Cell) (x : ZX α) (Q : α → List Cell → Prop) : Prop := ∀ (n : Nat) (ψ : α → Wd → Prop) (ξ : Exn → Wd → Prop), n + b ≤ 2 ^ 40 → (∀ a n' ob', n' ≤ n + b → Q a ob' → ψ a ⟨n', ob'⟩) → x ⟨n, ob⟩ ψ ξ
section
variable {α β : Type} {ob ob1 : List Cell}
theorem TrX.run {x : ZX α} {a : α} {Q : α → List Cell → Prop} {b : Nat} (h : RunX x ob a ob1) (q : Q a ob1) : TrX b ob x Q := fun n ψ ξ _ hq => h n ψ ξ (hq a n ob1 (by omega) q)
theorem TrX.bind {x : ZX α} {f : α → ZX β} {b c : Nat} {Q : α → List Cell → Prop} {R : β → List Cell → Prop} (h : TrX b ob x Q) (hf : ∀ a ob', Q a ob' → TrX c ob' (f a) R) : TrX (b + c) ob (x >>= f) R := fun n ψ ξ hn q =>
  h n _ ξ (by omega) fun a n' ob' hn' ha => hf a ob' ha n' ψ ξ (by omega) fun a2 n2 ob2 h2 p2 => q a2 n2 ob2 (by omega) p2
theorem TrX.mono {x : ZX α} {b c : Nat} {Q R : α → List Cell → Prop} (h : TrX b ob x Q) (hb : b ≤ c) (hp : ∀ a ob', Q a ob' → R a ob') : TrX c ob x R := fun n ψ ξ hn q => h n ψ ξ (by omega) fun a n' ob' hn' ha => q a n' ob' (by omega) (hp a ob' ha)
theorem TrX.le {x : ZX α} {b c : Nat} {Q : α → List Cell → Prop} (h : TrX b ob x Q) (hb : b ≤ c) : TrX c ob x Q := h.mono hb fun _ _ z => z
theorem TrX.st {x : ZX α} {f : α → ZX β} {b d : Nat} {Q : α → List Cell → Prop} {R : β → List Cell → Prop} (h : TrX b ob x Q) (hf : ∀ a ob', Q a ob' → TrX (d - b) ob' (f a) R) (hd : b ≤ d := by decide) : TrX d ob (x >>= f) R := (h.bind hf).le (by omega)
theorem TrX.r {x : ZX α} {f : α → ZX β} {a : α} {b : Nat} {R : β → List Cell → Prop} (h : RunX x ob a ob1) (hf : TrX b ob1 (f a) R) : TrX b ob (x >>= f) R := fun n ψ ξ hn q => h n _ ξ (hf n ψ ξ hn q)
theorem TrX.pure {a : α} {Q : α → List Cell → Prop} {b : Nat} (q : Q a ob) : TrX b ob (Pure.pure a) Q := TrX.run RunX.pure q
theorem TrX.up {x : Z α} {b : Nat} {Q : α → List Cell → Prop} (h : TrA b ob x Q) : TrX b ob (upZ x) Q := fun n ψ ξ hn q => h n ψ hn q
end
end DD
/-! super().m(..) in a method of a class of one's own -/
namespace DD
open PySem PySem.Spec PyProof.Rows L2 ClX NdefX
/-! ### judgements at the frame's own code -/
/-! ### a def that captures its class -/
theorem ArgsOk.snoc {K : PySem.W.Frag} {B : Bs} {G : Hp} {v : V} {a : Sl} (h : ArgOk K B G v a) : ∀ {vs : List V} {as : List Sl}, ArgsOk K B G vs as → ArgsOk K B G (vs ++ [v]) (as ++ [a])
  | _, _, .nil => .cons h .nil
  | _, _, .cons x r => .cons x (ArgsOk.snoc h r)
/-! ### C.m(self, ..): a def read off its class -/
/-! ### one of two mirrors -/
class OrM (m : Type → Type) [Mo m] where
  or : {α : Type} → m α → m α → m α
  sat_or : ∀ {α : Type} {x y : m α} {n : Wd} {φ : α → Wd → Prop} {ξ : Exn → Wd → Prop}, Mo.sat (or x y) n φ ξ → Mo.sat x n φ ξ ∨ Mo.sat y n φ ξ
instance : OrM Z := ⟨fun x y n φ => x n φ ∨ y n φ, fun h => h⟩
instance : OrM ZX := ⟨fun x y n φ ξ => x n φ ξ ∨ y n φ ξ, fun h => h⟩
end DD
/-! defs that an except suite calls with the error -/
namespace DD
open PySem PySem.Spec PyProof.Rows L2
theorem RoomH.of {A : Around} {j k : Nat} (r : Room k A) (h : j ≤ k) : L2H.RoomH j A := (L2H.roomH_of r).mono h
end DD
/-! enumerate(zip(a, b)) -/
/-! an instance is called -/
/-! defs of data that an except suite calls; == of any data there -/
/-! == of instances of two classes, one below the other; super().m() within a display -/
/-! texts: upper, replace with a count (which wants a token that is out) -/
namespace DD
open PySem PySem.Spec PyProof.Rows L2
/-! ### a tree that gives out a token -/
def Bump {α : Type} (t : Sem α) : Prop := ∀ (M : Model) (Γ : PySem.Ctx) (Q : α → Pos → Shared → Prop) (E : Value → Pos → Shared → Prop) (p : Pos) (s : Shared), Sem.wp M Γ t Q E p s → Sem.wp M Γ t (fun a p' s' => 1 ≤ s'.toks ∧ Q a p' s') E p s
section
variable {env : Env} {pos cpos : Pos} {x : Str} {j : Nat} {l r e : Expr} {op : Operator} {es : List Expr}
theorem Bump.any {α : Type} {t : Sem α} (h : Bump t) {M : Model} {A : Around} {Q : α → Shared → Prop} {E : Value → Shared → Prop} {s : Shared} (w : wpAny M A t Q E s) : wpAny M A t (fun a s' => 1 ≤ s'.toks ∧ Q a s') E s := fun Γ p hΓ => h M Γ _ _ p s (w Γ p hΓ)
end
/-! ### e.upper() -/
/-! ### e.replace(y, z, 1) -/
/-! ### judgements where a token is out -/
section
variable {m : Type → Type} [Mo m] {A A' : Type} {X : Cx} {EX : XR} {g : List Sl}
theorem _root_.L2.PET.weak {e : Expr} {t t' : TE} (h : L2.PET X e t) (w : ∀ σ H Q, t' σ H Q → t σ H Q) : L2.PET X e t' := fun pins s σ H Q h0 I q => h pins s σ H Q h0 I (w σ H Q q)
end
/-! ### a sign eight times -/
end DD
/-! for a, b in zip(x, y) within an except suite; the walk returns before its end -/
namespace DD
open PySem PySem.Spec PyProof.Rows L2
theorem _root_.L2H.PIH.weak {X : Cx} {tg e : Expr} {t t' : TI} (h : L2H.PIH X tg e t) (w : ∀ σ H R, t' σ H R → t σ H R) : L2H.PIH X tg e t' := ⟨fun pins s σ H R I q => h.run pins s σ H R I (w _ _ _ q)⟩
end DD
namespace DD
open PySem PySem.Spec PyProof.Rows L2
/-! ### dicts from stocks to ints: keys -/
def kR (r : List Int) : NestedKey := .tup (r.map .num)
def kT (S : List (List Int)) : NestedKey := .tup (S.map kR)
theorem num_inj : ∀ {r q : List Int}, r.map NestedKey.num = q.map NestedKey.num → r = q
  | [], [], _ => rfl
  | [], _ :: _, h => by cases h
  | _ :: _, [], h => by cases h
  | x :: r, y :: q, h => by
    rw [List.map_cons, List.map_cons] at h
    injection h with h1 h2
    injection h1 with h1
    rw [h1, num_inj h2]
theorem kR_inj {r q : List Int} (h : kR r = kR q) : r = q := by
  unfold kR at h
  injection h with h
  exact num_inj h
theorem num_hashes (w : World) : ∀ r : List Int, NestedKey.hashes w (r.map .num) = r.map hashInt
  | [] => rfl
  | x :: r => by
    show NestedKey.hash w (.num x) :: NestedKey.hashes w (r.map .num) = _
    rw [num_hashes w r]
    rfl
theorem kR_hash (w : World) (r : List Int) : (kR r).hash w = hashR r := by
  show reduceHash (Builtin.Tuple.tupleHashOf (NestedKey.hashes w (r.map .num))) = _
  rw [num_hashes]
  rfl
theorem num_depths : ∀ r : List Int, NestedKey.depthAll (r.map .num) = 0
  | [] => rfl
  | x :: r => by
    show max (NestedKey.depth (.num x)) (NestedKey.depthAll (r.map .num)) = 0
    rw [num_depths r]
    rfl
/-- a dict's entries as the kit tells them -/
def up1 (p : List (List Int) × Addr × Value) : NestedKey × Addr × Value := (kT p.1, p.2)
section
variable {X : Cx} {pins : List (Addr × Obj)} {σ : L2.St} {H : Hp} {s : Shared} {a b : Addr} {S : List (List Int)} {xs : List (List (List Int) × Addr × Value)}
theorem nums_is {h : Heap} {G : Hp} {K : PySem.W.Frag} : ∀ {r : List Int} {vs : List V} {us : List Value}, DaAll K G vs (r.map .int) → Vals vs us → NestedAll h (r.map .num) us
  | [], _, _, .nil, .nil => .nil
  | x :: r, _, _, .cons d t, .cons rv rt => by
    cases d
    obtain ⟨tk, rfl⟩ := (show ∃ t, _ = Value.int x t from rv)
    exact .cons (.int x tk) (nums_is t rt)
theorem row_is (I : Inv X pins σ H s) {r : List Int} {v : V} {u : Value} (h : Da X.K H v (.tuple (r.map .int))) (rv : RelV v u) : NestedIs s.heap (kR r) u := by
  cases h with
  | tup h1 h2 =>
    obtain ⟨its, q, ⟨o, e1, e2, n, e3⟩, _⟩ := I.tuple h1
    obtain rfl : u = Value.ref _ := rv
    exact .tup e1 e2 e3 (nums_is h2 (by simpa using q))
end
/-! ### rules by values -/
/-! ### the mirror -/
def intO : D → Option Int
  | .int i => some i
  | _ => none
def intsO : List D → Option (List Int)
  | [] => some []
  | d :: r => (intO d).bind fun i => (intsO r).map (i :: ·)
def rowO : D → Option (List Int)
  | .tuple ds => intsO ds
  | _ => none
theorem intsO_of : ∀ {ds : List D} {r : List Int}, intsO ds = some r → ds = r.map .int
  | [], r, h => by cases h; rfl
  | d :: ds, r, h => by
    obtain ⟨i, h1, h2⟩ := Option.bind_eq_some_iff.mp h
    obtain ⟨q, h3, rfl⟩ := Option.map_eq_some_iff.mp h2
    rw [intsO_of h3]
    cases d <;> first | (cases h1; rfl) | cases h1
theorem intsO_ok : ∀ r : List Int, intsO (r.map .int) = some r
  | [] => rfl
  | x :: r => by
    show (some x).bind (fun i => (intsO (r.map .int)).map (i :: ·)) = _
    rw [intsO_ok r]; rfl
def valK (kvs : List (List (List Int) × Int)) (S : List (List Int)) : Option Int := (kvs.find? fun p => decide (p.1 = S)).map (·.2)
def stoK (kvs : List (List (List Int) × Int)) (S : List (List Int)) (i : Int) : List (List (List Int) × Int) := if (valK kvs S).isSome = true then kvs.map (fun p => if p.1 = S then (p.1, i) else p) else kvs ++ [(S, i)]
section
variable {K : PySem.W.Frag} {B : Bs} {g : List Sl} {σ : L2.St} {H G : Hp} {n : Wd} {S : List (List Int)} {kvs : List (List (List Int) × Int)} {xs : List (List (List Int) × Addr × Value)}
theorem KvS.len : ∀ {kvs : List (List (List Int) × Int)} {xs : List (List (List Int) × Addr × Value)}, KvS K G kvs xs → kvs.length = xs.length
  | _, _, .nil => rfl
  | _, _, .cons _ r => by simp [r.len]
theorem KvS.val : ∀ {kvs : List (List (List Int) × Int)} {xs : List (List (List Int) × Addr × Value)}, KvS K G kvs xs → (valK kvs S).isSome = (atKey xs S).isSome ∧ ∀ i, valK kvs S = some i → ∃ c t, atKey xs S = some (c, .int i t)
  | _, _, .nil => ⟨rfl, fun i h => by cases h⟩
  | _, _, .cons (S := T) (i := j) (a := a) (t := t) (ps := ps) (xs := xs) h r => by
    have ih := r.val
    unfold valK atKey at ih ⊢
    rw [List.find?_cons, List.find?_cons]
    by_cases e : T = S
    · rw [decide_eq_true e]
      exact ⟨rfl, fun i h => by cases h; exact ⟨_, _, rfl⟩⟩
    · rw [decide_eq_false e]
      exact ih
theorem KvS.keys : ∀ {kvs : List (List (List Int) × Int)} {xs : List (List (List Int) × Addr × Value)}, KvS K G kvs xs → ∀ p ∈ xs, Da K G (.ref p.2.1) (kS p.1)
  | _, _, .nil, _, h => nomatch h
  | _, _, .cons h r, p, hp => by
    rcases List.mem_cons.mp hp with rfl | hp
    · exact h
    · exact r.keys p hp
theorem KvS.repl {i : Int} {t : Tok} : ∀ {kvs : List (List (List Int) × Int)} {xs : List (List (List Int) × Addr × Value)}, KvS K G kvs xs → KvS K G (kvs.map fun p => if p.1 = S then (p.1, i) else p) (xs.map (putAt S (.int i t)))
  | _, _, .nil => .nil
  | _, _, .cons (S := T) (i := j) (a := a) (t := t') (ps := ps) (xs := xs) h r => by
    have ih := r.repl (i := i) (t := t)
    rw [List.map_cons, List.map_cons]
    by_cases e : T = S
    · have e1 : putAt S (.int i t) (T, a, .int j t') = (T, a, .int i t) := if_pos e
      rw [if_pos e, e1]
      exact .cons h ih
    · have e1 : putAt S (.int i t) (T, a, .int j t') = (T, a, .int j t') := if_neg e
      rw [if_neg e, e1]
      exact .cons h ih
theorem KvS.snoc {b : Addr} {i : Int} {t : Tok} (hb : Da K G (.ref b) (kS S)) : ∀ {kvs : List (List (List Int) × Int)} {xs : List (List (List Int) × Addr × Value)}, KvS K G kvs xs → KvS K G (kvs ++ [(S, i)]) (xs ++ [(S, b, .int i t)])
  | _, _, .nil => .cons hb .nil
  | _, _, .cons h r => .cons h (r.snoc hb)
theorem KvS.put {b : Addr} {i : Int} {t : Tok} (h : KvS K G kvs xs) (hb : Da K G (.ref b) (kS S)) : KvS K G (stoK kvs S i) (storedH xs S b (.int i t)) := by
  unfold stoK storedH
  rw [h.val.1]
  split
  · exact h.repl
  · exact h.snoc hb
end
end DD
/-! lambdas without parameters that a def calls -/
/-! defs that call the lambda they are given; the law's deck beside the table; the end -/
namespace DD
open PySem PySem.Spec PyProof.Rows L2 LamX
/-- what a def asks of the calls of its argument, by the mirror y -/
def ActL (Z : Cx) (fu : Addr) (Fp : Hp → Prop) (a : Str) (y : ZX D) : Prop := ∀ (pn : List (Addr × Obj)) (xe : Value → Shared → Prop) (EX : XR) (gz : List Sl) (p1 p2 : Pos), L2N.Takes (Z.tr pn xe) EX.w → Sub gz EX.g → gz[0]? = some (.fn fu Fp) → EJ (m := ZX) (Z.tr pn xe) EX (.Call (.Name a p1) [] [] p2) gz y
/-- a def that calls the function it is given; its mirror takes that function's mirror -/
structure FnL (P : Program) (w : World) (K : PySem.W.Frag) (mg : Str → Option Value) (base : Heap) (k : Nat) (x : Str) (st : Stmt) (N : List Str) (a : Str) (T : ZX D → Z D) : Prop where
  ex : ∃ (f : Addr) (fd : FuncData), Fun K x x st f fd ∧ FnScope N [a] (defScope st) ∧ mg x = some (.ref f) ∧ PySem.W.keepIn K (.ref f) = true ∧ Binds K fd [a] [] ∧ N[0]? = some a ∧ Vis (defScope st) a ∧
    ∀ (fu : Addr) (Fp : Hp → Prop) (cdv : Value) (A : Around) (outer : List Env) (s : Shared) (H : Hp) (E : XK) (y : ZX D), Room k (A.deeper (envOfC x (defScope st) s.heap.objs.size f cdv)) → A.guards = some [] →
      ActL (cxOf CX0 P w K mg base N x (defScope st) f cdv A outer s H E).nox fu Fp a y →
      FJ (cxOf CX0 P w K mg base N x (defScope st) f cdv A outer s H E).nox X0 true (defBody st) (.fn fu Fp :: List.replicate (N.length - 1) .any) (T y)
theorem FnL.mono {P : Program} {w : World} {K : PySem.W.Frag} {mg : Str → Option Value} {base : Heap} {j k : Nat} {x : Str} {st : Stmt} {N : List Str} {a : Str} {T : ZX D → Z D} (F : FnL P w K mg base j x st N a T) (h : j ≤ k) : FnL P w K mg base k x st N a T := by
  obtain ⟨f, fd, h1, h2, h3, h4, h5, h6, h7, h8⟩ := F.ex
  exact ⟨f, fd, h1, h2, h3, h4, h5, h6, h7, fun fu Fp cdv A outer s H E y hr => h8 fu Fp cdv A outer s H E y (hr.mono h)⟩
/-! ### the deck of three parts beside the table -/
/-! ### the law's call beside an empty table -/
end DD
/-! dicts from tuples of ints to numbers, True, False -/
namespace DD
open PySem PySem.Spec PyProof.Rows L2
theorem kR_depth (r : List Int) : (kR r).depth ≤ 8 := by
  show NestedKey.depthAll (r.map .num) + 1 ≤ 8
  rw [num_depths]
  omega
def upR (p : List Int × Addr × Value) : NestedKey × Addr × Value := (kR p.1, p.2)
theorem upR_keys (xs : List (List Int × Addr × Value)) : (xs.map upR).map (·.1) = (xs.map (·.1)).map kR := by
  rw [List.map_map, List.map_map]; rfl
theorem upR_nodup {xs : List (List Int × Addr × Value)} (h : (xs.map (·.1)).Nodup) : ((xs.map upR).map (·.1)).Nodup := by
  rw [upR_keys]
  exact List.Pairwise.map kR (fun a b hab e => hab (kR_inj e)) h
theorem dnR_nodup {xs : List (List Int × Addr × Value)} (h : ((xs.map upR).map (·.1)).Nodup) : (xs.map (·.1)).Nodup := by
  rw [upR_keys] at h
  exact List.Pairwise.of_map kR (fun a b hab e => hab (by rw [e])) h
theorem upR_at (S : List Int) : ∀ xs : List (List Int × Addr × Value), atKey (xs.map upR) (kR S) = atKey xs S
  | [] => rfl
  | x :: xs => by
    have ih := upR_at S xs
    unfold atKey at ih ⊢
    rw [List.map_cons, List.find?_cons, List.find?_cons]
    by_cases h : x.1 = S
    · have h2 : (upR x).1 = kR S := by show kR x.1 = _; rw [h]
      rw [decide_eq_true h, decide_eq_true h2]
      rfl
    · have h2 : ¬ (upR x).1 = kR S := fun e => h (kR_inj e)
      rw [decide_eq_false h, decide_eq_false h2]
      exact ih
theorem upR_stored (xs : List (List Int × Addr × Value)) (S : List Int) (b : Addr) (v : Value) : storedH (xs.map upR) (kR S) b v = (storedH xs S b v).map upR := by
  unfold storedH
  rw [upR_at]
  split
  · rw [List.map_map, List.map_map]
    refine List.map_congr_left fun x _ => ?_
    show putAt (kR S) v (upR x) = upR (putAt S v x)
    unfold putAt
    by_cases h : x.1 = S
    · rw [if_pos h, if_pos (show (upR x).1 = kR S by show kR x.1 = _; rw [h])]
      rfl
    · rw [if_neg h, if_neg (show ¬ (upR x).1 = kR S from fun e => h (kR_inj e))]
  · rw [List.map_append]
    rfl
section
variable {X : Cx} {pins : List (Addr × Obj)} {σ : L2.St} {H : Hp} {s : Shared} {a b : Addr} {S : List Int} {xs : List (List Int × Addr × Value)}
theorem key_isR (I : Inv X pins σ H s) (h : Da X.K H (.ref b) (kI S)) : (nestedKind X.prog X.w).is s.heap (kR S) b := ⟨row_is I h rfl, kR_depth S⟩
theorem ent_upR (P : Program) (w : World) (xs : List (List Int × Addr × Value)) : (xs.map upR).map (entryOfKey (nestedKind P w)) = xs.map entR := by
  rw [List.map_map]
  refine List.map_congr_left fun x _ => ?_
  show (⟨(kR x.1).hash w, .ref x.2.1, x.2.2⟩ : DictEntry) = ⟨hashR x.1, .ref x.2.1, x.2.2⟩
  rw [kR_hash]
theorem dir_at (I : Inv X pins σ H s) (h : H a = some (dirO a xs)) (hk : ∀ p ∈ xs, Da X.K H (.ref p.2.1) (kI p.1)) : (a == sysModules) = false ∧ s.heap.DictOfH (nestedKind X.prog X.w) a (xs.map upR) := by
  obtain ⟨⟨hd, o, es, ep, e1, e2, e3, e4, e5⟩, _⟩ := (show ObjOk X.prog X.w H s.heap a (dirO a xs) from I.hok a _ h)
  refine ⟨hd, o, es, ep, e1, e2, e3, by rw [ent_upR]; exact e4, fun x hx => ?_, upR_nodup e5⟩
  obtain ⟨p, hp, rfl⟩ := List.mem_map.mp hx
  exact key_isR I (hk p hp)
theorem dir_ok {P : Program} {w : World} {H : Hp} {h : Heap} (hd : (a == sysModules) = false) (q : h.DictOfH (nestedKind P w) a (xs.map upR)) : ObjOk P w H h a (dirO a xs) := by
  obtain ⟨o, es, ep, e1, e2, e3, e4, _, e5⟩ := q
  refine ⟨⟨hd, o, es, ep, e1, e2, e3, by rw [← ent_upR P w]; exact e4, dnR_nodup e5⟩, ⟨o, e1⟩, fun h1 h2 ⟨z, o, es, ep, e1, r⟩ k => ⟨z, o, es, ep, k o e1, r⟩⟩
end
/-! ### rules by values -/
def fvV (v : V) (d : D) : Prop := (∃ i, v = .int i ∧ d = .int i) ∨ ∃ b, v = .bl b ∧ d = .bool b
theorem fv_of {v : V} {d : D} {u : Value} (h : fvV v d) (r : RelV v u) : FvD d u := by
  rcases h with ⟨i, rfl, rfl⟩ | ⟨b, rfl, rfl⟩
  · obtain ⟨t, rfl⟩ := (show ∃ t, u = Value.int i t from r)
    exact .int i t
  · obtain rfl : u = Value.bool b := r
    exact .bool b
def rSetR (K : PySem.W.Frag) : TSet := fun o i v H Q => ∃ a b S d xs, o = .ref a ∧ i = .ref b ∧ fvV v d ∧ Da K H (.ref b) (kI S) ∧ H a = some (dirO a xs) ∧ (∀ p ∈ xs, Da K H (.ref p.2.1) (kI p.1)) ∧ xs.length ≤ sizeLine ∧ ∀ u, FvD d u → Q (upd H a (dirO a (storedH xs S b u)))
/-- {key: value}, one pair -/
def tDispR (K : PySem.W.Frag) (tk tv : TE) : TE := fun σ H Q => ∀ p, H p = none → tPairs [(tk, tv)] σ (upd H p (dirO p [])) fun ps H2 => ∃ b S d v, ps = [(.ref b, v)] ∧ fvV v d ∧ Da K H2 (.ref b) (kI S) ∧ H2 p = some (dirO p []) ∧ ∀ u, FvD d u → Q (.ref p) (upd H2 p (dirO p [(S, b, u)]))
theorem ent_key {es : Array DictEntry} {xs : List (List Int × Addr × Value)} (h : es.toList = xs.map entR) {i : Nat} {p : List Int × Addr × Value} (e : xs[i]? = some p) : es[i]? = some (entR p) := by
  rw [← Array.getElem?_toList, h, List.getElem?_map, e]; rfl
theorem ent_len {es : Array DictEntry} {xs : List (List Int × Addr × Value)} (h : es.toList = xs.map entR) : es.size = xs.length := by
  rw [← Array.length_toList, h, List.length_map]
section
variable {X : Cx} {o i e : Expr} {pos : Pos} {td ty tk tv : TE}
theorem set_dirR (hu : X.A.units + 64 < cLine) : PSet X (rSetR X.K) := by
  intro pins s σ H o i v ov iv u Q I ro ri rv h
  obtain ⟨a, b, S, d, xs, rfl, rfl, fv, hk, hH, hks, hz, q⟩ := h
  obtain rfl : ov = Value.ref a := ro
  obtain rfl : iv = Value.ref b := ri
  obtain ⟨hd, dd⟩ := dir_at I hH hks
  refine wpAny_setItem_heap (knd := nestedKind X.prog X.w) (hsz := by rw [List.length_map]; exact hz) (by show X.A.units + 1 + 8 < cLine; omega) (key_isR I hk) dd fun h' dd' hs => ⟨_, ?_, q u (fv_of fv rv)⟩
  rw [upR_stored] at dd'
  have he : ∃ q, h'.get? a = some q := let ⟨q, _, _, hq, _⟩ := dd'; ⟨q, hq⟩
  exact d_write I (by rw [hH]; exact True.intro) hs he (dir_ok hd dd')
/-- one pair written down -/
theorem pe_dispR {ek ev : Expr} (hu : X.A.units + 64 < cLine) (hk : PE X ek tk) (hv : PE X ev tv) : PE X (.Dict [some ek] [ev] pos) (tDispR X.K tk tv) := by
  refine ⟨fun pins s σ H Q I q => ?_⟩
  have hn := I.hok.fresh (Nat.le_refl s.heap.objs.size)
  have I1 := I.laid (a := s.heap.objs.size) (o := dirO s.heap.objs.size []) (h' := s.heap.push { cls := .type "dict", data := .dict #[] }) (t' := s.toks) (fun _ _ q => Heap.get?_push_of_some _ q) (Nat.le_refl _)
    (dir_ok (beq_eq_false_iff_ne.mpr (Ne.symm (Nat.ne_of_lt I.big))) ⟨_, #[], 0, Heap.get?_push_size _ rfl, ⟨rfl, rfl, rfl⟩, rfl, rfl, (fun x hx => by cases hx), List.nodup_nil⟩)
  have run := (pps_cons (pos := pos) hk hv pps_nil).run pins _ σ _ _ I1 (q _ hn)
  have shp : (evalEachOpt [some ek] X.env).zip ((evalEach [ev] X.env).map fun v => do let x ← v; standAt pos; pure x) = (pairTrees [some ek] [ev] X.env pos).map fun p => (some p.1, p.2) := rfl
  rw [arm_eval_Dict, shp, dictDisplay_pairs (pairTrees [some ek] [ev] X.env pos) (by simp [pairTrees]) (by simp [pairTrees])]
  refine wpAny_bind (wpAny_standAt (wpAny_bind (wpAny_subDictH (knd := nestedKind X.prog X.w) (by show X.A.units + 8 < cLine; omega) (by simp [pairTrees]) (thn run fun ws s2 ⟨ps, H2, I2, rel, b, S, d, v, ep, fv, hk2, hH, q2⟩ => ?_))))
  subst ep
  cases rel with
  | @cons _ kw _ _ r1 r2 =>
    cases r2
    obtain ⟨kw1, kw2⟩ := kw
    obtain ⟨r3, r4⟩ := r1
    obtain rfl : kw1 = Value.ref b := r3
    obtain ⟨hd, dd⟩ := dir_at (xs := []) I2 hH (fun p hp => nomatch hp)
    refine ⟨[(kR S, b, kw2)], ⟨rfl, rfl, key_isR I2 hk2, True.intro⟩, dd, fun h' tk2 dd' hs => wpAny_pure ?_⟩
    have dx : h'.DictOfH (nestedKind X.prog X.w) s.heap.objs.size ([(S, b, kw2)].map upR) := dd'
    have he : ∃ q, h'.get? s.heap.objs.size = some q := let ⟨q, _, _, hq, _⟩ := dx; ⟨q, hq⟩
    exact ⟨.ref s.heap.objs.size, _, d_write I2 (by rw [hH]; exact True.intro) hs he (dir_ok hd dx), rfl, q2 _ (fv_of fv r4)⟩
end
end DD
/-! dicts from tuples of ints: mirrors and rules -/
namespace DD
open PySem PySem.Spec PyProof.Rows L2
def valR (kvs : List (List Int × D)) (S : List Int) : Option D := (kvs.find? fun p => decide (p.1 = S)).map (·.2)
def stoR (kvs : List (List Int × D)) (S : List Int) (d : D) : List (List Int × D) := if (valR kvs S).isSome = true then kvs.map (fun p => if p.1 = S then (p.1, d) else p) else kvs ++ [(S, d)]
def keysR (kvs : List (List Int × D)) : List D := kvs.map fun p => kI p.1
/-- what a dict may hold: a number, True, False -/
def fvO : D → Option D
  | .int i => some (.int i)
  | .bool b => some (.bool b)
  | _ => none
theorem fvO_of {d e : D} (h : fvO d = some e) : e = d ∧ ((∃ i, d = .int i) ∨ ∃ b, d = .bool b) := by
  cases d with
  | int i => cases h; exact ⟨rfl, .inl ⟨i, rfl⟩⟩
  | bool i => cases h; exact ⟨rfl, .inr ⟨i, rfl⟩⟩
  | _ => cases h
def dirZ (k : Nat) : Z (List (List Int × D)) := fun n φ => ∃ kvs, n.ob[k]? = some (.dir kvs) ∧ φ kvs n
def putR (k : Nat) (kvs : List (List Int × D)) : Z Unit := fun n φ => φ () ⟨n.n, n.ob.set k (.dir kvs)⟩
def oneR (kvs : List (List Int × D)) : Z D := fun n φ => φ (refD n.ob.length) ⟨n.n, n.ob ++ [.dir kvs]⟩
def dispR (j v : D) : Z D := Mo.lift (rowO j) >>= fun S => Mo.lift (fvO v) >>= fun w => oneR [(S, w)]
def setRR (d j v : D) : Z Unit := Mo.lift (ownOf d) >>= fun k => dirZ k >>= fun kvs => Mo.lift (rowO j) >>= fun S => Mo.lift (fvO v) >>= fun w => Mo.lift (fits kvs.length) >>= fun _ => putR k (stoR kvs S w)
theorem rowO_of {d : D} {r : List Int} (h : rowO d = some r) : d = kI r := by
  cases d with
  | tuple es => rw [intsO_of (show intsO es = some r from h)]
  | _ => cases h
theorem rowO_ok (r : List Int) : rowO (kI r) = some r := intsO_ok r
section
variable {K : PySem.W.Frag} {B : Bs} {g : List Sl} {σ : L2.St} {H G : Hp} {n : Wd} {S : List Int} {kvs : List (List Int × D)} {xs : List (List Int × Addr × Value)}
theorem KvR.len : ∀ {kvs : List (List Int × D)} {xs : List (List Int × Addr × Value)}, KvR K G kvs xs → kvs.length = xs.length
  | _, _, .nil => rfl
  | _, _, .cons _ _ r => by simp [r.len]
theorem KvR.some : ∀ {kvs : List (List Int × D)} {xs : List (List Int × Addr × Value)}, KvR K G kvs xs → (valR kvs S).isSome = (atKey xs S).isSome
  | _, _, .nil => rfl
  | _, _, .cons (r := T) (ps := ps) (xs := xs) h f r => by
    have ih := r.some
    unfold valR atKey at ih ⊢
    rw [List.find?_cons, List.find?_cons]
    by_cases e : T = S
    · rw [decide_eq_true e]
      rfl
    · rw [decide_eq_false e]
      exact ih
theorem KvR.keys : ∀ {kvs : List (List Int × D)} {xs : List (List Int × Addr × Value)}, KvR K G kvs xs → ∀ p ∈ xs, Da K G (.ref p.2.1) (kI p.1)
  | _, _, .nil, _, h => nomatch h
  | _, _, .cons h f r, p, hp => by
    rcases List.mem_cons.mp hp with rfl | hp
    · exact h
    · exact r.keys p hp
theorem KvR.at_ : ∀ {kvs : List (List Int × D)} {xs : List (List Int × Addr × Value)} {i : Nat} {p : List Int × Addr × Value}, KvR K G kvs xs → xs[i]? = .some p → ∃ q, kvs[i]? = .some q ∧ Da K G (.ref p.2.1) (kI q.1)
  | _, _, _, _, .nil, h => by cases h
  | _, _, 0, _, .cons h f r, e => by cases e; exact ⟨_, rfl, h⟩
  | _, _, i + 1, p, .cons h f r, e => r.at_ (i := i) (p := p) e
theorem KvR.repl {d : D} {u : Value} (hu : FvD d u) : ∀ {kvs : List (List Int × D)} {xs : List (List Int × Addr × Value)}, KvR K G kvs xs → KvR K G (kvs.map fun p => if p.1 = S then (p.1, d) else p) (xs.map (putAt S u))
  | _, _, .nil => .nil
  | _, _, .cons (r := T) (d := d0) (a := a) (u := u0) (ps := ps) (xs := xs) h f r => by
    have ih := r.repl hu
    rw [List.map_cons, List.map_cons]
    by_cases e : T = S
    · have e1 : putAt S u (T, a, u0) = (T, a, u) := if_pos e
      rw [if_pos e, e1]
      exact .cons h hu ih
    · have e1 : putAt S u (T, a, u0) = (T, a, u0) := if_neg e
      rw [if_neg e, e1]
      exact .cons h f ih
theorem KvR.snoc {b : Addr} {d : D} {u : Value} (hu : FvD d u) (hb : Da K G (.ref b) (kI S)) : ∀ {kvs : List (List Int × D)} {xs : List (List Int × Addr × Value)}, KvR K G kvs xs → KvR K G (kvs ++ [(S, d)]) (xs ++ [(S, b, u)])
  | _, _, .nil => .cons hb hu .nil
  | _, _, .cons h f r => .cons h f (r.snoc hu hb)
theorem KvR.put {b : Addr} {d : D} {u : Value} (h : KvR K G kvs xs) (hu : FvD d u) (hb : Da K G (.ref b) (kI S)) : KvR K G (stoR kvs S d) (storedH xs S b u) := by
  unfold stoR storedH
  rw [h.some]
  split
  · exact h.repl hu
  · exact h.snoc hu hb
theorem okD_kI (r : List Int) : okD (kI r) = true := by
  show okDs (r.map PyData.int) = true
  induction r with
  | nil => rfl
  | cons x r ih => exact ih
theorem Ok.dirAt (o : Ok K B g σ H G n) {v : V} {d : D} {k : Nat} (h : Da K G v d) (e : ownOf d = some k) (hk : n.ob[k]? = some (.dir kvs)) : ∃ a xs, v = .ref a ∧ G a = some (.own k) ∧ H a = some (dirO a xs) ∧ KvR K G kvs xs ∧ ∀ p ∈ xs, Da K H (.ref p.2.1) (kI p.1) := by
  obtain ⟨a, rfl, ga⟩ := h.own e
  obtain ⟨c, h1, h2⟩ := o.fm.obs.at_ a _ k ga rfl
  rw [hk] at h1
  cases h1
  obtain ⟨_, xs, q1, q2⟩ := h2
  exact ⟨a, xs, rfl, ga, q1, q2, fun p hp => (q2.keys p hp).toH o.fm.sub (okD_kI _)⟩
theorem kI_ref {v : V} {r : List Int} (h : Da K G v (kI r)) : ∃ b, v = .ref b := by
  cases h with
  | tup h1 h2 => exact ⟨_, rfl⟩
theorem fv_da {v : V} {d e : D} (h : Da K G v d) (e1 : fvO d = some e) : e = d ∧ fvV v d := by
  obtain ⟨e2, ⟨i, rfl⟩ | ⟨b, rfl⟩⟩ := fvO_of e1
  · cases h; exact ⟨e2, .inl ⟨i, rfl, rfl⟩⟩
  · cases h; exact ⟨e2, .inr ⟨b, rfl, rfl⟩⟩
end
section
variable {m : Type → Type} [Mo m] [OverZ m] {X : Cx} {EX : XR} {g : List Sl} {pos : Pos} {a b e : Expr} {x y : m D}
/-- {k: v} -/
theorem ej_dispR {ek ev : Expr} (hu : X.A.units + 64 < cLine) (hk : EJ X EX ek g x) (hv : EJ X EX ev g y) : EJ X EX (.Dict [some ek] [ev] pos) g (x >>= fun j => y >>= fun v => OverZ.up (dispR j v)) :=
  (pe_dispR hu hk hv).weak fun σ H Q ⟨B, G, n, φ, ξ, o, s, q, xw⟩ p hp => by
    have sd := o.side hp
    have xp : Xw X (B.pin p (dirO p [])) EX ξ := fun e n' σ' H' G' c od hx o' ex => xw e n' σ' H' G' c od hx (o'.unpin o.fm sd.b) ex
    refine te_one (B := B.pin p (dirO p [])) ((o.raw (u := dirO p []) hp).pin sd upd_same) s (fun v1 H1 G1 j n1 o1 g1 d1 s1 => te_one o1 s1 (fun v2 H2 G2 w n2 o2 g2 d2 s2 => ?_) xp) xp
    obtain ⟨S, eS, w2, ew, pz⟩ := (show dispR j w n2 φ from OverZ.sat_up s2)
    obtain rfl := rowO_of eS
    have dj := d1.mono g2
    obtain ⟨b, rfl⟩ := kI_ref dj
    obtain ⟨rfl, fv⟩ := fv_da d2 ew
    have nb : ¬ B.fp p := o.fm.side sd.b
    have hH2 : H2 p = some (dirO p []) := o2.fm.keep p _ upd_same nb
    have sd1 := sd.grow o1
    have sd2 : Side B g σ G2 p := sd.grow o2
    refine ⟨b, S, _, v2, rfl, fv, dj.toH o2.fm.sub (okD_kI S), hH2, fun u hu2 => ?_⟩
    have o3 := (o2.unpin o.fm sd.b).poke (u := dirO p [(S, b, u)]) sd2
    obtain ⟨o4, g4⟩ := o3.mark (w := dirO p [(S, b, u)]) (u := .own n2.ob.length) (c := .dir [(S, w2)]) sd.b sd2.no upd_same sd.f rfl ⟨upd_same, [(S, b, u)], upd_same, .cons (dj.mono (same_upd sd2.no)) hu2 .nil⟩
    exact q _ _ _ _ _ o4 ((g1.trans g2).trans g4) (.obj upd_same) pz
/-- o[k] = e -/
theorem sj_setR {o0 k : Expr} {p2 : Pos} {z : m D} (hu : X.A.units + 64 < cLine) (h : EJ X EX e g x) (ho : EJ X EX o0 g y) (hk : EJ X EX k g z)
    (ha : ∀ v, assign (.Subscript o0 k p2) X.env v = (do
      let ov ← holding [v] (eval o0 X.env)
      let iv ← holding [v, ov] (eval k X.env)
      standAt p2
      holding [v, ov, iv] (setItem ov iv v)
      release [v, ov, iv] []) := by intro _; rfl)
    (hs : swapsWithSole [.Subscript o0 k p2] e pos.line X.env = pure false := by kernel_rfl) (hw : swappedStores [.Subscript o0 k p2] e X.env = pure none := by kernel_rfl)
    (h1 : (assignEach [.Subscript o0 k p2] X.env).map (·.2) = [assign (.Subscript o0 k p2) X.env] := by rfl) :
    SJ X EX (.Assign [.Subscript o0 k p2] e pos) g (x >>= fun v => y >>= fun d => z >>= fun j => OverZ.up (setRR d j v)) (fun _ => g) :=
  (ps_asg h (pg_sub ho hk (set_dirR hu) ha) hs hw h1).weak fun De σ H ⟨B, G, n, φ, ξ, o, s, q, xw⟩ => te_one o s (fun v H1 G1 dv n1 o1 g1 d1 s1 => te_one o1 s1 (fun w H2 G2 d n2 o2 g2 d2 s2 => te_one o2 s2 (fun u H3 G3 j n3 o3 g3 d3 s3 => by
    obtain ⟨k, ek, kvs, hk, S, eS, i, ei, un, hf, pe⟩ := (show setRR d j dv n3 φ from OverZ.sat_up s3)
    obtain rfl := rowO_of eS
    obtain ⟨a, xs, rfl, ga, hH, kv, hks⟩ := o3.dirAt (d2.mono g3) ek hk
    obtain ⟨b, rfl⟩ := kI_ref d3
    obtain ⟨rfl, fv⟩ := fv_da ((d1.mono g2).mono g3) ei
    refine ⟨a, b, S, _, xs, rfl, rfl, fv, d3.toH o3.fm.sub (okD_kI S), hH, hks, ?_, fun t ht => q () _ _ G3 _ (o3.putG (c := .dir (stoR kvs S i)) ga rfl ⟨ga, _, upd_same, kv.put ht d3⟩) ((g1.trans g2).trans g3) pe⟩
    rw [← kv.len]
    exact Nat.le_of_lt (fits_lt hf)) xw) xw) xw
end
/-! ### walks -/
end DD
/-! dicts from ints to ints -/
/-! sorted(l), l a list of tuples that can be compared -/
/-! functions of one argument that methods are given: lambdas that see the maker's names -/
/-! with C(..): one statement -/
/-! the law whose deck stays hidden, beside a table of code objects -/
/-! defs without parameters; a lambda made by another def than the law; o.append(e) as an expression; truth of None or a bool -/
/-! a list that changes compared with data -/
/-! raise C(e) from n within `except .. as n`; what leaves such a suite -/
/-! printed by mkde52.py: defs whose errors may have a context -/
namespace DD
open PySem PySem.Spec PyProof.Rows L2
structure FnY (P : Program) (w : World) (K : PySem.W.Frag) (mg : Str → Option Value) (base : Heap) (k : Nat) (f : Addr) (fd : FuncData) (ps : List Str) (sp : Sp) : Prop where
  len : ∀ vs H Q E, sp vs H Q E → vs.length = ps.length
  run : ∀ (A : Around) (outer : List Env) (s : Shared) (H : Hp) (args : Args) (us : List Value) (vs : List V) (Q : VK) (E : XK), Room k A → A.guards = some [] → Env0 P w K mg base A outer s H → BindsTo s fd args (ps.zip us) → Vals vs us → sp vs H Q E →
    codeAny (model P w) A (.call (.ref f) args) (CR (L2.CX P w) outer P w H s Q E) s
theorem FnY.mono {P : Program} {w : World} {K : PySem.W.Frag} {mg : Str → Option Value} {base : Heap} {j k : Nat} {f : Addr} {fd : FuncData} {ps : List Str} {sp : Sp} (F : FnY P w K mg base j f fd ps sp) (h : j ≤ k) : FnY P w K mg base k f fd ps sp :=
  ⟨F.len, fun A outer s H args us vs Q E hr => F.run A outer s H args us vs Q E (hr.mono h)⟩
/-! o.m(..), the last parameters by their defaults -/
/-! tries -/
structure HeldC (X : Cx) (e : Exn) (a : Addr) (oe : Obj) (od : Option Addr) (C : Addr) : Prop where
  nm : X.mg e.cls = some (.ref C)
  zc : Zc (.ref C) od oe
  da : ∃ vs, oe.data = .fields vs
inductive HdLC (X : Cx) : List ExceptHandler → List Cls → Prop
  | nil : HdLC X [] []
  | cons {te : Expr} {cs : List Value} {n : Str} {i : Nat} {ts : Addr → Value → Option Addr → TS} {b0 : Stmt} {bs : List Stmt} {p : Pos} {hds : List ExceptHandler} {l : List Cls} (t : ClT X te cs) (hi : X.N[i]? = some n) (hl : X.env.kindOf n = some .local)
      (su : ∀ (a : Addr) (ob : Obj) (cls : Value) (d : Option Addr) (pn : List (Addr × Obj)), Zc cls d ob → (∃ vs, ob.data = .fields vs) → PSs (X.suite a ((a, ob) :: pn)) (b0 :: bs) (ts a cls d)) (r : HdLC X hds l) :
      HdLC X (.ExceptHandler (some te) (some n) (b0 :: bs) p :: hds) ((cs, i, ts) :: l)
section
variable {m₁ m : Type → Type} [Mo m₁] [Mo m] [Tr m₁ m] {A : Type} {X : Cx} {EX : XR} {g gk : List Sl}
inductive HdJC (X : Cx) (i : Nat) (gk : List Sl) (h : Exn → m (Fl A)) (P : A → List Sl) : List ExceptHandler → List (List Value) → Prop
  | nil : HdJC X i gk h P [] []
  | cons {te : Expr} {cs : List Value} {n : Str} {b0 : Stmt} {bs : List Stmt} {p : Pos} {hds : List ExceptHandler} {css : List (List Value)} (t : ClT X te cs) (hi : X.N[i]? = some n) (hl : X.env.kindOf n = some .local)
      (su : ∀ (e : Exn) (a : Addr) (oe : Obj) (od : Option Addr) (C : Addr) (pn : List (Addr × Obj)), HeldC X e a oe od C → PySem.W.exmAny X.K (.ref C) cs = some true → BJ (X.suite a ((a, oe) :: pn)) X0 (b0 :: bs) (gk.set i (.exn a od e.fs)) (h e) P) (r : HdJC X i gk h P hds css) :
      HdJC X i gk h P (.ExceptHandler (some te) (some n) (b0 :: bs) p :: hds) (cs :: css)
def tsJ2C (X : Cx) (i : Nat) (gk : List Sl) (h : Exn → m (Fl A)) (P : A → List Sl) (cs : List Value) : Addr → Value → Option Addr → TS := fun a cls od De σ H =>
  ∃ t : { t : Exn × Addr // X.mg t.1.cls = some (.ref t.2) ∧ cls = .ref t.2 ∧ PySem.W.exmAny X.K cls cs = some true }, tbJ X X0 (gk.set i (.exn a od t.1.1.fs)) (h t.1.1) P De σ H
theorem HdJC.list {i : Nat} {h : Exn → m (Fl A)} {P : A → List Sl} : ∀ {hds : List ExceptHandler} {css : List (List Value)}, HdJC X i gk h P hds css → HdLC X hds (css.map fun cs => (cs, i, tsJ2C X i gk h P cs))
  | _, _, .nil => .nil
  | _, _, .cons t hi hl su r => .cons t hi hl (fun a ob cls od pn hz hd => pss_any fun t => by
    obtain ⟨⟨e, C⟩, h1, h2, h3⟩ := t
    dsimp only at h1 h2
    subst h2
    exact su e a ob od C pn ⟨h1, hz, hd⟩ h3) r.list
end
end DD
/-! raise C(e) from n in mirrors; finally with errors -/
namespace DD
open PySem PySem.Spec PyProof.Rows L2
instance : Tr ZX ZX := ⟨fun x h n φ ξ => x n φ fun e n' => h e n' φ ξ, fun s => s⟩
/-! ### try: body, finally: suite, body may raise -/
end DD
/-! a list that changes looked at as data; + and slices of such lists; clear -/
/-! functions that methods are given, where the methods' errors may have a context; calm statements where errors are awaited -/
/-! a def handed as a function of one argument -/
/-! statements on an instance of either class -/
/-! the words of the simp lists in bundles (for long texts) -/
/-! dicts from tuples of ints: o[k], o.get(k, v), list(o), dict(o) -/
namespace DD
open PySem PySem.Spec PyProof.Rows L2
theorem kvR_val {K : PySem.W.Frag} {G : Hp} {S : List Int} {d : D} : ∀ {kvs : List (List Int × D)} {xs : List (List Int × Addr × Value)}, KvR K G kvs xs → valR kvs S = some d → ∃ c u, atKey xs S = some (c, u) ∧ FvD d u
  | _, _, .nil, h => by cases h
  | _, _, .cons (r := T) (d := d0) (a := a) (u := u0) (ps := ps) (xs := xs) h f r, hv => by
    unfold valR at hv
    unfold atKey
    rw [List.find?_cons] at hv ⊢
    by_cases e : T = S
    · rw [decide_eq_true e] at hv ⊢
      cases hv
      exact ⟨a, u0, rfl, f⟩
    · rw [decide_eq_false e] at hv ⊢
      exact kvR_val r hv
theorem fv_rel {d : D} {u : Value} (h : FvD d u) : ∃ v, RelV v u ∧ ∀ {K : PySem.W.Frag} {G : Hp}, Da K G v d := by
  cases h with
  | int i t => exact ⟨.int i, ⟨t, rfl⟩, .int i⟩
  | bool b => exact ⟨.bl b, rfl, .bl b⟩
def tIxR (K : PySem.W.Frag) (td ty : TE) : TE := fun σ H Q => td σ H fun x H1 => ty σ H1 fun y H2 => ∃ a b S xs c u v, x = .ref a ∧ y = .ref b ∧ Da K H2 (.ref b) (kI S) ∧ H2 a = some (dirO a xs) ∧ (∀ p ∈ xs, Da K H2 (.ref p.2.1) (kI p.1)) ∧ atKey xs S = some (c, u) ∧ RelV v u ∧ Q v H2
def tGet2R (K : PySem.W.Frag) (td ty tx : TE) : TE := fun σ H Q => td σ H fun x H1 => ∃ a, x = .ref a ∧ (∃ xs, H1 a = some (dirO a xs) ∧ ∀ p ∈ xs, Da K H1 (.ref p.2.1) (kI p.1)) ∧ ty σ H1 fun y H2 => tx σ H2 fun z H3 => ∃ b S xs, y = .ref b ∧ Da K H3 (.ref b) (kI S) ∧ H3 a = some (dirO a xs) ∧ (∀ p ∈ xs, Da K H3 (.ref p.2.1) (kI p.1)) ∧
  ((atKey xs S = none ∧ Q z H3) ∨ ∃ c u v, atKey xs S = some (c, u) ∧ RelV v u ∧ Q v H3)
section
variable {X : Cx} {o i e f : Expr} {pos apos cpos : Pos} {td ty tx : TE}
theorem pe_ixR (hu : X.A.units + 64 < cLine) (ho : PE X o td) (hi : PE X i ty) (hs : NoSl i) : PE X (.Subscript o i pos) (tIxR X.K td ty) := by
  refine ⟨fun pins s σ H Q I h => ?_⟩
  refine subD_of PySem.F.slot_dict_getitem.lookup hs (thn (ho.run pins s σ H _ I h) fun u s1 ⟨x, H1, I1, rx, q1⟩ => thn (hi.run pins s1 σ H1 _ I1 q1) fun iv s2 ⟨y, H2, I2, ry, a, b, S, xs, c, w, v, ex, ey, hk, hH, hks, hat, rv, q2⟩ => ?_)
  subst ex ey
  obtain rfl : u = Value.ref a := rx
  obtain rfl : iv = Value.ref b := ry
  obtain ⟨hd, dd⟩ := dir_at I2 hH hks
  refine ⟨dd.typeIs, wpAny_getItem_heap (knd := nestedKind X.prog X.w) (p := (c, w)) (by show X.A.units + 1 + 8 < cLine; omega) (key_isR I2 hk) dd (by rw [upR_at]; exact hat) ?_⟩
  exact ⟨v, H2, I2.tok _, rv, q2⟩
theorem pe_get2R (hu : X.A.units + 64 < cLine) (ho : PE X o td) (he : PE X e ty) (hf : PE X f tx) (m : M2 X o "get" apos e f cpos) : PE X (.Call (.Attribute o "get" apos) [e, f] [] cpos) (tGet2R X.K td ty tx) := by
  refine ⟨fun pins s σ H Q I h => ?_⟩
  refine wpAny_Call_method m.base m.few m.line PySem.F.plainAttrs_dict PySem.F.slot_dict_get PySem.F.type_dict_get (thn (ho.run pins s σ H _ I h) fun u s1 ⟨x, H1, I1, rx, a, ex, ⟨xs0, h0, hk0⟩, q1⟩ => ?_)
  subst ex
  obtain rfl : u = Value.ref a := rx
  obtain ⟨hd0, dd0⟩ := dir_at I1 h0 hk0
  refine ⟨dd0.typeIs, fun b q => ?_, ?_⟩
  · cases q
    obtain ⟨ob, _, _, e1, e2, _⟩ := dd0
    exact ⟨ob, e1, e2.2.1⟩
  rw [m.trees]
  refine Calls.callWith_builtin rfl (Calls.evalArgs_plain (Calls.spliced_cons (thn (he.run pins s1 σ H1 _ I1 q1) fun iv s2 ⟨y, H2, I2, ry, q2⟩ =>
    Calls.spliced_cons (thn (hf.run pins s2 σ H2 _ I2 q2) fun fv s3 ⟨z, H3, I3, rz, b, S, xs, ey, hk, hH, hks, hcase⟩ => Calls.spliced_nil ?_))))
  subst ey
  obtain rfl : iv = Value.ref b := ry
  obtain ⟨hd, dd⟩ := dir_at I3 hH hks
  refine call_meetsIn PySem.F.slot_dict_get dd.typeIs PySem.F.entry_dict_get (PySem.F.args_dict_get_3 _ _ _) (meetsH_dict_get_default (nestedKind X.prog X.w) a b hd fv) ⟨by show X.A.units + 1 + 8 < cLine; omega, kR S, xs.map upR, key_isR I3 hk, dd, ?_⟩
  rw [upR_at]
  rcases hcase with ⟨hn, q3⟩ | ⟨c, w, v, hs, rv, q3⟩
  · rw [hn]
    exact ⟨z, H3, I3.tok _, rz, q3⟩
  · rw [hs]
    exact ⟨v, H3, I3.tok _, rv, q3⟩
/-- list(o): the keys -/
theorem call_listR (hc : X.calm = true) : CallR X (.type "list") (fun xs H Q => ∃ a ks, xs = [.ref a] ∧ H a = some (dirO a ks) ∧ ks.length ≤ sizeLine ∧ ∀ p, H p = none → Q (.ref p) (upd H p (.lst (ks.map fun x => V.ref x.2.1)))) := by
  intro pins s σ H xs us Q I r ⟨a, ks, ex, hH, hz0, q⟩
  subst ex
  obtain ⟨u, rfl, rx⟩ := vals1 r
  cases rx
  obtain ⟨⟨hs, o, es, ep, ho, hx, hdt, he, hn⟩, _⟩ := (show ObjOk X.prog X.w H s.heap a (dirO a ks) from I.hok a _ hH)
  have l1 : es.size = ks.length := ent_len he
  refine PySem.W.kdl_call (PySem.KdlSrc.rawDict (es := es) (ep := ep) hs) (I.ok.hd hc) ⟨o, ho, hx, hdt⟩ (by omega) fun h' tk acc' c' kp e it => ?_
  have ea : acc'.toList = ks.map fun x => Value.ref x.2.1 := by
    have hl : acc'.toList.length = ks.length := by rw [Array.length_toList, it.1]; exact l1
    apply List.ext_getElem?
    intro j
    rw [List.getElem?_map]
    cases hj : acc'.toList[j]? with
    | none =>
      have h1 := List.getElem?_eq_none_iff.mp hj
      rw [List.getElem?_eq_none (by omega)]
      all_goals rfl
    | some v =>
      obtain ⟨hi, hv⟩ := it.2 j v (by rw [← Array.getElem?_toList]; exact hj)
      have hj2 : j < ks.length := by omega
      have h2 := ent_key he (List.getElem?_eq_getElem hj2)
      rw [Array.getElem?_eq_getElem hi] at h2
      rw [List.getElem?_eq_getElem hj2, hv, Option.some.inj h2]
      all_goals rfl
  have eb : acc'.toList = (ks.map fun x => x.2.1).map Value.ref := by rw [ea, List.map_map]; all_goals rfl
  have ec : (ks.map fun x => V.ref x.2.1) = (ks.map fun x => x.2.1).map V.ref := by rw [List.map_map]; all_goals rfl
  have rv : Vals (ks.map fun x => V.ref x.2.1) acc'.toList := by rw [eb, ec]; exact L2.vals_refs _
  have hz : (ks.map fun x => V.ref x.2.1).length ≤ sizeLine := by rw [List.length_map]; omega
  refine ⟨.ref s.heap.objs.size, _, I.laid (t' := tk) (o := .lst (ks.map fun x => V.ref x.2.1)) kp (Nat.le_refl _) ?_, rfl, q _ (I.hok.fresh (Nat.le_refl _))⟩
  exact ⟨hz, acc'.toList, c', rv, by rw [Array.toArray_toList]; exact e⟩
/-- dict(o): no two keys hash alike -/
theorem call_copyR (hu : X.A.units + 64 < cLine) : CallR X (.type "dict") (fun xs H Q => ∃ a ks, xs = [.ref a] ∧ H a = some (dirO a ks) ∧ (∀ p ∈ ks, Da X.K H (.ref p.2.1) (kI p.1)) ∧ ks.length ≤ sizeLine ∧ (ks.map fun x => hashR x.1).Nodup ∧ ∀ p, H p = none → Q (.ref p) (upd H p (dirO p ks))) := by
  intro pins s σ H xs us Q I r ⟨a, ks, ex, hH, hk, hz, hn, q⟩
  subst ex
  obtain ⟨u, rfl, rx⟩ := vals1 r
  cases rx
  obtain ⟨hs, dd⟩ := dir_at I hH hk
  refine callType_codes (Q₁ := fun obj s₁ => obj = .ref s.heap.objs.size ∧ s₁ = { s with heap := s.heap.push { cls := .type "dict", data := .dict #[] } }) PySem.F.kt_called_dict (PySem.F.kt_typeCall_dict_1 _) PySem.F.entry_dict_init (kt_code_dict_new _ ⟨rfl, rfl⟩) ?_
  rintro obj s₁ ⟨rfl, rfl⟩
  have hnew : (s.heap.push { cls := .type "dict", data := .dict #[] }).DictOfH (nestedKind X.prog X.w) s.heap.objs.size [] := Heap.DictOfH.new s.heap
  have kp : ∀ b o, s.heap.get? b = some o → (s.heap.push { cls := .type "dict", data := .dict #[] }).get? b = some o := fun b o e => Heap.get?_push_of_some _ e
  have hty : ∀ x ∈ ks.map upR, ({ s with heap := s.heap.push { cls := .type "dict", data := .dict #[] } } : Shared).TypeIs (.ref x.2.1) "tuple" := fun x hx => by
    obtain ⟨o, ho, hc⟩ := keyed_apart nestedKind_stays dd x hx
    exact ⟨o, kp _ _ ho, hc⟩
  have I1 := I.laid (a := s.heap.objs.size) (o := dirO s.heap.objs.size []) (h' := s.heap.push { cls := .type "dict", data := .dict #[] }) (t' := s.toks) kp (Nat.le_refl _)
    (dir_ok (beq_eq_false_iff_ne.mpr (Ne.symm (Nat.ne_of_lt I.big))) hnew)
  have hsz := I.hok.fresh (Nat.le_refl s.heap.objs.size)
  have hne : a ≠ s.heap.objs.size := fun e => by rw [← e, hH] at hsz; cases hsz
  have hH1 : upd H s.heap.objs.size (dirO s.heap.objs.size []) a = some (dirO a ks) := by rw [upd_ne hne]; exact hH
  have dd1 : (s.heap.push { cls := .type "dict", data := .dict #[] }).DictOfH (nestedKind X.prog X.w) a (ks.map upR) := by
    obtain ⟨o, es, ep, e1, e2, e3, e4, e5, e6⟩ := dd
    exact ⟨o, es, ep, kp _ _ e1, e2, e3, e4, fun x hx => nestedKind_stays.stays (fun b o _ _ e _ => kp b o e) (e5 x hx), e6⟩
  have hap : ((ks.map upR).map fun x => (nestedKind X.prog X.w).hash x.1).Nodup := by
    have e : ((ks.map upR).map fun x => (nestedKind X.prog X.w).hash x.1) = ks.map fun x => hashR x.1 := by
      rw [List.map_map]
      refine List.map_congr_left fun x _ => ?_
      exact kR_hash X.w x.1
    rw [e]
    exact hn
  refine ⟨hnew.typeIs, PySem.F.args_dict_init_2 _ _, ?_⟩
  unfold Builtin.«dict.__init__»
  refine wpAny_bind ?_
  unfold Builtin.Dict.selfAndRest
  refine wpAny_bind (wpAny_notOrdered_dict hnew.typeIs ?_)
  show wpAny _ _ (pure (s.heap.objs.size, [Value.ref a])) _ _ _
  refine wpAny_pure ?_
  refine updateFrom_dictH (A := X.A.in1) (knd := nestedKind X.prog X.w) (kvs := []) (more := ks.map upR) .none (by show X.A.units + 2 + 8 < cLine; omega) (Ne.symm hne) hs hnew dd1 (.inr ⟨hty, hap⟩) (by rw [List.length_map]; simpa using hz) fun h' dd' dd2 hsb => ?_
  rw [storedAllH_nil_of_nodup _ dd.nodup] at dd'
  refine ⟨rfl, .ref s.heap.objs.size, _, I.laid (a := s.heap.objs.size) (o := dirO s.heap.objs.size ks) (h' := h') (t' := s.toks) (fun b o e => (hsb.2 b (Nat.ne_of_lt (Heap.lt_size e))).trans (kp b o e)) (Nat.le_refl _) (dir_ok (beq_eq_false_iff_ne.mpr (Ne.symm (Nat.ne_of_lt I.big))) dd'), rfl, q _ hsz⟩
end
end DD
/-! dicts from tuples of ints: mirrors of o[k], o.get(k, v), list(o), dict(o); products of big numbers -/
namespace DD
open PySem PySem.Spec PyProof.Rows L2
def dirD (d : D) : Z (Nat × List (List Int × D)) := fun n φ => ∃ k kvs, ownOf d = some k ∧ n.ob[k]? = some (.dir kvs) ∧ φ (k, kvs) n
def ixR (d j : D) : Z D := dirD d >>= fun p => Mo.lift (rowO j) >>= fun S => Mo.lift (valR p.2 S)
def getR (d j v : D) : Z D := dirD d >>= fun p => Mo.lift (rowO j) >>= fun S => pure ((valR p.2 S).getD v)
def listR (d : D) : Z (List D) := dirD d >>= fun p => Mo.lift (small (keysR p.2))
def apartR (kvs : List (List Int × D)) : Prop := (kvs.map fun p => hashR p.1).Nodup ∧ kvs.length ≤ 1000000
def copyR (d : D) : Z D := dirD d >>= fun p => fun n φ => apartR p.2 ∧ oneR p.2 n φ
section
variable {K : PySem.W.Frag} {B : Bs} {g : List Sl} {σ : L2.St} {H G : Hp} {n : Wd} {kvs : List (List Int × D)} {xs : List (List Int × Addr × Value)}
theorem Ok.dirAt2 (o : Ok K B g σ H G n) {v : V} {d : D} {φ : Nat × List (List Int × D) → Wd → Prop} (h : Da K G v d) (s : dirD d n φ) : ∃ a k kvs xs, v = .ref a ∧ G a = some (.own k) ∧ n.ob[k]? = some (.dir kvs) ∧ H a = some (dirO a xs) ∧ KvR K G kvs xs ∧ (∀ p ∈ xs, Da K H (.ref p.2.1) (kI p.1)) ∧ φ (k, kvs) n := by
  obtain ⟨k, kvs, ek, hk, p⟩ := s
  obtain ⟨a, xs, rfl, ga, hH, kv, hks⟩ := o.dirAt h ek hk
  exact ⟨a, k, kvs, xs, rfl, ga, hk, hH, kv, hks, p⟩
theorem dir_bind {α : Type} (o : Ok K B g σ H G n) {v : V} {d : D} {f : Nat × List (List Int × D) → Z α} {φ : α → Wd → Prop} (h : Da K G v d) (s : (dirD d >>= f) n φ) : ∃ a k kvs xs, v = .ref a ∧ G a = some (.own k) ∧ n.ob[k]? = some (.dir kvs) ∧ H a = some (dirO a xs) ∧ KvR K G kvs xs ∧ (∀ p ∈ xs, Da K H (.ref p.2.1) (kI p.1)) ∧ f (k, kvs) n φ :=
  o.dirAt2 (φ := fun p n' => f p n' φ) h s
theorem KvR.none {S : List Int} (r : KvR K G kvs xs) (h : valR kvs S = none) : atKey xs S = none := by
  have e := r.some (S := S)
  rw [h] at e
  cases h2 : atKey xs S with
  | none => rfl
  | some z => rw [h2] at e; cases e
theorem KvR.refs : ∀ {kvs : List (List Int × D)} {xs : List (List Int × Addr × Value)}, KvR K G kvs xs → DaAll K G (xs.map fun x => V.ref x.2.1) (keysR kvs)
  | _, _, .nil => .nil
  | _, _, .cons h f r => .cons h r.refs
theorem KvR.map1 : ∀ {kvs : List (List Int × D)} {xs : List (List Int × Addr × Value)}, KvR K G kvs xs → (kvs.map fun p => hashR p.1) = xs.map fun x => hashR x.1
  | _, _, .nil => rfl
  | _, _, .cons h f r => by rw [List.map_cons, List.map_cons, r.map1]
end
section
variable {m : Type → Type} [Mo m] [OverZ m] {X : Cx} {EX : XR} {g : List Sl} {pos : Pos} {a b e : Expr} {x y z : m D}
/-- d[k] -/
theorem ej_ixR (hu : X.A.units + 64 < cLine) (ha : EJ X EX a g x) (hb : EJ X EX b g y) (hs : NoSl b) : EJ X EX (.Subscript a b pos) g (x >>= fun d => y >>= fun j => OverZ.up (ixR d j)) :=
  (pe_ixR hu ha hb hs).weak fun σ H Q ⟨B, G, n, φ, ξ, o, s, q, xw⟩ => te_one o s (fun v H1 G1 d n1 o1 g1 d1 s1 => te_one o1 s1 (fun w H2 G2 j n2 o2 g2 d2 s2 => by
    obtain ⟨a, k, kvs, xs, rfl, ga, hk, hH, kv, hks, S, eS, r, er, pz⟩ := dir_bind o2 (d1.mono g2) (show ixR d j n2 φ from OverZ.sat_up s2)
    obtain rfl := rowO_of eS
    obtain ⟨b, rfl⟩ := kI_ref d2
    obtain ⟨c, u, hat, fv⟩ := kvR_val kv er
    obtain ⟨v, rv, dv⟩ := fv_rel fv
    exact ⟨a, b, S, xs, c, u, v, rfl, rfl, d2.toH o2.fm.sub (okD_kI S), hH, hks, hat, rv, q _ H2 G2 _ n2 o2 (g1.trans g2) dv pz⟩) xw) xw
/-- d.get(k, v) -/
theorem ej_getR {apos : Pos} (hu : X.A.units + 64 < cLine) (ho : EJ X EX e g x) (ha : EJ X EX a g y) (hb : EJ X EX b g z) (M : M2 X e "get" apos a b pos := by exact ⟨by rfl, by rfl, by rfl, by rfl⟩) :
    EJ X EX (.Call (.Attribute e "get" apos) [a, b] [] pos) g (x >>= fun d => OverZ.up (dirD d) >>= fun _ => y >>= fun j => z >>= fun v => OverZ.up (getR d j v)) :=
  (pe_get2R hu ho ha hb M).weak fun σ H Q ⟨B, G, n, φ, ξ, o, s, q, xw⟩ => te_one o s (fun v H1 G1 d n1 o1 g1 d1 s1 => by
    obtain ⟨a, k, kvs, xs, rfl, ga, hk, hH, kv, hks, s2⟩ := o1.dirAt2 d1 (show dirD d n1 _ from OverZ.sat_up (Mo.sat_bind s1))
    refine ⟨a, rfl, ⟨xs, hH, hks⟩, te_one o1 s2 (fun v2 H2 G2 j n2 o2 g2 d2 s3 => te_one o2 s3 (fun v3 H3 G3 w n3 o3 g3 d3 s4 => ?_) xw) xw⟩
    obtain ⟨a', k', kvs', xs', ea, ga', hk', hH', kv', hks', S, eS, pz⟩ := dir_bind o3 ((d1.mono g2).mono g3) (show getR d j w n3 φ from OverZ.sat_up s4)
    cases ea
    obtain rfl := rowO_of eS
    have d4 := d2.mono g3
    obtain ⟨b, rfl⟩ := kI_ref d4
    refine ⟨b, S, xs', rfl, d4.toH o3.fm.sub (okD_kI S), hH', hks', ?_⟩
    cases hv : valR kvs' S with
    | none =>
      have pz' : φ ((valR kvs' S).getD w) n3 := pz
      rw [hv] at pz'
      exact .inl ⟨kv'.none hv, q _ H3 G3 _ n3 o3 ((g1.trans g2).trans g3) d3 pz'⟩
    | some r =>
      have pz' : φ ((valR kvs' S).getD w) n3 := pz
      rw [hv] at pz'
      obtain ⟨c, u, hat, fv⟩ := kvR_val kv' hv
      obtain ⟨v5, rv, dv⟩ := fv_rel fv
      exact .inr ⟨c, u, v5, hat, rv, q _ H3 G3 _ n3 o3 ((g1.trans g2).trans g3) dv pz'⟩) xw
/-- dict(d) -/
theorem ej_copyR {p : Pos} (hu : X.A.units + 64 < cLine) (hm : X.mg "dict" = none) (ha : EJ X EX a g x) (hg : Gl X "dict" := by rfl) (hs : starEach [a] X.env = (false, eval a X.env) :: starEach [] X.env := by rfl) :
    EJ X EX (.Call (.Name "dict" p) [a] [] pos) g (x >>= fun d => OverZ.up (copyR d)) :=
  (pe_callTy (call_copyR hu) hg hm (by decide +kernel) (pa_cons ha pa_nil hs) (by decide) (by decide) hs rfl).weak fun σ H Q ⟨B, G, n, φ, ξ, o, s, q, xw⟩ => te_one o s (fun v H1 G1 d n1 o1 g1 d1 s1 => by
    obtain ⟨a, k, kvs, xs, rfl, ga, hk, hH, kv, hks, ⟨hn, hl⟩, pz⟩ := dir_bind o1 d1 (show copyR d n1 φ from OverZ.sat_up s1)
    have hn2 : (kvs.map fun p => hashR p.1).Nodup := hn
    rw [kv.map1] at hn2
    have hl2 : xs.length ≤ sizeLine := by rw [← kv.len]; exact Nat.le_trans hl (by decide)
    refine ⟨a, xs, rfl, hH, hks, hl2, hn2, fun p hp => ?_⟩
    obtain ⟨f1, f2⟩ := o1.fresh hp
    obtain ⟨o2, g2⟩ := (o1.raw (u := dirO p xs) hp).mark (w := dirO p xs) (u := .own n1.ob.length) (c := .dir kvs) f1 (o1.fm.sub.t p hp) upd_same f2 rfl ⟨upd_same, xs, upd_same, kv.mono (same_upd (o1.free hp))⟩
    exact q _ _ _ _ _ o2 (g1.trans g2) (.obj upd_same) pz) xw
/-- list(d) -/
theorem lj_listR {p : Pos} (hc : X.calm = true) (hm : X.mg "list" = none) (h : EJ X EX e g x) (hg : Gl X "list" := by rfl) (hs : starEach [e] X.env = (false, eval e X.env) :: starEach [] X.env := by rfl) : LJ X EX (.Call (.Name "list" p) [e] [] pos) g (x >>= fun d => OverZ.up (listR d)) :=
  (pe_callTy (call_listR hc) hg hm boot_list (pa_cons h pa_nil hs) (by decide) (by decide) hs rfl).weak fun σ H Q ⟨B, G, n, φ, ξ, o, s, q, xw⟩ => te_one o s (fun v H1 G1 d n1 o1 g1 d1 s1 => by
    obtain ⟨a, k, kvs, xs, rfl, ga, hk, hH, kv, hks, ds, eds, pz⟩ := dir_bind o1 d1 (show listR d n1 φ from OverZ.sat_up s1)
    obtain ⟨rfl, hlen⟩ := small_eq eds
    have kl : (keysR kvs).length = kvs.length := List.length_map ..
    refine ⟨a, xs, rfl, hH, by rw [← kv.len, ← kl]; exact Nat.le_trans hlen (by decide), fun l hl => ?_⟩
    obtain ⟨f1, f2⟩ := o1.fresh hl
    exact q l _ _ G1 _ n1 (o1.raw hl) g1 f1 (o1.free hl) upd_same f2 kv.refs pz) xw
end
/-! ### products of big numbers -/
def wideN : Nat := 2 ^ 20000
theorem wideN_ok {i j : Int} (hi : i.natAbs < wideN) (hj : j.natAbs < wideN) : CMulX i j := mulx_ok (a := 20000) (b := 20000) hi hj (by decide)
theorem wide_of {i : Int} {k : Nat} (h : i.natAbs < 2 ^ k) (hk : k ≤ 20000) : i.natAbs < wideN := Nat.lt_of_lt_of_le h (Nat.pow_le_pow_right (by decide) hk)
def mulW : D → D → Option D := intD2 fun i j => if i.natAbs < wideN ∧ j.natAbs < wideN then some (.int (i * j)) else none
theorem rd_mulW {K : PySem.W.Frag} : RD K (rI CMulX fun i j => .int (i * j)) mulW := rd_int fun i j z e => by
  split at e
  · rename_i h; cases e; exact ⟨wideN_ok h.1 h.2, fun _ _ => .int _⟩
  · cases e
def ipMulW : TIp := fun x y H Q => ∃ i j : Int, x = .int i ∧ y = .int j ∧ CMulX i j ∧ Q (.int (i * j)) H
theorem ip_mulW {X : Cx} : PIp X .Mult ipMulW := by
  intro pins s σ H x y v u Q I r1 r2 h
  obtain ⟨i, j, e1, e2, hc, q⟩ := h
  subst e1; subst e2
  obtain ⟨t, rfl⟩ := r1
  obtain ⟨t', rfl⟩ := r2
  exact AutoIntOps.imul_0 ⟨.int _, H, I.tok _, ⟨_, rfl⟩, q⟩ hc.ok
theorem rd_mulIW {K : PySem.W.Frag} : RD K ipMulW mulW := by
  intro x y dx dy z H G Q hx hy hs e q
  unfold mulW intD2 at e
  split at e
  · dsimp only at e
    split at e
    · rename_i h
      cases e
      exact ⟨_, _, hx.toI, hy.toI, wideN_ok h.1 h.2, q _ H G (Gr.refl hs) (.int _)⟩
    · cases e
  · cases e
end DD
namespace DD
open PySem PySem.Spec PyProof.Rows L2
def top (i : Nat) : Stmt := PySem.Challenge.pw_darkdrawers_k26_choices_counted.main.body.getD i (.Pass ⟨0, 0, 0, 0⟩)
section
variable {P : Program} {w : World} {K : PySem.W.Frag} {mg : Str → Option Value} {base : Heap}
def absI (i : Int) : Int := if i < 0 then -i else i
abbrev s__law_draws : Stmt := top 6
theorem sc__law_draws : FnScope ["_law_script", "_law_cells", "_law_cell"] ["_law_script"] (defScope s__law_draws) := ⟨rfl, rfl, rfl, by decide +kernel, rfl, by decide +kernel, by decide +kernel⟩
theorem ok__law_draws {f : Addr} {fd : FuncData} (F : Fun K "_law_draws" "_law_draws" s__law_draws f fd) (ma : mg "abs" = none) (mi : mg "int" = none) (mn : mg "len" = none) : FnG P w K mg base 1 f fd ["_law_script"] (spDeckZ K) := by
  have sc := sc__law_draws
  refine fng_of F sc (fun vs H Q E ⟨a, ns, e, _⟩ => by rw [e]; rfl) fun cdv A outer s H vs Q E hr gu ⟨a, ns, e, hS, q⟩ => ?_
  subst e
  refine ⟨_, pss_cons (ps_set (i := 1) sc.nd rfl (by first | exact Or.inl rfl | exact Or.inr rfl)
    (pe_op op_cat (pe_lc (own := [("_law_cell", 2)]) rfl sc.nd (pi_list (pe_slice sl_list (pv 0) po_none (po_some pe_int))) (blk_of (by kernel_rfl)) (fun _ _ _ _ _ => pg_name (i := 2) sc.nd rfl (.inl rfl)) (fun _ _ _ _ _ => pts_nil)
      (fun _ _ _ _ _ => pe_callB call_abs (by rfl) ma (by decide +kernel) (pa_cons (pv 2) pa_nil)))
      (pe_op op_rep (pe_lst (pa_cons pe_int pa_nil)) (pe_callTy call_int1 (by rfl) mi (by decide +kernel) (pa_cons (pe_cmpR op_eq (pe_callB call_len_seq (by rfl) mn PySem.boot_len (pa_cons (pv 0) pa_nil)) pe_int (nomark _)) pa_nil)))))
    (pss_one (ps_ret (pe_lst (pa_cons (pv 1) (pa_cons pe_int (pa_cons (pe_lc (own := [("_law_cell", 2)]) rfl sc.nd (pi_list (pv 1)) (blk_of (by kernel_rfl)) (fun _ _ _ _ _ => pg_name (i := 2) sc.nd rfl (.inl rfl)) (fun _ _ _ _ _ => pts_nil)
      (fun _ _ _ _ _ => pe_op op_mul (pv 2) (pe_callTy call_int1 (by rfl) mi (by decide +kernel) (pa_cons (pe_cmpR op_ge (pv 2) (pe_op op_pow pe_int pe_int) (nomark _)) pa_nil)))) pa_nil)))))), ?_⟩
  refine ⟨.ref a, rfl, 63, rfl, a, _, rfl, hS, fun p hp => ?_⟩
  rw [cut63_eq]
  have smp := same_new hp (.lst ((ns.take 63).map V.int))
  generalize hHp : upd H p (HO.lst ((ns.take 63).map V.int)) = Hp0 at *
  have hpp : Hp0 p = some (.lst ((ns.take 63).map V.int)) := by rw [← hHp, upd_same]
  have e63 : (ns.take 63).length ≤ 63 := by rw [List.length_take]; omega
  generalize hcs0 : ns.take 63 = c0s at *
  refine ⟨p, rfl, ⟨_, SqL.of hpp⟩, fun l hl => ?_⟩
  have hpl : p ≠ l := fun e => by rw [← e, hpp] at hl; cases hl
  refine ⟨fun i m H2 => i ≤ c0s.length ∧ m + i = c0s.length ∧ H2 l = some (.lst (((c0s.take i).map absI).map V.int)) ∧ H2 p = some (.lst (c0s.map V.int)) ∧ Same H H2, ⟨c0s.length, Nat.zero_le _, rfl, upd_same, by rw [upd_ne hpl]; exact hpp, smp.trans (same_new hl _)⟩, ?_⟩
  rintro i m HL ⟨e0, e2, e4, e5, e6⟩
  by_cases hi : i = c0s.length
  · refine .inl ⟨⟨_, SqL.of e5, by rw [List.length_map]; omega⟩, ?_⟩
    rw [hi, List.take_length] at e4
    refine ⟨by show 1 ≤ sizeLine; decide, fun z hz => ?_⟩
    have sm2 := e6.trans (same_new hz (.lst [V.int 0]))
    refine ⟨.ref a, rfl, a, _, rfl, .inl (sm2.seq hS), ?_⟩
    refine ⟨rfl, .inr ⟨_, rfl, ?_⟩⟩
    have hk : (if decide (V.int ((ns.map V.int).length : Nat) = V.int 0) = true then (1 : Int) else 0) = if ns.length = 0 then 1 else 0 := by
      rw [List.length_map]
      by_cases h : ns.length = 0
      · rw [if_pos h, h]; rfl
      · rw [if_neg h, if_neg]
        intro h2
        have := of_decide_eq_true h2
        injection this with this
        omega
    rw [hk]
    have hne_lz : l ≠ z := fun e => by rw [← e, e4] at hz; cases hz
    refine ⟨z, _, [V.int 0], rfl, rfl, upd_same, by split <;> decide, by split <;> decide, by split <;> decide, fun r hr => ?_⟩
    have hrep : (List.replicate (if ns.length = 0 then (1 : Int) else 0).toNat [V.int 0]).flatten = (if ns.length = 0 then [(0 : Int)] else []).map V.int := by
      split <;> rfl
    rw [hrep]
    have hne_lr : l ≠ r := fun e => by rw [← e, upd_ne hne_lz, e4] at hr; cases hr
    have sm3 := sm2.trans (same_new hr (.lst ((if ns.length = 0 then [(0 : Int)] else []).map V.int)))
    refine ⟨l, r, (c0s.map absI).map V.int, (if ns.length = 0 then [(0 : Int)] else []).map V.int, rfl, rfl, by rw [upd_ne hne_lr, upd_ne hne_lz]; exact e4, upd_same, ?_, fun y hy => ?_⟩
    · rw [List.length_map, List.length_map, List.length_map]
      refine line63 ?_
      split <;> simp <;> omega
    have hcs : (c0s.map absI).map V.int ++ (if ns.length = 0 then [(0 : Int)] else []).map V.int = (csOf absI ns).map V.int := by unfold csOf; rw [hcs0, List.map_append]
    rw [hcs]
    have sm4 := sm3.trans (same_new hy (.lst ((csOf absI ns).map V.int)))
    obtain ⟨c0, c64⟩ := csOf_len absI ns
    generalize csOf absI ns = cs at *
    clear e4 e5 e6 e0 e2
    generalize hHH : upd _ y (HO.lst (cs.map V.int)) = HH at *
    have hyy : HH y = some (.lst (cs.map V.int)) := by rw [← hHH, upd_same]
    refine ⟨.ref y, rfl, .ref y, rfl, y, rfl, ⟨_, SqL.of hyy⟩, fun A hA => ?_⟩
    have hyA : y ≠ A := fun e => by rw [← e, hyy] at hA; cases hA
    refine ⟨fun i m H2 => i ≤ cs.length ∧ m + i = cs.length ∧ H2 A = some (.lst (((cs.take i).map big18).map V.int)) ∧ H2 y = some (.lst (cs.map V.int)) ∧ Same H H2, ⟨cs.length, Nat.zero_le _, rfl, upd_same, by rw [upd_ne hyA]; exact hyy, sm4.trans (same_new hA _)⟩, ?_⟩
    rintro i m H2 ⟨e0, e2, e4, e5, e6⟩
    by_cases hi : i = cs.length
    · refine .inl ⟨⟨_, SqL.of e5, by rw [List.length_map]; omega⟩, (by show 3 ≤ sizeLine; decide), fun x hx => ?_⟩
      have hxA : A ≠ x := fun e => by rw [← e, e4] at hx; cases hx
      have hxy : y ≠ x := fun e => by rw [← e, e5] at hx; cases hx
      rw [hi, List.take_length] at e4
      exact q x y A _ cs (cs.map big18) (e6.trans (same_new hx _)) hxy.symm hxA.symm hyA upd_same (by rw [upd_ne hxy]; exact e5) (by rw [upd_ne hxA]; exact e4) (by rw [List.length_map]) c0 c64 fun r hr => by
        obtain ⟨v, _, rfl⟩ := List.mem_map.mp hr
        exact big18_ge v
    · have hi' : i < cs.length := by omega
      refine .inr ⟨⟨_, .int cs[i], SqL.of e5, by rw [List.getElem?_map, List.getElem?_eq_getElem hi']; rfl⟩, fun H' => i + 1 ≤ cs.length ∧ (m - 1) + (i + 1) = cs.length ∧ H' A = some (.lst (((cs.take (i + 1)).map big18).map V.int)) ∧ H' y = some (.lst (cs.map V.int)) ∧ Same H H', fun H' h => ⟨m - 1, by omega, h⟩, ?_⟩
      rintro x H' ⟨rfl, hz'⟩
      have hx := hz' _ (SqL.of e5)
      rw [List.getElem?_map, List.getElem?_eq_getElem hi'] at hx
      cases hx
      refine ⟨by simp [wipe], ?_⟩
      refine ⟨.int cs[i], by simp [wipe, L2.start], .int cs[i], by simp [wipe, L2.start], 10, 18, rfl, rfl, ⟨by decide, by decide, by decide⟩, cs[i], _, rfl, rfl, .inr ⟨_, rfl, cs[i], _, rfl, rfl, .inr (by split <;> decide), ?_⟩⟩
      refine ⟨((cs.take i).map big18).map V.int, e4, ?_, by omega, by omega, ?_, by rw [upd_ne hyA]; exact e5, ?_⟩
      · rw [List.length_map, List.length_map, List.length_take]
        exact Nat.lt_of_lt_of_le (show _ < 1000 by omega) (line63 (Nat.le_refl _))
      · rw [upd_same, List.take_succ, List.getElem?_eq_getElem hi', List.map_append, List.map_append]
        rfl
      · intro b o hb
        by_cases hbA : b = A
        · subst hbA
          have := sm4 _ _ hb
          rw [hA] at this
          cases this
        · rw [upd_ne hbA]
          exact e6 b o hb
  · have hi' : i < c0s.length := by omega
    refine .inr ⟨⟨_, .int c0s[i], SqL.of e5, by rw [List.getElem?_map, List.getElem?_eq_getElem hi']; rfl⟩, fun H' => i + 1 ≤ c0s.length ∧ (m - 1) + (i + 1) = c0s.length ∧ H' l = some (.lst (((c0s.take (i + 1)).map absI).map V.int)) ∧ H' p = some (.lst (c0s.map V.int)) ∧ Same H H', fun H' h => ⟨m - 1, by omega, h⟩, ?_⟩
    rintro x H' ⟨rfl, hz'⟩
    have hx := hz' _ (SqL.of e5)
    rw [List.getElem?_map, List.getElem?_eq_getElem hi'] at hx
    cases hx
    refine ⟨by simp [wipe], ?_⟩
    refine ⟨.int c0s[i], by simp [wipe, L2.start], c0s[i], rfl, ?_⟩
    refine ⟨((c0s.take i).map absI).map V.int, e4, ?_, by omega, by omega, ?_, by rw [upd_ne hpl]; exact e5, ?_⟩
    · rw [List.length_map, List.length_map, List.length_take]
      exact Nat.lt_of_lt_of_le (show _ < 1000 by omega) (line63 (Nat.le_refl _))
    · rw [upd_same, List.take_succ, List.getElem?_eq_getElem hi', List.map_append, List.map_append]
      rfl
    · intro b o hb
      by_cases hbA : b = l
      · subst hbA
        have := smp _ _ hb
        rw [hl] at this
        cases this
      · rw [upd_ne hbA]
        exact e6 b o hb
abbrev s_sizes_of : Stmt := top 1
theorem sc_sizes_of : FnScope ["stock", "drawer"] ["stock"] (defScope s_sizes_of) := ⟨rfl, rfl, rfl, by decide +kernel, rfl, by decide +kernel, by decide +kernel⟩
def m_sizes_of (p_stock : D) : Option D := (op1 tupleD (lstM (comp1 (seqM (pure p_stock)) (fun c83 => (op1 sumD (pure c83))))))
def M_sizes_of : List Sl → Option D := ar1 m_sizes_of
theorem ok_sizes_of {f : Addr} {fd : FuncData} (F : Fun K "sizes_of" "sizes_of" s_sizes_of f fd) (hy : SysAt base) (mb_sum : mg "sum" = none) (mb_tuple : mg "tuple" = none) : FnG P w K mg base 1 f fd ["stock"] (spJ K M_sizes_of) := by
  have sc := sc_sizes_of
  exact fn_ar1 F sc rfl fun p_stock cdv A outer s H E hr gu => (fj_ret (ej_callT call_tuple_of rc_tuple mb_tuple (ej_l (LcP.expr (lj_lc1 [("drawer", 1)] 1 sc.nd (ij_seq (ej_vk 0)) (blk_of (by kernel_rfl)) (fun _ _ _ _ _ => pg_name (i := 1) sc.nd rfl (by first | exact Or.inl rfl | exact Or.inr rfl)) (fun _ _ _ _ _ c83 => (ej_call1 (call_sumD rfl) rc_sum mb_sum (ej_vk 1))))))))
abbrev s_choose : Stmt := top 3
theorem sc_choose : FnScope ["many", "few", "found", "step"] ["many", "few"] (defScope s_choose) := ⟨rfl, rfl, rfl, by decide +kernel, rfl, by decide +kernel, by decide +kernel⟩
def m_choose (p_many p_few : D) : Option D := ((pure (.int 1)) >>= fun v84 => (forM1 (rng1 (pure p_few)) v84 (fun x86 (a85 : D) => ((op2 divD (op2 mulW (pure a85) (op2 subD (pure p_many) (pure x86))) (op2 addD (pure x86) (pure (.int 1)))) >>= fun v87 => (pure (.nx v87)))) >>= fun f => thenM f fun (a88 : D) => (pure a88)))
def M_choose : List Sl → Option D := ar2 m_choose
theorem ok_choose {f : Addr} {fd : FuncData} (F : Fun K "choose" "choose" s_choose f fd) (hy : SysAt base) (mb_range : mg "range" = none) : FnG P w K mg base 1 f fd ["many", "few"] (spJ K M_choose) := by
  have sc := sc_choose
  exact fn_ar2 F sc rfl fun p_many p_few cdv A outer s H E hr gu => (fj_seq (sj_set 2 sc.nd ej_int) (fun v84 => (fj_of_for (for1 3 (P := fun (a85 : D) => [.val p_many, .val p_few, .val a85, .any]) (a0 := v84) PassesOwn.never (ij_range1 mb_range (ej_vk 1)) (pg_name (i := 3) sc.nd rfl (by first | exact Or.inl rfl | exact Or.inr rfl)) (fun x86 a85 => (bj_seq (sj_set 2 sc.nd (ej_bin op_fdiv rd_div (ej_bin op_mulX rd_mulW (ej_vk 2) (ej_bin op_sub rd_sub (ej_vk 0) (ej_vk 3))) (ej_bin op_addD rd_add (ej_vk 3) ej_int))) (fun v87 => (bj_nil (a := v87) ⟨.inr rfl, .inr rfl, .inr rfl, .inl rfl, trivial⟩)))) ⟨.inr rfl, .inr rfl, .inr rfl, .inl rfl, trivial⟩) (fun a88 => (fj_ret (ej_vk 2))))))
abbrev s__law_next : Stmt := top 7
theorem sc__law_next : FnScope ["_law_state", "_law_many", "_law_cells", "_law_count", "_law_rests", "_law_index", "_law_digit", "_law_mixed"] ["_law_state", "_law_many"] (defScope s__law_next) := ⟨rfl, rfl, rfl, by decide +kernel, rfl, by decide +kernel, by decide +kernel⟩
def m__law_next (p_deck p_many : D) : Z D := (((pure p_deck) >>= fun d => tripZ d) >>= fun v89 => ((op2 modD (pure v89.2.1) ((pure v89.1) >>= fun d => lenZ d)) >>= fun v90 => (((op2 addD (pure v89.2.1) (pure (.int 1))) >>= fun v => (pure p_deck) >>= fun d => (pure (.int 1)) >>= fun j => setZ d j v) >>= fun v91 => (iteM (cmp2 gtD ((pure v89.2.2) >>= fun d => (pure v90) >>= fun j => ixZ d j) (pure (.int 0))) ((op2 modD ((pure v89.2.2) >>= fun d => (pure v90) >>= fun j => ixZ d j) (pure p_many)) >>= fun v92 => (((op2 divD ((pure v89.2.2) >>= fun d => (pure v90) >>= fun j => ixZ d j) (pure p_many)) >>= fun v => (pure v89.2.2) >>= fun d => (pure v90) >>= fun j => setZ d j v) >>= fun v93 => (pure v92))) ((op2 modD (op2 powD (op2 addD (op2 addD (op2 modD ((pure v89.1) >>= fun d => (pure v90) >>= fun j => ixZ d j) (pure (.int 2147483629))) (op2 mulD (pure (.int 40037)) (pure v89.2.1))) (pure (.int 9203))) (pure (.int 3))) (pure (.int 2147483587))) >>= fun v94 => ((op2 modD (op2 powD (op2 addD (op2 addD (pure v94) (op2 mulD (op2 mulD (pure (.int 5039)) (pure v89.2.1)) (pure v89.2.1))) (pure (.int 43))) (pure (.int 3))) (pure (.int 2147483563))) >>= fun v95 => (op2 modD (op2 divD (op2 modD (op2 mulD (pure v95) (pure (.int 65537))) (pure (.int 2305843009213693951))) (pure (.int 8))) (pure p_many))))))))
def M__law_next : List Sl → Z D := ar2 m__law_next
theorem ok__law_next {f : Addr} {fd : FuncData} (F : Fun K "_law_next" "_law_next" s__law_next f fd) (hy : SysAt base) (mb_len : mg "len" = none) : FnG P w K mg base 1 f fd ["_law_state", "_law_many"] (spJ K M__law_next) := by
  have sc := sc__law_next
  exact fn_ar2 F sc rfl fun p_deck p_many cdv A outer s H E hr gu => (fj_seq (sj_unp3Z 2 3 4 (ej_vk 0) (pg_tup rfl (pgs_cons (pg_name (i := 2) sc.nd rfl (by first | exact Or.inl rfl | exact Or.inr rfl)) (pgs_cons (pg_name (i := 3) sc.nd rfl (by first | exact Or.inl rfl | exact Or.inr rfl)) (pgs_cons (pg_name (i := 4) sc.nd rfl (by first | exact Or.inl rfl | exact Or.inr rfl)) pgs_nil)))) (pg_unl rfl (pgs_cons (pg_name (i := 2) sc.nd rfl (by first | exact Or.inl rfl | exact Or.inr rfl)) (pgs_cons (pg_name (i := 3) sc.nd rfl (by first | exact Or.inl rfl | exact Or.inr rfl)) (pgs_cons (pg_name (i := 4) sc.nd rfl (by first | exact Or.inl rfl | exact Or.inr rfl)) pgs_nil))))) (fun v89 => (fj_seq (sj_set 5 sc.nd (ej_bin op_mod rd_mod (ej_vk 3) (ej_lenZ mb_len (ej_vk 2)))) (fun v90 => (fj_seq (sj_putZ (ej_bin op_addD rd_add (ej_vk 3) ej_int) (ej_vk 0) ej_int) (fun v91 => (fj_ifr (tj_cmp op_gt rd_gt (ej_ixZ (ej_vk 4) (ej_vk 5) (fun _ _ => rfl)) ej_int) (fj_seq (sj_set 6 sc.nd (ej_bin op_mod rd_mod (ej_ixZ (ej_vk 4) (ej_vk 5) (fun _ _ => rfl)) (ej_vk 1))) (fun v92 => (fj_seq (sj_putZ (ej_bin op_fdiv rd_div (ej_ixZ (ej_vk 4) (ej_vk 5) (fun _ _ => rfl)) (ej_vk 1)) (ej_vk 4) (ej_vk 5)) (fun v93 => (fj_ret (ej_vk 6)))))) (fj_seq (sj_set 7 sc.nd (ej_bin op_mod rd_mod (ej_bin op_pow rd_pow (ej_bin op_addD rd_add (ej_bin op_addD rd_add (ej_bin op_mod rd_mod (ej_ixZ (ej_vk 2) (ej_vk 5) (fun _ _ => rfl)) ej_int) (ej_bin op_mulD rd_mul ej_int (ej_vk 3))) ej_int) ej_int) ej_int)) (fun v94 => (fj_seq (sj_set 7 sc.nd (ej_bin op_mod rd_mod (ej_bin op_pow rd_pow (ej_bin op_addD rd_add (ej_bin op_addD rd_add (ej_vk 7) (ej_bin op_mulD rd_mul (ej_bin op_mulD rd_mul ej_int (ej_vk 3)) (ej_vk 3))) ej_int) ej_int) ej_int)) (fun v95 => (fj_ret (ej_bin op_mod rd_mod (ej_bin op_fdiv rd_div (ej_bin op_mod rd_mod (ej_bin op_mulD rd_mul (ej_vk 7) ej_int) ej_int) ej_int) (ej_vk 1))))))))))))))
abbrev s__law_choose : Stmt := top 11
theorem sc__law_choose : FnScope ["_law_many", "_law_few", "_law_row", "_law_step", "_law_k"] ["_law_many", "_law_few"] (defScope s__law_choose) := ⟨rfl, rfl, rfl, by decide +kernel, rfl, by decide +kernel, by decide +kernel⟩
def m__law_choose (p_many p_few : D) : Option D := ((op2 addD (lstM (consM (pure (.int 1)) (pure []))) (op2 mulD (lstM (consM (pure (.int 0)) (pure []))) (pure p_few))) >>= fun v96 => (forM1 (rng1 (pure p_many)) v96 (fun x98 (a97 : D) => ((op2 addD (lstM (consM (pure (.int 1)) (pure []))) (lstM (comp1 (rng2 (pure (.int 1)) (op2 addD (pure p_few) (pure (.int 1)))) (fun c100 => (op2 addD (op2 getD (pure a97) (pure c100)) (op2 getD (pure a97) (op2 subD (pure c100) (pure (.int 1))))))))) >>= fun v99 => (pure (.nx v99)))) >>= fun f => thenM f fun (a101 : D) => (op2 getD (pure a101) (pure p_few))))
def M__law_choose : List Sl → Option D := ar2 m__law_choose
theorem ok__law_choose {f : Addr} {fd : FuncData} (F : Fun K "_law_choose" "_law_choose" s__law_choose f fd) (hy : SysAt base) (mb_range : mg "range" = none) : FnG P w K mg base 1 f fd ["_law_many", "_law_few"] (spJ K M__law_choose) := by
  have sc := sc__law_choose
  exact fn_ar2 F sc rfl fun p_many p_few cdv A outer s H E hr gu => (fj_seq (sj_set 2 sc.nd (ej_bin op_addD rd_add (ej_l (lj_lst (dj_cons ej_int dj_nil))) (ej_bin op_mulD rd_mul (ej_l (lj_lst (dj_cons ej_int dj_nil))) (ej_vk 1)))) (fun v96 => (fj_of_for (for1 3 (P := fun (a97 : D) => [.val p_many, .val p_few, .val a97, .any, .any]) (a0 := v96) PassesOwn.never (ij_range1 mb_range (ej_vk 0)) (pg_name (i := 3) sc.nd rfl (by first | exact Or.inl rfl | exact Or.inr rfl)) (fun x98 a97 => (bj_seq (sj_set 2 sc.nd (ej_bin op_addD rd_add (ej_l (lj_lst (dj_cons ej_int dj_nil))) (ej_l (LcP.expr (lj_lc1 [("_law_k", 4)] 4 sc.nd (ij_range2 mb_range ej_int (ej_bin op_addD rd_add (ej_vk 1) ej_int)) (blk_of (by kernel_rfl)) (fun _ _ _ _ _ => pg_name (i := 4) sc.nd rfl (by first | exact Or.inl rfl | exact Or.inr rfl)) (fun _ _ _ _ _ c100 => (ej_bin op_addD rd_add (ej_ix ix_seq rd_ix (ej_vk 2) (ej_vk 4) (fun _ _ => rfl)) (ej_ix ix_seq rd_ix (ej_vk 2) (ej_bin op_sub rd_sub (ej_vk 4) ej_int) (fun _ _ => rfl))))))))) (fun v99 => (bj_nil (a := v99) ⟨.inr rfl, .inr rfl, .inr rfl, .inl rfl, .inl rfl, trivial⟩)))) ⟨.inr rfl, .inr rfl, .inr rfl, .inl rfl, .inl rfl, trivial⟩) (fun a101 => (fj_ret (ej_ix ix_seq rd_ix (ej_vk 2) (ej_vk 1) (fun _ _ => rfl)))))))
abbrev s__law_listed : Stmt := top 12
theorem sc__law_listed : FnScope ["_law_stock_here", "_law_plan_here", "_law_counts", "_law_place", "_law_thing", "_law_later", "_law_taken", "_law_more"] ["_law_stock_here", "_law_plan_here"] (defScope s__law_listed) := ⟨rfl, rfl, rfl, by decide +kernel, rfl, by decide +kernel, by decide +kernel⟩
def m__law_listed (p_stock_here p_plan_here : D) : Z D := (((op2 mulD (tupM (consM (pure (.int 0)) (pure []))) (op1 lenD (pure p_stock_here))) >>= fun j => (pure (.int 1)) >>= fun v => OverZ.up (dispR j v)) >>= fun v102 => (forM1 (rng1 (op1 lenD (pure p_stock_here))) v102 (fun x104 (a103 : D) => (forM1 (rng1 (op1 sumD (op1 listD (op2 getD (pure p_stock_here) (pure x104))))) a103 (fun x106 (a105 : D) => (((pure a105) >>= fun d => OverZ.up (copyR d)) >>= fun v107 => (forM1 (seqM (lstM ((pure a105) >>= fun d => OverZ.up (listR d)))) v107 (fun x109 (a108 : D) => ((op2 addD (op2 addD (slcM (pure x109) (pure none) (partM (pure x104))) (tupM (consM (op2 addD (op2 getD (pure x109) (pure x104)) (pure (.int 1))) (pure [])))) (slcM (pure x109) (partM (op2 addD (pure x104) (pure (.int 1)))) (pure none))) >>= fun v110 => (((op2 addD ((pure a108) >>= fun d => OverZ.up (dirD d) >>= fun _ => (pure v110) >>= fun j => (pure (.int 0)) >>= fun v => OverZ.up (getR d j v)) ((pure a105) >>= fun d => (pure x109) >>= fun j => OverZ.up (ixR d j))) >>= fun v => (pure a108) >>= fun d => (pure v110) >>= fun j => OverZ.up (setRR d j v)) >>= fun v111 => (pure (.nx a108))))) >>= fun f => thenB f fun (a112 : D) => ((pure a112) >>= fun v113 => (pure (.nx v113)))))) >>= fun f => thenB f fun (a114 : D) => (pure (.nx a114)))) >>= fun f => thenM f fun (a115 : D) => ((pure a115) >>= fun d => OverZ.up (dirD d) >>= fun _ => (pure p_plan_here) >>= fun j => (pure (.int 0)) >>= fun v => OverZ.up (getR d j v))))
def M__law_listed : List Sl → Z D := ar2 m__law_listed
theorem ok__law_listed {f : Addr} {fd : FuncData} (F : Fun K "_law_listed" "_law_listed" s__law_listed f fd) (hy : SysAt base) (mb_dict : mg "dict" = none) (mb_len : mg "len" = none) (mb_list : mg "list" = none) (mb_range : mg "range" = none) (mb_sum : mg "sum" = none) : FnG P w K mg base 1 f fd ["_law_stock_here", "_law_plan_here"] (spJ K M__law_listed) := by
  have sc := sc__law_listed
  exact fn_ar2 F sc rfl fun p_stock_here p_plan_here cdv A outer s H E hr gu => (fj_seq (sj_set 2 sc.nd (ej_dispR (units_of hr) (ej_bin op_mulD rd_mul (ej_tup (dj_cons ej_int dj_nil)) (ej_call1 call_lenD' rc_len mb_len (ej_vk 0))) ej_int)) (fun v102 => (fj_of_for (for1 3 (P := fun (a103 : D) => [.val p_stock_here, .val p_plan_here, .val a103, .any, .any, .any, .any, .any]) (a0 := v102) PassesOwn.never (ij_range1 mb_range (ej_call1 call_lenD' rc_len mb_len (ej_vk 0))) (pg_name (i := 3) sc.nd rfl (by first | exact Or.inl rfl | exact Or.inr rfl)) (fun x104 a103 => (bj_of_for (for1 4 (P := fun (a105 : D) => [.val p_stock_here, .val p_plan_here, .val a105, .val x104, .any, .any, .any, .any]) (a0 := a103) PassesOwn.never (ij_range1 mb_range (ej_call1 (call_sumD rfl) rc_sum mb_sum (ej_callT call_list_of rc_list mb_list (ej_ix ix_seq rd_ix (ej_vk 0) (ej_vk 3) (fun _ _ => rfl))))) (pg_name (i := 4) sc.nd rfl (by first | exact Or.inl rfl | exact Or.inr rfl)) (fun x106 a105 => (bj_seq (sj_set 5 sc.nd (ej_copyR (units_of hr) mb_dict (ej_vk 2))) (fun v107 => (bj_of_for (for1 6 (P := fun (a108 : D) => [.val p_stock_here, .val p_plan_here, .val a105, .val x104, .val x106, .val a108, .any, .any]) (a0 := v107) PassesOwn.never (ij_seq (ej_l (lj_listR rfl mb_list (ej_vk 2)))) (pg_name (i := 6) sc.nd rfl (by first | exact Or.inl rfl | exact Or.inr rfl)) (fun x109 a108 => (bj_seq (sj_set 7 sc.nd (ej_bin op_addD rd_add (ej_bin op_addD rd_add (ej_slice (ej_vk 6) oj_none (oj_some (ej_vk 3))) (ej_tup (dj_cons (ej_bin op_addD rd_add (ej_ix ix_seq rd_ix (ej_vk 6) (ej_vk 3) (fun _ _ => rfl)) ej_int) dj_nil))) (ej_slice (ej_vk 6) (oj_some (ej_bin op_addD rd_add (ej_vk 3) ej_int)) oj_none))) (fun v110 => (bj_seq (sj_setR (units_of hr) (ej_bin op_addD rd_add (ej_getR (units_of hr) (ej_vk 5) (ej_vk 7) ej_int) (ej_ixR (units_of hr) (ej_vk 2) (ej_vk 6) (fun _ _ => rfl))) (ej_vk 5) (ej_vk 7)) (fun v111 => (bj_nil (a := a108) ⟨.inr rfl, .inr rfl, .inr rfl, .inr rfl, .inr rfl, .inr rfl, .inl rfl, .inl rfl, trivial⟩)))))) ⟨.inr rfl, .inr rfl, .inr rfl, .inr rfl, .inr rfl, .inr rfl, .inl rfl, .inl rfl, trivial⟩) (fun a112 => (bj_seq (sj_set 2 sc.nd (ej_vk 5)) (fun v113 => (bj_nil (a := v113) ⟨.inr rfl, .inr rfl, .inr rfl, .inr rfl, .inl rfl, .inl rfl, .inl rfl, .inl rfl, trivial⟩)))))))) ⟨.inr rfl, .inr rfl, .inr rfl, .inr rfl, .inl rfl, .inl rfl, .inl rfl, .inl rfl, trivial⟩) (fun a114 => (bj_nil (a := a114) ⟨.inr rfl, .inr rfl, .inr rfl, .inl rfl, .inl rfl, .inl rfl, .inl rfl, .inl rfl, trivial⟩)))) ⟨.inr rfl, .inr rfl, .inr rfl, .inl rfl, .inl rfl, .inl rfl, .inl rfl, .inl rfl, trivial⟩) (fun a115 => (fj_ret (ej_getR (units_of hr) (ej_vk 2) (ej_vk 1) ej_int))))))
abbrev s_count_draws : Stmt := top 4
theorem sc_count_draws : FnScope ["stock", "plan", "found", "size", "taken"] ["stock", "plan"] (defScope s_count_draws) := ⟨rfl, rfl, rfl, by decide +kernel, rfl, by decide +kernel, by decide +kernel⟩
def m_count_draws (p_stock p_plan : D) : Option D := ((pure (.int 1)) >>= fun v116 => (forM2 (zip2M ((argV (pure p_stock) (pure [])) >>= M_sizes_of) (pure p_plan)) v116 (fun x118 x119 (a117 : D) => ((((argV (pure x118) (argV (pure x119) (pure []))) >>= M_choose) >>= fun d => Mo.lift (mulW a117 d)) >>= fun v120 => (pure (.nx v120)))) >>= fun f => thenM f fun (a121 : D) => (pure a121)))
def M_count_draws : List Sl → Option D := ar2 m_count_draws
theorem ok_count_draws {f : Addr} {fd : FuncData} (F : Fun K "count_draws" "count_draws" s_count_draws f fd) (hy : SysAt base) (d_choose : Def P w K mg base 1 "choose" ["many", "few"] (spJ K M_choose)) (d_sizes_of : Def P w K mg base 1 "sizes_of" ["stock"] (spJ K M_sizes_of)) (mb_zip : mg "zip" = none) : FnG P w K mg base 2 f fd ["stock", "plan"] (spJ K M_count_draws) := by
  have sc := sc_count_draws
  exact fn_ar2 F sc rfl fun p_stock p_plan cdv A outer s H E hr gu => (fj_seq (sj_set 2 sc.nd ej_int) (fun v116 => (fj_of_for (for2 3 4 (P := fun (a117 : D) => [.val p_stock, .val p_plan, .val a117, .any, .any]) (a0 := v116) PassesOwn.never (ij_zip2 mb_zip (ej_callD d_sizes_of (hr.mono (by decide)) gu (aj_cons (ej_vk 0) aj_nil)) (ej_vk 1)) (pg_tup rfl (pgs_cons (pg_name (i := 3) sc.nd rfl (by first | exact Or.inl rfl | exact Or.inr rfl)) (pgs_cons (pg_name (i := 4) sc.nd rfl (by first | exact Or.inl rfl | exact Or.inr rfl)) pgs_nil))) (fun x118 x119 a117 => (bj_seq (sj_aug 2 sc.nd ip_mulW rd_mulIW (ej_callD d_choose (hr.mono (by decide)) gu (aj_cons (ej_vk 3) (aj_cons (ej_vk 4) aj_nil)))) (fun v120 => (bj_nil (a := v120) ⟨.inr rfl, .inr rfl, .inr rfl, .inl rfl, .inl rfl, trivial⟩)))) ⟨.inr rfl, .inr rfl, .inr rfl, .inl rfl, .inl rfl, trivial⟩) (fun a121 => (fj_ret (ej_vk 2))))))
abbrev s__law_stock : Stmt := top 8
theorem sc__law_stock : FnScope ["_law_state", "_law_drawers", "_law_kinds", "_law_most", "_law_width", "_law_found", "_law_k", "_law_drawer", "_law_kind"] ["_law_state", "_law_drawers", "_law_kinds", "_law_most"] (defScope s__law_stock) := ⟨rfl, rfl, rfl, by decide +kernel, rfl, by decide +kernel, by decide +kernel⟩
def m__law_stock (p_deck p_drawers p_kinds p_most : D) : Z D := ((parM (op2 addD (pure (.int 1)) ((argV (pure p_deck) (argV (pure p_kinds) (pure []))) >>= M__law_next)) (pure [])) >>= fun v122 => (forM1 (rng1 (op2 addD (pure (.int 1)) ((argV (pure p_deck) (argV (pure p_drawers) (pure []))) >>= M__law_next))) v122.2 (fun x124 (a123 : List D) => ((tupM (pure [])) >>= fun v125 => (forM1 (rng1 (pure v122.1)) v125 (fun x127 (a126 : D) => ((op2 addD (pure a126) (tupM (consM ((lstM (consM ((argV (pure p_deck) (argV (op2 addD (pure p_most) (pure (.int 1))) (pure []))) >>= M__law_next) (consM (pure (.int 0)) (consM (pure p_most) (pure []))))) >>= fun d => (op2 modD (op2 modD ((argV (pure p_deck) (argV (pure (.int 6)) (pure []))) >>= M__law_next) (pure (.int 4))) (pure (.int 3))) >>= fun j => ixZ d j) (pure [])))) >>= fun v128 => (pure (.nx v128)))) >>= fun f => thenB f fun (a129 : D) => (((pure a129) >>= fun d => Mo.lift (fits a123.length) >>= fun _ => pure d) >>= fun v130 => (pure (.nx (a123 ++ [v130]))))))) >>= fun f => thenM f fun (a131 : List D) => (op1 tupleD (pure (PyData.list a131)))))
def M__law_stock : List Sl → Z D := ar4 m__law_stock
theorem ok__law_stock {f : Addr} {fd : FuncData} (F : Fun K "_law_stock" "_law_stock" s__law_stock f fd) (hy : SysAt base) (d__law_next : Def P w K mg base 1 "_law_next" ["_law_state", "_law_many"] (spJ K M__law_next)) (mb_range : mg "range" = none) (mb_tuple : mg "tuple" = none) : FnG P w K mg base 2 f fd ["_law_state", "_law_drawers", "_law_kinds", "_law_most"] (spJ K M__law_stock) := by
  have sc := sc__law_stock
  exact fn_ar4 F sc rfl fun p_deck p_drawers p_kinds p_most cdv A outer s H E hr gu => (fj_seq (sj_parO 4 5 sc.nd (ej_bin op_addD rd_add ej_int (ej_callD d__law_next (hr.mono (by decide)) gu (aj_cons (ej_vk 0) (aj_cons (ej_vk 2) aj_nil)))) (lj_lst dj_nil)) (fun v122 => (fj_of_for (for1 6 (P := fun (a123 : List D) => [.val p_deck, .val p_drawers, .val p_kinds, .val p_most, .val v122.1, .own a123, .any, .any, .any]) (a0 := v122.2) PassesOwn.never (ij_range1 mb_range (ej_bin op_addD rd_add ej_int (ej_callD d__law_next (hr.mono (by decide)) gu (aj_cons (ej_vk 0) (aj_cons (ej_vk 1) aj_nil))))) (pg_name (i := 6) sc.nd rfl (by first | exact Or.inl rfl | exact Or.inr rfl)) (fun x124 a123 => (bj_seq (sj_set 7 sc.nd (ej_tup dj_nil)) (fun v125 => (bj_of_for (for1 8 (P := fun (a126 : D) => [.val p_deck, .val p_drawers, .val p_kinds, .val p_most, .val v122.1, .own a123, .val x124, .val a126, .any]) (a0 := v125) PassesOwn.never (ij_range1 mb_range (ej_vk 4)) (pg_name (i := 8) sc.nd rfl (by first | exact Or.inl rfl | exact Or.inr rfl)) (fun x127 a126 => (bj_seq (sj_set 7 sc.nd (ej_bin op_addD rd_add (ej_vk 7) (ej_tup (dj_cons (ej_ixZ (ej_l (lj_lst (dj_cons (ej_callD d__law_next (hr.mono (by decide)) gu (aj_cons (ej_vk 0) (aj_cons (ej_bin op_addD rd_add (ej_vk 3) ej_int) aj_nil))) (dj_cons ej_int (dj_cons (ej_vk 3) dj_nil))))) (ej_bin op_mod rd_mod (ej_bin op_mod rd_mod (ej_callD d__law_next (hr.mono (by decide)) gu (aj_cons (ej_vk 0) (aj_cons ej_int aj_nil))) ej_int) ej_int) (fun _ _ => rfl)) dj_nil)))) (fun v128 => (bj_nil (a := v128) ⟨.inr rfl, .inr rfl, .inr rfl, .inr rfl, .inr rfl, .inr rfl, .inr rfl, .inr rfl, .inl rfl, trivial⟩)))) ⟨.inr rfl, .inr rfl, .inr rfl, .inr rfl, .inr rfl, .inr rfl, .inr rfl, .inr rfl, .inl rfl, trivial⟩) (fun a129 => (bj_seq (sj_append 5 (ej_vk 7)) (fun v130 => (bj_nil (a := (a123 ++ [v130])) ⟨.inr rfl, .inr rfl, .inr rfl, .inr rfl, .inr rfl, .inr rfl, .inl rfl, .inl rfl, .inl rfl, trivial⟩)))))))) ⟨.inr rfl, .inr rfl, .inr rfl, .inr rfl, .inr rfl, .inr rfl, .inl rfl, .inl rfl, .inl rfl, trivial⟩) (fun a131 => (fj_fr 5 (fj_ret (ej_callT call_tuple_of rc_tuple mb_tuple (ej_vk 5))))))))
abbrev s__law_plan : Stmt := top 9
theorem sc__law_plan : FnScope ["_law_state", "_law_stock_here", "_law_way", "_law_spot", "_law_found", "_law_place", "_law_size", "_law_some"] ["_law_state", "_law_stock_here"] (defScope s__law_plan) := ⟨rfl, rfl, rfl, by decide +kernel, rfl, by decide +kernel, by decide +kernel⟩
def m__law_plan (p_deck p_stock_here : D) : Z D := ((parM ((argV (pure p_deck) (argV (pure (.int 6)) (pure []))) >>= M__law_next) ((argV (pure p_deck) (argV (op1 lenD (pure p_stock_here)) (pure []))) >>= M__law_next)) >>= fun v132 => ((pure []) >>= fun v133 => (forM1 (rng1 (op1 lenD (pure p_stock_here))) v133 (fun x135 (a134 : List D) => ((op1 sumD (op1 listD (op2 getD (pure p_stock_here) (pure x135)))) >>= fun v136 => (((argV (pure p_deck) (argV (op2 addD (pure v136) (pure (.int 1))) (pure []))) >>= M__law_next) >>= fun v137 => (((op2 getD (lstM (consM (pure v137) (consM (pure v137) (consM (pure v137) (consM (pure (.int 0)) (consM (pure v136) (consM (op2 mulD (pure v136) (op1 intD (op2 eqD (pure x135) (pure v132.2)))) (pure [])))))))) (pure v132.1)) >>= fun d => Mo.lift (fits a134.length) >>= fun _ => pure d) >>= fun v138 => (pure (.nx (a134 ++ [v138]))))))) >>= fun f => thenM f fun (a139 : List D) => (op1 tupleD (pure (PyData.list a139))))))
def M__law_plan : List Sl → Z D := ar2 m__law_plan
theorem ok__law_plan {f : Addr} {fd : FuncData} (F : Fun K "_law_plan" "_law_plan" s__law_plan f fd) (hy : SysAt base) (d__law_next : Def P w K mg base 1 "_law_next" ["_law_state", "_law_many"] (spJ K M__law_next)) (mb_int : mg "int" = none) (mb_len : mg "len" = none) (mb_list : mg "list" = none) (mb_range : mg "range" = none) (mb_sum : mg "sum" = none) (mb_tuple : mg "tuple" = none) : FnG P w K mg base 2 f fd ["_law_state", "_law_stock_here"] (spJ K M__law_plan) := by
  have sc := sc__law_plan
  exact fn_ar2 F sc rfl fun p_deck p_stock_here cdv A outer s H E hr gu => (fj_seq (sj_par 2 3 sc.nd (ej_callD d__law_next (hr.mono (by decide)) gu (aj_cons (ej_vk 0) (aj_cons ej_int aj_nil))) (ej_callD d__law_next (hr.mono (by decide)) gu (aj_cons (ej_vk 0) (aj_cons (ej_call1 call_lenD' rc_len mb_len (ej_vk 1)) aj_nil)))) (fun v132 => (fj_seq (sj_setO 4 sc.nd (lj_lst dj_nil)) (fun v133 => (fj_of_for (for1 5 (P := fun (a134 : List D) => [.val p_deck, .val p_stock_here, .val v132.1, .val v132.2, .own a134, .any, .any, .any]) (a0 := v133) PassesOwn.never (ij_range1 mb_range (ej_call1 call_lenD' rc_len mb_len (ej_vk 1))) (pg_name (i := 5) sc.nd rfl (by first | exact Or.inl rfl | exact Or.inr rfl)) (fun x135 a134 => (bj_seq (sj_set 6 sc.nd (ej_call1 (call_sumD rfl) rc_sum mb_sum (ej_callT call_list_of rc_list mb_list (ej_ix ix_seq rd_ix (ej_vk 1) (ej_vk 5) (fun _ _ => rfl))))) (fun v136 => (bj_seq (sj_set 7 sc.nd (ej_callD d__law_next (hr.mono (by decide)) gu (aj_cons (ej_vk 0) (aj_cons (ej_bin op_addD rd_add (ej_vk 6) ej_int) aj_nil)))) (fun v137 => (bj_seq (sj_append 4 (ej_ix ix_seq rd_ix (ej_l (lj_lst (dj_cons (ej_vk 7) (dj_cons (ej_vk 7) (dj_cons (ej_vk 7) (dj_cons ej_int (dj_cons (ej_vk 6) (dj_cons (ej_bin op_mulD rd_mul (ej_vk 6) (ej_callT call_int1 rc_int mb_int (ej_cmp (by exact op_eqA hy (units_of hr)) rd_eq (ej_vk 5) (ej_vk 3)))) dj_nil)))))))) (ej_vk 2) (fun _ _ => rfl))) (fun v138 => (bj_nil (a := (a134 ++ [v138])) ⟨.inr rfl, .inr rfl, .inr rfl, .inr rfl, .inr rfl, .inl rfl, .inl rfl, .inl rfl, trivial⟩)))))))) ⟨.inr rfl, .inr rfl, .inr rfl, .inr rfl, .inr rfl, .inl rfl, .inl rfl, .inl rfl, trivial⟩) (fun a139 => (fj_fr 4 (fj_ret (ej_callT call_tuple_of rc_tuple mb_tuple (ej_vk 4))))))))))
abbrev s__law_small : Stmt := top 10
theorem sc__law_small : FnScope ["_law_state", "_law_most", "_law_width", "_law_many", "_law_k", "_law_rows", "_law_drawer", "_law_kind", "_law_row"] ["_law_state", "_law_most"] (defScope s__law_small) := ⟨rfl, rfl, rfl, by decide +kernel, rfl, by decide +kernel, by decide +kernel⟩
def m__law_small (p_deck p_most : D) : Z D := ((unp2A (tupM (consM (op2 addD (pure (.int 1)) ((argV (pure p_deck) (argV (pure (.int 4)) (pure []))) >>= M__law_next)) (consM (op2 addD (pure (.int 1)) ((argV (pure p_deck) (argV (pure (.int 4)) (pure []))) >>= M__law_next)) (pure []))))) >>= fun v140 => ((comp1 (rng1 (pure v140.2)) (fun c142 => ((repM (consM (pure (.int 0)) (pure [])) (pure v140.1)) >>= newZ))) >>= fun v141 => (forM1 (rng1 ((argV (pure p_deck) (argV (op2 addD (pure p_most) (pure (.int 1))) (pure []))) >>= M__law_next)) () (fun x144 (a143 : Unit) => (((pure (PyData.list v141)) >>= fun d => ((argV (pure p_deck) (argV (pure v140.2) (pure []))) >>= M__law_next) >>= fun j => ixZ d j) >>= fun v145 => (((argV (pure p_deck) (argV (pure v140.1) (pure []))) >>= M__law_next) >>= fun v146 => (((op2 addD ((pure v145) >>= fun d => (pure v146) >>= fun j => ixZ d j) (pure (.int 1))) >>= fun v => (pure v145) >>= fun d => (pure v146) >>= fun j => setZ d j v) >>= fun v147 => (pure (.nx ())))))) >>= fun f => thenM f fun (a148 : Unit) => (op1 tupleD (lstM (comp1 (seqM (pure (PyData.list v141))) (fun c149 => ((pure c149) >>= fun d => tupleZ d))))))))
def M__law_small : List Sl → Z D := ar2 m__law_small
theorem ok__law_small {f : Addr} {fd : FuncData} (F : Fun K "_law_small" "_law_small" s__law_small f fd) (hy : SysAt base) (d__law_next : Def P w K mg base 1 "_law_next" ["_law_state", "_law_many"] (spJ K M__law_next)) (mb_range : mg "range" = none) (mb_tuple : mg "tuple" = none) : FnG P w K mg base 2 f fd ["_law_state", "_law_most"] (spJ K M__law_small) := by
  have sc := sc__law_small
  exact fn_ar2 F sc rfl fun p_deck p_most cdv A outer s H E hr gu => (fj_seq (sj_unp2A 2 3 (ej_tup (dj_cons (ej_bin op_addD rd_add ej_int (ej_callD d__law_next (hr.mono (by decide)) gu (aj_cons (ej_vk 0) (aj_cons ej_int aj_nil)))) (dj_cons (ej_bin op_addD rd_add ej_int (ej_callD d__law_next (hr.mono (by decide)) gu (aj_cons (ej_vk 0) (aj_cons ej_int aj_nil)))) dj_nil))) (pg_tup rfl (pgs_cons (pg_name (i := 2) sc.nd rfl (by first | exact Or.inl rfl | exact Or.inr rfl)) (pgs_cons (pg_name (i := 3) sc.nd rfl (by first | exact Or.inl rfl | exact Or.inr rfl)) pgs_nil))) (pg_unl rfl (pgs_cons (pg_name (i := 2) sc.nd rfl (by first | exact Or.inl rfl | exact Or.inr rfl)) (pgs_cons (pg_name (i := 3) sc.nd rfl (by first | exact Or.inl rfl | exact Or.inr rfl)) pgs_nil)))) (fun v140 => (fj_seq (sj_lcV 5 sc.nd (lj_lc1 [("_law_k", 4)] 4 sc.nd (ij_range1 mb_range (ej_vk 3)) (blk_of (by kernel_rfl)) (fun _ _ _ _ _ => pg_name (i := 4) sc.nd rfl (by first | exact Or.inl rfl | exact Or.inr rfl)) (fun _ _ _ _ _ c142 => (ej_cel (lj_rep (lj_lst (dj_cons ej_int dj_nil)) (ej_vk 2))))) (by kernel_rfl)) (fun v141 => (fj_of_for (for1 4 (P := fun (a143 : Unit) => [.val p_deck, .val p_most, .val v140.1, .val v140.2, .any, .val (PyData.list v141), .any, .any, .any]) (a0 := ()) PassesOwn.never (ij_range1 mb_range (ej_callD d__law_next (hr.mono (by decide)) gu (aj_cons (ej_vk 0) (aj_cons (ej_bin op_addD rd_add (ej_vk 1) ej_int) aj_nil)))) (pg_name (i := 4) sc.nd rfl (by first | exact Or.inl rfl | exact Or.inr rfl)) (fun x144 a143 => (bj_seq (sj_set 6 sc.nd (ej_ixZ (ej_vk 5) (ej_callD d__law_next (hr.mono (by decide)) gu (aj_cons (ej_vk 0) (aj_cons (ej_vk 3) aj_nil))) (fun _ _ => rfl))) (fun v145 => (bj_seq (sj_set 7 sc.nd (ej_callD d__law_next (hr.mono (by decide)) gu (aj_cons (ej_vk 0) (aj_cons (ej_vk 2) aj_nil)))) (fun v146 => (bj_seq (sj_putZ (ej_bin op_addD rd_add (ej_ixZ (ej_vk 6) (ej_vk 7) (fun _ _ => rfl)) ej_int) (ej_vk 6) (ej_vk 7)) (fun v147 => (bj_nil (a := ()) ⟨.inr rfl, .inr rfl, .inr rfl, .inr rfl, .inl rfl, .inr rfl, .inl rfl, .inl rfl, .inl rfl, trivial⟩)))))))) ⟨.inr rfl, .inr rfl, .inr rfl, .inr rfl, .inl rfl, .inr rfl, .inl rfl, .inl rfl, .inl rfl, trivial⟩) (fun a148 => (fj_ret (ej_callT call_tuple_of rc_tuple mb_tuple (ej_l (LcP.expr (lj_lc1 [("_law_row", 8)] 8 sc.nd (ij_seq (ej_vk 5)) (blk_of (by kernel_rfl)) (fun _ _ _ _ _ => pg_name (i := 8) sc.nd rfl (by first | exact Or.inl rfl | exact Or.inr rfl)) (fun _ _ _ _ _ c149 => (ej_tupleZ mb_tuple (ej_vk 8))))))))))))))
abbrev s_law : Stmt := top 13
theorem sc_law : FnScope ["_law_script", "_law_state", "_law_turn", "_law_stock_here", "_law_plan_here", "_law_due", "_law_drawer", "_law_taken", "_law_shown", "_law_found", "_law_again"] ["_law_script"] (defScope s_law) := ⟨rfl, rfl, rfl, by decide +kernel, rfl, by decide +kernel, by decide +kernel⟩
def m_law : Z D := (forM1 (rng1 (pure (.int 8))) () (fun x151 (a150 : Unit) => (((argV (pure (refL 0)) (argV (pure (.int 4)) (argV (pure (.int 4)) (argV (op2 getD (lstM (consM (pure (.int 3)) (consM (pure (.int 12)) (consM (pure (.int 50)) (pure []))))) (op2 modD (pure x151) (pure (.int 3)))) (pure []))))) >>= M__law_stock) >>= fun v152 => ((unp2A (tupM (consM ((argV (pure (refL 0)) (argV (pure v152) (pure []))) >>= M__law_plan) (consM (pure (.int 1)) (pure []))))) >>= fun v153 => (forM2 (zip2M (pure v152) (pure v153.1)) v153.2 (fun x155 x156 (a154 : D) => ((OverZ.up (hidP (m' := Option) [.any, .any, .any, .any, .any, .val a154, .val x155, .val x156, .any, .any, .any] (op2 mulW (pure a154) ((argV (op1 sumD (op1 listD (pure x155))) (argV (pure x156) (pure []))) >>= M__law_choose)))) >>= fun v157 => (pure (.nx v157)))) >>= fun f => thenB f fun (a158 : D) => ((op1 reprD (lstM (consM (pure v152) (consM (pure v153.1) (pure []))))) >>= fun v159 => ((OverZ.up (hidP (m' := Option) [.any, .any, .any, .val v152, .val v153.1, .any, .any, .any, .any, .any, .any] (comp1 (rng1 (pure (.int 2))) (fun c161 => ((argV (pure v152) (argV (pure v153.1) (pure []))) >>= M_count_draws))))) >>= fun v160 => (iteM (orB (cmp2 neD (op1 reprD (pure (PyData.list v160))) (op1 reprD (lstM (consM (pure a158) (consM (pure a158) (pure [])))))) (cmp2 neD (op1 reprD (lstM (consM (pure v152) (consM (pure v153.1) (pure []))))) (pure v159))) (rtM (pure (.bool false))) (((argV (pure (refL 0)) (argV (pure (.int 12)) (pure []))) >>= M__law_small) >>= fun v162 => (((argV (pure (refL 0)) (argV (pure v162) (pure []))) >>= M__law_plan) >>= fun v163 => (iteM (cmp2 neD (OverZ.up (hidP (m' := Option) [.any, .any, .any, .val v162, .val v163, .any, .any, .any, .any, .any, .any] ((argV (pure v162) (argV (pure v163) (pure []))) >>= M_count_draws))) ((argV (pure v162) (argV (pure v163) (pure []))) >>= M__law_listed)) (rtM (pure (.bool false))) (pure (.nx ())))))))))))) >>= fun f => thenM f fun (a164 : Unit) => (OverZ.up (hidP (m' := Option) [.any, .any, .any, .any, .any, .any, .any, .any, .any, .any, .any] (op2 eqD ((argV (tupM (consM (tupM (consM (pure (.int 50)) (consM (pure (.int 50)) (consM (pure (.int 50)) (consM (pure (.int 50)) (pure [])))))) (pure []))) (argV (tupM (consM (pure (.int 100)) (pure []))) (pure []))) >>= M_count_draws) ((argV (pure (.int 200)) (argV (pure (.int 100)) (pure []))) >>= M__law_choose)))))
theorem ok_law {f : Addr} {fd : FuncData} (F : Fun K "law" "law" s_law f fd) (hy : SysAt base) (d__law_choose : Def P w K mg base 1 "_law_choose" ["_law_many", "_law_few"] (spJ K M__law_choose)) (d__law_listed : Def P w K mg base 1 "_law_listed" ["_law_stock_here", "_law_plan_here"] (spJ K M__law_listed)) (d__law_plan : Def P w K mg base 2 "_law_plan" ["_law_state", "_law_stock_here"] (spJ K M__law_plan)) (d__law_small : Def P w K mg base 2 "_law_small" ["_law_state", "_law_most"] (spJ K M__law_small)) (d__law_stock : Def P w K mg base 2 "_law_stock" ["_law_state", "_law_drawers", "_law_kinds", "_law_most"] (spJ K M__law_stock)) (d_count_draws : Def P w K mg base 2 "count_draws" ["stock", "plan"] (spJ K M_count_draws)) (mb_list : mg "list" = none) (mb_range : mg "range" = none) (mb_repr : mg "repr" = none) (mb_sum : mg "sum" = none) (mb_zip : mg "zip" = none) (d__law_draws : Def P w K mg base 1 "_law_draws" ["_law_script"] (spDeckZ K)) (hM : ∀ cs rs : List Int, cs.length = rs.length → 0 < cs.length → cs.length ≤ 64 → (∀ r ∈ rs, 0 ≤ r) → m_law ⟨0, deck3 0 cs rs⟩ (fun d _ => d = .bool true)) : FnG P w K mg base 3 f fd ["_law_script"] (spLaw K) := by
  have sc := sc_law
  obtain ⟨fk, fkd, h1, h2, h3, h4⟩ := d__law_draws.ex
  exact law_jZ (M := m_law) F sc (h1.mono (by decide)) h4 h2 rfl rfl rfl
    (fun cdv A outer s H E hr gu => ps_set (i := 1) sc.nd rfl (by first | exact Or.inl rfl | exact Or.inr rfl) (pe_g h1 (hr.mono (by decide)) gu (by rfl) h2 h3 h4 (pa_cons (pv 0) pa_nil) (by decide) (by rfl) (by rfl)))
    (fun cdv A outer s H E hr gu => (fj_of_for (for1 2 (P := fun (a150 : Unit) => [.any, .val (refL 0), .any, .any, .any, .any, .any, .any, .any, .any, .any]) (a0 := ()) PassesOwn.never (ij_range1 mb_range ej_int) (pg_name (i := 2) sc.nd rfl (by first | exact Or.inl rfl | exact Or.inr rfl)) (fun x151 a150 => (bj_seq (sj_set 3 sc.nd (ej_callD d__law_stock (hr.mono (by decide)) gu (aj_cons (ej_vk 1) (aj_cons ej_int (aj_cons ej_int (aj_cons (ej_ix ix_seq rd_ix (ej_l (lj_lst (dj_cons ej_int (dj_cons ej_int (dj_cons ej_int dj_nil))))) (ej_bin op_mod rd_mod (ej_vk 2) ej_int) (fun _ _ => rfl)) aj_nil)))))) (fun v152 => (bj_seq (sj_unp2A 4 5 (ej_tup (dj_cons (ej_callD d__law_plan (hr.mono (by decide)) gu (aj_cons (ej_vk 1) (aj_cons (ej_vk 3) aj_nil))) (dj_cons ej_int dj_nil))) (pg_tup rfl (pgs_cons (pg_name (i := 4) sc.nd rfl (by first | exact Or.inl rfl | exact Or.inr rfl)) (pgs_cons (pg_name (i := 5) sc.nd rfl (by first | exact Or.inl rfl | exact Or.inr rfl)) pgs_nil))) (pg_unl rfl (pgs_cons (pg_name (i := 4) sc.nd rfl (by first | exact Or.inl rfl | exact Or.inr rfl)) (pgs_cons (pg_name (i := 5) sc.nd rfl (by first | exact Or.inl rfl | exact Or.inr rfl)) pgs_nil)))) (fun v153 => (bj_of_for (for2 6 7 (P := fun (a154 : D) => [.any, .val (refL 0), .val x151, .val v152, .val v153.1, .val a154, .any, .any, .any, .any, .any]) (a0 := v153.2) PassesOwn.never (ij_zip2 mb_zip (ej_vk 3) (ej_vk 4)) (pg_tup rfl (pgs_cons (pg_name (i := 6) sc.nd rfl (by first | exact Or.inl rfl | exact Or.inr rfl)) (pgs_cons (pg_name (i := 7) sc.nd rfl (by first | exact Or.inl rfl | exact Or.inr rfl)) pgs_nil))) (fun x155 x156 a154 => (bj_seq (sj_set 5 sc.nd (ej_hidP (m' := Option) (g := [.any, .val (refL 0), .val x151, .val v152, .val v153.1, .val a154, .val x155, .val x156, .any, .any, .any]) [.any, .any, .any, .any, .any, .val a154, .val x155, .val x156, .any, .any, .any] (ej_bin op_mulX rd_mulW (ej_vk 5) (ej_callD d__law_choose (hr.mono (by decide)) gu (aj_cons (ej_call1 (call_sumD rfl) rc_sum mb_sum (ej_callT call_list_of rc_list mb_list (ej_vk 6))) (aj_cons (ej_vk 7) aj_nil)))) ⟨.inl rfl, .inl rfl, .inl rfl, .inl rfl, .inl rfl, .inr rfl, .inr rfl, .inr rfl, .inl rfl, .inl rfl, .inl rfl, trivial⟩)) (fun v157 => (bj_nil (a := v157) ⟨.inl rfl, .inr rfl, .inr rfl, .inr rfl, .inr rfl, .inr rfl, .inl rfl, .inl rfl, .inl rfl, .inl rfl, .inl rfl, trivial⟩)))) ⟨.inl rfl, .inr rfl, .inr rfl, .inr rfl, .inr rfl, .inr rfl, .inl rfl, .inl rfl, .inl rfl, .inl rfl, .inl rfl, trivial⟩) (fun a158 => (bj_seq (sj_set 8 sc.nd (ej_call1 (by exact call_repr hy (units_of hr) gu) rc_repr mb_repr (ej_l (lj_lst (dj_cons (ej_vk 3) (dj_cons (ej_vk 4) dj_nil)))))) (fun v159 => (bj_seq (sj_lcV 9 sc.nd (lcp_hidP (m' := Option) (g := [.any, .val (refL 0), .val x151, .val v152, .val v153.1, .val a158, .any, .any, .val v159, .any, .any]) [.any, .any, .any, .val v152, .val v153.1, .any, .any, .any, .any, .any, .any] (lj_lc1 [("_law_again", 10)] 10 sc.nd (ij_range1 mb_range ej_int) (blk_of (by kernel_rfl)) (fun _ _ _ _ _ => pg_name (i := 10) sc.nd rfl (by first | exact Or.inl rfl | exact Or.inr rfl)) (fun _ _ _ _ _ c161 => (ej_callD d_count_draws (hr.mono (by decide)) gu (aj_cons (ej_vk 3) (aj_cons (ej_vk 4) aj_nil))))) ⟨.inl rfl, .inl rfl, .inl rfl, .inr rfl, .inr rfl, .inl rfl, .inl rfl, .inl rfl, .inl rfl, .inl rfl, .inl rfl, trivial⟩) (by kernel_rfl)) (fun v160 => (bj_ifr (tj_w (wj_or (tj_cmp (by exact op_neA hy (units_of hr)) rd_ne (ej_call1 (by exact call_repr hy (units_of hr) gu) rc_repr mb_repr (ej_vk 9)) (ej_call1 (by exact call_repr hy (units_of hr) gu) rc_repr mb_repr (ej_l (lj_lst (dj_cons (ej_vk 5) (dj_cons (ej_vk 5) dj_nil)))))) (wj_or1 (tj_cmp (by exact op_neA hy (units_of hr)) rd_ne (ej_call1 (by exact call_repr hy (units_of hr) gu) rc_repr mb_repr (ej_l (lj_lst (dj_cons (ej_vk 3) (dj_cons (ej_vk 4) dj_nil))))) (ej_vk 8))))) (fj_ret ej_bl) (bj_seq (sj_set 3 sc.nd (ej_callD d__law_small (hr.mono (by decide)) gu (aj_cons (ej_vk 1) (aj_cons ej_int aj_nil)))) (fun v162 => (bj_seq (sj_set 4 sc.nd (ej_callD d__law_plan (hr.mono (by decide)) gu (aj_cons (ej_vk 1) (aj_cons (ej_vk 3) aj_nil)))) (fun v163 => (bj_ifr (tj_cmp (by exact op_neA hy (units_of hr)) rd_ne (ej_hidP (m' := Option) (g := [.any, .val (refL 0), .val x151, .val v162, .val v163, .val a158, .any, .any, .val v159, .val (PyData.list v160), .any]) [.any, .any, .any, .val v162, .val v163, .any, .any, .any, .any, .any, .any] (ej_callD d_count_draws (hr.mono (by decide)) gu (aj_cons (ej_vk 3) (aj_cons (ej_vk 4) aj_nil))) ⟨.inl rfl, .inl rfl, .inl rfl, .inr rfl, .inr rfl, .inl rfl, .inl rfl, .inl rfl, .inl rfl, .inl rfl, .inl rfl, trivial⟩) (ej_callD d__law_listed (hr.mono (by decide)) gu (aj_cons (ej_vk 3) (aj_cons (ej_vk 4) aj_nil)))) (fj_ret ej_bl) (bj_nil (a := ()) ⟨.inl rfl, .inr rfl, .inl rfl, .inl rfl, .inl rfl, .inl rfl, .inl rfl, .inl rfl, .inl rfl, .inl rfl, .inl rfl, trivial⟩)))))))))))))))))) ⟨.inl rfl, .inr rfl, .inl rfl, .inl rfl, .inl rfl, .inl rfl, .inl rfl, .inl rfl, .inl rfl, .inl rfl, .inl rfl, trivial⟩) (fun a164 => (fj_ret (ej_hidP (m' := Option) (g := [.any, .val (refL 0), .any, .any, .any, .any, .any, .any, .any, .any, .any]) [.any, .any, .any, .any, .any, .any, .any, .any, .any, .any, .any] (ej_cmp (by exact op_eqA hy (units_of hr)) rd_eq (ej_callD d_count_draws (hr.mono (by decide)) gu (aj_cons (ej_tup (dj_cons (ej_tup (dj_cons ej_int (dj_cons ej_int (dj_cons ej_int (dj_cons ej_int dj_nil))))) dj_nil)) (aj_cons (ej_tup (dj_cons ej_int dj_nil)) aj_nil))) (ej_callD d__law_choose (hr.mono (by decide)) gu (aj_cons ej_int (aj_cons ej_int aj_nil)))) ⟨.inl rfl, .inl rfl, .inl rfl, .inl rfl, .inl rfl, .inl rfl, .inl rfl, .inl rfl, .inl rfl, .inl rfl, .inl rfl, trivial⟩))))) hM
end
theorem all_mk {l : PySem.W.OpenLaw} {w : World} {K : PySem.W.Frag} {h : Heap} {mg : Str → Option Value} {fa : Addr} (X : K.In h) (G : h.Ns mainGlobals mg) (hfa : mg "law" = some (.ref fa)) (hM : ∀ cs rs : List Int, cs.length = rs.length → 0 < cs.length → cs.length ≤ 64 → (∀ r ∈ rs, 0 ≤ r) → m_law ⟨0, deck3 0 cs rs⟩ (fun d _ => d = .bool true))
    {f0 : Addr} {od0 an0 : Option Addr} {sl0 : Array (Option Value)} {oc0 kV0 dc0 pm0 cd0 ct0 : Value} (a0 : PySem.W.nsIn K mainGlobals "sizes_of" = some (some (.ref f0))) (l0 : K.lookup f0 = some ⟨oc0, od0, .func (PySem.W.fnOf "sizes_of" "sizes_of" (defArgs s_sizes_of) (defBody s_sizes_of) (defScope s_sizes_of) .none kV0 dc0 pm0 an0 cd0 ct0), sl0⟩) (c0 : PySem.W.codeIn K cd0 "sizes_of" = true) (k0 : PySem.W.keepIn K (.ref f0) = true)
    {f1 : Addr} {od1 an1 : Option Addr} {sl1 : Array (Option Value)} {oc1 kV1 dc1 pm1 cd1 ct1 : Value} (a1 : PySem.W.nsIn K mainGlobals "choose" = some (some (.ref f1))) (l1 : K.lookup f1 = some ⟨oc1, od1, .func (PySem.W.fnOf "choose" "choose" (defArgs s_choose) (defBody s_choose) (defScope s_choose) .none kV1 dc1 pm1 an1 cd1 ct1), sl1⟩) (c1 : PySem.W.codeIn K cd1 "choose" = true) (k1 : PySem.W.keepIn K (.ref f1) = true)
    {f2 : Addr} {od2 an2 : Option Addr} {sl2 : Array (Option Value)} {oc2 kV2 dc2 pm2 cd2 ct2 : Value} (a2 : PySem.W.nsIn K mainGlobals "_law_draws" = some (some (.ref f2))) (l2 : K.lookup f2 = some ⟨oc2, od2, .func (PySem.W.fnOf "_law_draws" "_law_draws" (defArgs s__law_draws) (defBody s__law_draws) (defScope s__law_draws) .none kV2 dc2 pm2 an2 cd2 ct2), sl2⟩) (c2 : PySem.W.codeIn K cd2 "_law_draws" = true) (k2 : PySem.W.keepIn K (.ref f2) = true)
    {f3 : Addr} {od3 an3 : Option Addr} {sl3 : Array (Option Value)} {oc3 kV3 dc3 pm3 cd3 ct3 : Value} (a3 : PySem.W.nsIn K mainGlobals "_law_next" = some (some (.ref f3))) (l3 : K.lookup f3 = some ⟨oc3, od3, .func (PySem.W.fnOf "_law_next" "_law_next" (defArgs s__law_next) (defBody s__law_next) (defScope s__law_next) .none kV3 dc3 pm3 an3 cd3 ct3), sl3⟩) (c3 : PySem.W.codeIn K cd3 "_law_next" = true) (k3 : PySem.W.keepIn K (.ref f3) = true)
    {f4 : Addr} {od4 an4 : Option Addr} {sl4 : Array (Option Value)} {oc4 kV4 dc4 pm4 cd4 ct4 : Value} (a4 : PySem.W.nsIn K mainGlobals "_law_choose" = some (some (.ref f4))) (l4 : K.lookup f4 = some ⟨oc4, od4, .func (PySem.W.fnOf "_law_choose" "_law_choose" (defArgs s__law_choose) (defBody s__law_choose) (defScope s__law_choose) .none kV4 dc4 pm4 an4 cd4 ct4), sl4⟩) (c4 : PySem.W.codeIn K cd4 "_law_choose" = true) (k4 : PySem.W.keepIn K (.ref f4) = true)
    {f5 : Addr} {od5 an5 : Option Addr} {sl5 : Array (Option Value)} {oc5 kV5 dc5 pm5 cd5 ct5 : Value} (a5 : PySem.W.nsIn K mainGlobals "_law_listed" = some (some (.ref f5))) (l5 : K.lookup f5 = some ⟨oc5, od5, .func (PySem.W.fnOf "_law_listed" "_law_listed" (defArgs s__law_listed) (defBody s__law_listed) (defScope s__law_listed) .none kV5 dc5 pm5 an5 cd5 ct5), sl5⟩) (c5 : PySem.W.codeIn K cd5 "_law_listed" = true) (k5 : PySem.W.keepIn K (.ref f5) = true)
    {f6 : Addr} {od6 an6 : Option Addr} {sl6 : Array (Option Value)} {oc6 kV6 dc6 pm6 cd6 ct6 : Value} (a6 : PySem.W.nsIn K mainGlobals "count_draws" = some (some (.ref f6))) (l6 : K.lookup f6 = some ⟨oc6, od6, .func (PySem.W.fnOf "count_draws" "count_draws" (defArgs s_count_draws) (defBody s_count_draws) (defScope s_count_draws) .none kV6 dc6 pm6 an6 cd6 ct6), sl6⟩) (c6 : PySem.W.codeIn K cd6 "count_draws" = true) (k6 : PySem.W.keepIn K (.ref f6) = true)
    {f7 : Addr} {od7 an7 : Option Addr} {sl7 : Array (Option Value)} {oc7 kV7 dc7 pm7 cd7 ct7 : Value} (a7 : PySem.W.nsIn K mainGlobals "_law_stock" = some (some (.ref f7))) (l7 : K.lookup f7 = some ⟨oc7, od7, .func (PySem.W.fnOf "_law_stock" "_law_stock" (defArgs s__law_stock) (defBody s__law_stock) (defScope s__law_stock) .none kV7 dc7 pm7 an7 cd7 ct7), sl7⟩) (c7 : PySem.W.codeIn K cd7 "_law_stock" = true) (k7 : PySem.W.keepIn K (.ref f7) = true)
    {f8 : Addr} {od8 an8 : Option Addr} {sl8 : Array (Option Value)} {oc8 kV8 dc8 pm8 cd8 ct8 : Value} (a8 : PySem.W.nsIn K mainGlobals "_law_plan" = some (some (.ref f8))) (l8 : K.lookup f8 = some ⟨oc8, od8, .func (PySem.W.fnOf "_law_plan" "_law_plan" (defArgs s__law_plan) (defBody s__law_plan) (defScope s__law_plan) .none kV8 dc8 pm8 an8 cd8 ct8), sl8⟩) (c8 : PySem.W.codeIn K cd8 "_law_plan" = true) (k8 : PySem.W.keepIn K (.ref f8) = true)
    {f9 : Addr} {od9 an9 : Option Addr} {sl9 : Array (Option Value)} {oc9 kV9 dc9 pm9 cd9 ct9 : Value} (a9 : PySem.W.nsIn K mainGlobals "_law_small" = some (some (.ref f9))) (l9 : K.lookup f9 = some ⟨oc9, od9, .func (PySem.W.fnOf "_law_small" "_law_small" (defArgs s__law_small) (defBody s__law_small) (defScope s__law_small) .none kV9 dc9 pm9 an9 cd9 ct9), sl9⟩) (c9 : PySem.W.codeIn K cd9 "_law_small" = true) (k9 : PySem.W.keepIn K (.ref f9) = true)
    {f10 : Addr} {od10 an10 : Option Addr} {sl10 : Array (Option Value)} {oc10 kV10 dc10 pm10 cd10 ct10 : Value} (a10 : PySem.W.nsIn K mainGlobals "law" = some (some (.ref f10))) (l10 : K.lookup f10 = some ⟨oc10, od10, .func (PySem.W.fnOf "law" "law" (defArgs s_law) (defBody s_law) (defScope s_law) .none kV10 dc10 pm10 an10 cd10 ct10), sl10⟩) (c10 : PySem.W.codeIn K cd10 "law" = true) (k10 : PySem.W.keepIn K (.ref f10) = true)
    (z0 : PySem.W.nsIn K mainGlobals "abs" = some none)
    (z1 : PySem.W.nsIn K mainGlobals "dict" = some none)
    (z2 : PySem.W.nsIn K mainGlobals "int" = some none)
    (z3 : PySem.W.nsIn K mainGlobals "len" = some none)
    (z4 : PySem.W.nsIn K mainGlobals "list" = some none)
    (z5 : PySem.W.nsIn K mainGlobals "range" = some none)
    (z6 : PySem.W.nsIn K mainGlobals "repr" = some none)
    (z7 : PySem.W.nsIn K mainGlobals "sum" = some none)
    (z8 : PySem.W.nsIn K mainGlobals "tuple" = some none)
    (z9 : PySem.W.nsIn K mainGlobals "zip" = some none)
    : ∃ fd : FuncData, (∀ (s : Shared) (v : Value), BindsTo s fd ⟨[v], []⟩ [("_law_script", v)]) ∧ ∀ base : Heap, K.In base → base.Ns mainGlobals mg → SysAt base → FnG l.prog w K mg base 3 fa fd ["_law_script"] (spLaw K) := by
  have e := hfa.symm.trans (PySem.W.mg_of X G a10)
  cases e
  have F0 := fun_mk (st := s_sizes_of) l0 c0 k0
  have b0 := F0.binds (ps := ["stock"]) fun _ _ _ _ _ _ us hl => match us, hl with | [_], _ => rfl
  have e0 := PySem.W.mg_of X G a0
  have F1 := fun_mk (st := s_choose) l1 c1 k1
  have b1 := F1.binds (ps := ["many", "few"]) fun _ _ _ _ _ _ us hl => match us, hl with | [_, _], _ => rfl
  have e1 := PySem.W.mg_of X G a1
  have F2 := fun_mk (st := s__law_draws) l2 c2 k2
  have b2 := F2.binds (ps := ["_law_script"]) fun _ _ _ _ _ _ us hl => match us, hl with | [_], _ => rfl
  have e2 := PySem.W.mg_of X G a2
  have F3 := fun_mk (st := s__law_next) l3 c3 k3
  have b3 := F3.binds (ps := ["_law_state", "_law_many"]) fun _ _ _ _ _ _ us hl => match us, hl with | [_, _], _ => rfl
  have e3 := PySem.W.mg_of X G a3
  have F4 := fun_mk (st := s__law_choose) l4 c4 k4
  have b4 := F4.binds (ps := ["_law_many", "_law_few"]) fun _ _ _ _ _ _ us hl => match us, hl with | [_, _], _ => rfl
  have e4 := PySem.W.mg_of X G a4
  have F5 := fun_mk (st := s__law_listed) l5 c5 k5
  have b5 := F5.binds (ps := ["_law_stock_here", "_law_plan_here"]) fun _ _ _ _ _ _ us hl => match us, hl with | [_, _], _ => rfl
  have e5 := PySem.W.mg_of X G a5
  have F6 := fun_mk (st := s_count_draws) l6 c6 k6
  have b6 := F6.binds (ps := ["stock", "plan"]) fun _ _ _ _ _ _ us hl => match us, hl with | [_, _], _ => rfl
  have e6 := PySem.W.mg_of X G a6
  have F7 := fun_mk (st := s__law_stock) l7 c7 k7
  have b7 := F7.binds (ps := ["_law_state", "_law_drawers", "_law_kinds", "_law_most"]) fun _ _ _ _ _ _ us hl => match us, hl with | [_, _, _, _], _ => rfl
  have e7 := PySem.W.mg_of X G a7
  have F8 := fun_mk (st := s__law_plan) l8 c8 k8
  have b8 := F8.binds (ps := ["_law_state", "_law_stock_here"]) fun _ _ _ _ _ _ us hl => match us, hl with | [_, _], _ => rfl
  have e8 := PySem.W.mg_of X G a8
  have F9 := fun_mk (st := s__law_small) l9 c9 k9
  have b9 := F9.binds (ps := ["_law_state", "_law_most"]) fun _ _ _ _ _ _ us hl => match us, hl with | [_, _], _ => rfl
  have e9 := PySem.W.mg_of X G a9
  have F10 := fun_mk (st := s_law) l10 c10 k10
  have mb_abs := PySem.W.mg_none_of X G z0
  have mb_dict := PySem.W.mg_none_of X G z1
  have mb_int := PySem.W.mg_none_of X G z2
  have mb_len := PySem.W.mg_none_of X G z3
  have mb_list := PySem.W.mg_none_of X G z4
  have mb_range := PySem.W.mg_none_of X G z5
  have mb_repr := PySem.W.mg_none_of X G z6
  have mb_sum := PySem.W.mg_none_of X G z7
  have mb_tuple := PySem.W.mg_none_of X G z8
  have mb_zip := PySem.W.mg_none_of X G z9
  refine ⟨PySem.W.fnOf "law" "law" (defArgs s_law) (defBody s_law) (defScope s_law) .none kV10 dc10 pm10 an10 cd10 ct10, fun s v => .of_eq rfl, fun base _ _ hy => ?_⟩
  have d_sizes_of : Def l.prog w K mg base 1 "sizes_of" ["stock"] (spJ K M_sizes_of) := ⟨f0, _, ok_sizes_of F0 hy mb_sum mb_tuple, e0, k0, b0⟩
  have d_choose : Def l.prog w K mg base 1 "choose" ["many", "few"] (spJ K M_choose) := ⟨f1, _, ok_choose F1 hy mb_range, e1, k1, b1⟩
  have d__law_draws : Def l.prog w K mg base 1 "_law_draws" ["_law_script"] (spDeckZ K) := ⟨f2, _, ok__law_draws F2 mb_abs mb_int mb_len, e2, k2, b2⟩
  have d__law_next : Def l.prog w K mg base 1 "_law_next" ["_law_state", "_law_many"] (spJ K M__law_next) := ⟨f3, _, ok__law_next F3 hy mb_len, e3, k3, b3⟩
  have d__law_choose : Def l.prog w K mg base 1 "_law_choose" ["_law_many", "_law_few"] (spJ K M__law_choose) := ⟨f4, _, ok__law_choose F4 hy mb_range, e4, k4, b4⟩
  have d__law_listed : Def l.prog w K mg base 1 "_law_listed" ["_law_stock_here", "_law_plan_here"] (spJ K M__law_listed) := ⟨f5, _, ok__law_listed F5 hy mb_dict mb_len mb_list mb_range mb_sum, e5, k5, b5⟩
  have d_count_draws : Def l.prog w K mg base 2 "count_draws" ["stock", "plan"] (spJ K M_count_draws) := ⟨f6, _, ok_count_draws F6 hy d_choose d_sizes_of mb_zip, e6, k6, b6⟩
  have d__law_stock : Def l.prog w K mg base 2 "_law_stock" ["_law_state", "_law_drawers", "_law_kinds", "_law_most"] (spJ K M__law_stock) := ⟨f7, _, ok__law_stock F7 hy d__law_next mb_range mb_tuple, e7, k7, b7⟩
  have d__law_plan : Def l.prog w K mg base 2 "_law_plan" ["_law_state", "_law_stock_here"] (spJ K M__law_plan) := ⟨f8, _, ok__law_plan F8 hy d__law_next mb_int mb_len mb_list mb_range mb_sum mb_tuple, e8, k8, b8⟩
  have d__law_small : Def l.prog w K mg base 2 "_law_small" ["_law_state", "_law_most"] (spJ K M__law_small) := ⟨f9, _, ok__law_small F9 hy d__law_next mb_range mb_tuple, e9, k9, b9⟩
  exact ok_law F10 hy d__law_choose d__law_listed d__law_plan d__law_small d__law_stock d_count_draws mb_list mb_range mb_repr mb_sum mb_zip d__law_draws hM
end DD
set_option maxHeartbeats 1000000
namespace DD
open PySem PySem.Spec PyProof.Rows L2
/-! ### k26: numbers of choices -/
def chN : Nat → Nat → Nat
  | _, 0 => 1
  | 0, _ + 1 => 0
  | n + 1, k + 1 => chN n k + chN n (k + 1)
theorem chN_zero (n : Nat) : chN n 0 = 1 := by cases n <;> rfl
theorem chN_step : ∀ n k : Nat, (k + 1) * chN n (k + 1) + k * chN n k = n * chN n k
  | 0, 0 => rfl
  | 0, k + 1 => by show (k + 1 + 1) * 0 + (k + 1) * 0 = 0 * 0; simp
  | n + 1, 0 => by
    have h := chN_step n 0
    show (0 + 1) * (chN n 0 + chN n (0 + 1)) + 0 * 1 = (n + 1) * 1
    rw [chN_zero] at h ⊢
    omega
  | n + 1, k + 1 => by
    have h1 := chN_step n k
    have h2 := chN_step n (k + 1)
    show (k + 1 + 1) * (chN n (k + 1) + chN n (k + 1 + 1)) + (k + 1) * (chN n k + chN n (k + 1)) = (n + 1) * (chN n k + chN n (k + 1))
    generalize chN n k = a at h1 ⊢
    generalize chN n (k + 1) = b at h1 h2 ⊢
    generalize chN n (k + 1 + 1) = c at h2 ⊢
    simp only [Nat.add_mul, Nat.mul_add, Nat.one_mul] at h1 h2 ⊢
    omega
theorem chN_le : ∀ n k : Nat, chN n k ≤ 2 ^ n
  | n, 0 => by rw [chN_zero]; exact Nat.one_le_two_pow
  | 0, _ + 1 => Nat.zero_le _
  | n + 1, k + 1 => by
    have h1 := chN_le n k
    have h2 := chN_le n (k + 1)
    show chN n k + chN n (k + 1) ≤ _
    rw [Nat.pow_succ]
    omega
theorem chN_div (n k : Nat) : ((chN n k : Int) * ((n : Int) - k)) / ((k : Int) + 1) = chN n (k + 1) := by
  have h := chN_step n k
  have e : ((chN n k : Int) * ((n : Int) - k)) = ((k : Int) + 1) * (chN n (k + 1) : Int) := by
    have h2 : (((k + 1) * chN n (k + 1) + k * chN n k : Nat) : Int) = ((n * chN n k : Nat) : Int) := by rw [h]
    simp only [Int.natCast_add, Int.natCast_mul, Int.natCast_one] at h2
    rw [Int.mul_sub, Int.mul_comm _ (n : Int), Int.mul_comm _ (k : Int)]
    omega
  rw [e, Int.mul_ediv_cancel_left _ (by omega)]
def chI (n : Nat) (j : Int) : Int := if j < 0 then 0 else chN n j.toNat
theorem chI_nat (n k : Nat) : chI n (k : Int) = chN n k := by
  unfold chI
  rw [if_neg (by omega), Int.toNat_natCast]
theorem chI_succ (n : Nat) (j : Int) : chI (n + 1) j = chI n j + chI n (j - 1) := by
  unfold chI
  by_cases h : j < 0
  · rw [if_pos h, if_pos h, if_pos (by omega)]; rfl
  · rw [if_neg h, if_neg h]
    by_cases h1 : j - 1 < 0
    · rw [if_pos h1]
      have : j.toNat = 0 := by omega
      rw [this, chN_zero, chN_zero]
      rfl
    · rw [if_neg h1]
      obtain ⟨k, hk⟩ : ∃ k, j.toNat = k + 1 := ⟨j.toNat - 1, by omega⟩
      have : (j - 1).toNat = k := by omega
      rw [hk, this]
      show ((chN n k + chN n (k + 1) : Nat) : Int) = _
      rw [Int.natCast_add, Int.add_comm]
theorem chI_zero (j : Int) : chI 0 j = if j = 0 then 1 else 0 := by
  unfold chI
  by_cases h : j < 0
  · rw [if_pos h, if_neg (by omega)]
  · rw [if_neg h]
    by_cases h0 : j = 0
    · subst h0; rfl
    · rw [if_neg h0]
      obtain ⟨k, hk⟩ : ∃ k, j.toNat = k + 1 := ⟨j.toNat - 1, by omega⟩
      rw [hk]
      rfl
/-- the number of choices, drawer by drawer -/
def wV : List Nat → List Int → Int
  | n :: ns, x :: v => chI n x * wV ns v
  | _, _ => 1
theorem wV_fold : ∀ (zs : List (Nat × Int)) (a : Int), zs.foldl (fun a p => a * chI p.1 p.2) a = a * wV (zs.map (·.1)) (zs.map (·.2))
  | [], a => by show a = a * 1; rw [Int.mul_one]
  | z :: zs, a => by
    rw [List.foldl_cons, wV_fold zs]
    show a * chI z.1 z.2 * _ = a * (chI z.1 z.2 * _)
    rw [Int.mul_assoc]
theorem chI_abs (n : Nat) (j : Int) : (chI n j).natAbs ≤ 2 ^ n := by
  unfold chI
  split
  · exact Nat.zero_le _
  · rw [Int.natAbs_natCast]; exact chN_le _ _
theorem fold_abs : ∀ (zs : List (Nat × Int)) (a : Int), (zs.foldl (fun a p => a * chI p.1 p.2) a).natAbs ≤ a.natAbs * 2 ^ (zs.map (·.1)).sum
  | [], a => by simp
  | z :: zs, a => by
    rw [List.foldl_cons]
    have h := fold_abs zs (a * chI z.1 z.2)
    rw [Int.natAbs_mul] at h
    have h2 := chI_abs z.1 z.2
    rw [List.map_cons, List.sum_cons, Nat.pow_add, ← Nat.mul_assoc]
    exact Nat.le_trans h (Nat.mul_le_mul_right _ (Nat.mul_le_mul_left _ h2))
/-- one thing more in a drawer -/
theorem wV_more : ∀ (ns : List Nat) (v : List Int) (p : Nat), p < ns.length → v.length = ns.length → wV (ns.set p (ns.getD p 0 + 1)) v = wV ns v + wV ns (v.set p (v.getD p 0 - 1))
  | n :: ns, x :: v, 0, _, _ => by
    show chI (n + 1) x * wV ns v = chI n x * wV ns v + chI n (x - 1) * wV ns v
    rw [chI_succ, Int.add_mul]
  | n :: ns, x :: v, p + 1, h, hl => by
    show chI n x * wV (ns.set p (ns.getD p 0 + 1)) v = chI n x * wV ns v + chI n x * wV ns (v.set p (v.getD p 0 - 1))
    rw [wV_more ns v p (by simpa using h) (by simpa using hl), Int.mul_add]
  | [], _, p, h, _ => absurd h (Nat.not_lt_zero _)
  | _ :: _, [], _, _, h => by cases h
theorem wV_zero : ∀ (k : Nat) (v : List Int), v.length = k → wV (List.replicate k 0) v = if v = List.replicate k 0 then 1 else 0
  | 0, [], _ => rfl
  | k + 1, x :: v, h => by
    rw [List.replicate_succ]
    show chI 0 x * wV (List.replicate k 0) v = _
    rw [wV_zero k v (by simpa using h), chI_zero, List.replicate_succ]
    by_cases hx : x = 0
    · subst hx
      by_cases hv : v = List.replicate k 0
      · subst hv; simp
      · have e2 : ¬ (0 :: v = 0 :: List.replicate k (0 : Int)) := fun e => hv (List.cons.inj e).2
        rw [if_neg hv, if_neg e2]; rfl
    · have e2 : ¬ (x :: v = 0 :: List.replicate k (0 : Int)) := fun e => hx (List.cons.inj e).1
      rw [if_neg hx, if_neg e2, Int.zero_mul]
  | 0, _ :: _, h => by cases h
  | k + 1, [], h => by cases h
theorem sizes_eq {rows : List (List Int)} (h4 : rows.length ≤ 1000) : m_sizes_of (tT rows) = some (tI (rows.map List.sum)) := by
  unfold m_sizes_of
  simp only [op2, op1, cmp2, chain3, tst, notB, andB, orB, andD, orD, iteM, consM, starM, smallM, tupM, tupSM, lstM, argV, argK, comp1, comp1i, comp2, comp2i, comp11, seqM, rng1, rng2, zipSM, zip2M, zip3M, enumM, repM, joinM, catM, par3LM, put2M, popM, parLV, putVM, unpS, trg1M, sortSetM, orV, lrg1M, par3M, rdM, rdLM, partM, slcM, isiM, rtM, forM1, forM2, forM3, parM, unp2, unp3, unp2A, unp3A, unp4A, ob_pure, ob_some, ob_lift, itemsD]
  rw [small_ok (by simp; omega), ob_some, lcA_mapM rows [] (F := tI) (G := fun r => .int r.sum) fun r _ => sum_tI _]
  simp only [ob_some, ob_pure, tupleD, List.nil_append, tI, List.map_map, Function.comp_def]
theorem zip_tI {a b : List Int} (h : a.length ≤ b.length) : zipD [tI a, tI b] = some ((a.zip b).map fun p => PyData.tuple [.int p.1, .int p.2]) := zip_map (F := PyData.int) (G := PyData.int) h
theorem range2_ok {i j : Int} (h1 : -1000 < i) (h2 : i < 1000) (h3 : -1000 < j) (h4 : j < 1000) : rangeD2 (.int i) (.int j) = some (rangeL i (j - i).toNat) := by
  show (if i.natAbs < 2 ^ 62 ∧ j.natAbs < 2 ^ 62 then _ else none) = _
  rw [if_pos ⟨by omega, by omega⟩]
/-! ### k26: choose, by factors and by sums; count_draws -/
theorem mulW_ok {i j : Int} (hi : i.natAbs < wideN) (hj : j.natAbs < wideN) : mulW (.int i) (.int j) = some (.int (i * j)) := by
  show (if i.natAbs < wideN ∧ j.natAbs < wideN then some (PyData.int (i * j)) else none) = _
  rw [if_pos ⟨hi, hj⟩]
theorem wide_small {i : Int} (h : i.natAbs < 2 ^ 64) : i.natAbs < wideN := wide_of h (by decide)
theorem wide_ch {n : Nat} (hn : n ≤ 200) (k : Nat) : (chN n k : Int).natAbs < wideN := by
  refine wide_of (k := 201) ?_ (by decide)
  rw [Int.natAbs_natCast]
  have h1 := chN_le n k
  have h2 : 2 ^ n ≤ 2 ^ 200 := Nat.pow_le_pow_right (by decide) hn
  have h3 : 2 ^ 200 < 2 ^ 201 := by decide
  omega
theorem choose_eq {n k : Nat} (hn : n ≤ 200) (hk : k ≤ 1000) : m_choose (.int n) (.int k) = some (.int (chN n k)) := by
  unfold m_choose
  simp only [op2, op1, cmp2, chain3, tst, notB, andB, orB, andD, orD, iteM, consM, starM, smallM, tupM, tupSM, lstM, argV, argK, comp1, comp1i, comp2, comp2i, comp11, seqM, rng1, rng2, zipSM, zip2M, zip3M, enumM, repM, joinM, catM, par3LM, put2M, popM, parLV, putVM, unpS, trg1M, sortSetM, orV, lrg1M, par3M, rdM, rdLM, partM, slcM, isiM, rtM, forM1, forM2, forM3, parM, unp2, unp3, unp2A, unp3A, unp4A, ob_pure, ob_some, ob_lift, ob_assoc]
  refine bindE (m := Option) (range1_ok (by omega) (by omega)) ?_
  rw [Int.toNat_natCast]
  have h0 : (PyData.int 1) = PyData.int (chN n 0 : Nat) := by rw [chN_zero]; rfl
  rw [h0]
  refine bindE (m := Option) (loop_rng (m := Option) (fun s => PyData.int (chN n s : Nat)) fun i hi => ?_) ?hr
  case hr => exact rfl
  rw [← h0]
  refine bindE (m := Option) (sub_int _ _) (bindE (m := Option) (mulW_ok (wide_ch hn i) (wide_small (by omega))) (bindE (m := Option) (add_int _ _) (bindE (m := Option) (div_int (by omega) (by omega)) ?_)))
  rw [chN_div]
def rowN (s k : Nat) : D := .list ((List.range (k + 1)).map fun j => PyData.int (chN s j : Nat))
theorem rowN_get {s k j : Nat} (h : j ≤ k) : DD.getD (rowN s k) (.int (j : Nat)) = some (.int (chN s j : Nat)) := by
  unfold rowN
  rw [get_lst (F := fun j => PyData.int (chN s j : Nat)) (xs := List.range (k + 1)) (i := j) (by simpa using Nat.lt_succ_of_le h), List.getElem_range]
theorem rowN_cons {s k : Nat} {xs : List D} (h : xs = (List.range k).map fun i => PyData.int (chN s (i + 1) : Nat)) : PyData.list (.int 1 :: xs) = rowN s k := by
  unfold rowN
  rw [List.range_succ_eq_map, List.map_cons, List.map_map, h, chN_zero]
  rfl
theorem lchoose_eq {n k : Nat} (hn : n ≤ 200) (hk : k ≤ 900) : m__law_choose (.int n) (.int k) = some (.int (chN n k)) := by
  unfold m__law_choose
  simp only [op2, op1, cmp2, chain3, tst, notB, andB, orB, andD, orD, iteM, consM, starM, smallM, tupM, tupSM, lstM, argV, argK, comp1, comp1i, comp2, comp2i, comp11, seqM, rng1, rng2, zipSM, zip2M, zip3M, enumM, repM, joinM, catM, par3LM, put2M, popM, parLV, putVM, unpS, trg1M, sortSetM, orV, lrg1M, par3M, rdM, rdLM, partM, slcM, isiM, rtM, forM1, forM2, forM3, parM, unp2, unp3, unp2A, unp3A, unp4A, ob_pure, ob_some, ob_lift, ob_assoc]
  refine bindE (m := Option) (mulL_one (by omega) (by omega)) (bindE (m := Option) (add_lst (by simp; omega)) ?_)
  rw [Int.toNat_natCast]
  refine bindE (m := Option) (range1_ok (by omega) (by omega)) ?_
  rw [Int.toNat_natCast]
  have e0 : PyData.list ([PyData.int 1] ++ List.replicate k (PyData.int 0)) = rowN 0 k := rowN_cons (by
    refine List.ext_getElem (by simp) fun i h1 h2 => ?_
    simp
    rfl)
  rw [e0]
  refine bindE (m := Option) (loop_rng (m := Option) (fun s => rowN s k) fun i hi => ?_) (rowN_get (Nat.le_refl _))
  refine bindE (m := Option) (add_int _ _) (bindE (m := Option) (range2_ok (by omega) (by omega) (by omega) (by omega)) (bindE (m := Option) (small_ok (by rw [rangeL_length]; omega)) ?_))
  have e1 : ((k : Int) + 1 - 1).toNat = k := by omega
  rw [e1]
  refine bindE (m := Option) (lcA_mapM (F := fun i : Nat => PyData.int (1 + (i : Int))) (G := fun j : Nat => PyData.int (chN (i + 1) (j + 1) : Nat)) (List.range k) [] fun j hj => ?_) ?_
  · have hj := List.mem_range.mp hj
    have a1 : PyData.int (1 + (j : Int)) = PyData.int ((j + 1 : Nat) : Int) := by rw [Int.natCast_add, Int.add_comm]; rfl
    have a2 : subD (PyData.int ((j + 1 : Nat) : Int)) (.int 1) = some (.int (j : Nat)) := by
      rw [sub_int]
      congr 2
      omega
    rw [a1]
    refine bindE (m := Option) (rowN_get (by omega)) (bindE (m := Option) a2 (bindE (m := Option) (rowN_get (by omega)) ?_))
    rw [add_int, ← Int.natCast_add, Nat.add_comm]
    rfl
  · refine bindE (m := Option) (add_lst (by simp; omega)) ?_
    rw [List.nil_append]
    exact congrArg (fun z => some (Fl.nx z)) (rowN_cons rfl)
/-- the product, drawer by drawer -/
def duV (S : List (List Int)) (P : List Int) : Int := wV (S.map fun r => r.sum.toNat) P
theorem zip_fold {S : List (List Int)} {P : List Int} : ∀ {a : Int}, ((S.map List.sum).zip P).foldl (fun a p => a * chI p.1.toNat p.2) a = ((S.map fun r => r.sum.toNat).zip P).foldl (fun a p => a * chI p.1 p.2) a := by
  intro a
  induction S generalizing P a with
  | nil => rfl
  | cons r S ih =>
    cases P with
    | nil => rfl
    | cons x P => exact ih
theorem zip_wV : ∀ (ns : List Nat) (P : List Int), ns.length = P.length → wV ((ns.zip P).map (·.1)) ((ns.zip P).map (·.2)) = wV ns P := fun ns P h => by
  rw [List.map_fst_zip (Nat.le_of_eq h), List.map_snd_zip (Nat.le_of_eq h.symm)]
theorem fold_wide {zs : List (Int × Int)} (h4 : zs.length ≤ 4) (h : ∀ p ∈ zs, 0 ≤ p.1 ∧ p.1 ≤ 200) : (zs.foldl (fun a p => a * chI p.1.toNat p.2) 1).natAbs < 2 ^ 801 := by
  have e : zs.foldl (fun a p => a * chI p.1.toNat p.2) 1 = (zs.map fun p => (p.1.toNat, p.2)).foldl (fun a p => a * chI p.1 p.2) 1 := by rw [List.foldl_map]
  rw [e]
  refine Nat.lt_of_le_of_lt (fold_abs _ _) ?_
  have hs : ((zs.map fun p => (p.1.toNat, p.2)).map (·.1)).sum ≤ zs.length * 200 := by
    clear e h4
    induction zs with
    | nil => exact Nat.le_refl 0
    | cons z zs ih =>
      have h1 := ih fun p hp => h p (List.mem_cons_of_mem _ hp)
      have h2 := h z List.mem_cons_self
      rw [List.map_cons, List.map_cons, List.sum_cons, List.length_cons]
      omega
  have h2 : ((zs.map fun p => (p.1.toNat, p.2)).map (·.1)).sum ≤ 800 := by omega
  have h3 := Nat.pow_le_pow_right (show 0 < 2 by decide) h2
  show 1 * _ < _
  rw [Nat.one_mul]
  exact Nat.lt_of_le_of_lt h3 (Nat.pow_lt_pow_right (by decide) (by decide))
structure Pln (S : List (List Int)) (P : List Int) : Prop where
  four : S.length ≤ 4
  len : P.length = S.length
  sz : ∀ r ∈ S, 0 ≤ r.sum ∧ r.sum ≤ 200
  pl : ∀ x ∈ P, 0 ≤ x ∧ x ≤ 200
theorem count_eq {S : List (List Int)} {P : List Int} (h : Pln S P) : m_count_draws (tT S) (tI P) = some (.int (duV S P)) := by
  have f4 := h.four
  have hl := h.len
  unfold m_count_draws
  simp only [op2, op1, cmp2, chain3, tst, notB, andB, orB, andD, orD, iteM, consM, starM, smallM, tupM, tupSM, lstM, argV, argK, comp1, comp1i, comp2, comp2i, comp11, seqM, rng1, rng2, zipSM, zip2M, zip3M, enumM, repM, joinM, catM, par3LM, put2M, popM, parLV, putVM, unpS, trg1M, sortSetM, orV, lrg1M, par3M, rdM, rdLM, partM, slcM, isiM, rtM, forM1, forM2, forM3, parM, unp2, unp3, unp2A, unp3A, unp4A, ob_pure, ob_some, ob_lift, ob_assoc]
  refine bindE (m := Option) (sizes_eq (by omega)) (bindE (m := Option) (zip_tI (by simp; omega)) ?_)
  have hz4 : ((S.map List.sum).zip P).length ≤ 4 := by simp; omega
  have hz : ∀ p ∈ (S.map List.sum).zip P, (0 ≤ p.1 ∧ p.1 ≤ 200) ∧ 0 ≤ p.2 ∧ p.2 ≤ 200 := fun p hp => by
    obtain ⟨h1, h2⟩ := List.of_mem_zip hp
    obtain ⟨r, hr, e⟩ := List.mem_map.mp h1
    exact ⟨e ▸ h.sz r hr, h.pl _ h2⟩
  refine bindE (m := Option) (loop_pre (m := Option) (F := fun p : Int × Int => PyData.tuple [.int p.1, .int p.2]) (fun zs => PyData.int (zs.foldl (fun a p => a * chI p.1.toNat p.2) 1)) _ fun p x q e => ?_) ?_
  · have hx := hz x (by rw [e]; simp)
    obtain ⟨n, en⟩ : ∃ n : Nat, x.1 = (n : Int) := ⟨x.1.toNat, by omega⟩
    obtain ⟨k, ek⟩ : ∃ k : Nat, x.2 = (k : Int) := ⟨x.2.toNat, by omega⟩
    have ec : M_choose [.val (.int x.1), .val (.int x.2)] = some (.int (chN n k : Nat)) := by
      rw [en, ek]
      exact choose_eq (by omega) (by omega)
    have hw : (p.foldl (fun a p => a * chI p.1.toNat p.2) 1).natAbs < wideN := wide_of (fold_wide (by rw [e] at hz4; simp at hz4; omega) fun y hy => (hz y (by rw [e]; simp [hy])).1) (by decide)
    refine bindE (m := Option) ec (bindE (m := Option) (mulW_ok hw (wide_ch (by omega) k)) ?_)
    rw [List.foldl_append, List.foldl_cons, List.foldl_nil, en, ek, Int.toNat_natCast, chI_nat]
  · show some (PyData.int _) = _
    rw [zip_fold, wV_fold, Int.one_mul, zip_wV _ _ (by simp [hl])]
    rfl
/-! all choices, one of each list -/
def RunS {α : Type} (x : Z α) (ob : List Cell) (Q : α → List Cell → Prop) : Prop := ∀ (n : Nat) (φ : α → Wd → Prop), (∀ a ob', Q a ob' → φ a ⟨n, ob'⟩) → x ⟨n, ob⟩ φ
theorem RunS.of {x : Z α} {a : α} {Q : α → List Cell → Prop} (h : Run x ob a ob') (q : Q a ob') : RunS x ob Q := fun n φ p => h n φ (p a ob' q)
theorem RunS.pure {a : α} {Q : α → List Cell → Prop} (q : Q a ob) : RunS (Pure.pure a : Z α) ob Q := .of Run.pure q
theorem RunS.bind {x : Z α} {f : α → Z β} {Q : α → List Cell → Prop} {R : β → List Cell → Prop} (h : RunS x ob Q) (hf : ∀ a o1, Q a o1 → RunS (f a) o1 R) : RunS (x >>= f) ob R := fun n φ p => h n (fun a n' => f a n' φ) fun a o1 q => hf a o1 q n φ p
theorem RunS.r {x : Z α} {a : α} {f : α → Z β} {R : β → List Cell → Prop} (h : Run x ob a ob') (hf : RunS (f a) ob' R) : RunS (x >>= f) ob R := fun n φ p => h n _ (hf n φ p)
theorem RunS.bL {o : Option α} {a : α} {f : α → Z β} {R : β → List Cell → Prop} (e : o = some a) (hf : RunS (f a) ob R) : RunS ((Mo.lift o : Z α) >>= f) ob R := .r (Run.lift e) hf
theorem RunS.mono {x : Z α} {Q R : α → List Cell → Prop} (h : RunS x ob Q) (w : ∀ a o, Q a o → R a o) : RunS x ob R := fun n φ p => h n φ fun a o q => p a o (w a o q)
theorem RunS.loop {A γ : Type} {f : D → A → Z (Fl A)} {F : γ → D} {I : List γ → A → List Cell → Prop} (all : List γ) (h : ∀ p x q a ob, all = p ++ x :: q → I p a ob → RunS (f (F x) a) ob (fun z o1 => ∃ a', z = .nx a' ∧ I (p ++ [x]) a' o1)) {a : A} (h0 : I [] a ob) : RunS (loopM f (all.map F) a) ob (fun z o1 => ∃ a', z = .nx a' ∧ I all a' o1) := by
  have go : ∀ (q p : List γ) (a : A) (ob : List Cell), all = p ++ q → I p a ob → RunS (loopM f (q.map F) a) ob (fun z o1 => ∃ a', z = .nx a' ∧ I all a' o1) := by
    intro q
    induction q with
    | nil =>
      intro p a ob e hI
      rw [List.append_nil] at e
      subst e
      exact RunS.pure ⟨a, rfl, hI⟩
    | cons x q ih =>
      intro p a ob e hI
      refine RunS.bind (h p x q a ob e hI) ?_
      rintro _ o1 ⟨a', rfl, hI'⟩
      exact ih (p ++ [x]) a' o1 (by simp [e]) hI'
  exact go all [] a ob rfl h0
abbrev ksR (kv : List (List Int × D)) : List (List Int) := kv.map (·.1)
theorem valR_some {kv : List (List Int × D)} {S : List Int} : (valR kv S).isSome = true ↔ S ∈ ksR kv := by
  unfold valR
  rw [Option.isSome_map, List.find?_isSome]
  constructor
  · rintro ⟨x, hx, hd⟩
    exact List.mem_map.mpr ⟨x, hx, by simpa using hd⟩
  · intro h
    obtain ⟨x, hx, e⟩ := List.mem_map.mp h
    exact ⟨x, hx, by simpa using e⟩
theorem ksR_repl (kv : List (List Int × D)) (S : List Int) (d : D) : ksR (kv.map fun p => if p.1 = S then (p.1, d) else p) = ksR kv := by
  unfold ksR
  rw [List.map_map]
  refine List.map_congr_left fun p _ => ?_
  show (if p.1 = S then (p.1, d) else p).1 = p.1
  split <;> rfl
theorem mem_stoR {kv : List (List Int × D)} {S x : List Int} {d : D} : x ∈ ksR (stoR kv S d) ↔ x ∈ ksR kv ∨ x = S := by
  unfold stoR
  split
  · rename_i h
    rw [ksR_repl]
    constructor
    · exact .inl
    · rintro (h2 | rfl)
      · exact h2
      · exact valR_some.mp h
  · unfold ksR
    rw [List.map_append, List.mem_append]
    simp
theorem nodup_stoR {kv : List (List Int × D)} {S : List Int} {d : D} (h : (ksR kv).Nodup) : (ksR (stoR kv S d)).Nodup := by
  unfold stoR
  split
  · rw [ksR_repl]; exact h
  · rename_i h2
    unfold ksR
    rw [List.map_append]
    refine List.nodup_append.mpr ⟨h, by simp, fun a ha b hb e => ?_⟩
    have : b = S := by simpa using hb
    subst this e
    exact h2 (valR_some.mpr ha)
theorem le_sum19 : ∀ {l : List Int}, (∀ x ∈ l, 0 ≤ x) → 0 ≤ l.sum ∧ ∀ x ∈ l, x ≤ l.sum
  | [], _ => ⟨by simp, by simp⟩
  | a :: l, h => by
    obtain ⟨h1, h2⟩ := le_sum19 fun x hx => h x (List.mem_cons_of_mem _ hx)
    have ha := h a List.mem_cons_self
    rw [List.sum_cons]
    refine ⟨by omega, fun x hx => ?_⟩
    rcases List.mem_cons.mp hx with rfl | hx
    · omega
    · have := h2 x hx; omega
theorem nodup_le {α : Type} [DecidableEq α] : ∀ {l L : List α}, l.Nodup → (∀ x ∈ l, x ∈ L) → l.length ≤ L.length
  | [], _, _, _ => Nat.zero_le _
  | x :: l, L, hn, h => by
    have hx := h x List.mem_cons_self
    obtain ⟨hx2, hn2⟩ := List.nodup_cons.mp hn
    have := nodup_le (l := l) (L := L.erase x) hn2 fun y hy => (List.mem_erase_of_ne (fun e : y = x => hx2 (e ▸ hy))).mpr (h y (List.mem_cons_of_mem _ hy))
    rw [List.length_erase_of_mem hx] at this
    have hp : 0 < L.length := List.length_pos_of_mem hx
    rw [List.length_cons]
    omega
/-! ### k26: keys that hash apart -/
def famV : Nat → Nat → List (List Int)
  | 0, _ => [[]]
  | k + 1, s => (List.range (s + 1)).flatMap fun x => (famV k (s - x)).map fun v => (x : Int) :: v
inductive Bt where
  | lf
  | nd (l : Bt) (k : Nat) (r : Bt)
def Bt.ins (x : Nat) : Bt → Option Bt
  | .lf => some (.nd .lf x .lf)
  | .nd l k r => match Nat.blt x k, Nat.blt k x with
    | true, _ => (Bt.ins x l).map fun z => .nd z k r
    | false, true => (Bt.ins x r).map fun z => .nd l k z
    | false, false => none
def Bt.all : List Nat → Bt → Option Bt
  | [], t => some t
  | x :: xs, t => (Bt.ins x t).bind (Bt.all xs)
def Bt.has (x : Nat) : Bt → Bool
  | .lf => false
  | .nd l k r => match Nat.blt x k, Nat.blt k x with
    | true, _ => Bt.has x l
    | false, true => Bt.has x r
    | false, false => true
theorem blt_iff {a b : Nat} : Nat.blt a b = true ↔ a < b := by
  rw [Nat.blt_eq]
theorem blt_no {a b : Nat} : Nat.blt a b = false ↔ b ≤ a := by
  constructor
  · intro h0
    apply Nat.le_of_not_lt
    intro z
    rw [blt_iff.mpr z] at h0
    cases h0
  · intro h0
    cases hb : Nat.blt a b with
    | false => rfl
    | true =>
      have := blt_iff.mp hb
      omega
theorem Bt.ins_has {x : Nat} : ∀ {t t' : Bt}, Bt.ins x t = some t' → Bt.has x t = false ∧ ∀ y, Bt.has y t' = (decide (y = x) || Bt.has y t)
  | .lf, t', h => by
    cases h
    refine ⟨rfl, fun y => ?_⟩
    show (match Nat.blt y x, Nat.blt x y with
      | true, _ => false
      | false, true => false
      | false, false => true) = (decide (y = x) || false)
    cases h1 : Nat.blt y x with
    | true => have := blt_iff.mp h1; rw [decide_eq_false (by omega)]; rfl
    | false =>
      cases h2 : Nat.blt x y with
      | true => have := blt_iff.mp h2; rw [decide_eq_false (by omega)]; rfl
      | false => have := blt_no.mp h1; have := blt_no.mp h2; rw [decide_eq_true (by omega)]; rfl
  | .nd l k r, t', h => by
    unfold Bt.ins at h
    cases h1 : Nat.blt x k with
    | true =>
      rw [h1] at h
      obtain ⟨z, hz, rfl⟩ := Option.map_eq_some_iff.mp h
      obtain ⟨a, b⟩ := Bt.ins_has hz
      refine ⟨by unfold Bt.has; rw [h1]; exact a, fun y => ?_⟩
      unfold Bt.has
      cases h3 : Nat.blt y k with
      | true => exact b y
      | false =>
        have := blt_iff.mp h1
        have := blt_no.mp h3
        rw [decide_eq_false (show ¬ y = x by omega)]
        cases Nat.blt k y <;> rfl
    | false =>
      rw [h1] at h
      cases h2 : Nat.blt k x with
      | true =>
        rw [h2] at h
        obtain ⟨z, hz, rfl⟩ := Option.map_eq_some_iff.mp h
        obtain ⟨a, b⟩ := Bt.ins_has hz
        refine ⟨by unfold Bt.has; rw [h1, h2]; exact a, fun y => ?_⟩
        unfold Bt.has
        have := blt_iff.mp h2
        cases h3 : Nat.blt y k with
        | true =>
          have := blt_iff.mp h3
          rw [decide_eq_false (show ¬ y = x by omega)]
          rfl
        | false =>
          cases h4 : Nat.blt k y with
          | true => exact b y
          | false =>
            have := blt_no.mp h4
            rw [decide_eq_false (show ¬ y = x by omega)]
            rfl
      | false => rw [h2] at h; cases h
theorem Bt.all_nodup : ∀ {xs : List Nat} {t t' : Bt}, Bt.all xs t = some t' → xs.Nodup ∧ ∀ x ∈ xs, Bt.has x t = false
  | [], _, _, _ => ⟨List.nodup_nil, fun _ h => nomatch h⟩
  | x :: xs, t, t', h => by
    obtain ⟨u, hu, h2⟩ := Option.bind_eq_some_iff.mp (show (Bt.ins x t).bind (Bt.all xs) = some t' from h)
    obtain ⟨a, b⟩ := Bt.ins_has hu
    obtain ⟨c, d⟩ := Bt.all_nodup h2
    refine ⟨List.nodup_cons.mpr ⟨fun hx => ?_, c⟩, fun y hy => ?_⟩
    · have := d x hx
      rw [b x, decide_eq_true rfl] at this
      cases this
    · rcases List.mem_cons.mp hy with rfl | hy
      · exact a
      · have := d y hy
        rw [b y, Bool.or_eq_false_iff] at this
        exact this.2
def hN (v : List Int) : Nat := (hashR v + 9223372036854775808).toNat
theorem fam_apart : ∀ k, k ≤ 4 → ((famV k 12).map hN).Nodup := by
  have key : ∀ k, (Bt.all ((famV k 12).map hN) .lf).isSome = true → ((famV k 12).map hN).Nodup := fun k h => by
    obtain ⟨t, ht⟩ := Option.isSome_iff_exists.mp h
    exact (Bt.all_nodup ht).1
  have k0 := key 0 (by decide +kernel)
  have k1 := key 1 (by decide +kernel)
  have k2 := key 2 (by decide +kernel)
  have k3 := key 3 (by decide +kernel)
  have k4 := key 4 (by decide +kernel)
  intro k hk
  have : k = 0 ∨ k = 1 ∨ k = 2 ∨ k = 3 ∨ k = 4 := by omega
  rcases this with rfl | rfl | rfl | rfl | rfl <;> assumption
theorem map_inj {α β : Type} {f : α → β} : ∀ {l : List α}, (l.map f).Nodup → ∀ {a b : α}, a ∈ l → b ∈ l → f a = f b → a = b
  | [], _, _, _, ha, _, _ => nomatch ha
  | x :: l, h, a, b, ha, hb, e => by
    obtain ⟨h1, h2⟩ := List.nodup_cons.mp (show (f x :: l.map f).Nodup from h)
    rcases List.mem_cons.mp ha with e1 | h3
    · rcases List.mem_cons.mp hb with e2 | h4
      · rw [e1, e2]
      · rw [← e1, e] at h1
        exact absurd (List.mem_map_of_mem h4) h1
    · rcases List.mem_cons.mp hb with e2 | h4
      · rw [← e2, ← e] at h1
        exact absurd (List.mem_map_of_mem h3) h1
      · exact map_inj h2 h3 h4 e
theorem mem_fam : ∀ {v : List Int} {k s : Nat}, v.length = k → (∀ x ∈ v, 0 ≤ x) → v.sum ≤ s → v ∈ famV k s
  | [], 0, _, _, _, _ => List.mem_singleton.mpr rfl
  | x :: v, k + 1, s, hl, h0, hs => by
    have hx := h0 x List.mem_cons_self
    have hv : ∀ y ∈ v, 0 ≤ y := fun y hy => h0 y (List.mem_cons_of_mem _ hy)
    have hv0 := (le_sum19 hv).1
    rw [List.sum_cons] at hs
    refine List.mem_flatMap.mpr ⟨x.toNat, List.mem_range.mpr (by omega), List.mem_map.mpr ⟨v, mem_fam (by simpa using hl) hv (by omega), ?_⟩⟩
    have : (x.toNat : Int) = x := by omega
    rw [this]
  | [], k + 1, _, h, _, _ => by cases h
  | _ :: _, 0, _, h, _, _ => by cases h
/-! ### what the dict holds -/
abbrev lI (l : List (List Int × Int)) : List (List Int × D) := l.map fun p => (p.1, .int p.2)
def gtV (l : List (List Int × Int)) (v : List Int) : Int := ((l.find? fun p => decide (p.1 = v)).map (·.2)).getD 0
def stV (l : List (List Int × Int)) (v : List Int) (i : Int) : List (List Int × Int) := if v ∈ l.map (·.1) then l.map (fun p => if p.1 = v then (p.1, i) else p) else l ++ [(v, i)]
theorem ks_lI (l : List (List Int × Int)) : ksR (lI l) = l.map (·.1) := by unfold ksR; rw [List.map_map]; rfl
theorem find_lI (v : List Int) : ∀ l : List (List Int × Int), valR (lI l) v = (l.find? fun p => decide (p.1 = v)).map fun p => PyData.int p.2
  | [] => rfl
  | p :: l => by
    have ih := find_lI v l
    unfold valR at ih ⊢
    rw [show lI (p :: l) = (p.1, PyData.int p.2) :: lI l from rfl, List.find?_cons, List.find?_cons]
    show Option.map _ (match decide (p.1 = v) with | true => _ | false => _) = _
    cases decide (p.1 = v) with
    | true => rfl
    | false => exact ih
theorem val_gt (l : List (List Int × Int)) (v : List Int) : (valR (lI l) v).getD (.int 0) = .int (gtV l v) := by
  rw [find_lI]
  unfold gtV
  cases l.find? fun p => decide (p.1 = v) <;> rfl
theorem val_at {l : List (List Int × Int)} {v : List Int} (h : v ∈ l.map (·.1)) : valR (lI l) v = some (.int (gtV l v)) := by
  have h1 : (valR (lI l) v).isSome = true := valR_some.mpr (by rw [ks_lI]; exact h)
  have h2 := val_gt l v
  cases hv : valR (lI l) v with
  | none => rw [hv] at h1; cases h1
  | some d => rw [hv] at h2; exact congrArg some h2
theorem gt_none {l : List (List Int × Int)} {v : List Int} (h : v ∉ l.map (·.1)) : gtV l v = 0 := by
  unfold gtV
  have : (l.find? fun p => decide (p.1 = v)) = none := List.find?_eq_none.mpr fun p hp hd => h (List.mem_map.mpr ⟨p, hp, by simpa using hd⟩)
  rw [this]
  rfl
theorem sto_lI (l : List (List Int × Int)) (v : List Int) (i : Int) : stoR (lI l) v (.int i) = lI (stV l v i) := by
  unfold stoR stV
  by_cases h : v ∈ l.map (·.1)
  · rw [if_pos (valR_some.mpr (by rw [ks_lI]; exact h)), if_pos h]
    simp only [lI, List.map_map]
    refine List.map_congr_left fun p _ => ?_
    show (if p.1 = v then (p.1, PyData.int i) else (p.1, PyData.int p.2)) = ((if p.1 = v then (p.1, i) else p).1, PyData.int (if p.1 = v then (p.1, i) else p).2)
    split <;> rfl
  · rw [if_neg (fun z => h (by rw [← ks_lI]; exact valR_some.mp z)), if_neg h]
    simp only [lI, List.map_append]
    rfl
theorem mem_stV {l : List (List Int × Int)} {v x : List Int} {i : Int} : x ∈ (stV l v i).map (·.1) ↔ x ∈ l.map (·.1) ∨ x = v := by
  have h := mem_stoR (kv := lI l) (S := v) (x := x) (d := .int i)
  rw [sto_lI, ks_lI, ks_lI] at h
  exact h
theorem nodup_stV {l : List (List Int × Int)} {v : List Int} {i : Int} (h : (l.map (·.1)).Nodup) : ((stV l v i).map (·.1)).Nodup := by
  have h := nodup_stoR (kv := lI l) (S := v) (d := .int i) (by rw [ks_lI]; exact h)
  rw [sto_lI, ks_lI] at h
  exact h
theorem find_repl (v u : List Int) (i : Int) : ∀ l : List (List Int × Int), ((l.map fun p : List Int × Int => if p.1 = v then (p.1, i) else p).find? fun p : List Int × Int => decide (p.1 = u)) = (l.find? fun p : List Int × Int => decide (p.1 = u)).map fun p : List Int × Int => if p.1 = v then (p.1, i) else p
  | [] => rfl
  | p :: l => by
    rw [List.map_cons, List.find?_cons, List.find?_cons]
    have e : (if p.1 = v then (p.1, i) else p).1 = p.1 := by split <;> rfl
    rw [e]
    cases decide (p.1 = u) with
    | true => rfl
    | false => exact find_repl v u i l
theorem gt_stV (l : List (List Int × Int)) (v u : List Int) (i : Int) : gtV (stV l v i) u = if u = v then i else gtV l u := by
  unfold stV
  by_cases h : v ∈ l.map (·.1)
  · rw [if_pos h]
    unfold gtV
    rw [find_repl]
    cases hf : l.find? fun p => decide (p.1 = u) with
    | none =>
      by_cases e : u = v
      · subst e
        obtain ⟨p, hp, hpe⟩ := List.mem_map.mp h
        have := List.find?_eq_none.mp hf p hp
        exact absurd (decide_eq_true hpe) this
      · rw [if_neg e]; rfl
    | some p =>
      have hp : p.1 = u := of_decide_eq_true (List.find?_some (p := fun p : List Int × Int => decide (p.1 = u)) hf)
      show (if p.1 = v then (p.1, i) else p).2 = if u = v then i else p.2
      rw [hp]
      split <;> rfl
  · rw [if_neg h]
    unfold gtV
    rw [List.find?_append]
    by_cases e : u = v
    · subst e
      have : (l.find? fun p => decide (p.1 = u)) = none := List.find?_eq_none.mpr fun p hp hd => h (List.mem_map.mpr ⟨p, hp, by simpa using hd⟩)
      rw [this, if_pos rfl, List.find?_cons, decide_eq_true rfl]
      rfl
    · rw [if_neg e, List.find?_cons, decide_eq_false (fun z => e z.symm)]
      cases l.find? fun p => decide (p.1 = u) <;> rfl
/-! ### one thing more -/
theorem snocInd {α : Type} {P : List α → Prop} (h0 : P []) (h : ∀ l x, P l → P (l ++ [x])) (l : List α) : P l := by
  have key : ∀ r : List α, P r.reverse := by
    intro r
    induction r with
    | nil => exact h0
    | cons x r ih => rw [List.reverse_cons]; exact h _ _ ih
  have := key l.reverse
  rwa [List.reverse_reverse] at this
def upV (p : Nat) (t : List Int) : List Int := t.set p (t.getD p 0 + 1)
def dnV (p : Nat) (t : List Int) : List Int := t.set p (t.getD p 0 - 1)
theorem up_iff {p : Nat} {t v : List Int} (hp : p < t.length) (hl : v.length = t.length) : v = upV p t ↔ dnV p v = t := by
  unfold upV dnV
  constructor
  · rintro rfl
    rw [List.set_set]
    have : (t.set p (t.getD p 0 + 1)).getD p 0 = t.getD p 0 + 1 := by simp [List.getD, hp]
    rw [this]
    have h2 : t.getD p 0 + 1 - 1 = t[p] := by simp [List.getD, hp]
    rw [h2, List.set_getElem_self]
  · rintro rfl
    have hv : p < v.length := by omega
    rw [List.set_set]
    have : (v.set p (v.getD p 0 - 1)).getD p 0 = v.getD p 0 - 1 := by simp [List.getD, hv]
    rw [this]
    have h2 : v.getD p 0 - 1 + 1 = v[p] := by simp [List.getD, hv]
    rw [h2, List.set_getElem_self]
def stepL (p : Nat) (C L : List (List Int × Int)) (t : List Int) : List (List Int × Int) := stV L (upV p t) (gtV L (upV p t) + gtV C t)
def moreL (p : Nat) (C : List (List Int × Int)) (ts : List (List Int)) : List (List Int × Int) := ts.foldl (stepL p C) C
theorem moreL_snoc (p : Nat) (C : List (List Int × Int)) (ts : List (List Int)) (t : List Int) : moreL p C (ts ++ [t]) = stV (moreL p C ts) (upV p t) (gtV (moreL p C ts) (upV p t) + gtV C t) := by
  unfold moreL
  rw [List.foldl_append]
  rfl
theorem more_gt {p k : Nat} {C : List (List Int × Int)} (hp : p < k) : ∀ (ts : List (List Int)), ts.Nodup → (∀ t ∈ ts, t.length = k) → ∀ v, v.length = k → gtV (moreL p C ts) v = gtV C v + if dnV p v ∈ ts then gtV C (dnV p v) else 0 := by
  intro ts
  induction ts using snocInd with
  | h0 => intro _ _ v _; show gtV C v = _; simp
  | h ts t ih =>
    intro hn hl v hv
    have hn1 : ts.Nodup := (List.nodup_append.mp hn).1
    have htn : t ∉ ts := fun h => (List.nodup_append.mp hn).2.2 t h t (by simp) rfl
    have hl1 : ∀ x ∈ ts, x.length = k := fun x hx => hl x (List.mem_append_left _ hx)
    have htl : t.length = k := hl t (by simp)
    rw [moreL_snoc, gt_stV]
    by_cases e : v = upV p t
    · have ed := (up_iff (by omega) (by omega)).mp e
      rw [if_pos e, ← e, ih hn1 hl1 v hv, ed, if_neg htn, if_pos (by simp)]
      omega
    · have ed : dnV p v ≠ t := fun z => e ((up_iff (by omega) (by omega)).mpr z)
      rw [if_neg e, ih hn1 hl1 v hv]
      have : dnV p v ∈ ts ++ [t] ↔ dnV p v ∈ ts := by simp [ed]
      by_cases h : dnV p v ∈ ts
      · rw [if_pos h, if_pos (this.mpr h)]
      · rw [if_neg h, if_neg (fun z => h (this.mp z))]
theorem more_keys {p : Nat} {C : List (List Int × Int)} {Q : List Int → Prop} (hC : ∀ t ∈ C.map (·.1), Q t) (hn : (C.map (·.1)).Nodup) : ∀ (ts : List (List Int)), (∀ t ∈ ts, Q (upV p t)) → ((moreL p C ts).map (·.1)).Nodup ∧ ∀ t ∈ (moreL p C ts).map (·.1), Q t := by
  intro ts
  induction ts using snocInd with
  | h0 => intro _; exact ⟨hn, hC⟩
  | h ts t ih =>
    intro h
    obtain ⟨h1, h2⟩ := ih fun x hx => h x (List.mem_append_left _ hx)
    rw [moreL_snoc]
    refine ⟨nodup_stV h1, fun x hx => ?_⟩
    rcases mem_stV.mp hx with hx | rfl
    · exact h2 x hx
    · exact h t (by simp)
/-- counts that the drawers hold -/
def Und (ns : List Nat) (v : List Int) : Prop := v.length = ns.length ∧ ∀ i, i < ns.length → 0 ≤ v.getD i 0 ∧ v.getD i 0 ≤ ns.getD i 0
theorem und_sum : ∀ {ns : List Nat} {v : List Int}, Und ns v → (∀ x ∈ v, 0 ≤ x) ∧ v.sum ≤ ns.sum
  | [], [], _ => ⟨fun _ h => (nomatch h), Int.le_refl _⟩
  | n :: ns, x :: v, ⟨hl, h⟩ => by
    obtain ⟨h1, h2⟩ := und_sum (ns := ns) (v := v) ⟨by simpa using hl, fun i hi => h (i + 1) (by simpa using hi)⟩
    have h0 : 0 ≤ x ∧ x ≤ n := h 0 (by simp)
    refine ⟨fun y hy => ?_, ?_⟩
    · rcases List.mem_cons.mp hy with rfl | hy
      · exact h0.1
      · exact h1 y hy
    · rw [List.sum_cons, List.sum_cons, Int.natCast_add]
      omega
  | [], _ :: _, ⟨h, _⟩ => by cases h
  | _ :: _, [], ⟨h, _⟩ => by cases h
theorem und_fam {ns : List Nat} {v : List Int} (h : Und ns v) (hs : ns.sum ≤ 12) : v ∈ famV ns.length 12 := by
  obtain ⟨h1, h2⟩ := und_sum h
  exact mem_fam h.1 h1 (by omega)
structure Cnt (ns : List Nat) (C : List (List Int × Int)) : Prop where
  nd : (C.map (·.1)).Nodup
  un : ∀ t ∈ C.map (·.1), Und ns t
  gt : ∀ v, v.length = ns.length → gtV C v = wV ns v
theorem Cnt.few {ns : List Nat} {L : List (List Int × Int)} (nd : (L.map (·.1)).Nodup) (un : ∀ t ∈ L.map (·.1), Und ns t) (hs : ns.sum ≤ 12) (h4 : ns.length ≤ 4) : L.length ≤ 1820 := by
  have h1 := nodup_le nd fun t ht => und_fam (un t ht) hs
  rw [List.length_map] at h1
  have h2 : ∀ k, k ≤ 4 → (famV k 12).length ≤ 1820 := fun k hk => by
    have : k = 0 ∨ k = 1 ∨ k = 2 ∨ k = 3 ∨ k = 4 := by omega
    rcases this with rfl | rfl | rfl | rfl | rfl <;> decide +kernel
  exact Nat.le_trans h1 (h2 _ h4)
theorem Cnt.apart {ns : List Nat} {C : List (List Int × Int)} (h : Cnt ns C) (hs : ns.sum ≤ 12) (h4 : ns.length ≤ 4) : apartR (lI C) := by
  refine ⟨?_, by rw [List.length_map]; exact Nat.le_trans (Cnt.few h.nd h.un hs h4) (by decide)⟩
  have e : ((lI C).map fun p => hashR p.1) = (C.map (·.1)).map hashR := by rw [List.map_map, List.map_map]; rfl
  rw [e]
  refine List.pairwise_map.mpr (h.nd.imp_of_mem fun {a b} ha hb hab z => hab ?_)
  exact map_inj (fam_apart _ h4) (und_fam (h.un a ha) hs) (und_fam (h.un b hb) hs) (by unfold hN; rw [z])
theorem und_up {ns : List Nat} {p : Nat} {t : List Int} (h : Und ns t) (hp : p < ns.length) : Und (ns.set p (ns.getD p 0 + 1)) (upV p t) := by
  unfold upV
  refine ⟨by rw [List.length_set, List.length_set]; exact h.1, fun i hi => ?_⟩
  rw [List.length_set] at hi
  have hl := h.1
  have h1 := h.2 i hi
  by_cases e : p = i
  · subst e
    have a1 : (t.set p (t.getD p 0 + 1)).getD p 0 = t.getD p 0 + 1 := by simp [List.getD, show p < t.length by omega]
    have a2 : (ns.set p (ns.getD p 0 + 1)).getD p 0 = ns.getD p 0 + 1 := by simp [List.getD, hi]
    rw [a1, a2]
    omega
  · have a1 : (t.set p (t.getD p 0 + 1)).getD i 0 = t.getD i 0 := by simp [List.getD, List.getElem?_set_ne e]
    have a2 : (ns.set p (ns.getD p 0 + 1)).getD i 0 = ns.getD i 0 := by simp [List.getD, List.getElem?_set_ne e]
    rw [a1, a2]
    exact h1
theorem und_mono {ns : List Nat} {p : Nat} {t : List Int} (h : Und ns t) (hp : p < ns.length) : Und (ns.set p (ns.getD p 0 + 1)) t := by
  refine ⟨by rw [List.length_set]; exact h.1, fun i hi => ?_⟩
  rw [List.length_set] at hi
  have h1 := h.2 i hi
  by_cases e : p = i
  · subst e
    have a2 : (ns.set p (ns.getD p 0 + 1)).getD p 0 = ns.getD p 0 + 1 := by simp [List.getD, hi]
    rw [a2]
    omega
  · have a2 : (ns.set p (ns.getD p 0 + 1)).getD i 0 = ns.getD i 0 := by simp [List.getD, List.getElem?_set_ne e]
    rw [a2]
    exact h1
theorem Cnt.more {ns : List Nat} {C : List (List Int × Int)} {p : Nat} (h : Cnt ns C) (hp : p < ns.length) : Cnt (ns.set p (ns.getD p 0 + 1)) (moreL p C (C.map (·.1))) := by
  obtain ⟨k1, k2⟩ := more_keys (p := p) (Q := Und (ns.set p (ns.getD p 0 + 1))) (fun t ht => und_mono (h.un t ht) hp) h.nd (C.map (·.1)) fun t ht => und_up (h.un t ht) hp
  refine ⟨k1, k2, fun v hv => ?_⟩
  rw [List.length_set] at hv
  have hd : (dnV p v).length = ns.length := by unfold dnV; rw [List.length_set]; exact hv
  rw [more_gt hp _ h.nd (fun t ht => (h.un t ht).1) v hv, wV_more ns v p hp hv, h.gt v hv]
  congr 1
  show _ = wV ns (dnV p v)
  rw [← h.gt _ hd]
  by_cases hm : dnV p v ∈ C.map (·.1)
  · rw [if_pos hm]
  · rw [if_neg hm, gt_none hm]
theorem Cnt.zero (k : Nat) : Cnt (List.replicate k 0) [(List.replicate k 0, 1)] := by
  refine ⟨by simp, fun t ht => ?_, fun v hv => ?_⟩
  · rw [List.mem_singleton.mp ht]
    refine ⟨by simp, fun i hi => ?_⟩
    have hi : i < k := by simpa using hi
    simp [List.getD, hi]
  · rw [wV_zero k v (by simpa using hv)]
    unfold gtV
    rw [List.find?_cons]
    by_cases e : v = List.replicate k 0
    · subst e
      rw [decide_eq_true rfl, if_pos rfl]
      rfl
    · rw [decide_eq_false (fun z => e z.symm), if_neg e]
      rfl
theorem row_mem {T : List (List Int)} {d : Nat} (h : d < T.length) : T.getD d [] ∈ T := by
  rw [List.getD_eq_getElem?_getD, List.getElem?_eq_getElem h]
  exact List.getElem_mem h
theorem Run.up {α : Type} {x : Z α} {ob ob1 : List Cell} {a : α} (h : Run x ob a ob1) : Run (OverZ.up x) ob a ob1 := h
/-! ### k26: the listing runs -/
theorem run_dispI {ob : List Cell} {S : List Int} {b : Int} : Run (dispR (kI S) (.int b)) ob (refD ob.length) (ob ++ [.dir (lI [(S, b)])]) := fun n φ q => ⟨S, rowO_ok S, .int b, rfl, q⟩
theorem run_dirD {ob : List Cell} {k : Nat} {kv : List (List Int × D)} (h : ob[k]? = some (.dir kv)) : Run (dirD (refD k)) ob (k, kv) ob := fun n φ q => ⟨k, kv, own_ref k, h, q⟩
theorem run_copyR {ob : List Cell} {k : Nat} {kv : List (List Int × D)} (h : ob[k]? = some (.dir kv)) (ha : apartR kv) : Run (copyR (refD k)) ob (refD ob.length) (ob ++ [.dir kv]) := fun n φ q => ⟨k, kv, own_ref k, h, ha, q⟩
theorem run_listR {ob : List Cell} {k : Nat} {kv : List (List Int × D)} (h : ob[k]? = some (.dir kv)) (hl : (keysR kv).length ≤ 1000000) : Run (listR (refD k)) ob (keysR kv) ob := fun n φ q => ⟨k, kv, own_ref k, h, keysR kv, small_ok hl, q⟩
theorem run_getRI {ob : List Cell} {k : Nat} {l : List (List Int × Int)} {S : List Int} (h : ob[k]? = some (.dir (lI l))) : Run (getR (refD k) (kI S) (.int 0)) ob (.int (gtV l S)) ob := fun n φ q => ⟨k, lI l, own_ref k, h, S, rowO_ok S, by
  show φ ((valR (lI l) S).getD (.int 0)) ⟨n, ob⟩
  rw [val_gt]
  exact q⟩
theorem run_ixRI {ob : List Cell} {k : Nat} {l : List (List Int × Int)} {S : List Int} (h : ob[k]? = some (.dir (lI l))) (hm : S ∈ l.map (·.1)) : Run (ixR (refD k) (kI S)) ob (.int (gtV l S)) ob := fun n φ q => ⟨k, lI l, own_ref k, h, S, rowO_ok S, .int (gtV l S), val_at hm, q⟩
theorem run_setRI {ob : List Cell} {k : Nat} {l : List (List Int × Int)} {S : List Int} {b : Int} (h : ob[k]? = some (.dir (lI l))) (hl : l.length < 1000000) : Run (setRR (refD k) (kI S) (.int b)) ob () (ob.set k (.dir (lI (stV l S b)))) := fun n φ q => ⟨k, own_ref k, lI l, h, S, rowO_ok S, .int b, rfl, (), fits_ok (by rw [List.length_map]; exact hl), by
  rw [sto_lI]
  exact q⟩
theorem keys_lI (l : List (List Int × Int)) : keysR (lI l) = (l.map (·.1)).map kI := by unfold keysR; rw [List.map_map, List.map_map]; rfl
theorem up_parts {t : List Int} {p : Nat} (h : p < t.length) : t.take p ++ [t.getD p 0 + 1] ++ t.drop (p + 1) = upV p t := by
  unfold upV
  rw [List.append_assoc, List.singleton_append, List.set_eq_take_append_cons_drop, if_pos h]
/-- sizes of the drawers ahead, so many things of the drawer at hand -/
def nsQ (s : List Nat) (i t : Nat) : List Nat := s.take i ++ t :: List.replicate (s.length - i - 1) 0
theorem nsQ_len {s : List Nat} {i t : Nat} (h : i < s.length) : (nsQ s i t).length = s.length := by
  unfold nsQ
  rw [List.length_append, List.length_take, List.length_cons, List.length_replicate]
  omega
theorem nsQ_at {s : List Nat} {i t : Nat} (h : i < s.length) : (nsQ s i t).getD i 0 = t := by
  unfold nsQ
  rw [List.getD_eq_getElem?_getD, List.getElem?_append_right (by rw [List.length_take]; omega), List.length_take, show i - min i s.length = 0 by omega]
  rfl
theorem nsQ_set {s : List Nat} {i t u : Nat} (h : i < s.length) : (nsQ s i t).set i u = nsQ s i u := by
  unfold nsQ
  rw [List.set_append_right _ _ (by rw [List.length_take]; omega), List.length_take, show i - min i s.length = 0 by omega]
  rfl
theorem nsQ_next {s : List Nat} {i : Nat} (h : i + 1 < s.length) : nsQ s (i + 1) 0 = nsQ s i (s.getD i 0) := by
  unfold nsQ
  have e1 : s.take (i + 1) = s.take i ++ [s.getD i 0] := by
    rw [List.take_succ, List.getElem?_eq_getElem (by omega), List.getD_eq_getElem?_getD, List.getElem?_eq_getElem (by omega)]
    rfl
  rw [e1, List.append_assoc, List.singleton_append, show s.length - i - 1 = (s.length - (i + 1) - 1) + 1 by omega, List.replicate_succ]
theorem nsQ_last {s : List Nat} {i : Nat} (h : i + 1 = s.length) : nsQ s i (s.getD i 0) = s := by
  unfold nsQ
  rw [show s.length - i - 1 = 0 by omega]
  have e1 : s.take (i + 1) = s.take i ++ [s.getD i 0] := by
    rw [List.take_succ, List.getElem?_eq_getElem (by omega), List.getD_eq_getElem?_getD, List.getElem?_eq_getElem (by omega)]
    rfl
  show s.take i ++ [s.getD i 0] = s
  rw [← e1, h, List.take_length]
theorem nsQ_first {s : List Nat} (h : 0 < s.length) : nsQ s 0 0 = List.replicate s.length 0 := by
  unfold nsQ
  rw [List.take_zero, List.nil_append, ← List.replicate_succ]
  congr 1
  omega
theorem nsQ_sum {s : List Nat} {i t : Nat} (h : i < s.length) (ht : t ≤ s.getD i 0) : (nsQ s i t).sum ≤ s.sum := by
  unfold nsQ
  have e0 : ∀ n, (List.replicate n 0).sum = 0 := fun n => by
    induction n with
    | zero => rfl
    | succ n ih => rw [List.replicate_succ, List.sum_cons, ih]
  have e1 : s = s.take i ++ s.getD i 0 :: s.drop (i + 1) := by
    have := List.take_append_drop i s
    rw [List.drop_eq_getElem_cons h] at this
    have e2 : s.getD i 0 = s[i] := by rw [List.getD_eq_getElem?_getD, List.getElem?_eq_getElem h]; rfl
    rw [e2]
    exact this.symm
  have e3 : s.sum = (s.take i).sum + (s.getD i 0 + (s.drop (i + 1)).sum) := by
    rw [← List.sum_cons, ← List.sum_append_nat, ← e1]
  rw [List.sum_append_nat, List.sum_cons, e0]
  omega
structure Lst (ob0 : List Cell) (ns : List Nat) (a : D) (ob : List Cell) : Prop where
  ex : ∃ (E : List Cell) (k : Nat) (C : List (List Int × Int)), ob = ob0 ++ E ∧ a = refD k ∧ ob[k]? = some (.dir (lI C)) ∧ Cnt ns C
theorem run_listed {S : List (List Int)} {P : List Int} (h1 : 1 ≤ S.length) (h4 : S.length ≤ 4) (hr : ∀ r ∈ S, 0 ≤ r.sum) (h12 : (S.map fun r => r.sum.toNat).sum ≤ 12) (hP : P.length = S.length) (ob0 : List Cell) :
    RunS (m__law_listed (tT S) (tI P)) ob0 (fun d o => (∃ l, o = ob0 ++ l) ∧ d = .int (duV S P)) := by
  have sl : (S.map fun r => r.sum.toNat).length = S.length := List.length_map ..
  generalize hs : (S.map fun r => r.sum.toNat) = s at h12 sl
  have hsi : ∀ i, i < S.length → s.getD i 0 = (S.getD i []).sum.toNat := fun i hi => by
    rw [← hs]
    simp [List.getD, hi]
  have h200 : ∀ i, i < S.length → (S.getD i []).sum.toNat ≤ 12 := fun i hi => by
    rw [← hsi i hi]
    have := nsQ_sum (s := s) (i := i) (t := s.getD i 0) (by omega) (Nat.le_refl _)
    unfold nsQ at this
    rw [List.sum_append_nat, List.sum_cons] at this
    omega
  unfold m__law_listed
  simp only [op2, op1, cmp2, chain3, tst, notB, andB, orB, andD, orD, iteM, consM, starM, smallM, tupM, tupSM, lstM, argV, argK, comp1, comp1i, comp2, comp2i, comp11, seqM, rng1, rng2, zipSM, zip2M, zip3M, enumM, repM, joinM, catM, par3LM, put2M, popM, parLV, putVM, unpS, trg1M, sortSetM, orV, lrg1M, par3M, rdM, rdLM, partM, slcM, isiM, rtM, forM1, forM2, forM3, parM, unp2, unp3, unp2A, unp3A, unp4A, zb_assoc, zb_pure, zl_some, zb_some, zx_assoc, zx_pure, zx_some, upz_pure, add_int, sub_int, lt_int, le_int, gt_int, ge_int, eq_int, ne_int, min_int, max_int, neg_int, bool_bool, not_bool, is_none, isn_none, nn_int, nn_none, nn_tup, len_tup, len_lst, tup_lst, tup_tup, it_lst, it_tup, int_bool, int_int, oint_int, addI_int, subI_int, flat_tI, flat_int, flat_none, Option.bind_some, Option.map_some, Int.zero_add, thenB, thenM, List.nil_append, List.length_map]
  refine RunS.bL (mul_one (by omega) (by omega)) ?_
  rw [Int.toNat_natCast]
  have ez : PyData.tuple (List.replicate S.length (PyData.int 0)) = kI (List.replicate S.length 0) := by simp
  rw [ez]
  refine RunS.r (Run.up run_dispI) ?_
  refine RunS.bL (range1_nat (by omega) (by omega)) ?_
  rw [Int.toNat_natCast]
  have start : Lst ob0 (nsQ s 0 0) (refD ob0.length) (ob0 ++ [.dir (lI [(List.replicate S.length 0, 1)])]) := by
    refine ⟨_, ob0.length, _, rfl, rfl, by rw [List.getElem?_append_right (Nat.le_refl _), Nat.sub_self]; rfl, ?_⟩
    rw [nsQ_first (by omega), sl]
    exact Cnt.zero _
  refine RunS.bind (RunS.loop (F := fun i : Nat => PyData.int (i : Nat)) (I := fun p a ob => ∃ i t, i < S.length ∧ (p.length = i ∧ t = 0 ∨ p.length = i + 1 ∧ t = s.getD i 0) ∧ Lst ob0 (nsQ s i t) a ob) (List.range S.length) ?_ ⟨0, 0, by omega, .inl ⟨rfl, rfl⟩, start⟩) ?_
  · rintro p i q a ob e ⟨i0, t0, hi0, hp, L⟩
    have hi : i = p.length ∧ i < S.length := by
      have e2 : (List.range S.length)[p.length]? = some i := by rw [e]; simp
      have hlt : p.length < S.length := by
        have := congrArg List.length e
        simp at this
        omega
      rw [List.getElem?_range hlt] at e2
      cases e2
      exact ⟨rfl, hlt⟩
    have L : Lst ob0 (nsQ s i 0) a ob := by
      rcases hp with ⟨a1, rfl⟩ | ⟨a1, rfl⟩
      · rw [hi.1, a1]; exact L
      · rw [hi.1, a1, nsQ_next (by omega)]; exact L
    have hil := hi.2
    have e3 : sumD (PyData.list ((S.getD i []).map PyData.int)) = some (.int (S.getD i []).sum) := sum_lI _
    have h0 : 0 ≤ (S.getD i []).sum := hr _ (row_mem hil)
    refine RunS.bL (get_row hil) (RunS.bL (show listD (tI (S.getD i [])) = some (.list ((S.getD i []).map .int)) from rfl) (RunS.bL e3 (RunS.bL (range1_nat (by have := h200 i hil; omega) h0) ?_)))
    refine RunS.bind (RunS.loop (F := fun i : Nat => PyData.int (i : Nat)) (I := fun p a ob => Lst ob0 (nsQ s i p.length) a ob) (List.range (S.getD i []).sum.toNat) ?_ L) ?_
    · rintro p t q a ob e2 ⟨E, k, C, rfl, rfl, hk, hC⟩
      have hpt : p.length < (S.getD i []).sum.toNat := by
        have := congrArg List.length e2
        rw [List.length_range, List.length_append, List.length_cons] at this
        omega
      have nl : (nsQ s i p.length).length = S.length := by rw [nsQ_len (by omega), sl]
      have nsum : (nsQ s i p.length).sum ≤ 12 := Nat.le_trans (nsQ_sum (by omega) (by rw [hsi i hil]; omega)) h12
      have ha := hC.apart nsum (by omega)
      have hM := hC.more (p := i) (by omega)
      have hkl := (List.getElem?_eq_some_iff.mp hk).1
      refine RunS.r (Run.up (run_copyR hk ha)) ?_
      generalize ho : ob0 ++ E = ob at hk hkl
      have hk2 : (ob ++ [Cell.dir (lI C)])[k]? = some (.dir (lI C)) := by rw [List.getElem?_append_left hkl]; exact hk
      refine RunS.r (Run.up (run_listR hk2 (by unfold keysR; rw [List.length_map]; exact ha.2))) ?_
      rw [keys_lI]
      have few : ∀ ts, (∀ x ∈ ts, x ∈ C.map (·.1)) → (moreL i C ts).length ≤ 1820 := fun ts hts => by
        obtain ⟨k1, k2⟩ := more_keys (p := i) (Q := Und ((nsQ s i p.length).set i ((nsQ s i p.length).getD i 0 + 1))) (fun t ht => und_mono (hC.un t ht) (by omega)) hC.nd ts fun t ht => und_up (hC.un t (hts t ht)) (by omega)
        refine Cnt.few k1 k2 ?_ (by rw [List.length_set]; omega)
        rw [nsQ_at (by omega), nsQ_set (by omega)]
        exact Nat.le_trans (nsQ_sum (by omega) (by rw [hsi i hil]; omega)) h12
      refine RunS.bind (RunS.loop (F := kI) (I := fun ts a o => a = refD ob.length ∧ o = ob ++ [.dir (lI (moreL i C ts))]) (C.map (·.1)) ?_ ⟨rfl, rfl⟩) ?_
      · rintro ts x q3 a o e3 ⟨rfl, rfl⟩
        have hx : x ∈ C.map (·.1) := by rw [e3]; simp
        have hts : ∀ y ∈ ts, y ∈ C.map (·.1) := fun y hy => by rw [e3]; simp [hy]
        have hxl : x.length = S.length := by rw [(hC.un x hx).1, nl]
        have hk3 : (ob ++ [Cell.dir (lI (moreL i C ts))])[k]? = some (.dir (lI C)) := by rw [List.getElem?_append_left hkl]; exact hk
        have hk4 : (ob ++ [Cell.dir (lI (moreL i C ts))])[ob.length]? = some (.dir (lI (moreL i C ts))) := by rw [List.getElem?_append_right (Nat.le_refl _), Nat.sub_self]; rfl
        refine RunS.bL (oint_int _) (RunS.bL (cut_lo (by omega) (by omega)) (RunS.bL (at_int (by omega)) (RunS.bL (add_int _ _) (RunS.bL (add_tup (by simp; omega)) (RunS.bL (add_int _ _) (RunS.bL (oint_int _) (RunS.bL (cut_hi (by omega) (by omega)) (RunS.bL (add_tup (by simp; omega)) ?_))))))))
        have em : PyData.tuple ((x.take ((i : Int)).toNat).map PyData.int ++ [PyData.int (x.getD i 0 + 1)] ++ (x.drop ((i : Int) + 1).toNat).map PyData.int) = kI (upV i x) := by
          rw [← up_parts (by omega), Int.toNat_natCast, show ((i : Int) + 1).toNat = i + 1 by omega]
          simp
        rw [em]
        refine RunS.r (Run.up (run_dirD hk4)) (RunS.r (Run.up (run_getRI hk4)) (RunS.r (Run.up (run_ixRI hk3 hx)) (RunS.bL (add_int _ _) (RunS.r (Run.up (run_setRI hk4 (by have := few ts hts; omega))) (RunS.pure ⟨_, rfl, rfl, ?_⟩)))))
        rw [List.set_append_right _ _ (Nat.le_refl _), Nat.sub_self, moreL_snoc]
        rfl
      · rintro _ o ⟨a', rfl, rfl, rfl⟩
        refine RunS.pure ⟨_, rfl, ?_⟩
        rw [nsQ_at (by omega), nsQ_set (by omega)] at hM
        rw [List.length_append, List.length_singleton]
        exact ⟨E ++ [.dir (lI (moreL i C (C.map (·.1))))], ob.length, _, by rw [← ho, List.append_assoc], rfl, by rw [List.getElem?_append_right (Nat.le_refl _), Nat.sub_self]; rfl, hM⟩
    · rintro _ o ⟨a', rfl, L2⟩
      rw [List.length_range] at L2
      exact RunS.pure ⟨a', rfl, i, s.getD i 0, hil, .inr ⟨by rw [List.length_append, List.length_singleton, hi.1], rfl⟩, by rw [hsi i hil]; exact L2⟩
  · rintro _ o ⟨a', rfl, i, t, hi, hp, L⟩
    rw [List.length_range] at hp
    obtain ⟨hp1, rfl⟩ : S.length = i + 1 ∧ t = s.getD i 0 := by
      rcases hp with ⟨a1, _⟩ | a1
      · omega
      · exact a1
    rw [nsQ_last (by omega)] at L
    obtain ⟨E, k, C, rfl, rfl, hk, hC⟩ := L
    refine RunS.r (Run.up (run_dirD hk)) (RunS.of (Run.up (run_getRI hk)) ⟨⟨E, rfl⟩, ?_⟩)
    rw [hC.gt P (by omega)]
    unfold duV
    rw [hs]
theorem TrZ.bindP {α β : Type} {c : Nat} {g' : List Sl} {o : Option α} {a : α} {f : α → Z β} {χ : β → Prop} (hs : okSl g' = true) (e : o = some a) (h : TrZ c (f a) χ) : TrZ c (OverZ.up (hidP g' o) >>= f) χ := fun d E n ψ hn q => ⟨hs, rfl, a, e, h d E n ψ hn q⟩
theorem at_mem {l : List Int} {i : Nat} (h : i < l.length) : l.getD i 0 ∈ l := by
  rw [List.getD_eq_getElem?_getD, List.getElem?_eq_getElem h]
  exact List.getElem_mem h
theorem set_sum1 : ∀ (p : List Int) (d : Nat) (v : Int), d < p.length → (p.set d v).sum = p.sum - p.getD d 0 + v
  | [], _, _, h => by simp at h
  | x :: p, 0, v, _ => by simp; omega
  | x :: p, d + 1, v, h => by
    have := set_sum1 p d v (by simpa using h)
    simp at this ⊢
    omega
/-! ### the next drawn number -/
theorem next_at {k : Int} (h0 : 0 < k) (h1 : k < 1073741824) {d : Nat} {E : List Cell} {n : Wd} {ψ : D → Wd → Prop} (hn : DkZ (1 + d) E n) (q : ∀ (r : Int) (n' : Wd), 0 ≤ r → r < k → DkZ d E n' → ψ (.int r) n') : m__law_next (refL 0) (.int k) n ψ := by
  obtain ⟨c, cs, rs, e, hl, l0, l1, hr, c0, c1⟩ := hn
  have eb0 : n.ob[0]? = some (.lst [refL 1, .int c, refL 2]) := by rw [e]; rfl
  have eb1 : n.ob[1]? = some (.lst (cs.map .int)) := by rw [e]; rfl
  have hm : c % (cs.length : Int) = ((c % (cs.length : Int)).toNat : Nat) := by
    have := Int.emod_nonneg c (show (cs.length : Int) ≠ 0 by omega)
    omega
  have hlt : (c % (cs.length : Int)).toNat < cs.length := by
    have := Int.emod_lt_of_pos c (show (0 : Int) < (cs.length : Int) by omega)
    omega
  generalize (c % (cs.length : Int)).toNat = i at hm hlt
  have e1 : (⟨n.n, n.ob.set 0 (.lst [refL 1, .int (c + 1), refL 2])⟩ : Wd).ob = deck3 (c + 1) cs rs ++ E := by
    show n.ob.set 0 _ = _
    rw [e]
    rfl
  have dk1 : DkZ d E ⟨n.n, n.ob.set 0 (.lst [refL 1, .int (c + 1), refL 2])⟩ := ⟨c + 1, cs, rs, e1, hl, l0, l1, hr, by omega, by omega⟩
  generalize hn1 : (⟨n.n, n.ob.set 0 (.lst [refL 1, .int (c + 1), refL 2])⟩ : Wd) = n1 at e1 dk1
  have eb2 : n1.ob[2]? = some (.lst (rs.map .int)) := by rw [e1]; rfl
  have eb3 : n1.ob[1]? = some (.lst (cs.map .int)) := by rw [e1]; rfl
  unfold m__law_next
  simp only [op2, op1, cmp2, chain3, tst, notB, andB, orB, andD, orD, iteM, consM, starM, smallM, tupM, tupSM, lstM, argV, argK, comp1, comp1i, comp2, comp2i, comp11, seqM, rng1, rng2, zipSM, zip2M, zip3M, enumM, repM, joinM, catM, par3LM, put2M, popM, parLV, putVM, unpS, trg1M, sortSetM, orV, lrg1M, par3M, rdM, rdLM, partM, slcM, isiM, rtM, forM1, forM2, forM3, parM, unp2, unp3, unp2A, unp3A, unp4A, zb_assoc, zb_pure]
  refine zTrip eb0 (zLen eb1 (zL (a := .int (i : Nat)) ?_ (zL (add_int _ _) (zSet eb0 (es := [refL 1, .int (c + 1), refL 2]) rfl ?_))))
  · rw [List.length_map, mod_int (by omega), hm]
  rw [hn1]
  refine zIx eb2 (at_intL (by omega)) (zL (a := decide (0 < rs.getD i 0)) (by rw [gt_int]; rfl) ?_)
  by_cases hp : 0 < rs.getD i 0
  · rw [if_pos (by rw [decide_eq_true_eq]; exact hp)]
    refine zIx eb2 (at_intL (by omega)) (zL (mod_int h0) (zIx eb2 (at_intL (by omega)) (zL (div_int h0 h1) (zSet eb2 (es := (rs.set i (rs.getD i 0 / k)).map .int) ?_ ?_))))
    · rw [put_at (by rw [List.length_map]; omega), List.map_set]
    · refine q _ _ (Int.emod_nonneg _ (by omega)) (Int.emod_lt_of_pos _ h0) ⟨c + 1, cs, rs.set i (rs.getD i 0 / k), ?_, by rw [List.length_set]; exact hl, l0, l1, fun r hrm => ?_, by omega, by omega⟩
      · show n1.ob.set 2 _ = _
        rw [e1]
        rfl
      · rcases List.mem_or_eq_of_mem_set hrm with h | h
        · exact hr r h
        · rw [h]
          exact Int.ediv_nonneg (Int.le_of_lt hp) (Int.le_of_lt h0)
  · rw [if_neg (by rw [decide_eq_true_eq]; exact hp)]
    refine zIx eb3 (at_intL (by omega)) ?_
    have a1 := Int.emod_nonneg (cs.getD i 0) (show (2147483629 : Int) ≠ 0 by decide)
    have a2 := Int.emod_lt_of_pos (cs.getD i 0) (show (0 : Int) < 2147483629 by decide)
    have pw : ∀ x : Int, 0 ≤ x → x < 2 ^ 63 → powD (.int x) (.int 3) = some (.int (x ^ 3)) := fun x x0 x1 => by
      show (if (0 : Int) ≤ 3 ∧ (3 : Int) ≤ 1000000 ∧ x.natAbs < 2 ^ 64 then some (PyData.int (x ^ (3 : Int).toNat)) else none) = _
      rw [if_pos ⟨by decide, by decide, by omega⟩]
      rfl
    refine zL (mod_int (by decide)) (zL (mul_int (.inl (by decide))) (zL (add_int _ _) (zL (add_int _ _) (zL (pw _ (by omega) (by omega)) (zL (mod_int (by decide)) ?_)))))
    generalize hx : ((cs.getD i 0 % 2147483629 + 40037 * c + 9203) ^ 3 % 2147483587 : Int) = x
    have x0 : 0 ≤ x := by rw [← hx]; exact Int.emod_nonneg _ (by decide)
    have x1 : x < 2147483587 := by rw [← hx]; exact Int.emod_lt_of_pos _ (by decide)
    have c24 : c ≤ 16777216 := by omega
    have cc0 : 0 ≤ 5039 * c * c := Int.mul_nonneg (by omega) c0
    have cc1 : 5039 * c * c ≤ 5039 * 16777216 * 16777216 := Int.mul_le_mul (by omega) c24 c0 (by decide)
    refine zL (mul_int (.inl (by decide))) (zL (mul_int (.inl ⟨by omega, by omega⟩)) (zL (add_int _ _) (zL (add_int _ _) (zL (pw _ (by omega) (by omega)) (zL (mod_int (by decide)) ?_)))))
    generalize ((x + 5039 * c * c + 43) ^ 3 % 2147483563 : Int) = y
    refine zL (mul_int (.inr (by decide))) (zL (mod_int (by decide)) (zL (div_int (by decide) (by decide)) ?_))
    exact ⟨_, mod_int h0, q _ _ (Int.emod_nonneg _ (by omega)) (Int.emod_lt_of_pos _ h0) dk1⟩
theorem TrZ.draw {k : Int} (h0 : 0 < k) (h1 : k < 1073741824) : TrZ 1 (M__law_next [.val (refL 0), .val (.int k)]) (fun d => ∃ r : Int, d = .int r ∧ 0 ≤ r ∧ r < k) := fun d E n ψ hn q => by
  refine next_at h0 h1 hn fun r n' r0 r1 hn' => q _ [] n' (by rw [List.append_nil]; exact hn') ⟨r, rfl, r0, r1⟩
theorem TrZ.dr {β : Type} {d : Nat} {k : Int} {f : D → Z β} {χ : β → Prop} (h0 : 0 < k) (h1 : k < 1073741824) (hf : ∀ r : Int, 0 ≤ r → r < k → TrZ (d - 1) (f (.int r)) χ) (hd : 1 ≤ d := by decide) : TrZ d (M__law_next [.val (refL 0), .val (.int k)] >>= f) χ :=
  (TrZ.draw h0 h1).st (fun a ⟨r, e, r0, r1⟩ => e ▸ hf r r0 r1) hd
/-! ### a drawn stock: rows as cells -/
abbrev RowsC (rows : List (List Int)) : List Cell := rows.map fun r => Cell.lst (r.map PyData.int)
structure Shp (w k : Nat) (T : Int) (rows : List (List Int)) : Prop where
  len : rows.length = w
  row : ∀ r ∈ rows, r.length = k
  ge : ∀ r ∈ rows, ∀ x ∈ r, 0 ≤ x ∧ x ≤ T
  sum : (rows.map List.sum).sum = T
theorem newRows {Z0 : List D} : ∀ (ds acc : List D) (n : Wd) (ψ : List D → Wd → Prop), ψ (acc ++ (List.range ds.length).map fun i => refL (n.ob.length + i)) ⟨n.n, n.ob ++ List.replicate ds.length (.lst Z0)⟩ → lcA (fun _ => someM (newZ Z0)) ds acc n ψ
  | [], acc, n, ψ, h => by
    have e : (⟨n.n, n.ob ++ List.replicate 0 (.lst Z0)⟩ : Wd) = n := by simp
    have h : ψ (acc ++ []) ⟨n.n, n.ob ++ List.replicate 0 (.lst Z0)⟩ := h
    rw [List.append_nil, e] at h
    exact h
  | d :: ds, acc, n, ψ, h => by
    show lcA (fun _ => someM (newZ Z0)) ds (acc ++ [refL n.ob.length]) ⟨n.n, n.ob ++ [.lst Z0]⟩ ψ
    refine newRows ds _ _ _ ?_
    have e1 : (acc ++ [refL n.ob.length]) ++ ((List.range ds.length).map fun i => refL ((n.ob ++ [Cell.lst Z0]).length + i)) = acc ++ (List.range (d :: ds).length).map fun i => refL (n.ob.length + i) := by
      rw [List.length_cons, List.range_succ_eq_map, List.map_cons, List.map_map, List.append_assoc]
      congr 1
      show refL n.ob.length :: _ = refL (n.ob.length + 0) :: _
      congr 1
      refine List.map_congr_left fun i _ => ?_
      show refL _ = refL _
      congr 1
      simp
      omega
    have e2 : (n.ob ++ [Cell.lst Z0]) ++ List.replicate ds.length (Cell.lst Z0) = n.ob ++ List.replicate (d :: ds).length (Cell.lst Z0) := by
      rw [List.append_assoc, List.length_cons, List.replicate_succ]
      rfl
    show ψ ((acc ++ [refL n.ob.length]) ++ _) ⟨n.n, (n.ob ++ [Cell.lst Z0]) ++ _⟩
    rw [e1, e2]
    exact h
theorem readRows {rows : List (List Int)} {L : Nat} {n : Wd} {ψ : List D → Wd → Prop} : ∀ (is : List Nat) (acc : List D), (∀ i ∈ is, n.ob[L + i]? = some (.lst ((rows.getD i []).map .int))) → ψ (acc ++ is.map fun i => tI (rows.getD i [])) n → lcA (fun d => someM (tupleZ d)) (is.map fun i => refL (L + i)) acc n ψ
  | [], acc, _, h => by
    have h : ψ (acc ++ []) n := h
    rw [List.append_nil] at h
    exact h
  | i :: is, acc, hi, h => by
    show (tupleZ (refL (L + i)) >>= fun y => lcA (fun d => someM (tupleZ d)) (is.map fun i => refL (L + i)) (acc ++ (some y).toList)) n ψ
    refine zTup (hi i List.mem_cons_self) (readRows is _ (fun j hj => hi j (List.mem_cons_of_mem _ hj)) ?_)
    have e : acc ++ (some (PyData.tuple ((rows.getD i []).map PyData.int))).toList ++ (is.map fun i => tI (rows.getD i [])) = acc ++ (i :: is).map fun i => tI (rows.getD i []) := by simp
    rw [e]
    exact h
theorem zB {α β : Type} {x : Z α} {f : α → Z β} {n : Wd} {ψ : β → Wd → Prop} (h : x n (fun a n' => f a n' ψ)) : (x >>= f) n ψ := h
theorem turnsZ {f : D → Unit → Z (Fl Unit)} {I : Nat → Nat → Wd → Prop} (hf : ∀ x i d n ψ, I i (d + 1) n → (∀ n', I (i + 1) d n' → ψ (.nx ()) n') → f x () n ψ) : ∀ (ds : List D) (i d : Nat) (n : Wd) (ψ : Fl Unit → Wd → Prop), I i (d + ds.length) n → (∀ n', I (i + ds.length) d n' → ψ (.nx ()) n') → loopM f ds () n ψ
  | [], i, d, n, ψ, h, q => q n h
  | x :: ds, i, d, n, ψ, h, q => by
    unfold loopM
    refine zB (hf x i (d + ds.length) n _ (by rw [List.length_cons] at h; exact h) fun n' hn' => ?_)
    exact turnsZ hf ds (i + 1) d n' ψ hn' fun n2 h2 => q n2 (by rw [List.length_cons]; rwa [show i + (ds.length + 1) = i + 1 + ds.length by omega])
theorem row_at {d : Nat} {E : List Cell} {rows : List (List Int)} {n : Wd} {i : Nat} (h : DkZ d (E ++ RowsC rows) n) (hi : i < rows.length) : n.ob[3 + E.length + i]? = some (.lst ((rows.getD i []).map .int)) := by
  obtain ⟨c, cs, rs, e, _⟩ := h
  rw [e, List.getElem?_append_right (by show 3 ≤ _; omega), List.getElem?_append_right (by show E.length ≤ 3 + E.length + i - 3; omega), List.getElem?_map]
  have e2 : 3 + E.length + i - (deck3 c cs rs).length - E.length = i := by show 3 + E.length + i - 3 - E.length = i; omega
  rw [e2, List.getElem?_eq_getElem hi, List.getD_eq_getElem?_getD, List.getElem?_eq_getElem hi]
  rfl
theorem row_set {d : Nat} {E : List Cell} {rows : List (List Int)} {n : Wd} {i : Nat} {r : List Int} (h : DkZ d (E ++ RowsC rows) n) (hi : i < rows.length) : DkZ d (E ++ RowsC (rows.set i r)) ⟨n.n, n.ob.set (3 + E.length + i) (.lst (r.map .int))⟩ := by
  obtain ⟨c, cs, rs, e, h⟩ := h
  refine ⟨c, cs, rs, ?_, h⟩
  show n.ob.set _ _ = _
  have e2 : 3 + E.length + i - 3 - E.length = i := by omega
  rw [e, List.set_append_right _ _ (by show 3 ≤ _; omega), List.set_append_right _ _ (by show E.length ≤ 3 + E.length + i - 3; omega)]
  show deck3 c cs rs ++ (E ++ (RowsC rows).set (3 + E.length + i - 3 - E.length) _) = _
  rw [e2]
  show _ = deck3 c cs rs ++ (E ++ (rows.set i r).map fun r => Cell.lst (r.map PyData.int))
  rw [List.map_set]
theorem zNext {β : Type} {k : Int} {d : Nat} {E : List Cell} {n : Wd} {f : D → Z β} {ψ : β → Wd → Prop} (h0 : 0 < k) (h1 : k < 1073741824) (hn : DkZ (1 + d) E n) (q : ∀ (r : Int) (n' : Wd), 0 ≤ r → r < k → DkZ d E n' → f (.int r) n' ψ) : (M__law_next [.val (refL 0), .val (.int k)] >>= f) n ψ := next_at h0 h1 hn fun r n' r0 r1 hn' => q r n' r0 r1 hn'
theorem shp_step {w k : Nat} {T : Int} {rows : List (List Int)} (h : Shp w k T rows) (hT : 0 ≤ T) {i j : Nat} (hi : i < w) (hj : j < k) : Shp w k (T + 1) (rows.set i ((rows.getD i []).set j ((rows.getD i []).getD j 0 + 1))) := by
  have hil : i < rows.length := by rw [h.len]; exact hi
  have hr : rows.getD i [] ∈ rows := by
    rw [List.getD_eq_getElem?_getD, List.getElem?_eq_getElem hil]
    exact List.getElem_mem hil
  have hjl : j < (rows.getD i []).length := by rw [h.row _ hr]; exact hj
  have hx := h.ge _ hr _ (at_mem hjl)
  refine ⟨by rw [List.length_set]; exact h.len, fun r hrm => ?_, fun r hrm x hxm => ?_, ?_⟩
  · rcases List.mem_or_eq_of_mem_set hrm with z | z
    · exact h.row r z
    · rw [z, List.length_set]
      exact h.row _ hr
  · rcases List.mem_or_eq_of_mem_set hrm with z | z
    · have := h.ge r z x hxm
      omega
    · rw [z] at hxm
      rcases List.mem_or_eq_of_mem_set hxm with y | y
      · have := h.ge _ hr x y
        omega
      · omega
  · rw [List.map_set, set_sum1 _ _ _ (by rw [List.length_map]; exact hil), h.sum, set_sum1 _ _ _ hjl]
    have : (rows.map List.sum).getD i 0 = (rows.getD i []).sum := by
      simp [List.getD, hil]
    rw [this]
    omega
theorem shp_zero {w k : Nat} : Shp w k 0 (List.replicate w (List.replicate k 0)) := by
  refine ⟨by simp, fun r hr => ?_, fun r hr x hx => ?_, ?_⟩
  · rw [List.eq_of_mem_replicate hr]; simp
  · rw [List.eq_of_mem_replicate hr] at hx
    have := List.eq_of_mem_replicate hx
    omega
  · rw [List.map_replicate]
    have : ∀ a b : Nat, (List.replicate a (List.replicate b (0 : Int)).sum).sum = 0 := fun a b => by
      have e : (List.replicate b (0 : Int)).sum = 0 := by induction b with
        | zero => rfl
        | succ b ih => rw [List.replicate_succ, List.sum_cons, ih]; rfl
      rw [e]
      induction a with
      | zero => rfl
      | succ a ih => rw [List.replicate_succ, List.sum_cons, ih]; rfl
    exact this w k
theorem newRowsF {Z0 : List D} {f : D → Z D} (hf : ∀ d, f d = newZ Z0) {ds acc : List D} {n : Wd} {ψ : List D → Wd → Prop} (h : ψ (acc ++ (List.range ds.length).map fun i => refL (n.ob.length + i)) ⟨n.n, n.ob ++ List.replicate ds.length (.lst Z0)⟩) : lcA (fun d => someM (f d)) ds acc n ψ := by
  have e : (fun d => someM (f d)) = fun _ => someM (newZ Z0) := by
    funext d
    rw [hf]
  rw [e]
  exact newRows ds acc n ψ h
theorem rows_map {rows : List (List Int)} {w : Nat} (h : rows.length = w) : ((List.range w).map fun i => tI (rows.getD i [])) = rows.map tI := by
  subst h
  refine List.ext_getElem (by simp) fun i h1 h2 => ?_
  have : i < rows.length := by simpa using h2
  simp [List.getD, this]
theorem ixZ_lst (ds : List D) (j : D) : ixZ (.list ds) j = (Mo.lift (DD.getD (.list ds) j) : Z D) := rfl
/-! ### k26: what is drawn -/
theorem stock26 {m : Int} (m0 : 1 ≤ m) (m1 : m ≤ 50) : TrZ 34 (m__law_stock (refL 0) (.int 4) (.int 4) (.int m)) (fun d => ∃ S k, d = tT S ∧ Stk m k S) := by
  unfold m__law_stock
  simp only [op2, op1, cmp2, chain3, tst, notB, andB, orB, andD, orD, iteM, consM, starM, smallM, tupM, tupSM, lstM, argV, argK, comp1, comp1i, comp2, comp2i, comp11, seqM, rng1, rng2, zipSM, zip2M, zip3M, enumM, repM, joinM, catM, par3LM, put2M, popM, parLV, putVM, unpS, trg1M, sortSetM, orV, lrg1M, par3M, rdM, rdLM, partM, slcM, isiM, rtM, forM1, forM2, forM3, parM, unp2, unp3, unp2A, unp3A, unp4A, zb_assoc, zb_pure]
  refine TrZ.dr (by decide) (by decide) fun b b0 b1 => TrZ.bindL (add_int _ _) (TrZ.dr (by decide) (by decide) fun a a0 a1 => TrZ.bindL (add_int _ _) ?_)
  obtain ⟨w, ew⟩ : ∃ w : Nat, 1 + a = (w : Nat) := ⟨(1 + a).toNat, by omega⟩
  obtain ⟨k, ek⟩ : ∃ k : Nat, 1 + b = (k : Nat) := ⟨(1 + b).toNat, by omega⟩
  rw [ew, ek]
  refine TrZ.bindL (range1_ok (by omega) (by omega)) ?_
  rw [Int.toNat_natCast]
  refine TrZ.thM (b := 4 * 8) ((TrZ.loopR (c := 8) (I := fun i (a : List D) => ∃ rows : List (List Int), a = rows.map tI ∧ rows.length = i ∧ ∀ r ∈ rows, r.length = k ∧ ∀ x ∈ r, 0 ≤ x ∧ x ≤ m) (R := fun _ => False) ⟨[], rfl, rfl, fun _ h => by cases h⟩ fun i a hi ⟨rows, ea, hlen, hg⟩ => ?hb).le (Nat.mul_le_mul_right 8 (show w ≤ 4 by omega))) (fun a ⟨rows, ea, hlen, hg⟩ => ?hc)
  case hc =>
    subst ea
    exact TrZ.li (tup_lst _) ⟨rows, k, rfl, by omega, by omega, by omega, by omega, fun r hr => (hg r hr).1, fun r hr => (hg r hr).2⟩
  case hb =>
    subst ea
    refine TrZ.bindL (range1_ok (by omega) (by omega)) ?_
    rw [Int.toNat_natCast]
    refine TrZ.thB (b := 4 * 2) ((TrZ.loopR (c := 2) (I := fun i (a : D) => ∃ r : List Int, a = tI r ∧ r.length = i ∧ ∀ x ∈ r, 0 ≤ x ∧ x ≤ m) (R := fun _ => False) ⟨[], rfl, rfl, fun _ h => by cases h⟩ fun i a hi ⟨r, ea, hlen, hg⟩ => ?hd).le (Nat.mul_le_mul_right 2 (show k ≤ 4 by omega))) (fun a ⟨r, ea, hlr, hr⟩ => ?he)
    case hd =>
      subst ea
      refine TrZ.bindL (add_int _ _) (TrZ.dr (by omega) (by omega) fun x x0 x1 => TrZ.dr (by decide) (by decide) fun y y0 y1 => TrZ.bindL (mod_int (by decide)) (TrZ.bindL (mod_int (by decide)) ?_))
      have c0 := Int.emod_nonneg (y % 4) (show (3 : Int) ≠ 0 by decide)
      have c1 := Int.emod_lt_of_pos (y % 4) (show (0 : Int) < 3 by decide)
      generalize y % 4 % 3 = c at c0 c1
      have hc : ∃ z : Int, DD.getD (.list [.int x, .int 0, .int m]) (.int c) = some (.int z) ∧ 0 ≤ z ∧ z ≤ m := by
        rcases (show c = 0 ∨ c = 1 ∨ c = 2 by omega) with rfl | rfl | rfl
        · exact ⟨x, rfl, x0, by omega⟩
        · exact ⟨0, rfl, by omega, by omega⟩
        · exact ⟨m, rfl, by omega, by omega⟩
      obtain ⟨z, ez, z0, z1⟩ := hc
      rw [ixZ_lst]
      refine TrZ.bindL ez (TrZ.bindL (add_tup (by simp; omega)) (TrZ.nx ⟨r ++ [z], by simp, by simp [hlen], fun y hy => ?_⟩))
      rcases List.mem_append.mp hy with h | h
      · exact hg y h
      · rw [List.mem_singleton.mp h]; exact ⟨z0, z1⟩
    case he =>
      subst ea
      refine TrZ.bindL (fits_ok (by rw [List.length_map]; omega)) (TrZ.nx ⟨rows ++ [r], by simp, by simp [hlen], fun q hq => ?_⟩)
      rcases List.mem_append.mp hq with h | h
      · exact hg q h
      · rw [List.mem_singleton.mp h]; exact ⟨hlr, hr⟩
theorem plan26 {m : Int} {k : Nat} {S : List (List Int)} (st : Stk m k S) (m1 : m ≤ 50) : TrZ 6 (m__law_plan (refL 0) (tT S)) (fun d => ∃ P : List Int, d = tI P ∧ P.length = S.length ∧ ∀ x ∈ P, 0 ≤ x ∧ x ≤ 200) := by
  have s1 := st.one
  have s4 := st.four
  have el : lenD (tT S) = some (.int (S.length : Nat)) := by show some (PyData.int ((S.map tI).length : Nat)) = _; rw [List.length_map]
  have hs : ∀ r ∈ S, 0 ≤ r.sum ∧ r.sum ≤ 200 := fun q hq => by
    have h0 := (le_sum19 fun x hx => (st.ge q hq x hx).1).1
    have h1 := sum_in (B := 50) q fun x hx => by have := st.ge q hq x hx; omega
    have h2 := st.len q hq
    have h3 := st.k4
    omega
  unfold m__law_plan
  simp only [op2, op1, cmp2, chain3, tst, notB, andB, orB, andD, orD, iteM, consM, starM, smallM, tupM, tupSM, lstM, argV, argK, comp1, comp1i, comp2, comp2i, comp11, seqM, rng1, rng2, zipSM, zip2M, zip3M, enumM, repM, joinM, catM, par3LM, put2M, popM, parLV, putVM, unpS, trg1M, sortSetM, orV, lrg1M, par3M, rdM, rdLM, partM, slcM, isiM, rtM, forM1, forM2, forM3, parM, unp2, unp3, unp2A, unp3A, unp4A, zb_assoc, zb_pure]
  refine TrZ.dr (by decide) (by decide) fun y y0 y1 => TrZ.bindL el (TrZ.dr (by omega) (by omega) fun j j0 j1 => TrZ.bindL el (TrZ.bindL (range1_ok (by omega) (by omega)) ?_))
  rw [Int.toNat_natCast]
  refine TrZ.thM (b := 4 * 1) ((TrZ.loopR (c := 1) (I := fun i (a : List D) => ∃ P : List Int, a = P.map .int ∧ P.length = i ∧ ∀ x ∈ P, 0 ≤ x ∧ x ≤ 200) (R := fun _ => False) ⟨[], rfl, rfl, fun _ h => by cases h⟩ fun i a hi ⟨P, ea, hlen, hg⟩ => ?hb).le (Nat.mul_le_mul_right 1 s4)) (fun a ⟨P, ea, hlen, hg⟩ => ?hc)
  case hc =>
    subst ea
    exact TrZ.li (tup_lst _) ⟨P, rfl, hlen, hg⟩
  case hb =>
    subst ea
    have hsi := hs _ (row_mem hi)
    rw [Int.zero_add]
    refine TrZ.bindL (get_row hi) (TrZ.bindL (show listD (tI (S.getD i [])) = some (.list ((S.getD i []).map .int)) from rfl) (TrZ.bindL (sum_lI _) (TrZ.bindL (add_int _ _) (TrZ.dr (by omega) (by omega) fun x x0 x1 => ?_))))
    obtain ⟨b, eb, b0, b1⟩ : ∃ b : Int, (eqD (.int (i : Nat)) (.int j) >>= fun d => intD d) = some (.int b) ∧ 0 ≤ b ∧ b ≤ 1 := by
      rw [eq_int]
      cases ((i : Int) == j)
      · exact ⟨0, rfl, by decide, by decide⟩
      · exact ⟨1, rfl, by decide, by decide⟩
    obtain ⟨e1, e2, e3⟩ := Option.bind_eq_some_iff.mp eb
    have hmul : 0 ≤ (S.getD i []).sum * b ∧ (S.getD i []).sum * b ≤ 200 := by
      rcases (show b = 0 ∨ b = 1 by omega) with rfl | rfl <;> omega
    refine TrZ.bindL e2 (TrZ.bindL e3 (TrZ.bindL (mul_int (.inr ⟨by omega, by omega⟩)) ?_))
    have hc : ∃ z : Int, DD.getD (.list [.int x, .int x, .int x, .int 0, .int (S.getD i []).sum, .int ((S.getD i []).sum * b)]) (.int y) = some (.int z) ∧ 0 ≤ z ∧ z ≤ 200 := by
      rcases (show y = 0 ∨ y = 1 ∨ y = 2 ∨ y = 3 ∨ y = 4 ∨ y = 5 by omega) with rfl | rfl | rfl | rfl | rfl | rfl
      · exact ⟨x, rfl, x0, by omega⟩
      · exact ⟨x, rfl, x0, by omega⟩
      · exact ⟨x, rfl, x0, by omega⟩
      · exact ⟨0, rfl, by omega, by omega⟩
      · exact ⟨_, rfl, hsi.1, hsi.2⟩
      · exact ⟨_, rfl, hmul.1, hmul.2⟩
    obtain ⟨z, ez, z0, z1⟩ := hc
    refine TrZ.bindL ez (TrZ.bindL (fits_ok (by rw [List.length_map]; omega)) (TrZ.nx ⟨P ++ [z], by simp, by simp [hlen], fun q hq => ?_⟩))
    rcases List.mem_append.mp hq with h | h
    · exact hg q h
    · rw [List.mem_singleton.mp h]; exact ⟨z0, z1⟩
theorem lsmall26 : TrZ 27 (m__law_small (refL 0) (.int 12)) (fun d => ∃ S k, d = tT S ∧ Stk 12 k S ∧ (S.map List.sum).sum ≤ 12) := by
  intro d E n ψ hn q
  unfold m__law_small
  simp only [op2, op1, cmp2, chain3, tst, notB, andB, orB, andD, orD, iteM, consM, starM, smallM, tupM, tupSM, lstM, argV, argK, comp1, comp1i, comp2, comp2i, comp11, seqM, rng1, rng2, zipSM, zip2M, zip3M, enumM, repM, joinM, catM, par3LM, put2M, popM, parLV, putVM, unpS, trg1M, sortSetM, orV, lrg1M, par3M, rdM, rdLM, partM, slcM, isiM, rtM, forM1, forM2, forM3, parM, unp2, unp3, unp2A, unp3A, unp4A, zb_assoc, zb_pure]
  refine zNext (d := 26 + d) (by decide) (by decide) (hn.le (by omega)) fun b n1 b0 b1 h1 => zL (add_int _ _) ?_
  refine zNext (d := 25 + d) (by decide) (by decide) (h1.le (by omega)) fun a n2 a0 a1 h2 => zL (add_int _ _) ?_
  obtain ⟨w, ew⟩ : ∃ w : Nat, 1 + a = (w : Nat) := ⟨(1 + a).toNat, by omega⟩
  obtain ⟨k, ek⟩ : ∃ k : Nat, 1 + b = (k : Nat) := ⟨(1 + b).toNat, by omega⟩
  refine zL (a := (.int (k : Nat), .int (w : Nat))) (by rw [ew, ek]; rfl) ?_
  refine zL (range1_ok (by omega) (by omega)) (zL (small_ok (by rw [rangeL_length]; omega)) ?_)
  rw [Int.toNat_natCast]
  have hL : n2.ob.length = 3 + E.length := by
    obtain ⟨c, cs, rs, e, _⟩ := h2
    rw [e, List.length_append]
    rfl
  have er : repO [.int 0] (.int (k : Nat)) = some ((List.replicate k (0 : Int)).map .int) := by
    rw [rep_ok (by omega) (by omega) (by decide), Int.toNat_natCast]
    simp
  refine zB (newRowsF (Z0 := (List.replicate k (0 : Int)).map .int) (fun _ => ?_) ?_)
  · show (Mo.lift (repO [.int 0] (.int (k : Nat))) >>= newZ : Z D) = _
    rw [er, zb_some]
  rw [List.nil_append, rangeL_length, hL]
  have h3 : DkZ (25 + d) (E ++ RowsC (List.replicate w (List.replicate k 0))) ⟨n2.n, n2.ob ++ List.replicate w (.lst ((List.replicate k (0 : Int)).map .int))⟩ := by
    obtain ⟨c, cs, rs, e, h⟩ := h2
    refine ⟨c, cs, rs, ?_, h⟩
    show n2.ob ++ _ = _
    rw [e, List.append_assoc]
    simp [RowsC]
  generalize (⟨n2.n, n2.ob ++ List.replicate w (.lst ((List.replicate k (0 : Int)).map .int))⟩ : Wd) = n3 at h3
  refine zL (add_int _ _) (zNext (d := 24 + d) (by omega) (by omega) (h3.le (by omega)) fun t n4 u0 u1 h4 => zL (range1_ok (by omega) (by omega)) ?_)
  obtain ⟨t, rfl⟩ : ∃ t' : Nat, t = (t' : Nat) := ⟨t.toNat, by omega⟩
  rw [Int.toNat_natCast]
  have hget : ∀ i : Nat, i < w → DD.getD (.list ((List.range w).map fun i => refL (3 + E.length + i))) (.int (i : Nat)) = some (refL (3 + E.length + i)) := fun i hi => by
    rw [get_lst (F := fun i => refL (3 + E.length + i)) (xs := List.range w) (i := i) (by simpa using hi), List.getElem_range]
  refine zB (turnsZ (I := fun i d' n => ∃ rows, Shp w k (i : Nat) rows ∧ DkZ (2 * d' + d) (E ++ RowsC rows) n) (fun x i d' n ψ ⟨rows, hsh, hdk⟩ q => ?hb) (rangeL 0 t) 0 0 n4 _ ⟨_, shp_zero, h4.le (by rw [rangeL_length]; omega)⟩ fun n5 ⟨rows, hsh, h5⟩ => ?hc)
  case hb =>
    refine zNext (d := 1 + (2 * d' + d)) (by omega) (by omega) (hdk.le (by omega)) fun a n1 a0 a1 h1 => ?_
    obtain ⟨a, rfl⟩ : ∃ a' : Nat, a = (a' : Nat) := ⟨a.toNat, by omega⟩
    have hal : a < rows.length := by rw [hsh.len]; omega
    have hr : rows.getD a [] ∈ rows := by
      rw [List.getD_eq_getElem?_getD, List.getElem?_eq_getElem hal]
      exact List.getElem_mem hal
    refine zIx0 rfl (hget a (by omega)) (zNext (by omega) (by omega) h1 fun b n2 b0 b1 h2 => ?_)
    obtain ⟨b, rfl⟩ : ∃ b' : Nat, b = (b' : Nat) := ⟨b.toNat, by omega⟩
    have hbl : b < (rows.getD a []).length := by rw [hsh.row _ hr]; omega
    refine zIx (row_at h2 hal) (at_intL hbl) (zL (add_int _ _) (zSet (row_at h2 hal) (es := ((rows.getD a []).set b ((rows.getD a []).getD b 0 + 1)).map .int) ?_ ?_))
    · rw [put_at (by rw [List.length_map]; exact hbl), List.map_set]
    · exact q _ ⟨_, by
        have := shp_step hsh (by omega) (i := a) (j := b) (by omega) (by omega)
        exact_mod_cast this, row_set h2 hal⟩
  case hc =>
    rw [rangeL_length, Nat.zero_add] at hsh
    refine zL (it_lst _) (zL (small_ok (by simp; omega)) (zB (readRows (rows := rows) (L := 3 + E.length) (List.range w) [] (fun i hi => row_at h5 (by rw [hsh.len]; exact List.mem_range.mp hi)) ?_)))
    rw [List.nil_append, rows_map hsh.len]
    refine ⟨_, tup_lst _, q _ (RowsC rows) n5 (h5.le (by omega)) ⟨rows, k, rfl, ⟨by rw [hsh.len]; omega, by rw [hsh.len]; omega, by omega, by omega, hsh.row, fun r hr x hx => ?_⟩, by rw [hsh.sum]; omega⟩⟩
    have := hsh.ge r hr x hx
    omega
def TrB {α : Type} (b : Nat) (E : List Cell) (x : Z α) (Q : α → List Cell → Prop) : Prop := ∀ (d : Nat) (n : Wd) (ψ : α → Wd → Prop), DkZ (b + d) E n → (∀ a E' n', DkZ d E' n' → Q a E' → ψ a n') → x n ψ
theorem TrB.pure {a : α} {Q : α → List Cell → Prop} (h : Q a E) : TrB b E (Pure.pure a : Z α) Q := fun d n ψ hn q => q a E n (hn.le (by omega)) h
theorem TrB.st {x : Z α} {f : α → Z β} {Q : α → List Cell → Prop} {R : β → List Cell → Prop} (h : TrB b E x Q) (hf : ∀ a E', Q a E' → TrB (d - b) E' (f a) R) (hd : b ≤ d := by decide) : TrB d E (x >>= f) R := fun e n ψ hn q =>
  h ((d - b) + e) n (fun a n' => f a n' ψ) (hn.le (by omega)) fun a E' n' hn' ha => hf a E' ha e n' ψ hn' q
theorem TrB.mono {x : Z α} {Q R : α → List Cell → Prop} (h : TrB b E x Q) (hb : b ≤ c) (hp : ∀ a E', Q a E' → R a E') : TrB c E x R := fun d n ψ hn q => h d n ψ (hn.le (by omega)) fun a E' n' hn' ha => q a E' n' hn' (hp a E' ha)
theorem TrB.le {x : Z α} {Q : α → List Cell → Prop} (h : TrB b E x Q) (hb : b ≤ c) : TrB c E x Q := h.mono hb fun _ _ z => z
theorem TrB.ofZ {x : Z α} {φ : α → Prop} (h : TrZ b x φ) : TrB b E x (fun a E' => φ a ∧ ∃ l, E' = E ++ l) := fun d n ψ hn q => h d E n ψ hn fun a E' n' hn' ha => q a _ n' hn' ⟨ha, E', rfl⟩
theorem TrB.bZ {x : Z α} {f : α → Z β} {φ : α → Prop} {R : β → List Cell → Prop} (h : TrZ b x φ) (hf : ∀ a l, φ a → TrB (d - b) (E ++ l) (f a) R) (hd : b ≤ d := by decide) : TrB d E (x >>= f) R := (TrB.ofZ h).st (fun a E' ⟨ha, l, e⟩ => e ▸ hf a l ha) hd
theorem TrB.r {x : Z α} {f : α → Z β} {a : α} {R : β → List Cell → Prop} (h : ∀ c cs rs, Run x (deck3 c cs rs ++ E) a (deck3 c cs rs ++ E1)) (hf : TrB b E1 (f a) R) : TrB b E (x >>= f) R := fun d n ψ hn q => by
  obtain ⟨c, cs, rs, e, h2⟩ := hn
  obtain ⟨k, ob⟩ := n
  dsimp only at e
  subst e
  exact h c cs rs k _ (hf d ⟨k, _⟩ ψ ⟨c, cs, rs, rfl, h2⟩ q)
theorem TrB.bL {o : Option α} {a : α} {f : α → Z β} {R : β → List Cell → Prop} (e : o = some a) (hf : TrB b E (f a) R) : TrB b E ((Mo.lift o : Z α) >>= f) R := TrB.r (fun _ _ _ => Run.lift e) hf
theorem TrB.bH {g : List Sl} {o : Option α} {a : α} {f : α → Z β} {R : β → List Cell → Prop} (hs : okSl g = true) (e : o = some a) (hf : TrB b E (f a) R) : TrB b E (OverZ.up (hidP g o) >>= f) R := TrB.r (fun _ _ _ => Run.hid hs e) hf
theorem TrB.ifF {t : Prop} [Decidable t] {x y : Z α} {R : α → List Cell → Prop} (h : ¬ t) (hy : TrB b E y R) : TrB b E (if t then x else y) R := by rw [if_neg h]; exact hy
theorem TrB.loop {A : Type} {f : D → A → Z (Fl A)} {I : List D → A → List Cell → Prop} {R : D → Prop} : ∀ (xs : List D) (a : A) (E : List Cell), I xs a E → (∀ d r a E, I (d :: r) a E → TrB c E (f d a) (PostA (I r) R)) → TrB (xs.length * c) E (loopM f xs a) (PostA (I []) R)
  | [], a, E, h, _ => TrB.pure h
  | d :: r, a, E, h, hf => by
    refine TrB.st (b := c) (hf d r a E h) (fun z E' hz => ?_) (by rw [List.length_cons, Nat.succ_mul]; omega)
    cases z with
    | nx a' => exact (TrB.loop r a' E' hz hf).le (by rw [List.length_cons, Nat.succ_mul]; omega)
    | rt v => exact TrB.pure hz
theorem TrB.thM {A : Type} {x : Z (Fl A)} {y : A → Z D} {I : A → List Cell → Prop} {R : D → List Cell → Prop} (h : TrB b E x (PostA I fun _ => False)) (hy : ∀ a E', I a E' → TrB (d - b) E' (y a) R) (hd : b ≤ d := by decide) : TrB d E (x >>= fun f => DD.thenM f y) R := TrB.st h (fun z E' hz => by
  cases z with
  | nx a => exact hy a E' hz
  | rt v => exact hz.elim) hd
theorem TrB.thB {A A' : Type} {x : Z (Fl A)} {y : A → Z (Fl A')} {I : A → List Cell → Prop} {R : Fl A' → List Cell → Prop} (h : TrB b E x (PostA I fun _ => False)) (hy : ∀ a E', I a E' → TrB (d - b) E' (y a) R) (hd : b ≤ d := by decide) : TrB d E (x >>= fun f => DD.thenB f y) R := TrB.st h (fun z E' hz => by
  cases z with
  | nx a => exact hy a E' hz
  | rt v => exact hz.elim) hd
theorem ne_strF (z : Str) : (neD (.str z) (.str z)).bind boolD = some false := by
  rw [ne_str]
  simp [boolD]
theorem TrZ.growS {α : Type} {x : Z α} {P : α → Prop} (h : ∀ ob, RunS x ob (fun d o => (∃ l, o = ob ++ l) ∧ P d)) : TrZ 0 x P := fun d E n ψ hn q => by
  refine h n.ob n.n _ ?_
  rintro a o ⟨⟨l, rfl⟩, p⟩
  refine q a l ⟨n.n, n.ob ++ l⟩ ?_ p
  obtain ⟨c, cs, rs, e, r⟩ := hn.le (Nat.le_add_left d 0)
  exact ⟨c, cs, rs, by show n.ob ++ l = _; rw [e, List.append_assoc], r⟩
theorem TrZ.bindPq {α : Type} {g' : List Sl} {o : Option α} {a : α} {φ : α → Prop} (hs : okSl g' = true) (e : o = some a) (h : φ a) : TrZ 0 (OverZ.up (hidP g' o)) φ := fun d E n ψ hn q => ⟨hs, rfl, a, e, q a [] n (by rw [List.append_nil]; exact hn.le (by omega)) h⟩
theorem okH_tI (r : List Int) : okH (tI r) = true := by
  show okHs (r.map .int) = true
  induction r with
  | nil => rfl
  | cons x r ih => exact ih
theorem okH_tT (T : List (List Int)) : okH (tT T) = true := by
  show okHs (T.map tI) = true
  induction T with
  | nil => rfl
  | cons x r ih =>
    show (okH (tI x) && okHs (r.map tI)) = true
    rw [okH_tI, ih]
    rfl
/-! ### k26: the law -/
theorem big_len {i : Int} (h : i.natAbs < 2 ^ 801) : (Str.ofString (toString i)).length ≤ 301 := by
  have h2 : i.natAbs < 10 ^ 300 := Nat.lt_of_lt_of_le h (by decide)
  rw [PySem.ofString_length, Int.toString_eq_repr, Int.repr_eq_if]
  split
  · exact Nat.le_trans ((Nat.length_repr_le_iff (k := 300) (by decide)).mpr (by omega)) (by decide)
  · rw [String.length_append]
    have := (Nat.length_repr_le_iff (n := (-i).toNat) (k := 300) (by decide)).mpr (by omega)
    have e : ("-" : String).length = 1 := by decide
    omega
theorem big_log {i : Int} (h : i.natAbs < 2 ^ 801) : i.natAbs.log2 < 1920 := by
  by_cases h0 : i.natAbs = 0
  · rw [h0]; decide
  · exact Nat.lt_of_lt_of_le ((Nat.log2_lt h0).mpr h) (by decide)
theorem big_repr {a : Int} (h : a.natAbs < 2 ^ 801) : ∃ z : Str, reprD (.list [.int a, .int a]) = some (.str z) := by
  have h1 := big_len h
  have hs : (PyData.int a).showable = true := decide_eq_true (big_log h)
  have h2 : (PyData.list [.int a, .int a]).showable = true := by
    show ((PyData.int a).showable && ((PyData.int a).showable && true)) = true
    rw [hs]
    rfl
  have h3 : (PyData.list [.int a, .int a]).shown.length ≤ 1000000 := by
    show (listText [Str.ofString (toString a), Str.ofString (toString a)]).length ≤ _
    have := list_len [Str.ofString (toString a), Str.ofString (toString a)]
    rw [piled_cons, piled_cons] at this
    have e : piled [] = 0 := rfl
    omega
  have h4 : (PyData.list [.int a, .int a]).depth ≤ 50 := by simp [PyData.depth, PyData.depthAll]
  exact ⟨_, if_pos ⟨h2, h3, h4⟩⟩
theorem law_repr {S : List (List Int)} {k : Nat} {m : Int} {P : List Int} (st : Stk m k S) (m1 : m ≤ 50) (hl : P.length = S.length) (h : ∀ x ∈ P, 0 ≤ x ∧ x ≤ 200) : ∃ z : Str, reprD (.list [tT S, tI P]) = some (.str z) := by
  have k4 := st.k4
  have f4 := st.four
  have r1 : Rp 21 2 (tT S) := (Rp.tT (n := 4) (k := 4) (fun r hr x hx => by have := st.ge r hr x hx; exact Nat.lt_of_lt_of_le (show _ < 100 by omega) (by decide)) (fun r hr => by rw [st.len r hr]; exact k4) st.four).le (by decide) (by decide)
  have r3 : Rp 21 2 (tI P) := (Rp.tI (n := 4) (fun x hx => by have := h x hx; exact Nat.lt_of_lt_of_le (show _ < 10000000 by omega) (by decide)) (by omega)).le (by decide) (by decide)
  exact ⟨_, (RpA.each (ds := [tT S, tI P]) (n := 21) (k := 2) fun d hd => by
    rcases List.mem_cons.mp hd with rfl | hd
    · exact r1
    · rw [List.mem_singleton.mp hd]; exact r3).lst.repr (by simp) (by decide)⟩
theorem sz_stk {m : Int} {k : Nat} {S : List (List Int)} (st : Stk m k S) (m1 : m ≤ 50) : ∀ r ∈ S, 0 ≤ r.sum ∧ r.sum ≤ 200 := fun q hq => by
  have h0 := (le_sum19 fun x hx => (st.ge q hq x hx).1).1
  have h1 := sum_in (B := 50) q fun x hx => by have := st.ge q hq x hx; omega
  have h2 := st.len q hq
  have h3 := st.k4
  omega
theorem pln_of {m : Int} {k : Nat} {S : List (List Int)} {P : List Int} (st : Stk m k S) (m1 : m ≤ 50) (hl : P.length = S.length) (h : ∀ x ∈ P, 0 ≤ x ∧ x ≤ 200) : Pln S P := ⟨st.four, hl, sz_stk st m1, h⟩
theorem duV_wide {S : List (List Int)} {P : List Int} (h : Pln S P) : (duV S P).natAbs < 2 ^ 801 := by
  have h4 := h.four
  have e : ((S.map List.sum).zip P).foldl (fun a p => a * chI p.1.toNat p.2) 1 = duV S P := by
    rw [zip_fold, wV_fold, Int.one_mul, zip_wV _ _ (by simp [h.len])]
    rfl
  rw [← e]
  refine fold_wide (by simp; omega) fun p hp => ?_
  obtain ⟨r, hr, e⟩ := List.mem_map.mp (List.of_mem_zip hp).1
  exact e ▸ h.sz r hr
/-- the law's own product -/
def duF (zs : List (List Int × Int)) : Int := zs.foldl (fun a p => a * chI p.1.sum.toNat p.2) 1
theorem duF_eq : ∀ (S : List (List Int)) (P : List Int) (a : Int), (S.zip P).foldl (fun a p => a * chI p.1.sum.toNat p.2) a = ((S.map List.sum).zip P).foldl (fun a p => a * chI p.1.toNat p.2) a
  | [], _, _ => rfl
  | _ :: _, [], _ => rfl
  | r :: S, x :: P, a => duF_eq S P _
theorem wV_one (n k : Nat) : wV [n] [(k : Int)] = (chN n k : Int) := by
  show chI n (k : Int) * 1 = _
  rw [chI_nat, Int.mul_one]
theorem two26 (n k : Nat) (hn : n ≤ 200) (hk : k ≤ 200) (S : List (List Int)) (hS : (S.map fun r => r.sum.toNat) = [n]) (pl : Pln S [(k : Int)]) : ∃ c : Int, M_count_draws [.val (tT S), .val (tI [(k : Int)])] = some (.int c) ∧ M__law_choose [.val (.int (n : Int)), .val (.int (k : Int))] = some (.int c) := by
  refine ⟨chN n k, ?_, lchoose_eq hn (by omega)⟩
  have h : M_count_draws [.val (tT S), .val (tI [(k : Int)])] = some (.int (duV S [(k : Int)])) := count_eq pl
  rw [h]
  unfold duV
  rw [hS, wV_one]
theorem last26 {F G : List Sl → Option D} {a b u w : D} {c : Int} (e1 : F [.val (.tuple [.tuple [a, a, a, a]]), .val (.tuple [b])] = some (.int c)) (e2 : G [.val u, .val w] = some (.int c)) : (op2 eqD ((argV (tupM (consM (tupM (consM (pure a) (consM (pure a) (consM (pure a) (consM (pure a) (pure [])))))) (pure []))) (argV (tupM (consM (pure b) (pure []))) (pure []))) >>= F) ((argV (pure u) (argV (pure w) (pure []))) >>= G) : Option D) = some (.bool true) := by
  show (F [.val (.tuple [.tuple [a, a, a, a]]), .val (.tuple [b])] >>= fun x => G [.val u, .val w] >>= fun y => eqD x y) = _
  rw [e1, e2]
  show some (PyData.bool (c == c)) = _
  rw [beq_self_eq_true]
theorem ends26 : ∃ c : Int, M_count_draws [.val (.tuple [.tuple [.int 50, .int 50, .int 50, .int 50]]), .val (.tuple [.int 100])] = some (.int c) ∧ M__law_choose [.val (.int 200), .val (.int 100)] = some (.int c) := by
  obtain ⟨c, h1, h2⟩ := two26 200 100 (by decide) (by decide) [[50, 50, 50, 50]] (by decide) ⟨by decide, by decide, by decide, by decide⟩
  exact ⟨c, h1, h2⟩
theorem law_true : ∀ cs rs : List Int, cs.length = rs.length → 0 < cs.length → cs.length ≤ 64 → (∀ r ∈ rs, 0 ≤ r) → m_law ⟨0, deck3 0 cs rs⟩ (fun d _ => d = .bool true) := by
  intro cs rs hl h0 h64 hr
  have key : TrB 700 [] m_law (fun d _ => d = .bool true) := by
    unfold m_law
    simp only [op2, op1, cmp2, chain3, tst, notB, andB, orB, andD, orD, iteM, consM, starM, smallM, tupM, tupSM, lstM, argV, argK, comp1, comp1i, comp2, comp2i, comp11, seqM, rng1, rng2, zipSM, zip2M, zip3M, enumM, repM, joinM, catM, par3LM, put2M, popM, parLV, putVM, unpS, trg1M, sortSetM, orV, lrg1M, par3M, rdM, rdLM, partM, slcM, isiM, rtM, forM1, forM2, forM3, parM, unp2, unp3, unp2A, unp3A, unp4A, zb_assoc, zb_pure, zl_some, zb_some, zx_assoc, zx_pure, zx_some, upz_pure, add_int, sub_int, lt_int, le_int, gt_int, ge_int, eq_int, ne_int, min_int, max_int, neg_int, bool_bool, not_bool, is_none, isn_none, nn_int, nn_none, nn_tup, len_tup, len_lst, tup_lst, tup_tup, it_lst, it_tup, int_bool, int_int, oint_int, addI_int, subI_int, flat_tI, flat_int, flat_none, Option.bind_some, Option.map_some, Int.zero_add, thenB, thenM, List.nil_append, List.length_map]
    refine TrB.bL (range1_ok (by decide) (by decide)) ?_
    refine TrB.thM (b := 8 * 80) (I := fun (_ : Unit) _ => True) (TrB.mono (TrB.loop (c := 80) (I := fun r (_ : Unit) _ => ∀ d ∈ r, ∃ i : Nat, d = .int (i : Nat)) (R := fun _ => False) (rangeL 0 8) () [] (fun d hd => ?hr) fun d r a E hd => ?hb) (by rw [rangeL_length]; decide) fun z E hz => ?hz) (fun _ E _ => ?hc) (by decide)
    case hr =>
      obtain ⟨i, _, rfl⟩ := List.mem_map.mp hd
      exact ⟨i, by rw [Int.zero_add]⟩
    case hz =>
      cases z with
      | nx a => trivial
      | rt v => exact hz
    case hc =>
      obtain ⟨c, e1, e2⟩ := ends26
      exact TrB.mono (TrB.ofZ (TrZ.bindPq (a := .bool true) rfl (last26 e1 e2) rfl)) (by decide) fun a E' h => h.1.symm
    case hb =>
      have hd2 : ∀ d ∈ r, ∃ i : Nat, d = .int (i : Nat) := fun x hx => hd x (List.mem_cons_of_mem _ hx)
      obtain ⟨i, rfl⟩ := hd d List.mem_cons_self
      obtain ⟨m, em, m0, m1⟩ : ∃ m : Int, DD.getD (.list [.int 3, .int 12, .int 50]) (.int ((i : Int) % 3)) = some (.int m) ∧ 1 ≤ m ∧ m ≤ 50 := by
        have c0 := Int.emod_nonneg (i : Int) (show (3 : Int) ≠ 0 by decide)
        have c1 := Int.emod_lt_of_pos (i : Int) (show (0 : Int) < 3 by decide)
        rcases (show (i : Int) % 3 = 0 ∨ (i : Int) % 3 = 1 ∨ (i : Int) % 3 = 2 by omega) with e | e | e <;> rw [e]
        · exact ⟨3, rfl, by decide, by decide⟩
        · exact ⟨12, rfl, by decide, by decide⟩
        · exact ⟨50, rfl, by decide, by decide⟩
      refine TrB.bL (mod_int (by decide)) (TrB.bL em (TrB.bZ (b := 34) (stock26 m0 m1) ?_))
      rintro _ l1 ⟨S, k, rfl, st⟩
      refine TrB.bZ (b := 6) (plan26 st m1) ?_
      rintro _ l2 ⟨P, rfl, hP, hP2⟩
      have pl := pln_of st m1 hP hP2
      have f4 := st.four
      have ez : zipD [tT S, tI P] = some ((S.zip P).map fun p => PyData.tuple [tI p.1, .int p.2]) := zip_map (F := tI) (G := PyData.int) (by omega)
      refine TrB.bL (a := (tI P, PyData.int 1)) rfl (TrB.bL ez ?_)
      refine TrB.thB (b := 0) (I := fun a _ => a = .int (duV S P)) (TrB.mono (TrB.ofZ ((TrZ.loopP (c := 0) (F := fun p : List Int × Int => PyData.tuple [tI p.1, .int p.2]) (I := fun p a => a = .int (duF p)) (R := fun _ => False) (S.zip P) rfl fun p x q a e ha => ?h1).le (Nat.le_of_eq (Nat.mul_zero _)))) (Nat.le_refl 0) fun z E' hz => ?h2) (fun a E' ha => ?h3) (by decide)
      case h1 =>
        subst ha
        have hx : x ∈ S.zip P := by rw [e]; simp
        have hx1 := pl.sz _ (List.of_mem_zip hx).1
        have hx2 := pl.pl _ (List.of_mem_zip hx).2
        obtain ⟨n, en⟩ : ∃ n : Nat, x.1.sum = (n : Int) := ⟨x.1.sum.toNat, by omega⟩
        obtain ⟨k', ek⟩ : ∃ k : Nat, x.2 = (k : Int) := ⟨x.2.toNat, by omega⟩
        have ec : M__law_choose [.val (.int x.1.sum), .val (.int x.2)] = some (.int (chN n k' : Nat)) := by
          rw [en, ek]
          exact lchoose_eq (by omega) (by omega)
        have hw : (duF p).natAbs < wideN := by
          have hp : ∀ y ∈ p, y ∈ S.zip P := fun y hy => by rw [e]; simp [hy]
          have hpl : p.length ≤ 4 := by
            have := congrArg List.length e
            rw [List.length_zip, List.length_append, List.length_cons] at this
            omega
          have e9 : duF p = (p.map fun y => (y.1.sum, y.2)).foldl (fun a p => a * chI p.1.toNat p.2) 1 := by
            unfold duF
            rw [List.foldl_map]
          rw [e9]
          refine wide_of (fold_wide (by rw [List.length_map]; exact hpl) fun y hy => ?_) (by decide)
          obtain ⟨y', hy', rfl⟩ := List.mem_map.mp hy
          exact pl.sz _ (List.of_mem_zip (hp y' hy')).1
        refine TrZ.bindP (a := .int (duF (p ++ [x]))) ?_ ?_ (TrZ.nx rfl)
        · show okSl [Sl.any, Sl.any, Sl.any, Sl.any, Sl.any, Sl.val (.int (duF p)), Sl.val (tI x.1), Sl.val (.int x.2), Sl.any, Sl.any, Sl.any] = true
          have h1 := okH_tI x.1
          simp_all [okSl, okH]
        · have e3 : sumD (PyData.list (x.1.map PyData.int)) = some (.int x.1.sum) := sum_lI _
          have e4 : listD (tI x.1) = some (.list (x.1.map PyData.int)) := rfl
          simp only [op2, op1, cmp2, chain3, tst, notB, andB, orB, andD, orD, iteM, consM, starM, smallM, tupM, tupSM, lstM, argV, argK, comp1, comp1i, comp2, comp2i, comp11, seqM, rng1, rng2, zipSM, zip2M, zip3M, enumM, repM, joinM, catM, par3LM, put2M, popM, parLV, putVM, unpS, trg1M, sortSetM, orV, lrg1M, par3M, rdM, rdLM, partM, slcM, isiM, rtM, forM1, forM2, forM3, parM, unp2, unp3, unp2A, unp3A, unp4A, ob_pure, ob_some, ob_lift, Option.pure_def, add_int, sub_int, lt_int, le_int, gt_int, ge_int, eq_int, ne_int, min_int, max_int, neg_int, bool_bool, not_bool, is_none, isn_none, nn_int, nn_none, nn_tup, len_tup, len_lst, tup_lst, tup_tup, it_lst, it_tup, int_bool, int_int, oint_int, addI_int, subI_int, flat_tI, flat_int, flat_none, Option.bind_some, Option.map_some, Int.zero_add, thenB, thenM, List.nil_append, List.length_map, ob_assoc]
          refine bindE (m := Option) e4 (bindE (m := Option) e3 (bindE (m := Option) ec ?_))
          rw [mulW_ok hw (wide_ch (by omega) k')]
          unfold duF
          rw [List.foldl_append, List.foldl_cons, List.foldl_nil, en, ek, Int.toNat_natCast, chI_nat]
      case h2 =>
        obtain ⟨hz1, _⟩ := hz
        cases z with
        | nx a =>
          have hz1 : a = .int (duF (S.zip P)) := hz1
          show a = _
          rw [hz1]
          unfold duF
          rw [duF_eq, zip_fold, wV_fold, Int.one_mul, zip_wV _ _ (by simp [hP])]
          rfl
        | rt v => exact hz1
      case h3 =>
        subst ha
        obtain ⟨z1, hz1⟩ := law_repr st m1 hP hP2
        obtain ⟨z2, hz2⟩ := big_repr (duV_wide pl)
        refine TrB.bL hz1 (TrB.bH (a := [.int (duV S P), .int (duV S P)]) ?_ ?_ ?_)
        · have h1 := okH_tI P
          have h2 := okH_tT S
          simp_all [okSl, okH]
        · have ecd : M_count_draws [.val (tT S), .val (tI P)] = some (.int (duV S P)) := count_eq pl
          simp only [op2, op1, cmp2, chain3, tst, notB, andB, orB, andD, orD, iteM, consM, starM, smallM, tupM, tupSM, lstM, argV, argK, comp1, comp1i, comp2, comp2i, comp11, seqM, rng1, rng2, zipSM, zip2M, zip3M, enumM, repM, joinM, catM, par3LM, put2M, popM, parLV, putVM, unpS, trg1M, sortSetM, orV, lrg1M, par3M, rdM, rdLM, partM, slcM, isiM, rtM, forM1, forM2, forM3, parM, unp2, unp3, unp2A, unp3A, unp4A, ob_pure, ob_some, ob_lift, Option.pure_def, add_int, sub_int, lt_int, le_int, gt_int, ge_int, eq_int, ne_int, min_int, max_int, neg_int, bool_bool, not_bool, is_none, isn_none, nn_int, nn_none, nn_tup, len_tup, len_lst, tup_lst, tup_tup, it_lst, it_tup, int_bool, int_int, oint_int, addI_int, subI_int, flat_tI, flat_int, flat_none, Option.bind_some, Option.map_some, Int.zero_add, thenB, thenM, List.nil_append, List.length_map, ob_assoc]
          refine bindE (m := Option) (range1_ok (by decide) (by decide)) (bindE (m := Option) (small_ok (by rw [rangeL_length]; decide)) ?_)
          exact lcA_mapM (F := fun i : Nat => PyData.int (0 + (i : Int))) (G := fun _ => PyData.int (duV S P)) (List.range 2) [] fun _ _ => ecd
        · refine TrB.bL hz2 (TrB.bL hz2 (TrB.bL (ne_strF z2) ?_))
          rw [if_neg Bool.false_ne_true]
          refine TrB.st (b := 0) (Q := fun a E => a = false ∧ E = E') (TrB.bL hz1 ?_) ?_ (by decide)
          · exact fun d n ψ hn q => ⟨false, ne_strF z1, q false E' n (hn.le (by omega)) ⟨rfl, rfl⟩⟩
          rintro _ _ ⟨rfl, rfl⟩
          refine TrB.ifF Bool.false_ne_true ?_
          refine TrB.bZ (b := 27) lsmall26 ?_
          rintro _ l3 ⟨S2, k2, rfl, st2, h12⟩
          refine TrB.bZ (b := 6) (plan26 st2 (by decide)) ?_
          rintro _ l4 ⟨P2, rfl, hP3, hP4⟩
          have pl2 := pln_of st2 (by decide) hP3 hP4
          have e12 : (S2.map fun r => r.sum.toNat).sum ≤ 12 := by
            have h0 : ∀ r ∈ S2, 0 ≤ r.sum := fun r hr => (pl2.sz r hr).1
            have e : (((S2.map fun r => r.sum.toNat).sum : Nat) : Int) = (S2.map List.sum).sum := by
              clear st2 h12 pl2 hP3
              induction S2 with
              | nil => rfl
              | cons q S2 ih =>
                have h1 := h0 q List.mem_cons_self
                rw [List.map_cons, List.map_cons, List.sum_cons, List.sum_cons, Int.natCast_add, ih fun r hr => h0 r (List.mem_cons_of_mem _ hr)]
                omega
            omega
          refine TrB.bH (a := .int (duV S2 P2)) ?_ ?_ ?_
          · have h1 := okH_tI P2
            have h2 := okH_tT S2
            simp_all [okSl, okH]
          · exact count_eq pl2
          · refine TrB.bZ (b := 0) (TrZ.growS (run_listed st2.one st2.four (fun r hr => (pl2.sz r hr).1) e12 hP3)) ?_
            rintro _ l5 rfl
            refine TrB.bL (a := false) (by rw [ne_int]; simp [boolD]) (TrB.ifF (by decide) (TrB.pure hd2))
  exact key 0 ⟨0, deck3 0 cs rs⟩ _ ⟨0, cs, rs, (List.append_nil _).symm, hl, h0, h64, hr, Int.le_refl _, by decide⟩ fun a E' n' _ q => q
end DD
namespace DD
open PySem PySem.Spec PyProof.Rows L2
theorem walk {l : PySem.W.OpenLaw} {q : Program} {loose : List Str} {XP : (Str → Option Value) → Heap → Prop} {YP : World → Heap → Prop} {d : DefRec} {K : Params → PySem.W.Frag} (hn : l.most = some 63) (hdf : d.params.defaults = []) (himp : importsNone q = true) (hY : ∀ (w : World) (h : Heap), YP w h → (K w.params).In h)
    (F : ∀ (w : World) (mg : Str → Option Value) (fa : Addr) (h : Heap), (K w.params).In h → h.Ns mainGlobals mg → mg d.name = some (.ref fa) → ∃ fd : FuncData, (∀ (s : Shared) (u : Value), BindsTo s fd ⟨[u], []⟩ [("_law_script", u)]) ∧ ∀ base : Heap, (K w.params).In base → base.Ns mainGlobals mg → SysAt base → FnG l.prog w (K w.params) mg base 3 fa fd ["_law_script"] (spLaw (K w.params))) :
    PySem.W.WalkO q loose XP YP l.row.toRowW d [] (fun f vs => PySem.call f vs) :=
  walk_g (n := 63) (k := 3) (x := "_law_script") (sp := fun w => spLaw (K w.params)) hn (by decide) hdf ⟨rfl, by decide, by decide⟩ himp hY F fun _ _ a ns _ hS => ⟨a, ns, rfl, hS, fun _ => rfl⟩
end DD
open PySem PySem.W PyProof.Rows
set_option maxRecDepth 100000 in
set_option maxHeartbeats 0 in
theorem PySem.Challenge.cw_darkdrawers_k26_choices_counted_holds : PySem.Challenge.rw_darkdrawers_k26_choices_counted.Holds := by
  w_on; o_law; k_head; (case hw => w_witness2)
  k_fill
  refine DD.walk (l := PySem.Challenge.rw_darkdrawers_k26_choices_counted) rfl rfl (by decide +kernel) (fun w h Y => PySem.W.kIn_of Y) ?F
  case F =>
    intro w mg fa h KX G hmg
    refine' DD.all_mk KX G hmg DD.law_true ?a0 ?l0 ?c0 ?k0 ?a1 ?l1 ?c1 ?k1 ?a2 ?l2 ?c2 ?k2 ?a3 ?l3 ?c3 ?k3 ?a4 ?l4 ?c4 ?k4 ?a5 ?l5 ?c5 ?k5 ?a6 ?l6 ?c6 ?k6 ?a7 ?l7 ?c7 ?k7 ?a8 ?l8 ?c8 ?k8 ?a9 ?l9 ?c9 ?k9 ?a10 ?l10 ?c10 ?k10 ?z0 ?z1 ?z2 ?z3 ?z4 ?z5 ?z6 ?z7 ?z8 ?z9
    (case a0 => k_is); (case l0 => k_is); (case c0 => k_is); (case k0 => k_is)
    (case a1 => k_is); (case l1 => k_is); (case c1 => k_is); (case k1 => k_is)
    (case a2 => k_is); (case l2 => k_is); (case c2 => k_is); (case k2 => k_is)
    (case a3 => k_is); (case l3 => k_is); (case c3 => k_is); (case k3 => k_is)
    (case a4 => k_is); (case l4 => k_is); (case c4 => k_is); (case k4 => k_is)
    (case a5 => k_is); (case l5 => k_is); (case c5 => k_is); (case k5 => k_is)
    (case a6 => k_is); (case l6 => k_is); (case c6 => k_is); (case k6 => k_is)
    (case a7 => k_is); (case l7 => k_is); (case c7 => k_is); (case k7 => k_is)
    (case a8 => k_is); (case l8 => k_is); (case c8 => k_is); (case k8 => k_is)
    (case a9 => k_is); (case l9 => k_is); (case c9 => k_is); (case k9 => k_is)
    (case a10 => k_is); (case l10 => k_is); (case c10 => k_is); (case k10 => k_is)
    (case z0 => k_is)
    (case z1 => k_is)
    (case z2 => k_is)
    (case z3 => k_is)
    (case z4 => k_is)
    (case z5 => k_is)
    (case z6 => k_is)
    (case z7 => k_is)
    (case z8 => k_is)
    (case z9 => k_is)
