import PyProof.Rows.All
import HandS.Exc
import Wide.All
import OpenK.AllK
import Wide.FinOn
import HandS.ForMost
import HandS.Walk
import HandS.Zip
import HandS.Flow
import HandS.IsInst
import HandS.Style
import HandS.TupAny
import HandS.TupMul
import HandS.Star
import PyProof.ListMulRoad
import PyProof.FactsAll.tuple_2
import PyProof.ReprRoads
import HandS.Zip0
import KE.GoesMore
import KE.GoesEnum
import HandS.Conv
import HandS.Dict
import HandS.RaiseMore
import HandS.Text
import HandS.SortInts
import HandS.SetFor
import PyProof.Rows.SetFrom
import HandS.Strs
import HandS.ExcCtx
import HandS.ExcInit
import HandS.TryOnly
import HandS.ExcOwn
import HandS.ExcField
import HandS.ExcIs
import HandS.WordsExc
import KE.KExcIs
import HandS.StrMore
import PyProof.StrOps2
import PyProof.FactsAll.list_0
import PyProof.FactsAll.list_3
import HandS.Property
import KE.KExcInit
import KE.KxField
import HandS.FStr
import PyProof.FString3
import KE.KCallOwn
import HandS.Hot
import HandS.HotCalls
import HandS.NoneIn
import HandS.Words
import PyProof.AutoIntOps
import HandS.TupSets
import KE.DataMinMax
import KE.SortData
import PyProof.RulesMatch
import KE.KStar
import HandS.Defaults
import HandS.GenList
import HandS.ClsMeth
import KE.KUnpack
import KE.KSuper
import HandS.Nested
import HandS.DictComp
import PySem.Challenge.RW_darkdrawers_k32_wishes_called
set_option Elab.async false
set_option linter.all false
set_option maxRecDepth 100000
set_option maxHeartbeats 4000000
namespace DD
open PySem PySem.Spec PyProof.Rows L2
abbrev D := PyData
/-- an error: its class, its fields -/
structure Exn where
  cls : Str
  fs : List (Str × D)
/-- what may change: an instance (its class's name, its fields), a list -/
inductive Cell where
  | ins (c : Str) (fs : List (Str × D))
  | lst (ds : List D)
/-- the world of a mirror: the number of draws (at most), the things that may change -/
structure Wd where
  n : Nat
  ob : List Cell
instance {n : Nat} : OfNat Wd n := ⟨⟨n, []⟩⟩
/-- a mirror's monad: what holds behind a run that begins at n -/
class Mo (m : Type → Type) extends Monad m where
  sat : {α : Type} → m α → Wd → (α → Wd → Prop) → (Exn → Wd → Prop) → Prop
  lift : {α : Type} → Option α → m α
  sat_pure : ∀ {α : Type} {a : α} {n : Wd} {φ : α → Wd → Prop} {ξ : Exn → Wd → Prop}, sat (pure a) n φ ξ → φ a n
  sat_bind : ∀ {α β : Type} {x : m α} {f : α → m β} {n : Wd} {φ : β → Wd → Prop} {ξ : Exn → Wd → Prop}, sat (x >>= f) n φ ξ → sat x n (fun a n' => sat (f a) n' φ ξ) ξ
  sat_lift : ∀ {α : Type} {o : Option α} {n : Wd} {φ : α → Wd → Prop} {ξ : Exn → Wd → Prop}, sat (lift o) n φ ξ → ∃ a, o = some a ∧ φ a n
instance : Mo Option where
  sat := fun o n φ _ => n.ob = [] ∧ ∃ a, o = some a ∧ φ a n
  lift := fun o => o
  sat_pure := fun h => by obtain ⟨_, a, e, q⟩ := h; cases e; exact q
  sat_bind := fun {α β x f n φ ξ} h => by
    obtain ⟨hn, b, e, q⟩ := h
    cases x with
    | none => cases e
    | some a => exact ⟨hn, a, rfl, hn, b, e, q⟩
  sat_lift := fun h => h.2
/-- the wishes themselves as a mirror (no error leaves; nothing else changes) -/
def W (α : Type) : Type := Nat → (α → Nat → Prop) → Prop
instance : Mo W where
  pure := fun a n φ => φ a n
  bind := fun x f n φ => x n (fun a n' => f a n' φ)
  sat := fun w s φ _ => s.ob = [] ∧ w s.n (fun a n' => φ a ⟨n', []⟩)
  lift := fun o n φ => ∃ a, o = some a ∧ φ a n
  sat_pure := fun {α a n φ ξ} h => by
    obtain ⟨h1, h2⟩ := h
    obtain ⟨k, ob⟩ := n
    cases h1
    exact h2
  sat_bind := fun {α β x f n φ ξ} h => by
    obtain ⟨h1, h2⟩ := h
    refine ⟨h1, ?_⟩
    have e : (fun a (n' : Nat) => (⟨n', []⟩ : Wd).ob = [] ∧ f a n' (fun b n' => φ b ⟨n', []⟩)) = fun a n' => f a n' (fun b n' => φ b ⟨n', []⟩) := by
      funext a n'
      exact propext ⟨fun h => h.2, fun h => ⟨rfl, h⟩⟩
    show x n.n (fun a (n' : Nat) => (⟨n', []⟩ : Wd).ob = [] ∧ f a n' (fun b n' => φ b ⟨n', []⟩))
    rw [e]
    exact h2
  sat_lift := fun {α o n φ ξ} h => by
    obtain ⟨h1, a, e, h2⟩ := h
    obtain ⟨k, ob⟩ := n
    cases h1
    exact ⟨a, e, h2⟩
/-- a mirror that sees no thing that may change, where there is none -/
class Plain (m : Type → Type) [Mo m] : Prop where
  plain : ∀ {α : Type} {x : m α} {n : Wd} {φ : α → Wd → Prop} {ξ : Exn → Wd → Prop}, Mo.sat x n φ ξ → n.ob = [] ∧ Mo.sat x n (fun a n' => n'.ob = [] ∧ φ a n') (fun e n' => n'.ob = [] ∧ ξ e n')
instance : Plain Option := ⟨fun ⟨h, a, e, q⟩ => ⟨h, h, a, e, h, q⟩⟩
instance : Plain W := ⟨fun {α x n φ ξ} h => by
  obtain ⟨h1, h2⟩ := h
  refine ⟨h1, h1, ?_⟩
  have e : (fun (a : α) (n' : Nat) => (⟨n', []⟩ : Wd).ob = [] ∧ φ a ⟨n', []⟩) = fun a n' => φ a ⟨n', []⟩ := by
    funext a n'
    exact propext ⟨fun h => h.2, fun h => ⟨rfl, h⟩⟩
  show x n.n (fun a (n' : Nat) => (⟨n', []⟩ : Wd).ob = [] ∧ φ a ⟨n', []⟩)
  rw [e]
  exact h2⟩
/-- no error comes out of it -/
class Calm (m : Type → Type) [Mo m] : Prop where
  calm : ∀ {α : Type} {x : m α} {n : Wd} {φ : α → Wd → Prop} {ξ ξ' : Exn → Wd → Prop}, Mo.sat x n φ ξ → Mo.sat x n φ ξ'
instance : Calm Option := ⟨fun h => h⟩
instance : Calm W := ⟨fun h => h⟩
/-! ### data in the heap -/
def keyD : Key → D
  | .inl i => .int i
  | .inr x => .str x
/-- a value that is no reference, as data -/
def flat : V → Bool
  | .non => true
  | .bl _ => true
  | .int _ => true
  | .str _ => true
  | _ => false
def flatD : V → D
  | .bl b => .bool b
  | .int i => .int i
  | .str x => .str x
  | _ => .none
/-- the class of the name c -/
structure ClsOk (K : PySem.W.Frag) (c : Str) (C : Addr) : Prop where
  nm : PySem.W.nsIn K mainGlobals c = some (some (.ref C))
  cl : Cls K C
  ha : PySem.W.findIn K (.ref C) "__class__" = some (some (.builtin "object.__class__"))
  hn : PySem.W.specialIn K (.builtin "object.__class__") "__get__" = some (some (.builtin "getset_descriptor.__get__"))
  ht : PySem.W.takesIn K (.builtin "object.__class__") = some true
  hm : PySem.W.mroIn K C (.type "object") = some true
  kit : (["NoneType", "bool", "int", "str", "list", "tuple", "dict"].all fun T => PySem.W.kitOne K (.ref C) (.type T) == some false) = true
/-- a thing that may change, as data: it can be neither shown nor compared -/
def bigI : Int := 2 ^ 2000
def refD (k : Nat) : D := .dict [(.none, .int (bigI + k))]
def refL (k : Nat) : D := .dict [(.bool false, .int (bigI + k))]
/-- an instance that does not change any more, as data: its class, its fields -/
def insD (c : Str) (fs : List (Str × D)) : D := .dict ((.bool true, .int bigI) :: (.none, .str c) :: fs.map fun p => (.str p.1, p.2))
mutual
inductive Da (K : PySem.W.Frag) (G : Hp) : V → D → Prop
  | non : Da K G .non .none
  | bl (b : Bool) : Da K G (.bl b) (.bool b)
  | int (i : Int) : Da K G (.int i) (.int i)
  | str (x : Str) : Da K G (.str x) (.str x)
  | lst {a : Addr} {xs : List V} {ds : List D} : G a = some (.lst xs) → DaAll K G xs ds → Da K G (.ref a) (.list ds)
  | tup {a : Addr} {xs : List V} {ds : List D} : SqT K G a xs → DaAll K G xs ds → Da K G (.ref a) (.tuple ds)
  | dct {a : Addr} {kvs : List (Key × V)} : G a = some (.dK kvs) → (∀ p ∈ kvs, flat p.2 = true) → Da K G (.ref a) (.dict (kvs.map fun p => (keyD p.1, flatD p.2)))
  | obj {a : Addr} {k : Nat} : G a = some (.own k) → Da K G (.ref a) (.dict [(.none, .int (bigI + k))])
  | cel {a : Addr} {k : Nat} : G a = some (.met k k) → Da K G (.ref a) (.dict [(.bool false, .int (bigI + k))])
  | fin {a C dx : Addr} {c : Str} {vs : List (Str × V)} {fs : List (Str × D)} : G a = some (.ins C dx vs) → ClsOk K c C → vs.map (·.1) = fs.map (·.1) → DaAll K G (vs.map (·.2)) (fs.map (·.2)) → Da K G (.ref a) (.dict ((.bool true, .int bigI) :: (.none, .str c) :: fs.map fun p => (.str p.1, p.2)))
inductive DaAll (K : PySem.W.Frag) (G : Hp) : List V → List D → Prop
  | nil : DaAll K G [] []
  | cons {v : V} {vs : List V} {d : D} {ds : List D} : Da K G v d → DaAll K G vs ds → DaAll K G (v :: vs) (d :: ds)
end
/-- marks of things that may change: an instance, a list -/
def mkOf : HO → Option Nat
  | .own k => some k
  | .met k _ => some k
  | _ => none
def isMk (o : HO) : Bool := (mkOf o).isSome
/-- the data stand in the heap; a mark of G stands for a thing that may change -/
structure SubM (G H : Hp) : Prop where
  h : ∀ a o, G a = some o → isMk o = false → H a = some o
  t : ∀ a, H a = none → G a = none
theorem SubM.sT {K : PySem.W.Frag} {H H' : Hp} {a : Addr} {xs : List V} (e : SubM H H') (h : SqT K H a xs) : SqT K H' a xs := by
  rcases h with (h | ⟨o, h⟩) | h
  · exact .inl (.inl (e.h _ _ h rfl))
  · exact .inl (.inr ⟨o, e.h _ _ h rfl⟩)
  · exact .inr h
theorem SubM.seq {K : PySem.W.Frag} {H H' : Hp} {a : Addr} {xs : List V} (e : SubM H H') (h : SqL K H a xs) : SqL K H' a xs := by
  rcases h with (h | ⟨o, h⟩) | h
  · exact .inl (.inl (e.h _ _ h rfl))
  · exact .inl (.inr ⟨o, e.h _ _ h rfl⟩)
  · exact .inr h
theorem SubM.trans {G H H' : Hp} (e : SubM G H) (s : Same H H') : SubM G H' := ⟨fun a o h m => s _ _ (e.h a o h m), fun a h => e.t a (s.free h)⟩
theorem _root_.L2.Same.subm {G G' H : Hp} (s : Same G G') (e : SubM G' H) : SubM G H := ⟨fun a o h m => e.h a o (s _ _ h) m, fun a h => s.free (e.t a h)⟩
theorem sameT' {K : PySem.W.Frag} {H H' : Hp} {a : Addr} {xs : List V} (e : Same H H') (h : SqT K H a xs) : SqT K H' a xs := by
  rcases h with (h | ⟨o, h⟩) | h
  · exact .inl (.inl (e _ _ h))
  · exact .inl (.inr ⟨o, e _ _ h⟩)
  · exact .inr h
theorem sameT {K : PySem.W.Frag} {H H' : Hp} {a : Addr} {xs : List V} (e : SubM H H') (h : SqT K H a xs) : SqT K H' a xs := e.sT h
section
variable {K : PySem.W.Frag} {G G' H H' : Hp}
mutual
theorem Da.mono (e : Same G G') : ∀ {d : D} {v : V}, Da K G v d → Da K G' v d
  | _, _, .non => .non
  | _, _, .bl b => .bl b
  | _, _, .int i => .int i
  | _, _, .str x => .str x
  | _, _, .lst h a => .lst (e _ _ h) (DaAll.mono e a)
  | _, _, .tup h a => .tup (sameT' e h) (DaAll.mono e a)
  | _, _, .dct h a => .dct (e _ _ h) a
  | _, _, .obj h => .obj (e _ _ h)
  | _, _, .cel h => .cel (e _ _ h)
  | _, _, .fin h k l a => .fin (e _ _ h) k l (DaAll.mono e a)
theorem DaAll.mono (e : Same G G') : ∀ {ds : List D} {vs : List V}, DaAll K G vs ds → DaAll K G' vs ds
  | _, _, .nil => .nil
  | _, _, .cons a b => .cons (Da.mono e a) (DaAll.mono e b)
end
theorem DaAll.length : ∀ {vs : List V} {ds : List D}, DaAll K G vs ds → vs.length = ds.length
  | _, _, .nil => rfl
  | _, _, .cons _ b => by simp [DaAll.length b]
theorem DaAll.get : ∀ {vs : List V} {ds : List D} {i : Nat} {d : D}, DaAll K G vs ds → ds[i]? = some d → ∃ v, vs[i]? = some v ∧ Da K G v d
  | _, _, _, _, .nil, e => by simp at e
  | _, _, 0, _, .cons a _, e => by simp at e; subst e; exact ⟨_, rfl, a⟩
  | _, _, i + 1, d, .cons _ b, e => by
    obtain ⟨v, h1, h2⟩ := DaAll.get (i := i) (d := d) b (by simpa using e)
    exact ⟨v, by simpa using h1, h2⟩
theorem DaAll.getV : ∀ {vs : List V} {ds : List D} {i : Nat} {v : V}, DaAll K G vs ds → vs[i]? = some v → ∃ d, ds[i]? = some d ∧ Da K G v d
  | _, _, _, _, .nil, e => by simp at e
  | _, _, 0, _, .cons a _, e => by simp at e; subst e; exact ⟨_, rfl, a⟩
  | _, _, i + 1, v, .cons _ b, e => by
    obtain ⟨d, h1, h2⟩ := DaAll.getV (i := i) (v := v) b (by simpa using e)
    exact ⟨d, by simpa using h1, h2⟩
theorem DaAll.append : ∀ {vs ws : List V} {ds es : List D}, DaAll K G vs ds → DaAll K G ws es → DaAll K G (vs ++ ws) (ds ++ es)
  | _, _, _, _, .nil, b => b
  | _, _, _, _, .cons a r, b => .cons a (DaAll.append r b)
theorem DaAll.one {v : V} {d : D} (h : Da K G v d) : DaAll K G [v] [d] := .cons h .nil
theorem DaAll.take : ∀ {vs : List V} {ds : List D} (n : Nat), DaAll K G vs ds → DaAll K G (vs.take n) (ds.take n)
  | _, _, 0, _ => .nil
  | _, _, _ + 1, .nil => .nil
  | _, _, n + 1, .cons a b => .cons a (DaAll.take n b)
theorem DaAll.drop : ∀ {vs : List V} {ds : List D} (n : Nat), DaAll K G vs ds → DaAll K G (vs.drop n) (ds.drop n)
  | _, _, 0, h => h
  | _, _, _ + 1, .nil => .nil
  | _, _, n + 1, .cons _ b => DaAll.drop n b
theorem DaAll.set {v : V} {d : D} (h : Da K G v d) : ∀ {vs : List V} {ds : List D} (n : Nat), DaAll K G vs ds → DaAll K G (vs.set n v) (ds.set n d)
  | _, _, _, .nil => .nil
  | _, _, 0, .cons _ b => .cons h b
  | _, _, n + 1, .cons a b => .cons a (DaAll.set h n b)
theorem DaAll.replicate {v : V} {d : D} (h : Da K G v d) : ∀ n : Nat, DaAll K G (List.replicate n v) (List.replicate n d)
  | 0 => .nil
  | n + 1 => .cons h (DaAll.replicate h n)
theorem DaAll.flatReplicate {vs : List V} {ds : List D} (h : DaAll K G vs ds) : ∀ n : Nat, DaAll K G (List.replicate n vs).flatten (List.replicate n ds).flatten
  | 0 => .nil
  | n + 1 => by
    rw [List.replicate_succ, List.replicate_succ, List.flatten_cons, List.flatten_cons]
    exact h.append (DaAll.flatReplicate h n)
theorem daInts : ∀ ns : List Int, DaAll K G (ns.map V.int) (ns.map PyData.int)
  | [] => .nil
  | n :: r => .cons (.int n) (daInts r)
theorem DaAll.ints : ∀ {vs : List V} {ns : List Int}, DaAll K G vs (ns.map PyData.int) → vs = ns.map V.int
  | [], [], _ => rfl
  | _ :: _, n :: ns, .cons a b => by
    cases a
    rw [List.map_cons, DaAll.ints b]
end
/-! ### data without things that may change -/
mutual
def okD : D → Bool
  | .none => true
  | .bool _ => true
  | .int _ => true
  | .str _ => true
  | .list ds => okDs ds
  | .tuple ds => okDs ds
  | .dict kvs => okK kvs
def okDs : List D → Bool
  | [] => true
  | d :: ds => okD d && okDs ds
def okK : List (D × D) → Bool
  | (.none, _) :: _ => false
  | (.bool _, _) :: _ => false
  | _ => true
end
mutual
theorem ok_canLay : ∀ d : D, d.canLay0 = true → okD d = true
  | .none, _ => rfl
  | .bool _, _ => rfl
  | .int _, _ => rfl
  | .str _, _ => rfl
  | .list ds, h => ok_canLays ds (by simpa [PyData.canLay0] using h)
  | .tuple ds, h => ok_canLays ds (by simpa [PyData.canLay0] using h)
  | .dict _, h => by simp [PyData.canLay0] at h
theorem ok_canLays : ∀ ds : List D, PyData.canLayAll0 ds = true → okDs ds = true
  | [], _ => rfl
  | d :: ds, h => by
    simp only [PyData.canLayAll0, Bool.and_eq_true] at h
    simp only [okDs, Bool.and_eq_true]
    exact ⟨ok_canLay d h.1, ok_canLays ds h.2⟩
end
theorem big_no (k : Nat) : PyData.showable (.int (bigI + k)) = false := by
  simp only [PyData.showable, decide_eq_false_iff_not, Nat.not_lt]
  have e : (bigI + (k : Int)).natAbs = 2 ^ 2000 + k := by
    unfold bigI
    rw [show ((2 : Int) ^ 2000) = ((2 ^ 2000 : Nat) : Int) from by norm_cast, ← Int.natCast_add]
    exact Int.natAbs_natCast _
  rw [e]
  exact (Nat.le_log2 (Nat.ne_of_gt (Nat.lt_of_lt_of_le (Nat.two_pow_pos 2000) (Nat.le_add_right _ _)))).mpr (Nat.le_trans (Nat.pow_le_pow_right (by decide) (by decide : 1920 ≤ 2000)) (Nat.le_add_right _ _))
/-- the dict of sys.modules is none of ours -/
def Sys (X : Cx) : Prop := ∃ o es ep, X.base.get? sysModules = some o ∧ o.data = .dict es ep
section
variable {X : Cx} {pins : List (Addr × Obj)} {σ : L2.St} {H : Hp} {s : Shared}
theorem ne_sysL (hy : Sys X) (I : Inv X pins σ H s) {a : Addr} {xs : List V} (h : SqL X.K H a xs) : a ≠ sysModules := by
  rintro rfl
  obtain ⟨o, es, ep, e, d⟩ := hy
  obtain ⟨its, _, ⟨o', n, e', _, _, d'⟩, _⟩ := I.list h
  rw [(I.bs _ _ e).1] at e'
  cases e'
  rw [d] at d'
  cases d'
theorem flat_reads {v : V} {u : Value} (f : flat v = true) (r : RelV v u) : ∀ h : Heap, Reads h u (flatD v) [] := fun h => by
  cases v with
  | non => cases r; exact Reads.none
  | bl b => cases r; exact Reads.bool b
  | int i => obtain ⟨t, rfl⟩ := r; exact Reads.int i t
  | str x => obtain ⟨t, rfl⟩ := r; exact Reads.str x t
  | _ => cases f
theorem pairs_reads {h : Heap} : ∀ {es : List DictEntry} {vs : List (Key × Value)} {kvs : List (Key × V)}, Pairs (mixKind X.prog X.w) es vs → KV kvs vs → (∀ p ∈ kvs, flat p.2 = true) →
    ReadsAll h (es.map (·.key)) ((kvs.map fun p => (keyD p.1, flatD p.2)).map (·.1)) [] ∧ ReadsAll h (es.map (·.val)) ((kvs.map fun p => (keyD p.1, flatD p.2)).map (·.2)) []
  | _, _, _, .nil, .nil, _ => ⟨.nil, .nil⟩
  | _, _, _, .cons hk hv t, .cons r rr, f => by
    obtain ⟨h1, h2⟩ := pairs_reads (h := h) t rr fun p hp => f p (List.mem_cons_of_mem _ hp)
    obtain ⟨e1, r1⟩ := r
    refine ⟨ReadsAll.cons (as := []) (bs := []) ?_ h1, ReadsAll.cons (as := []) (bs := []) ?_ h2⟩
    · rcases keyIs_shape (show keyIs _ _ = true from hk) with ⟨i, t, ek, ev⟩ | ⟨x, t, ek, ev⟩
      · dsimp only
        rw [ev, e1, ek]
        exact Reads.int i t
      · dsimp only
        rw [ev, e1, ek]
        exact Reads.str x t
    · dsimp only
      rw [hv]
      exact flat_reads (f _ List.mem_cons_self) r1 h
mutual
theorem Da.reads (hy : Sys X) (I : Inv X pins σ H s) : ∀ (d : D) (v : V) (u : Value), Da X.K H v d → okD d = true → RelV v u → ∃ as, Reads s.heap u d as ∧ sysModules ∉ as
  | .none, _, _, h, _, r => by
    cases h
    cases r
    exact ⟨_, Reads.none, by simp⟩
  | .bool b, _, _, h, _, r => by
    cases h
    cases r
    exact ⟨_, Reads.bool b, by simp⟩
  | .int i, _, _, h, _, r => by
    cases h
    obtain ⟨t, rfl⟩ := r
    exact ⟨_, Reads.int i t, by simp⟩
  | .str x, _, _, h, _, r => by
    cases h
    obtain ⟨t, rfl⟩ := r
    exact ⟨_, Reads.str x t, by simp⟩
  | .list ds, _, _, h, ok, r => by
    cases h with
    | lst hs ha =>
      cases r
      obtain ⟨its, rv, ⟨o, n, ho, hc, _, hd⟩, _⟩ := I.list (SqL.of hs)
      obtain ⟨as, hr, hn⟩ := Da.readsAll hy I ds _ its ha ok rv
      refine ⟨_, Reads.list ho hc hd hr, fun hm => ?_⟩
      rcases List.mem_cons.mp hm with e | e
      · exact ne_sysL hy I (SqL.of hs) e.symm
      · exact hn e
  | .tuple ds, _, _, h, ok, r => by
    cases h with
    | tup hs ha =>
      cases r
      obtain ⟨its, rv, ⟨o, ho, hc, n, hd⟩, _⟩ := I.tuple hs
      obtain ⟨as, hr, hn⟩ := Da.readsAll hy I ds _ its ha ok rv
      exact ⟨_, Reads.tuple ho hc hd hr, hn⟩
  | .dict kvs, _, _, h, ok, r => by
    cases h with
    | dct hs hf =>
      cases r
      obtain ⟨z, y, vs, kv, o, es, ep, ho, hx, hd, _, hp, _⟩ := I.hok _ _ hs
      obtain ⟨h1, h2⟩ := pairs_reads (h := s.heap) hp kv hf
      refine ⟨_, Reads.dict ho hx.1 hd h1 h2, fun hm => ?_⟩
      rcases List.mem_cons.mp hm with e | e
      · rw [← e] at y
        exact absurd y (by decide)
      · simp at e
    | obj hs => cases ok
    | cel hs => cases ok
    | fin _ _ _ _ => cases ok
theorem Da.readsAll (hy : Sys X) (I : Inv X pins σ H s) : ∀ (ds : List D) (vs : List V) (us : List Value), DaAll X.K H vs ds → okDs ds = true → Vals vs us → ∃ as, ReadsAll s.heap us ds as ∧ sysModules ∉ as
  | [], _, _, h, _, r => by
    cases h
    cases r
    exact ⟨_, ReadsAll.nil, by simp⟩
  | d :: ds, _, _, h, ok, r => by
    cases h with
    | cons h1 h2 =>
      cases r with
      | cons r1 r2 =>
        simp only [okDs, Bool.and_eq_true] at ok
        obtain ⟨as, q1, n1⟩ := Da.reads hy I d _ _ h1 ok.1 r1
        obtain ⟨bs, q2, n2⟩ := Da.readsAll hy I ds _ _ h2 ok.2 r2
        exact ⟨_, ReadsAll.cons q1 q2, by simp [n1, n2]⟩
end
end
section
variable {K : PySem.W.Frag} {G H : Hp}
mutual
theorem Da.toH (e : SubM G H) : ∀ {d : D} {v : V}, Da K G v d → okD d = true → Da K H v d
  | _, _, .non, _ => .non
  | _, _, .bl b, _ => .bl b
  | _, _, .int i, _ => .int i
  | _, _, .str x, _ => .str x
  | _, _, .lst h a, ok => .lst (e.h _ _ h rfl) (DaAll.toH e a ok)
  | _, _, .tup h a, ok => .tup (sameT e h) (DaAll.toH e a ok)
  | _, _, .dct h a, _ => .dct (e.h _ _ h rfl) a
  | _, _, .obj h, ok => by cases ok
  | _, _, .cel h, ok => by cases ok
  | _, _, .fin _ _ _ _, ok => by cases ok
theorem DaAll.toH (e : SubM G H) : ∀ {ds : List D} {vs : List V}, DaAll K G vs ds → okDs ds = true → DaAll K H vs ds
  | _, _, .nil, _ => .nil
  | _, _, .cons a b, ok => by
    simp only [okDs, Bool.and_eq_true] at ok
    exact .cons (Da.toH e a ok.1) (DaAll.toH e b ok.2)
end
mutual
theorem Da.okS : ∀ {d : D} {v : V}, Da K G v d → d.showable = true → okD d = true
  | _, _, .non, _ => rfl
  | _, _, .bl b, _ => rfl
  | _, _, .int i, _ => rfl
  | _, _, .str x, _ => rfl
  | _, _, .lst h a, ok => DaAll.okS a (by simpa [PyData.showable] using ok)
  | _, _, .tup h a, ok => DaAll.okS a (by simpa [PyData.showable] using ok)
  | _, _, .dct (kvs := kvs) h a, _ => by
    cases kvs with
    | nil => rfl
    | cons p r =>
      obtain ⟨k, v⟩ := p
      cases k <;> rfl
  | _, _, .obj (k := k) h, ok => by
    have : PyData.showable (.dict [(.none, .int (bigI + k))]) = (PyData.showable .none && PyData.showable (.int (bigI + k)) && true) := by simp only [PyData.showable, PyData.showableKv]
    rw [this, big_no] at ok
    simp at ok
  | _, _, .cel (k := k) h, ok => by
    have : PyData.showable (.dict [(.bool false, .int (bigI + k))]) = (PyData.showable (.bool false) && PyData.showable (.int (bigI + k)) && true) := by simp only [PyData.showable, PyData.showableKv]
    rw [this, big_no] at ok
    simp at ok
  | _, _, .fin (c := c) (fs := fs) _ _ _ _, ok => by
    have : PyData.showable (.dict ((.bool true, .int bigI) :: (.none, .str c) :: fs.map fun p => (PyData.str p.1, p.2))) = (PyData.showable (.bool true) && PyData.showable (.int bigI) && PyData.showableKv ((.none, .str c) :: fs.map fun p => (PyData.str p.1, p.2))) := by simp only [PyData.showable, PyData.showableKv]
    have e : PyData.showable (.int bigI) = false := by
      have := big_no 0
      rwa [Int.natCast_zero, Int.add_zero] at this
    rw [this, e] at ok
    simp at ok
theorem DaAll.okS : ∀ {ds : List D} {vs : List V}, DaAll K G vs ds → PyData.showableAll ds = true → okDs ds = true
  | _, _, .nil, _ => rfl
  | _, _, .cons a b, ok => by
    simp only [PyData.showableAll, Bool.and_eq_true] at ok
    simp only [okDs, Bool.and_eq_true]
    exact ⟨Da.okS a ok.1, DaAll.okS b ok.2⟩
end
end
/-! ### the state: what a body knows -/
/-- a def's entry: the heap, what of it is data, the deck -/
structure Bs where
  H : Hp
  G : Hp
  dk : Option (Addr × Addr)
  tG : Hp
/-- what a def may change: the deck, the marked things -/
def Bs.fp (B : Bs) (a : Addr) : Prop := (∃ x y, B.dk = some (x, y) ∧ (a = x ∨ a = y)) ∨ ∃ u, B.G a = some u ∧ isMk u = true
def DeckAt (H : Hp) (a b : Addr) (n : Nat) : Prop := ∃ (cells : List Int) (c : Int), H a = some (.lst [.ref b, .int c]) ∧ H b = some (.lst (cells.map V.int)) ∧ a ≠ b ∧ 0 ≤ c ∧ c ≤ (n : Int) ∧ (∀ x ∈ cells, 0 ≤ x) ∧ cells.length ≤ 63
def CellAt (K : PySem.W.Frag) (G H : Hp) (a k : Addr) : Cell → Prop
  | .ins c fs => G a = some (.own k) ∧ ∃ C dx vs, ClsOk K c C ∧ H a = some (.ins C dx vs) ∧ vs.map (·.1) = fs.map (·.1) ∧ DaAll K G (vs.map (·.2)) (fs.map (·.2))
  | .lst ds => G a = some (.met k k) ∧ ∃ xs, H a = some (.lst xs) ∧ DaAll K G xs ds
theorem CellAt.there {K : PySem.W.Frag} {G H : Hp} {a k : Addr} : ∀ {c : Cell}, CellAt K G H a k c → H a ≠ none
  | .ins _ _, ⟨_, C, dx, vs, _, e, _⟩ => by rw [e]; simp
  | .lst _, ⟨_, xs, e, _⟩ => by rw [e]; simp
theorem CellAt.mark {K : PySem.W.Frag} {G H : Hp} {a k : Addr} : ∀ {c : Cell}, CellAt K G H a k c → ∃ u, G a = some u ∧ mkOf u = some k
  | .ins _ _, h => ⟨_, h.1, rfl⟩
  | .lst _, h => ⟨_, h.1, rfl⟩
theorem CellAt.mono {K : PySem.W.Frag} {G H G' H' : Hp} {a k : Addr} (s : Same G G') (e : ∀ o, H a = some o → H' a = some o) : ∀ {c : Cell}, CellAt K G H a k c → CellAt K G' H' a k c
  | .ins _ _, ⟨g, C, dx, vs, n, h, l, d⟩ => ⟨s _ _ g, C, dx, vs, n, e _ h, l, d.mono s⟩
  | .lst _, ⟨g, xs, h, d⟩ => ⟨s _ _ g, xs, e _ h, d.mono s⟩
/-- the marked things are those of the world -/
structure Obs (K : PySem.W.Frag) (H G : Hp) (n : Wd) : Prop where
  at_ : ∀ a u k, G a = some u → mkOf u = some k → ∃ c, n.ob[k]? = some c ∧ CellAt K G H a k c
  inj : ∀ a b u w k, G a = some u → G b = some w → mkOf u = some k → mkOf w = some k → a = b
  all : ∀ k c, n.ob[k]? = some c → ∃ a, CellAt K G H a k c
theorem Obs.grow {K : PySem.W.Frag} {H G H' G' : Hp} {n : Wd} (o : Obs K H G n) (s : Same H H') (sg : Same G G') (mk : ∀ a u, isMk u = true → G' a = some u → G a = some u) : Obs K H' G' n where
  at_ := fun a u k e m => by
    obtain ⟨c, h1, h2⟩ := o.at_ a u k (mk a u (by unfold isMk; rw [m]; rfl) e) m
    exact ⟨c, h1, h2.mono sg fun _ h => s _ _ h⟩
  inj := fun a b u w k e f m m' => o.inj a b u w k (mk a u (by unfold isMk; rw [m]; rfl) e) (mk b w (by unfold isMk; rw [m']; rfl) f) m m'
  all := fun k c e => by
    obtain ⟨a, h⟩ := o.all k c e
    exact ⟨a, h.mono sg fun _ h => s _ _ h⟩
structure Fm (K : PySem.W.Frag) (B : Bs) (H G : Hp) (n : Wd) : Prop where
  keep : ∀ a o, B.H a = some o → ¬ B.fp a → H a = some o
  sub : SubM G H
  old : Same B.G G
  obs : Obs K H G n
  bt : ∀ a, B.H a = none → B.G a = none
  tg : Same B.tG G
  new : ∀ a, B.H a ≠ none → B.G a = none → G a = none
  deck : ∀ a b, B.dk = some (a, b) → DeckAt H a b n.n ∧ B.H a ≠ none ∧ B.H b ≠ none ∧ B.G a = none ∧ B.G b = none
/-- what a slot holds: data, a list of its own (it may be changed), the deck, anything -/
inductive Sl where
  | val (d : D) | own (ds : List D) | deck | any | exn (a : Addr) (od : Option Addr) (fs : List (Str × D))
/-- the fields of an error that is held -/
def XdAt (K : PySem.W.Frag) (G : Hp) (od : Option Addr) (fs : List (Str × D)) : Prop := (fs = [] ∧ od = none) ∨ ∃ dx vs, od = some dx ∧ G dx = some (.xd vs) ∧ vs.map (·.1) = fs.map (·.1) ∧ DaAll K G (vs.map (·.2)) (fs.map (·.2))
theorem XdAt.mono {K : PySem.W.Frag} {G G' : Hp} {od : Option Addr} {fs : List (Str × D)} (s : Same G G') (h : XdAt K G od fs) : XdAt K G' od fs := by
  rcases h with h | ⟨dx, vs, h1, h2, h3, h4⟩
  · exact .inl h
  · exact .inr ⟨dx, vs, h1, s _ _ h2, h3, h4.mono s⟩
structure Ok (K : PySem.W.Frag) (B : Bs) (g : List Sl) (σ : L2.St) (H G : Hp) (n : Wd) : Prop where
  fm : Fm K B H G n
  len : g.length = σ.length
  val : ∀ (i : Nat) (d : D), g[i]? = some (Sl.val d) → ∃ v, σ[i]? = some (some v) ∧ Da K G v d
  own : ∃ f : Nat → Addr, (∀ (i j : Nat) (ds es : List D), g[i]? = some (Sl.own ds) → g[j]? = some (Sl.own es) → f i = f j → i = j) ∧
    ∀ (i : Nat) (ds : List D), g[i]? = some (Sl.own ds) → σ[i]? = some (some (V.ref (f i))) ∧ G (f i) = none ∧ B.H (f i) = none ∧ ∃ xs, H (f i) = some (.lst xs) ∧ DaAll K G xs ds
  dck : ∀ (i : Nat), g[i]? = some Sl.deck → ∃ a b, B.dk = some (a, b) ∧ σ[i]? = some (some (V.ref a))
  adr : ∀ (i : Nat) (a : Addr) (od : Option Addr) (fs : List (Str × D)), g[i]? = some (Sl.exn a od fs) → σ[i]? = some (some (V.ref a)) ∧ XdAt K G od fs
/-- an error as it lies behind the code -/
def ExA (K : PySem.W.Frag) (mg : Str → Option Value) (e : Exn) (G : Hp) (c : Value) (od : Option Addr) : Prop := ∃ C, mg e.cls = some (.ref C) ∧ c = .ref C ∧ XdAt K G od e.fs
abbrev ExAt (X : Cx) (e : Exn) (G : Hp) (_ : Hp) (c : Value) (od : Option Addr) : Prop := ExA X.K X.mg e G c od
/-- what is wished at an exception: w; the slots that are kept: g -/
structure XR where
  w : WX
  g : List Sl
def X0 : XR := ⟨fun _ _ _ _ => False, []⟩
def Xw (X : Cx) (B : Bs) (EX : XR) (ξ : Exn → Wd → Prop) : Prop := ∀ e n' σ' H' G' c od, ξ e n' → Ok X.K B EX.g σ' H' G' n' → ExAt X e G' H' c od → EX.w c od σ' H'
section
variable {K : PySem.W.Frag} {B : Bs} {g : List Sl} {σ : L2.St} {H G H' G' : Hp} {n : Wd}
/-- the heap grows: G grows with it, but not into what stood there -/
theorem Fm.there (f : Fm K B H G n) {a : Addr} {o : HO} (e : G a = some o) : H a ≠ none := fun h => by
  rw [f.sub.t a h] at e
  cases e
theorem Fm.fpThere (f : Fm K B H G n) {a : Addr} (h : B.fp a) : H a ≠ none := by
  rcases h with ⟨x, y, ed, hxy⟩ | ⟨k, e⟩
  · obtain ⟨⟨cs, c, h1, h2, _⟩, _⟩ := f.deck x y ed
    rcases hxy with rfl | rfl
    · rw [h1]; simp
    · rw [h2]; simp
  · exact f.there (f.old _ _ e.1)
theorem Fm.grow (f : Fm K B H G n) (s : Same H H') (sg : Same G G') (sb : SubM G' H') (nw : ∀ a, H a ≠ none → G a = none → G' a = none) (mk : ∀ a u, isMk u = true → G' a = some u → G a = some u) : Fm K B H' G' n where
  keep := fun a o e q => s _ _ (f.keep a o e q)
  sub := sb
  old := f.old.trans sg
  obs := f.obs.grow s sg mk
  bt := f.bt
  tg := f.tg.trans sg
  new := fun a e q => by
    by_cases h : H a = none
    · by_cases hp : B.fp a
      · exact absurd h (f.fpThere hp)
      · cases hb : B.H a with
        | none => exact absurd hb e
        | some o => rw [f.keep a o hb hp] at h; cases h
    · exact nw a h (f.new a e q)
  deck := fun a b e => by
    obtain ⟨⟨cs, c, h1, h2, h3⟩, r⟩ := f.deck a b e
    exact ⟨⟨cs, c, s _ _ h1, s _ _ h2, h3⟩, r⟩
theorem Ok.grow (o : Ok K B g σ H G n) (s : Same H H') (sg : Same G G') (sb : SubM G' H') (nw : ∀ a, H a ≠ none → G a = none → G' a = none) (mk : ∀ a u, isMk u = true → G' a = some u → G a = some u) : Ok K B g σ H' G' n where
  fm := o.fm.grow s sg sb nw mk
  len := o.len
  val := fun i d e => by
    obtain ⟨v, h1, h2⟩ := o.val i d e
    exact ⟨v, h1, h2.mono sg⟩
  own := by
    obtain ⟨f, h1, h2⟩ := o.own
    refine ⟨f, h1, fun i ds e => ?_⟩
    obtain ⟨a, b, c, xs, d, e⟩ := h2 i ds e
    exact ⟨a, nw _ (by rw [d]; simp) b, c, xs, s _ _ d, e.mono sg⟩
  dck := o.dck
  adr := fun i a od fs e => ⟨(o.adr i a od fs e).1, (o.adr i a od fs e).2.mono sg⟩
theorem same_upd {H : Hp} {p : Addr} {o : HO} (h : H p = none) : Same H (upd H p o) := fun b x e => by
  rw [upd_ne (ne_of_none e h)]
  exact e
/-- a new object that is data -/
theorem Ok.alloc (o : Ok K B g σ H G n) {p : Addr} {u : HO} (h : H p = none) (hu : isMk u = false := by rfl) : Ok K B g σ (upd H p u) (upd G p u) n ∧ Same G (upd G p u) := by
  have hg : G p = none := by
    cases e : G p with
    | none => rfl
    | some z => exact absurd h (o.fm.there e)
  refine ⟨o.grow (same_upd h) (same_upd hg) ⟨fun a z e m => ?_, fun a e => ?_⟩ (fun a e q => ?_) (fun a w m e => ?_), same_upd hg⟩
  · unfold upd at e ⊢
    split at e
    · rename_i ha; rw [if_pos ha]; exact e
    · rename_i ha; rw [if_neg ha]; exact o.fm.sub.h _ _ e m
  · unfold upd at e ⊢
    split at e
    · cases e
    · rename_i ha; rw [if_neg ha]; exact o.fm.sub.t a e
  · have : a ≠ p := by rintro rfl; exact e h
    rw [upd_ne this]; exact q
  · unfold upd at e
    split at e
    · cases e; rw [hu] at m; cases m
    · exact e
/-- a new object that is not data (yet) -/
theorem Ok.raw (o : Ok K B g σ H G n) {p : Addr} {u : HO} (h : H p = none) : Ok K B g σ (upd H p u) G n :=
  o.grow (same_upd h) (Same.refl _) (o.fm.sub.trans (same_upd h)) (fun _ _ q => q) fun _ _ _ q => q
theorem Ok.free (o : Ok K B g σ H G n) {p : Addr} (h : H p = none) : G p = none := by
  cases e : G p with
  | none => rfl
  | some z => exact absurd h (o.fm.there e)
end
/-! ### the judgements -/
section
variable {m : Type → Type} [Mo m]
/-- an expression that gives data -/
def teJ (X : Cx) (EX : XR) (g : List Sl) (x : m D) : TE := fun σ H Q => ∃ B G n φ ξ, Ok X.K B g σ H G n ∧ Mo.sat x n φ ξ ∧ (∀ v H' G' d n', Ok X.K B g σ H' G' n' → Same G G' → Da X.K G' v d → φ d n' → Q v H') ∧ Xw X B EX ξ
def EJ (X : Cx) (EX : XR) (e : Expr) (g : List Sl) (x : m D) : Prop := PE X e (teJ X EX g x)
/-- an expression that gives a new list, not data yet -/
def tlJ (X : Cx) (EX : XR) (g : List Sl) (x : m (List D)) : TE := fun σ H Q => ∃ B G n φ ξ, Ok X.K B g σ H G n ∧ Mo.sat x n φ ξ ∧
  (∀ p xs H' G' ds n', Ok X.K B g σ H' G' n' → Same G G' → B.H p = none → G' p = none → H' p = some (.lst xs) → (∀ (i : Nat) (es : List D) (f : Addr), g[i]? = some (Sl.own es) → σ[i]? = some (some (V.ref f)) → f ≠ p) → DaAll X.K G' xs ds → φ ds n' → Q (.ref p) H') ∧ Xw X B EX ξ
def LJ (X : Cx) (EX : XR) (e : Expr) (g : List Sl) (x : m (List D)) : Prop := PE X e (tlJ X EX g x)
def ttJ (X : Cx) (EX : XR) (g : List Sl) (x : m Bool) : TT := fun σ H Q => ∃ B G n φ ξ, Ok X.K B g σ H G n ∧ Mo.sat x n φ ξ ∧ (∀ b H' G' n', Ok X.K B g σ H' G' n' → Same G G' → φ b n' → Q b H') ∧ Xw X B EX ξ
def TJ (X : Cx) (EX : XR) (e : Expr) (g : List Sl) (x : m Bool) : Prop := PT X e (ttJ X EX g x)
/-- arguments: data, or the deck -/
def ArgOk (K : PySem.W.Frag) (B : Bs) (G : Hp) : V → Sl → Prop
  | v, .val d => Da K G v d
  | v, .deck => ∃ a b, B.dk = some (a, b) ∧ v = .ref a
  | _, _ => False
inductive ArgsOk (K : PySem.W.Frag) (B : Bs) (G : Hp) : List V → List Sl → Prop
  | nil : ArgsOk K B G [] []
  | cons {v : V} {vs : List V} {a : Sl} {as : List Sl} : ArgOk K B G v a → ArgsOk K B G vs as → ArgsOk K B G (v :: vs) (a :: as)
def taJ (X : Cx) (EX : XR) (g : List Sl) (x : m (List Sl)) : TA := fun σ H Q => ∃ B G n φ ξ, Ok X.K B g σ H G n ∧ Mo.sat x n φ ξ ∧ (∀ vs H' G' as n', Ok X.K B g σ H' G' n' → Same G G' → ArgsOk X.K B G' vs as → φ as n' → Q vs H') ∧ Xw X B EX ξ
def AJ (X : Cx) (EX : XR) (es : List Expr) (g : List Sl) (x : m (List Sl)) : Prop := PA X es (taJ X EX g x)
end
theorem _root_.L2.PE.weak {X : Cx} {e : Expr} {t t' : TE} (h : PE X e t) (w : ∀ σ H Q, t' σ H Q → t σ H Q) : PE X e t' := ⟨fun pins s σ H Q I q => h.run pins s σ H Q I (w _ _ _ q)⟩
theorem _root_.L2.PT.weak {X : Cx} {e : Expr} {t t' : TT} (h : PT X e t) (w : ∀ σ H Q, t' σ H Q → t σ H Q) : PT X e t' := ⟨fun pins s σ H Q I q => h.run pins s σ H Q I (w _ _ _ q)⟩
theorem _root_.L2.PA.weak {X : Cx} {es : List Expr} {t t' : TA} (h : PA X es t) (w : ∀ σ H Q, t' σ H Q → t σ H Q) : PA X es t' := ⟨fun pos pins s σ H Q I q => h.run pos pins s σ H Q I (w _ _ _ q)⟩
theorem _root_.L2.PSs.weak {X : Cx} {ss : List Stmt} {t t' : TS} (h : PSs X ss t) (w : ∀ D σ H, t' D σ H → t D σ H) : PSs X ss t' := ⟨fun pins s σ H D I q => h.run pins s σ H D I (w _ _ _ q)⟩
theorem _root_.L2.PS.weak {X : Cx} {ss : Stmt} {t t' : TS} (h : PS X ss t) (w : ∀ D σ H, t' D σ H → t D σ H) : PS X ss t' := ⟨fun pins s σ H D I q => h.run pins s σ H D I (w _ _ _ q)⟩
end DD
namespace DD
open PySem PySem.Spec PyProof.Rows L2
/-- the heap and its data grow -/
structure Gr (H G H' G' : Hp) : Prop where
  h : Same H H'
  g : Same G G'
  sub : SubM G' H'
  new : ∀ a, H a ≠ none → G a = none → G' a = none
  mks : ∀ a u, isMk u = true → G' a = some u → G a = some u
theorem Gr.refl {H G : Hp} (s : SubM G H) : Gr H G H G := ⟨Same.refl _, Same.refl _, s, fun _ _ q => q, fun _ _ _ q => q⟩
theorem Ok.gr {K : PySem.W.Frag} {B : Bs} {g : List Sl} {σ : L2.St} {H G H' G' : Hp} {n : Wd} (o : Ok K B g σ H G n) (r : Gr H G H' G') : Ok K B g σ H' G' n := o.grow r.h r.g r.sub r.new r.mks
theorem Gr.alloc {H G : Hp} {p : Addr} {u : HO} (s : SubM G H) (h : H p = none) (hu : isMk u = false := by rfl) : Gr H G (upd H p u) (upd G p u) := by
  have hg : G p = none := s.t p h
  refine ⟨same_upd h, same_upd hg, ⟨fun a z e m => ?_, fun a e => ?_⟩, fun a e q => ?_, fun a w m e => ?_⟩
  · unfold upd at e ⊢
    split at e
    · rename_i ha; rw [if_pos ha]; exact e
    · rename_i ha; rw [if_neg ha]; exact s.h _ _ e m
  · unfold upd at e ⊢
    split at e
    · cases e
    · rename_i ha; rw [if_neg ha]; exact s.t a e
  · have : a ≠ p := by rintro rfl; exact e h
    rw [upd_ne this]; exact q
  · unfold upd at e
    split at e
    · cases e; rw [hu] at m; cases m
    · exact e
theorem Gr.trans {H G H1 G1 H2 G2 : Hp} (a : Gr H G H1 G1) (b : Gr H1 G1 H2 G2) : Gr H G H2 G2 :=
  ⟨a.h.trans b.h, a.g.trans b.g, b.sub, fun x e q => b.new x (by
    cases h : H x with
    | none => exact absurd h e
    | some o => rw [a.h _ _ h]; simp) (a.new x e q), fun x u m e => a.mks x u m (b.mks x u m e)⟩
/-- operations on data behind operations on values -/
def RD (K : PySem.W.Frag) (r : R2) (f : D → D → Option D) : Prop := ∀ (x y : V) (dx dy z : D) (H G : Hp) (Q : VK), Da K G x dx → Da K G y dy → SubM G H → f dx dy = some z → (∀ v H' G', Gr H G H' G' → Da K G' v z → Q v H') → r x y H Q
def RU1 (K : PySem.W.Frag) (r : V → Hp → VK → Prop) (f : D → Option D) : Prop := ∀ (x : V) (dx z : D) (H G : Hp) (Q : VK), Da K G x dx → SubM G H → f dx = some z → (∀ v H' G', Gr H G H' G' → Da K G' v z → Q v H') → r x H Q
def RC1 (K : PySem.W.Frag) (r : List V → Hp → VK → Prop) (f : D → Option D) : Prop := ∀ (x : V) (dx z : D) (H G : Hp) (Q : VK), Da K G x dx → SubM G H → f dx = some z → (∀ v H' G', Gr H G H' G' → Da K G' v z → Q v H') → r [x] H Q
def RC2 (K : PySem.W.Frag) (r : List V → Hp → VK → Prop) (f : D → D → Option D) : Prop := ∀ (x y : V) (dx dy z : D) (H G : Hp) (Q : VK), Da K G x dx → Da K G y dy → SubM G H → f dx dy = some z → (∀ v H' G', Gr H G H' G' → Da K G' v z → Q v H') → r [x, y] H Q
section
variable {m : Type → Type} [Mo m] {X : Cx} {EX : XR} {g : List Sl}
/-! ### names, constants -/
theorem ej_var (i : Nat) {x : Str} {pos : Pos} {d : D} (hs : g[i]? = some (Sl.val d) := by rfl) (hN : X.N[i]? = some x := by rfl) (hv : Vis X.env.scope x := by first | exact Or.inl rfl | exact Or.inr (Or.inl rfl) | exact Or.inr (Or.inr rfl)) (hd : (x == ("__debug__" : Str)) = false := by decide)
    (hcd : (x == ("__classdict__" : Str)) = false := by decide) : EJ (m := m) X EX (.Name x pos) g (pure d) :=
  (pe_var hN hv hd hcd).weak fun σ H Q ⟨B, G, n, φ, ξ, o, s, q, _⟩ => by
    obtain ⟨v, h1, h2⟩ := o.val i d hs
    exact ⟨v, h1, q v H G d n o (Same.refl _) h2 (Mo.sat_pure s)⟩
theorem ej_c {e : Expr} {v : V} {d : D} (h : PE X e (tC v)) (hd : ∀ K G, Da K G v d) : EJ (m := m) X EX e g (pure d) :=
  h.weak fun σ H Q ⟨B, G, n, φ, ξ, o, s, q, _⟩ => q v H G d n o (Same.refl _) (hd _ _) (Mo.sat_pure s)
theorem ej_int {i : Int} {j pos} : EJ (m := m) X EX (.Constant (.int i) j pos) g (pure (.int i)) := ej_c pe_int fun _ _ => .int i
theorem ej_bl {b : Bool} {j pos} : EJ (m := m) X EX (.Constant (.bool b) j pos) g (pure (.bool b)) := ej_c pe_bl fun _ _ => .bl b
theorem ej_non {j pos} : EJ (m := m) X EX (.Constant .none j pos) g (pure .none) := ej_c pe_non fun _ _ => .non
theorem ej_str {x : Str} {j pos} : EJ (m := m) X EX (.Constant (.str x) j pos) g (pure (.str x)) := ej_c pe_str fun _ _ => .str x
theorem ej_gint {x : Str} {i : Int} {t : Tok} {pos : Pos} (hm : X.mg x = some (.int i t)) (hg : Gl X x := by rfl) (hd : (x == ("__debug__" : Str)) = false := by decide) : EJ (m := m) X EX (.Name x pos) g (pure (.int i)) :=
  ej_c (pe_glob (v := .int i) hg hm ⟨t, rfl⟩ hd) fun _ _ => .int i
/-! ### one and two operands -/
theorem te_one {α : Type} {x : m D} {f : D → m α} {n : Wd} {φ : α → Wd → Prop} {ξ : Exn → Wd → Prop} {B : Bs} {σ : L2.St} {H G : Hp} {Q : VK} (o : Ok X.K B g σ H G n) (s : Mo.sat (x >>= f) n φ ξ)
    (q : ∀ v H' G' d n', Ok X.K B g σ H' G' n' → Same G G' → Da X.K G' v d → Mo.sat (f d) n' φ ξ → Q v H') (xw : Xw X B EX ξ) : teJ X EX g x σ H Q :=
  ⟨B, G, n, _, ξ, o, Mo.sat_bind s, q, xw⟩
theorem ej_bin {a b : Expr} {op : Operator} {pos : Pos} {r : R2} {f : D → D → Option D} {x y : m D} (ho : OpR X (binaryOp op) r) (hr : RD X.K r f) (ha : EJ X EX a g x) (hb : EJ X EX b g y) :
    EJ X EX (.BinOp a op b pos) g (x >>= fun dx => y >>= fun dy => Mo.lift (f dx dy)) :=
  (pe_op ho ha hb).weak fun σ H Q ⟨B, G, n, φ, ξ, o, s, q, xw⟩ => te_one o s (fun v H1 G1 d n1 o1 g1 d1 s1 => te_one o1 s1 (fun w H2 G2 e n2 o2 g2 d2 s2 => by
    obtain ⟨z, ez, pz⟩ := Mo.sat_lift s2
    exact hr v w d e z H2 G2 Q (d1.mono g2) d2 o2.fm.sub ez fun u H3 G3 gr du => q u H3 G3 z n2 (o2.gr gr) ((g1.trans g2).trans gr.g) du pz) xw) xw
theorem ej_cmp {a b : Expr} {op : CmpOp} {pos : Pos} {r : R2} {f : D → D → Option D} {x y : m D} (ho : OpR X (compareOp op) r) (hr : RD X.K r f) (ha : EJ X EX a g x) (hb : EJ X EX b g y) (hn : behindInMarks op b = false := by first | exact nobehind _ (by decide) (by decide) | rfl) :
    EJ X EX (.Compare a [op] [b] pos) g (x >>= fun dx => y >>= fun dy => Mo.lift (f dx dy)) :=
  (pe_cmpR ho ha hb hn).weak fun σ H Q ⟨B, G, n, φ, ξ, o, s, q, xw⟩ => te_one o s (fun v H1 G1 d n1 o1 g1 d1 s1 => te_one o1 s1 (fun w H2 G2 e n2 o2 g2 d2 s2 => by
    obtain ⟨z, ez, pz⟩ := Mo.sat_lift s2
    exact hr v w d e z H2 G2 Q (d1.mono g2) d2 o2.fm.sub ez fun u H3 G3 gr du => q u H3 G3 z n2 (o2.gr gr) ((g1.trans g2).trans gr.g) du pz) xw) xw
theorem ej_ix {a b : Expr} {pos : Pos} {r : R2} {f : D → D → Option D} {x y : m D} (ho : IxR X r) (hr : RD X.K r f) (ha : EJ X EX a g x) (hb : EJ X EX b g y) (hs : PlainIx b) :
    EJ X EX (.Subscript a b pos) g (x >>= fun dx => y >>= fun dy => Mo.lift (f dx dy)) :=
  (pe_ix ho ha hb hs).weak fun σ H Q ⟨B, G, n, φ, ξ, o, s, q, xw⟩ => te_one o s (fun v H1 G1 d n1 o1 g1 d1 s1 => te_one o1 s1 (fun w H2 G2 e n2 o2 g2 d2 s2 => by
    obtain ⟨z, ez, pz⟩ := Mo.sat_lift s2
    exact hr v w d e z H2 G2 Q (d1.mono g2) d2 o2.fm.sub ez fun u H3 G3 gr du => q u H3 G3 z n2 (o2.gr gr) ((g1.trans g2).trans gr.g) du pz) xw) xw
theorem ej_un {a : Expr} {op : UnaryOp} {pos : Pos} {r : V → Hp → VK → Prop} {f : D → Option D} {x : m D} (ho : UnR X (unaryOp op) r) (hr : RU1 X.K r f) (ha : EJ X EX a g x) :
    EJ X EX (.UnaryOp op a pos) g (x >>= fun dx => Mo.lift (f dx)) :=
  (pe_un ho ha).weak fun σ H Q ⟨B, G, n, φ, ξ, o, s, q, xw⟩ => te_one o s (fun v H1 G1 d n1 o1 g1 d1 s1 => by
    obtain ⟨z, ez, pz⟩ := Mo.sat_lift s1
    exact hr v d z H1 G1 Q d1 o1.fm.sub ez fun u H3 G3 gr du => q u H3 G3 z n1 (o1.gr gr) (g1.trans gr.g) du pz) xw
theorem ej_call1 {fx : Str} {p pos : Pos} {a : Expr} {id : String} {r : List V → Hp → VK → Prop} {f : D → Option D} {x : m D} (hc : CallR X (.builtin id) r) (hr : RC1 X.K r f) (hm : X.mg fx = none) (ha : EJ X EX a g x) (hv : bootBuiltins fx = some (.builtin id) := by decide +kernel) (hg : Gl X fx := by rfl)
    (hn : fx ≠ "__name__" := by decide) (hdb : (fx == ("__debug__" : Str)) = false := by decide) (hs : starEach [a] X.env = (false, eval a X.env) :: starEach [] X.env := by rfl) :
    EJ X EX (.Call (.Name fx p) [a] [] pos) g (x >>= fun d => Mo.lift (f d)) :=
  (pe_callB hc hg hm hv (pa_cons ha pa_nil hs) hn hdb hs rfl).weak fun σ H Q ⟨B, G, n, φ, ξ, o, s, q, xw⟩ => te_one o s (fun v H1 G1 d n1 o1 g1 d1 s1 => by
    obtain ⟨z, ez, pz⟩ := Mo.sat_lift s1
    exact hr v d z H1 G1 Q d1 o1.fm.sub ez fun u H3 G3 gr du => q u H3 G3 z n1 (o1.gr gr) (g1.trans gr.g) du pz) xw
theorem ej_callT {fx : Str} {p pos : Pos} {a : Expr} {T : String} {r : List V → Hp → VK → Prop} {f : D → Option D} {x : m D} (hc : CallR X (.type T) r) (hr : RC1 X.K r f) (hm : X.mg fx = none) (ha : EJ X EX a g x) (hv : bootBuiltins fx = some (.type T) := by decide +kernel) (hg : Gl X fx := by rfl)
    (hn : fx ≠ "__name__" := by decide) (hdb : (fx == ("__debug__" : Str)) = false := by decide) (hs : starEach [a] X.env = (false, eval a X.env) :: starEach [] X.env := by rfl) :
    EJ X EX (.Call (.Name fx p) [a] [] pos) g (x >>= fun d => Mo.lift (f d)) :=
  (pe_callTy hc hg hm hv (pa_cons ha pa_nil hs) hn hdb hs rfl).weak fun σ H Q ⟨B, G, n, φ, ξ, o, s, q, xw⟩ => te_one o s (fun v H1 G1 d n1 o1 g1 d1 s1 => by
    obtain ⟨z, ez, pz⟩ := Mo.sat_lift s1
    exact hr v d z H1 G1 Q d1 o1.fm.sub ez fun u H3 G3 gr du => q u H3 G3 z n1 (o1.gr gr) (g1.trans gr.g) du pz) xw
theorem ej_call2 {fx : Str} {p pos : Pos} {a b : Expr} {id : String} {r : List V → Hp → VK → Prop} {f : D → D → Option D} {x y : m D} (hc : CallR X (.builtin id) r) (hr : RC2 X.K r f) (hm : X.mg fx = none) (ha : EJ X EX a g x) (hb : EJ X EX b g y) (hv : bootBuiltins fx = some (.builtin id) := by decide +kernel) (hg : Gl X fx := by rfl)
    (hn : fx ≠ "__name__" := by decide) (hdb : (fx == ("__debug__" : Str)) = false := by decide) (hs : starEach [a, b] X.env = (false, eval a X.env) :: starEach [b] X.env := by rfl) (hs2 : starEach [b] X.env = (false, eval b X.env) :: starEach [] X.env := by rfl) :
    EJ X EX (.Call (.Name fx p) [a, b] [] pos) g (x >>= fun d => y >>= fun e => Mo.lift (f d e)) :=
  (pe_callB hc hg hm hv (pa_cons ha (pa_cons hb pa_nil hs2) hs) hn hdb hs (by rw [hs2]; rfl)).weak fun σ H Q ⟨B, G, n, φ, ξ, o, s, q, xw⟩ => te_one o s (fun v H1 G1 d n1 o1 g1 d1 s1 => te_one o1 s1 (fun w H2 G2 e n2 o2 g2 d2 s2 => by
    obtain ⟨z, ez, pz⟩ := Mo.sat_lift s2
    exact hr v w d e z H2 G2 Q (d1.mono g2) d2 o2.fm.sub ez fun u H3 G3 gr du => q u H3 G3 z n2 (o2.gr gr) ((g1.trans g2).trans gr.g) du pz) xw) xw
/-! ### arguments, displays -/
theorem ArgsOk.mono {K : PySem.W.Frag} {B : Bs} {G G' : Hp} (s : Same G G') : ∀ {vs : List V} {as : List Sl}, ArgsOk K B G vs as → ArgsOk K B G' vs as
  | _, _, .nil => .nil
  | _, _, .cons (a := .val d) h r => .cons (show Da _ _ _ _ from Da.mono s h) (ArgsOk.mono s r)
  | _, _, .cons (a := .deck) h r => .cons h (ArgsOk.mono s r)
  | _, _, .cons (a := .own _) h _ => h.elim
  | _, _, .cons (a := .any) h _ => h.elim
  | _, _, .cons (a := .exn _ _ _) h _ => h.elim
theorem aj_nil : AJ (m := m) X EX [] g (pure []) := pa_nil.weak fun σ H Q ⟨B, G, n, φ, ξ, o, s, q, _⟩ => q [] H G [] n o (Same.refl _) .nil (Mo.sat_pure s)
theorem aj_cons {e : Expr} {es : List Expr} {x : m D} {y : m (List Sl)} (he : EJ X EX e g x) (hr : AJ X EX es g y) (hs : starEach (e :: es) X.env = (false, eval e X.env) :: starEach es X.env := by rfl) : AJ X EX (e :: es) g (x >>= fun d => y >>= fun as => pure (.val d :: as)) :=
  (pa_cons he hr hs).weak fun σ H Q ⟨B, G, n, φ, ξ, o, s, q, xw⟩ => te_one o s (fun v H1 G1 d n1 o1 g1 d1 s1 => ⟨B, G1, n1, _, ξ, o1, Mo.sat_bind s1, fun vs H2 G2 as n2 o2 g2 a2 s2 =>
    q (v :: vs) H2 G2 (.val d :: as) n2 o2 (g1.trans g2) (.cons (show Da _ _ _ _ from d1.mono g2) a2) (Mo.sat_pure s2), xw⟩) xw
end
end DD
namespace DD
open PySem PySem.Spec PyProof.Rows L2
def boolD : D → Option Bool
  | .bool b => some b
  | _ => none
section
variable {m : Type → Type} [Mo m] {X : Cx} {EX : XR} {g : List Sl}
theorem Da.bool {K : PySem.W.Frag} {G : Hp} {v : V} {d : D} {b : Bool} (h : Da K G v d) (e : boolD d = some b) : v = .bl b := by
  cases h <;> simp [boolD] at e
  rw [e]
/-! ### tests -/
theorem tt_one {α : Type} {x : m Bool} {f : Bool → m α} {n : Wd} {φ : α → Wd → Prop} {ξ : Exn → Wd → Prop} {B : Bs} {σ : L2.St} {H G : Hp} {Q : Bool → Hp → Prop} (o : Ok X.K B g σ H G n) (s : Mo.sat (x >>= f) n φ ξ)
    (q : ∀ b H' G' n', Ok X.K B g σ H' G' n' → Same G G' → Mo.sat (f b) n' φ ξ → Q b H') (xw : Xw X B EX ξ) : ttJ X EX g x σ H Q :=
  ⟨B, G, n, _, ξ, o, Mo.sat_bind s, q, xw⟩
theorem tj_val {e : Expr} {x : m D} (h : EJ X EX e g x) (he : ∀ whole, isTrue e X.env whole = (do let v ← whole; standAt e.pos; holding [v] (truthy v)) := by intro _; rfl) : TJ X EX e g (x >>= fun d => Mo.lift (boolD d)) :=
  (pt_val h he).weak fun σ H Q ⟨B, G, n, φ, ξ, o, s, q, xw⟩ => te_one o s (fun v H1 G1 d n1 o1 g1 d1 s1 => by
    obtain ⟨b, eb, pb⟩ := Mo.sat_lift s1
    exact ⟨b, d1.bool eb, q b H1 G1 n1 o1 g1 pb⟩) xw
theorem tj_cmp {a b : Expr} {op : CmpOp} {pos : Pos} {r : R2} {f : D → D → Option D} {x y : m D} (ho : OpR X (compareOp op) r) (hr : RD X.K r f) (ha : EJ X EX a g x) (hb : EJ X EX b g y) (hn : behindInMarks op b = false := by first | exact nobehind _ (by decide) (by decide) | rfl) :
    TJ X EX (.Compare a [op] [b] pos) g (x >>= fun dx => y >>= fun dy => Mo.lift ((f dx dy).bind boolD)) :=
  (pt_cmpR ho ha hb hn).weak fun σ H Q ⟨B, G, n, φ, ξ, o, s, q, xw⟩ => te_one o s (fun v H1 G1 d n1 o1 g1 d1 s1 => te_one o1 s1 (fun w H2 G2 e n2 o2 g2 d2 s2 => by
    obtain ⟨b, eb, pb⟩ := Mo.sat_lift s2
    obtain ⟨z, ez, eb⟩ := Option.bind_eq_some_iff.mp eb
    exact hr v w d e z H2 G2 _ (d1.mono g2) d2 o2.fm.sub ez fun u H3 G3 gr du => ⟨b, du.bool eb, q b H3 G3 n2 (o2.gr gr) ((g1.trans g2).trans gr.g) pb⟩) xw) xw
/-- a < b < c: the second comparison's answer as it is -/
theorem te_chain {op op' : CmpOp} {a b c : Expr} {pos : Pos} {r r' : R2} {f f' : D → D → Option D} {x y z : m D} (ho : OpR X (compareOp op) r) (hr : RD X.K r f) (ho' : OpR X (compareOp op') r') (hr' : RD X.K r' f') (ha : EJ X EX a g x) (hb : EJ X EX b g y) (hc : EJ X EX c g z) {Q : VK} {σ : L2.St} {H : Hp}
    (h : teJ X EX g (x >>= fun dx => y >>= fun dy => Mo.lift ((f dx dy).bind boolD) >>= fun k => if k = true then (z >>= fun dz => Mo.lift (f' dy dz)) else pure (.bool false)) σ H Q) : tChain r r' (teJ X EX g x) (teJ X EX g y) (teJ X EX g z) σ H Q := by
  obtain ⟨B, G, n, φ, ξ, o, s, q, xw⟩ := h
  refine te_one o s (fun v H1 G1 d n1 o1 g1 d1 s1 => te_one o1 s1 (fun w H2 G2 e n2 o2 g2 d2 s2 => ?_) xw) xw
  obtain ⟨k, ek, s3⟩ := Mo.sat_lift (Mo.sat_bind s2)
  obtain ⟨u, eu, ek⟩ := Option.bind_eq_some_iff.mp ek
  refine hr v w d e u H2 G2 _ (d1.mono g2) d2 o2.fm.sub eu fun u' H3 G3 gr du => ⟨k, du.bool ek, ?_⟩
  cases k with
  | true =>
    rw [if_pos rfl] at s3 ⊢
    refine te_one (o2.gr gr) s3 (fun v' H4 G4 d' n4 o4 g4 d4 s4 => ?_) xw
    obtain ⟨z', ez, pz⟩ := Mo.sat_lift s4
    exact hr' w v' e d' z' H4 G4 Q ((d2.mono gr.g).mono g4) d4 o4.fm.sub ez fun u2 H5 G5 gr5 du5 => q u2 H5 G5 z' n4 (o4.gr gr5) ((((g1.trans g2).trans gr.g).trans g4).trans gr5.g) du5 pz
  | false =>
    rw [if_neg Bool.false_ne_true] at s3 ⊢
    exact q _ H3 G3 _ n2 (o2.gr gr) ((g1.trans g2).trans gr.g) (.bl false) (Mo.sat_pure s3)
theorem ej_chain {op op' : CmpOp} {a b c : Expr} {pos : Pos} {r r' : R2} {f f' : D → D → Option D} {x y z : m D} (ho : OpR X (compareOp op) r) (hr : RD X.K r f) (ho' : OpR X (compareOp op') r') (hr' : RD X.K r' f') (ha : EJ X EX a g x) (hb : EJ X EX b g y) (hc : EJ X EX c g z)
    (hm : lastMarks [op, op'] [b, c] = false := by with_unfolding_all rfl) :
    EJ X EX (.Compare a [op, op'] [b, c] pos) g (x >>= fun dx => y >>= fun dy => Mo.lift ((f dx dy).bind boolD) >>= fun k => if k = true then (z >>= fun dz => Mo.lift (f' dy dz)) else pure (.bool false)) :=
  (pe_chain ho ho' ha hb hc hm).weak fun σ H Q h => te_chain (op := op) (op' := op') (pos := pos) ho hr ho' hr' ha hb hc h
theorem tj_chain {op op' : CmpOp} {a b c : Expr} {pos : Pos} {r r' : R2} {f f' : D → D → Option D} {x y z : m D} (ho : OpR X (compareOp op) r) (hr : RD X.K r f) (ho' : OpR X (compareOp op') r') (hr' : RD X.K r' f') (ha : EJ X EX a g x) (hb : EJ X EX b g y) (hc : EJ X EX c g z)
    (hm : lastMarks [op, op'] [b, c] = false := by with_unfolding_all rfl) :
    TJ X EX (.Compare a [op, op'] [b, c] pos) g ((x >>= fun dx => y >>= fun dy => Mo.lift ((f dx dy).bind boolD) >>= fun k => if k = true then (z >>= fun dz => Mo.lift (f' dy dz)) else pure (.bool false)) >>= fun d => Mo.lift (boolD d)) :=
  (pt_chain ho ho' ha hb hc hm).weak fun σ H Q ⟨B, G, n, φ, ξ, o, s, q, xw⟩ => te_chain (op := op) (op' := op') (pos := pos) ho hr ho' hr' ha hb hc (te_one o s (fun v H1 G1 d n1 o1 g1 d1 s1 => by
    obtain ⟨b, eb, pb⟩ := Mo.sat_lift s1
    exact ⟨b, d1.bool eb, q b H1 G1 n1 o1 g1 pb⟩) xw)
theorem tj_not {a : Expr} {pos : Pos} {x : m Bool} (ha : TJ X EX a g x) : TJ X EX (.UnaryOp .Not a pos) g (x >>= fun b => pure (!b)) :=
  (pt_not ha).weak fun σ H Q ⟨B, G, n, φ, ξ, o, s, q, xw⟩ => tt_one o s (fun b H1 G1 n1 o1 g1 s1 => q _ H1 G1 n1 o1 g1 (Mo.sat_pure s1)) xw
/-- and, or: the rest is a test of its own -/
def WJ (X : Cx) (EX : XR) (e : Expr) (g : List Sl) (x : m Bool) : Prop := PW X e (ttJ X EX g x)
theorem _root_.L2.PW.weak {X : Cx} {e : Expr} {t t' : TT} (h : PW X e t) (w : ∀ σ H Q, t' σ H Q → t σ H Q) : PW X e t' := ⟨fun wh pins s σ H Q I q => h.run wh pins s σ H Q I (w _ _ _ q)⟩
theorem tj_w {e : Expr} {x : m Bool} (h : WJ X EX e g x) : TJ X EX e g x := PW.pt h
theorem wj_or1 {a : Expr} {pos : Pos} {x : m Bool} (ha : TJ X EX a g x) : WJ X EX (.BoolOp .Or [a] pos) g x := pw_or1 ha
theorem wj_or {a b : Expr} {rest : List Expr} {pos : Pos} {x y : m Bool} (ha : TJ X EX a g x) (hb : WJ X EX (.BoolOp .Or (b :: rest) pos) g y) : WJ X EX (.BoolOp .Or (a :: b :: rest) pos) g (x >>= fun k => if k = true then pure true else y) :=
  (pw_or ha hb).weak fun σ H Q ⟨B, G, n, φ, ξ, o, s, q, xw⟩ => tt_one o s (fun b H1 G1 n1 o1 g1 s1 => by
    cases b with
    | true =>
      rw [if_pos rfl] at s1 ⊢
      exact q true H1 G1 n1 o1 g1 (Mo.sat_pure s1)
    | false =>
      rw [if_neg Bool.false_ne_true] at s1 ⊢
      exact ⟨B, G1, n1, φ, ξ, o1, s1, fun b H2 G2 n2 o2 g2 p2 => q b H2 G2 n2 o2 (g1.trans g2) p2, xw⟩) xw
/-- .. as values -/
theorem ej_one {op} {a : Expr} {pos : Pos} {x : m D} (h : EJ X EX a g x) : EJ X EX (.BoolOp op [a] pos) g x := pe_one h
theorem ej_and {a b : Expr} {rest : List Expr} {pos : Pos} {x y : m D} (ha : EJ X EX a g x) (hb : EJ X EX (.BoolOp .And (b :: rest) pos) g y) : EJ X EX (.BoolOp .And (a :: b :: rest) pos) g (x >>= fun d => Mo.lift (boolD d) >>= fun k => if k = true then y else pure (.bool false)) :=
  (pe_and ha hb).weak fun σ H Q ⟨B, G, n, φ, ξ, o, s, q, xw⟩ => te_one o s (fun v H1 G1 d n1 o1 g1 d1 s1 => by
    obtain ⟨b, eb, s2⟩ := Mo.sat_lift (Mo.sat_bind s1)
    refine ⟨b, d1.bool eb, ?_⟩
    cases b with
    | true =>
      rw [if_pos rfl] at s2 ⊢
      exact ⟨B, G1, n1, φ, ξ, o1, s2, fun v H2 G2 e n2 o2 g2 d2 p2 => q v H2 G2 e n2 o2 (g1.trans g2) d2 p2, xw⟩
    | false =>
      rw [if_neg Bool.false_ne_true] at s2 ⊢
      exact q _ H1 G1 _ n1 o1 g1 (.bl false) (Mo.sat_pure s2)) xw
def notD : D → Option D
  | .bool b => some (.bool (!b))
  | _ => none
theorem ej_not {a : Expr} {pos : Pos} {x : m D} (ha : EJ X EX a g x) : EJ X EX (.UnaryOp .Not a pos) g (x >>= fun d => Mo.lift (notD d)) :=
  (pe_not ha).weak fun σ H Q ⟨B, G, n, φ, ξ, o, s, q, xw⟩ => te_one o s (fun v H1 G1 d n1 o1 g1 d1 s1 => by
    obtain ⟨z, ez, pz⟩ := Mo.sat_lift s1
    cases d with
    | bool b =>
      cases d1
      cases ez
      exact ⟨b, rfl, q _ H1 G1 _ n1 o1 g1 (.bl _) pz⟩
    | _ => cases ez) xw
theorem ej_if {c a b : Expr} {pos : Pos} {t : m Bool} {x y : m D} (hc : TJ X EX c g t) (ha : EJ X EX a g x) (hb : EJ X EX b g y) : EJ X EX (.IfExp c a b pos) g (t >>= fun k => if k = true then x else y) :=
  (pe_ifExp hc ha hb).weak fun σ H Q ⟨B, G, n, φ, ξ, o, s, q, xw⟩ => tt_one o s (fun b H1 G1 n1 o1 g1 s1 => by
    cases b with
    | true =>
      rw [if_pos rfl] at s1 ⊢
      exact ⟨B, G1, n1, φ, ξ, o1, s1, fun v H2 G2 e n2 o2 g2 d2 p2 => q v H2 G2 e n2 o2 (g1.trans g2) d2 p2, xw⟩
    | false =>
      rw [if_neg Bool.false_ne_true] at s1 ⊢
      exact ⟨B, G1, n1, φ, ξ, o1, s1, fun v H2 G2 e n2 o2 g2 d2 p2 => q v H2 G2 e n2 o2 (g1.trans g2) d2 p2, xw⟩) xw
/-! ### displays -/
def itemsD : D → Option (List D)
  | .list ds => some ds
  | .tuple ds => some ds
  | _ => none
theorem Da.seq {K : PySem.W.Frag} {G : Hp} {v : V} {d : D} {ds : List D} (h : Da K G v d) (e : itemsD d = some ds) : ∃ a xs, v = .ref a ∧ (SqT K G a xs ∨ SqL K G a xs) ∧ DaAll K G xs ds := by
  cases h with
  | lst h1 h2 => cases e; exact ⟨_, _, rfl, .inr (SqL.of h1), h2⟩
  | tup h1 h2 => cases e; exact ⟨_, _, rfl, .inl h1, h2⟩
  | _ => cases e
/-- written items: data alone; L their number, where no star stands among them -/
def tdJ (X : Cx) (EX : XR) (g : List Sl) (x : m (List D)) (L : Option Nat) : TA := fun σ H Q => ∃ B G n φ ξ, Ok X.K B g σ H G n ∧ Mo.sat x n φ ξ ∧ (∀ vs H' G' ds n', Ok X.K B g σ H' G' n' → Same G G' → DaAll X.K G' vs ds → (∀ k, L = some k → vs.length = k) → φ ds n' → Q vs H') ∧ Xw X B EX ξ
def DJ (X : Cx) (EX : XR) (es : List Expr) (g : List Sl) (x : m (List D)) (L : Option Nat) : Prop := PA X es (tdJ X EX g x L)
theorem dj_nil : DJ (m := m) X EX [] g (pure []) (some 0) := pa_nil.weak fun σ H Q ⟨B, G, n, φ, ξ, o, s, q, _⟩ => q [] H G [] n o (Same.refl _) .nil (fun k e => by cases e; rfl) (Mo.sat_pure s)
theorem dj_cons {e : Expr} {es : List Expr} {x : m D} {y : m (List D)} {L : Option Nat} (he : EJ X EX e g x) (hr : DJ X EX es g y L) (hs : starEach (e :: es) X.env = (false, eval e X.env) :: starEach es X.env := by rfl) : DJ X EX (e :: es) g (x >>= fun d => y >>= fun ds => pure (d :: ds)) (L.map (· + 1)) :=
  (pa_cons he hr hs).weak fun σ H Q ⟨B, G, n, φ, ξ, o, s, q, xw⟩ => te_one o s (fun v H1 G1 d n1 o1 g1 d1 s1 => ⟨B, G1, n1, _, ξ, o1, Mo.sat_bind s1, fun vs H2 G2 ds n2 o2 g2 a2 l2 s2 =>
    q (v :: vs) H2 G2 (d :: ds) n2 o2 (g1.trans g2) (.cons (d1.mono g2) a2) (fun k e => by
      obtain ⟨j, e1, rfl⟩ := Option.map_eq_some_iff.mp e
      rw [List.length_cons, l2 j e1]) (Mo.sat_pure s2), xw⟩) xw
/-- no display is longer than this -/
def small (ds : List D) : Option (List D) := if ds.length ≤ 1000000 then some ds else none
theorem small_eq {ds es : List D} (h : small ds = some es) : es = ds ∧ ds.length ≤ 1000000 := by
  unfold small at h
  split at h
  · rename_i hl; cases h; exact ⟨rfl, hl⟩
  · cases h
theorem le_line {k : Nat} (h : k ≤ 1000000) : k ≤ sizeLine := Nat.le_trans h (by decide)
theorem ej_tup {es : List Expr} {k : Nat} {pos : Pos} {j} {x : m (List D)} (h : DJ X EX es g x (some k)) (hk : k ≤ 1000000 := by decide) : EJ X EX (.Tuple es j pos) g (x >>= fun ds => pure (.tuple ds)) :=
  (pe_tup h).weak fun σ H Q ⟨B, G, n, φ, ξ, o, s, q, xw⟩ => ⟨B, G, n, _, ξ, o, Mo.sat_bind s, fun vs H1 G1 ds n1 o1 g1 a1 l1 s1 => ⟨by rw [l1 k rfl]; exact le_line hk, fun p hp => by
    obtain ⟨o2, g2⟩ := o1.alloc (u := .tup vs) hp
    exact q _ _ _ _ n1 o2 (g1.trans g2) (.tup (.inl (.inl upd_same)) (a1.mono g2)) (Mo.sat_pure s1)⟩, xw⟩
/-- what stood in the heap is not new -/
theorem Ok.fresh {K : PySem.W.Frag} {B : Bs} {σ : L2.St} {H G : Hp} {n : Wd} {p : Addr} (o : Ok K B g σ H G n) (h : H p = none) : B.H p = none ∧ ∀ (i : Nat) (es : List D) (f : Addr), g[i]? = some (Sl.own es) → σ[i]? = some (some (V.ref f)) → f ≠ p := by
  constructor
  · cases e : B.H p with
    | none => rfl
    | some u =>
      by_cases hp : B.fp p
      · exact absurd h (o.fm.fpThere hp)
      · rw [o.fm.keep p u e hp] at h; cases h
  · rintro i es f e1 e2 rfl
    obtain ⟨fn, _, q⟩ := o.own
    obtain ⟨a, _, _, xs, b, _⟩ := q i es e1
    rw [a] at e2
    cases e2
    rw [b] at h; cases h
theorem lj_lst {es : List Expr} {k : Nat} {pos : Pos} {x : m (List D)} (h : DJ X EX es g x (some k)) (hk : k ≤ 1000000 := by decide) : LJ X EX (.List es pos) g x :=
  (pe_lst h).weak fun σ H Q ⟨B, G, n, φ, ξ, o, s, q, xw⟩ => ⟨B, G, n, _, ξ, o, s, fun vs H1 G1 ds n1 o1 g1 a1 l1 s1 => ⟨by rw [l1 k rfl]; exact le_line hk, fun p hp => by
    obtain ⟨f1, f2⟩ := o1.fresh hp
    exact q p vs _ G1 ds n1 (o1.raw hp) g1 f1 (o1.free hp) upd_same f2 a1 s1⟩, xw⟩
/-- a new list becomes data -/
theorem Ok.freeze {K : PySem.W.Frag} {B : Bs} {σ : L2.St} {H G : Hp} {n : Wd} {p : Addr} {u : HO} (o : Ok K B g σ H G n) (hb : B.H p = none) (hg : G p = none) (hh : H p = some u) (hf : ∀ (i : Nat) (es : List D) (f : Addr), g[i]? = some (Sl.own es) → σ[i]? = some (some (V.ref f)) → f ≠ p) (hu : isMk u = false := by rfl) :
    Ok K B g σ H (upd G p u) n ∧ Same G (upd G p u) := by
  refine ⟨⟨⟨o.fm.keep, ⟨fun a z e m => ?_, fun a e => ?_⟩, o.fm.old.trans (same_upd hg), o.fm.obs.grow (Same.refl _) (same_upd hg) (fun a w m e => ?_), o.fm.bt, o.fm.tg.trans (same_upd hg), fun a e q => ?_, o.fm.deck⟩, o.len, fun i d e => ?_, ?_, o.dck, fun i a od fs e => ⟨(o.adr i a od fs e).1, (o.adr i a od fs e).2.mono (same_upd hg)⟩⟩, same_upd hg⟩
  · unfold upd at e
    split at e
    · rename_i ha; subst ha; cases e; exact hh
    · exact o.fm.sub.h _ _ e m
  · have : a ≠ p := by rintro rfl; rw [hh] at e; cases e
    rw [upd_ne this]; exact o.fm.sub.t a e
  · unfold upd at e
    split at e
    · cases e; rw [hu] at m; cases m
    · exact e
  · have : a ≠ p := by rintro rfl; exact e hb
    rw [upd_ne this]; exact o.fm.new a e q
  · obtain ⟨v, h1, h2⟩ := o.val i d e
    exact ⟨v, h1, h2.mono (same_upd hg)⟩
  · obtain ⟨f, h1, h2⟩ := o.own
    refine ⟨f, h1, fun i ds e => ?_⟩
    obtain ⟨a, b, c, xs, d, da⟩ := h2 i ds e
    exact ⟨a, by rw [upd_ne (hf i ds _ e a)]; exact b, c, xs, d, da.mono (same_upd hg)⟩
theorem ej_l {e : Expr} {x : m (List D)} (h : LJ X EX e g x) : EJ X EX e g (x >>= fun ds => pure (.list ds)) :=
  PE.weak h fun σ H Q ⟨B, G, n, φ, ξ, o, s, q, xw⟩ => ⟨B, G, n, _, ξ, o, Mo.sat_bind s, fun p xs H1 G1 ds n1 o1 g1 hb hg hh hf a1 s1 => by
    obtain ⟨o2, g2⟩ := o1.freeze hb hg hh hf
    exact q _ H1 _ _ n1 o2 (g1.trans g2) (.lst upd_same (a1.mono g2)) (Mo.sat_pure s1), xw⟩
end
end DD
namespace DD
open PySem PySem.Spec PyProof.Rows L2
/-! ### what is walked -/
structure WalkD (K : PySem.W.Frag) (G : Hp) (J : It) (ds : List D) : Prop where
  goes : ∀ i H, i < ds.length → SubM G H → J.go i H
  stops : ∀ H, SubM G H → J.stop ds.length H
  yields : ∀ i H G1 x H', i < ds.length → Same G G1 → SubM G1 H → J.yld i H x H' → ∃ d G', ds[i]? = some d ∧ Gr H G1 H' G' ∧ Da K G' x d
theorem walkD_list {K : PySem.W.Frag} {G : Hp} {a : Addr} {xs : List V} {ds : List D} (h : SqL K G a xs) (da : DaAll K G xs ds) : WalkD K G (Itl K a) ds where
  goes := fun i H hi s => by
    rw [← da.length] at hi
    exact ⟨xs, xs[i], s.seq h, by simp [hi]⟩
  stops := fun H s => ⟨xs, s.seq h, by rw [da.length]; exact Nat.le_refl _⟩
  yields := fun i H G1 x H' hi s s1 y => by
    obtain ⟨e, y⟩ := y
    subst e
    obtain ⟨d, e1, e2⟩ := da.getV (y xs ((s.subm s1).seq h))
    exact ⟨d, G1, e1, Gr.refl s1, e2.mono s⟩
theorem walkD_tup {K : PySem.W.Frag} {G : Hp} {a : Addr} {xs : List V} {ds : List D} (h : SqT K G a xs) (da : DaAll K G xs ds) : WalkD K G (Itt K a) ds where
  goes := fun i H hi s => by
    rw [← da.length] at hi
    exact ⟨xs, xs[i], sameT s h, by simp [hi]⟩
  stops := fun H s => ⟨xs, sameT s h, by rw [da.length]; exact Nat.le_refl _⟩
  yields := fun i H G1 x H' hi s s1 y => by
    obtain ⟨e, y⟩ := y
    subst e
    obtain ⟨d, e1, e2⟩ := da.getV (y xs (sameT (s.subm s1) h))
    exact ⟨d, G1, e1, Gr.refl s1, e2.mono s⟩
def rangeL (lo : Int) (n : Nat) : List D := (List.range n).map fun i => .int (lo + (i : Nat))
theorem walkD_range {K : PySem.W.Frag} {G : Hp} {lo : Int} {n : Nat} : WalkD K G (Itr lo n) (rangeL lo n) where
  goes := fun i H hi _ => by
    show i < n
    simpa [rangeL] using hi
  stops := fun H _ => by show n ≤ (rangeL lo n).length; simp [rangeL]
  yields := fun i H G1 x H' hi s s1 y => by
    obtain ⟨e, y⟩ := y
    subst e y
    have hi' : i < n := by simpa [rangeL] using hi
    exact ⟨.int (lo + (i : Nat)), G1, by simp [rangeL, hi'], Gr.refl s1, .int _⟩
section
variable {m : Type → Type} [Mo m]
def tiJ (X : Cx) (EX : XR) (g : List Sl) (x : m (List D)) : TI := fun σ H R => ∃ B G n φ ξ, Ok X.K B g σ H G n ∧ Mo.sat x n φ ξ ∧ (∀ J H' G' ds n', Ok X.K B g σ H' G' n' → Same G G' → WalkD X.K G' J ds → φ ds n' → R J H') ∧ Xw X B EX ξ
def IJ (X : Cx) (EX : XR) (tg iter : Expr) (g : List Sl) (x : m (List D)) : Prop := PI X tg iter (tiJ X EX g x)
end
theorem _root_.L2.PI.weak {X : Cx} {tg e : Expr} {t t' : TI} (h : PI X tg e t) (w : ∀ σ H R, t' σ H R → t σ H R) : PI X tg e t' := ⟨fun pins s σ H R I q => h.run pins s σ H R I (w _ _ _ q)⟩
/-- a list or a tuple, whichever has come -/
def iSeq (K : PySem.W.Frag) (tl : TE) : TI := fun σ H R => tl σ H fun x H1 => ∃ a, x = .ref a ∧ (((∃ xs, SqL K H1 a xs) ∧ R (Itl K a) H1) ∨ ((∃ xs, SqT K H1 a xs) ∧ R (Itt K a) H1))
theorem pi_seq {X : Cx} {tg l : Expr} {tl : TE} (hl : PE X l tl) : PI X tg l (iSeq X.K tl) := by
  refine ⟨fun pins s σ H R I h => thn (hl.run pins s σ H _ I h) fun v s1 ⟨x, H1, I1, r1, a, e, q⟩ => ?_⟩
  subst e
  cases r1
  rcases q with ⟨⟨xs, hq⟩, q⟩ | ⟨⟨xs, hq⟩, q⟩
  · obtain ⟨its, rv, p, hz⟩ := I1.list hq
    exact wpAny_pyIter_list p.isList ⟨_, [s1.heap.objs.size], _, _, H1, rfl, I1.kept (t' := s1.toks) (fun b o e => Heap.get?_push_of_some _ e), turn_list a _, ⟨_, Heap.get?_push_size _ rfl, rfl, rfl⟩, (fun b hb => by
      rw [List.mem_singleton.mp hb]; exact I1.fpOk (Nat.le_refl _) (I1.hok.fresh (Nat.le_refl _))), q⟩
  · obtain ⟨its, rv, p, hz⟩ := I1.tuple hq
    exact wpAny_pyIter_tuple (show s1.heap.IsTuple a its.toArray from p) ⟨_, [s1.heap.objs.size], _, _, H1, rfl, I1.kept (t' := s1.toks) (fun b o e => Heap.get?_push_of_some _ e), turn_tuple a _, ⟨_, Heap.get?_push_size _ rfl, rfl, rfl⟩, (fun b hb => by
      rw [List.mem_singleton.mp hb]; exact I1.fpOk (Nat.le_refl _) (I1.hok.fresh (Nat.le_refl _))), q⟩
def rangeD1 : D → Option (List D)
  | .int j => if j.natAbs < 2 ^ 62 then some (rangeL 0 j.toNat) else none
  | _ => none
def rangeD2 : D → D → Option (List D)
  | .int i, .int j => if i.natAbs < 2 ^ 62 ∧ j.natAbs < 2 ^ 62 then some (rangeL i (j - i).toNat) else none
  | _, _ => none
section
variable {m : Type → Type} [Mo m] {X : Cx} {EX : XR} {g : List Sl} {tg : Expr}
theorem ij_seq {e : Expr} {x : m D} (h : EJ X EX e g x) : IJ X EX tg e g (x >>= fun d => Mo.lift (itemsD d)) :=
  (pi_seq h).weak fun σ H R ⟨B, G, n, φ, ξ, o, s, q, xw⟩ => te_one o s (fun v H1 G1 d n1 o1 g1 d1 s1 => by
    obtain ⟨ds, ed, pd⟩ := Mo.sat_lift s1
    obtain ⟨a, xs, ev, sq, da⟩ := d1.seq ed
    refine ⟨a, ev, ?_⟩
    rcases sq with sq | sq
    · exact .inr ⟨⟨xs, sameT o1.fm.sub sq⟩, q _ H1 G1 ds n1 o1 g1 (walkD_tup sq da) pd⟩
    · exact .inl ⟨⟨xs, o1.fm.sub.seq sq⟩, q _ H1 G1 ds n1 o1 g1 (walkD_list sq da) pd⟩) xw
/-- a list of one's own, walked while it stands -/
theorem ij_range1 {a : Expr} {p pos : Pos} {x : m D} (hm : X.mg "range" = none) (h : EJ X EX a g x) (hg : Gl X "range" := by rfl) (hs : starEach [a] X.env = [(false, eval a X.env)] := by rfl) (hs' : starEach [a] X.env = (false, eval a X.env) :: starEach [] X.env := by rfl) :
    IJ X EX tg (.Call (.Name "range" p) [a] [] pos) g (x >>= fun d => Mo.lift (rangeD1 d)) :=
  (pi_range1 hg hm (pa_cons h pa_nil hs') hs).weak fun σ H R ⟨B, G, n, φ, ξ, o, s, q, xw⟩ => te_one o s (fun v H1 G1 d n1 o1 g1 d1 s1 => by
    obtain ⟨ds, ed, pd⟩ := Mo.sat_lift s1
    cases d with
    | int j =>
      cases d1
      unfold rangeD1 at ed
      dsimp only at ed
      split at ed
      · rename_i hj
        cases ed
        exact ⟨j, rfl, by omega, by omega, q _ H1 G1 _ n1 o1 g1 walkD_range pd⟩
      · cases ed
    | _ => cases ed) xw
end
/-! ### slots -/
def wipeG (g : List Sl) (vs : List Nat) : List Sl := g.mapIdx fun i s => if vs.contains i then .any else s
def noOwn : List Sl → List Nat → Bool
  | g, vs => vs.all fun i => match g[i]? with
    | some (.own _) => false
    | _ => true
section
variable {K : PySem.W.Frag} {B : Bs} {g : List Sl} {σ : L2.St} {H G H' G' : Hp} {n n' : Wd} {vs : List Nat}
theorem wipeG_some {i : Nat} {s : Sl} (h : (wipeG g vs)[i]? = some s) (ne : s ≠ .any) : g[i]? = some s ∧ i ∉ vs := by
  unfold wipeG at h
  rw [List.getElem?_mapIdx] at h
  cases e : g[i]? with
  | none => rw [e] at h; cases h
  | some t =>
    rw [e] at h
    simp only [Option.map_some, Option.some.injEq] at h
    split at h
    · exact absurd h.symm ne
    · rename_i hc
      subst h
      exact ⟨rfl, by simpa using hc⟩
theorem wipeG_out {i : Nat} (h : i ∉ vs) : (wipeG g vs)[i]? = g[i]? := by
  unfold wipeG
  rw [List.getElem?_mapIdx]
  have : vs.contains i = false := by simpa using h
  cases g[i]? with
  | none => rfl
  | some t => simp [this, h]
theorem wipeG_length : (wipeG g vs).length = g.length := by simp [wipeG]
theorem wipe_length' : (wipe σ vs).length = σ.length := wipe_length σ vs
/-- the block's own slots are forgotten -/
theorem Ok.wipe (o : Ok K B g σ H G n) : Ok K B (wipeG g vs) (L2.wipe σ vs) H G n where
  fm := o.fm
  len := by rw [wipeG_length, wipe_length', o.len]
  val := fun i d e => by
    obtain ⟨e1, e2⟩ := wipeG_some e (by simp)
    obtain ⟨v, h1, h2⟩ := o.val i d e1
    exact ⟨v, by rw [wipe_out e2]; exact h1, h2⟩
  own := by
    obtain ⟨f, h1, h2⟩ := o.own
    refine ⟨f, fun i j ds es a b => h1 i j ds es (wipeG_some a (by simp)).1 (wipeG_some b (by simp)).1, fun i ds e => ?_⟩
    obtain ⟨e1, e2⟩ := wipeG_some e (by simp)
    obtain ⟨a, r⟩ := h2 i ds e1
    exact ⟨by rw [wipe_out e2]; exact a, r⟩
  dck := fun i e => by
    obtain ⟨e1, e2⟩ := wipeG_some e (by simp)
    obtain ⟨a, b, h1, h2⟩ := o.dck i e1
    exact ⟨a, b, h1, by rw [wipe_out e2]; exact h2⟩
  adr := fun i a od fs e => by
    obtain ⟨e1, e2⟩ := wipeG_some e (by simp)
    rw [wipe_out e2]
    exact o.adr i a od fs e1
theorem Ok.unwipe (o : Ok K B g σ H G n) (o' : Ok K B (wipeG g vs) (L2.wipe σ vs) H' G' n') (s : Same G G') (ho : noOwn g vs = true) : Ok K B g σ H' G' n' where
  fm := o'.fm
  len := o.len
  val := fun i d e => by
    obtain ⟨v, h1, h2⟩ := o.val i d e
    exact ⟨v, h1, h2.mono s⟩
  own := by
    obtain ⟨f, h1, h2⟩ := o'.own
    have out : ∀ (i : Nat) (ds : List D), g[i]? = some (Sl.own ds) → i ∉ vs := fun i ds e hm => by
      have := List.all_eq_true.mp ho i hm
      rw [e] at this
      cases this
    refine ⟨f, fun i j ds es a b => h1 i j ds es (by rw [wipeG_out (out i ds a)]; exact a) (by rw [wipeG_out (out j es b)]; exact b), fun i ds e => ?_⟩
    obtain ⟨a, r⟩ := h2 i ds (by rw [wipeG_out (out i ds e)]; exact e)
    exact ⟨by rw [wipe_out (out i ds e)] at a; exact a, r⟩
  dck := o.dck
  adr := fun i a od fs e => ⟨(o.adr i a od fs e).1, (o.adr i a od fs e).2.mono s⟩
/-- a slot is given data -/
theorem Ok.setV (o : Ok K B g σ H G n) {i : Nat} {v : V} {d : D} (h : Da K G v d) : Ok K B (g.set i (.val d)) (σ.set i (some v)) H G n where
  fm := o.fm
  len := by rw [List.length_set, List.length_set, o.len]
  val := fun j e he => by
    by_cases hj : j = i
    · subst hj
      by_cases hl : j < g.length
      · rw [List.getElem?_set_self hl] at he
        cases he
        exact ⟨v, by rw [List.getElem?_set_self (by rw [← o.len]; exact hl)], h⟩
      · rw [List.getElem?_eq_none (by rw [List.length_set]; omega)] at he
        cases he
    · rw [List.getElem?_set_ne (Ne.symm hj)] at he ⊢
      exact o.val j e he
  own := by
    obtain ⟨f, h1, h2⟩ := o.own
    have out : ∀ (j : Nat) (ds : List D), (g.set i (.val d))[j]? = some (Sl.own ds) → i ≠ j ∧ g[j]? = some (Sl.own ds) := fun j ds e => by
      by_cases hj : i = j
      · subst hj
        by_cases hl : i < g.length
        · rw [List.getElem?_set_self hl] at e
          cases e
        · rw [List.getElem?_eq_none (by rw [List.length_set]; omega)] at e
          cases e
      · rw [List.getElem?_set_ne hj] at e
        exact ⟨hj, e⟩
    refine ⟨f, fun j k ds es a b => h1 j k ds es (out j ds a).2 (out k es b).2, fun j ds e => ?_⟩
    obtain ⟨hj, e⟩ := out j ds e
    rw [List.getElem?_set_ne hj]
    exact h2 j ds e
  dck := fun j e => by
    by_cases hj : i = j
    · subst hj
      by_cases hl : i < g.length
      · rw [List.getElem?_set_self hl] at e
        cases e
      · rw [List.getElem?_eq_none (by rw [List.length_set]; omega)] at e
        cases e
    · rw [List.getElem?_set_ne hj] at e ⊢
      exact o.dck j e
  adr := fun j b od fs e => by
    by_cases hj : i = j
    · subst hj
      by_cases hl : i < g.length
      · rw [List.getElem?_set_self hl] at e
        cases e
      · rw [List.getElem?_eq_none (by rw [List.length_set]; omega)] at e
        cases e
    · rw [List.getElem?_set_ne hj] at e ⊢
      exact o.adr j b od fs e
/-- slots are forgotten -/
theorem Ok.sub {g' : List Sl} (o : Ok K B g σ H G n) (hl : g'.length = g.length) (h : ∀ (i : Nat) (s : Sl), g'[i]? = some s → s = .any ∨ g[i]? = some s) : Ok K B g' σ H G n where
  fm := o.fm
  len := hl.trans o.len
  val := fun i d e => by
    rcases h i _ e with z | z
    · cases z
    · exact o.val i d z
  own := by
    obtain ⟨f, h1, h2⟩ := o.own
    have out : ∀ (j : Nat) (ds : List D), g'[j]? = some (Sl.own ds) → g[j]? = some (Sl.own ds) := fun j ds e => by
      rcases h j _ e with z | z
      · cases z
      · exact z
    exact ⟨f, fun i j ds es a b => h1 i j ds es (out i ds a) (out j es b), fun i ds e => h2 i ds (out i ds e)⟩
  dck := fun i e => by
    rcases h i _ e with z | z
    · cases z
    · exact o.dck i z
  adr := fun i a od fs e => by
    rcases h i _ e with z | z
    · cases z
    · exact o.adr i a od fs z
theorem wipe_wipe : L2.wipe (L2.wipe σ vs) vs = L2.wipe σ vs := by
  apply List.ext_getElem?
  intro i
  by_cases h : i ∈ vs
  · have key : ∀ (τ : L2.St), (L2.wipe τ vs)[i]? = some none ∨ (L2.wipe τ vs)[i]? = none := fun τ => by
      cases e : (L2.wipe τ vs)[i]? with
      | none => exact .inr rfl
      | some x =>
        cases x with
        | none => exact .inl rfl
        | some v => exact absurd h (wipe_some e).2
    have l1 : (L2.wipe (L2.wipe σ vs) vs).length = (L2.wipe σ vs).length := wipe_length _ _
    rcases key (L2.wipe σ vs) with a | a <;> rcases key σ with b | b
    · rw [a, b]
    · rw [List.getElem?_eq_none_iff] at b
      have : (L2.wipe (L2.wipe σ vs) vs)[i]? = none := List.getElem?_eq_none (by omega)
      rw [this] at a; cases a
    · rw [List.getElem?_eq_none_iff] at a
      have : (L2.wipe σ vs)[i]? = none := List.getElem?_eq_none (by omega)
      rw [this] at b; cases b
    · rw [a, b]
  · rw [wipe_out h]
theorem wipe_set {i : Nat} {x : Option V} (h : i ∈ vs) : L2.wipe (σ.set i x) vs = L2.wipe σ vs := by
  apply List.ext_getElem?
  intro j
  by_cases hj : j ∈ vs
  · have key : ∀ (τ : L2.St), τ.length = σ.length → (L2.wipe τ vs)[j]? = if j < σ.length then some none else none := fun τ hl => by
      have l := wipe_length τ vs
      cases e : (L2.wipe τ vs)[j]? with
      | none =>
        rw [List.getElem?_eq_none_iff] at e
        rw [if_neg (by omega)]
      | some x =>
        obtain ⟨hlt, _⟩ := List.getElem?_eq_some_iff.mp e
        rw [if_pos (by omega)]
        cases x with
        | none => rfl
        | some v => exact absurd hj (wipe_some e).2
    rw [key _ (by simp), key _ rfl]
  · rw [wipe_out hj, wipe_out hj, List.getElem?_set_ne (by rintro rfl; exact hj h)]
theorem wipeG_set {i : Nat} {x : Sl} (h : i ∈ vs) : wipeG (g.set i x) vs = wipeG g vs := by
  apply List.ext_getElem?
  intro j
  unfold wipeG
  rw [List.getElem?_mapIdx, List.getElem?_mapIdx]
  by_cases hj : i = j
  · subst hj
    have : vs.contains i = true := by simpa using h
    by_cases hl : i < g.length
    · rw [List.getElem?_set_self hl, List.getElem?_eq_getElem hl]; simp [this, h]
    · rw [List.getElem?_eq_none (by rw [List.length_set]; omega), List.getElem?_eq_none (by omega)]
  · rw [List.getElem?_set_ne hj]
theorem wipeG_wipeG : wipeG (wipeG g vs) vs = wipeG g vs := by
  apply List.ext_getElem?
  intro j
  unfold wipeG
  rw [List.getElem?_mapIdx, List.getElem?_mapIdx]
  cases g[j]? with
  | none => rfl
  | some t =>
    simp only [Option.map_some]
    split <;> rfl
/-- an object of ours that is neither data nor any slot's -/
structure Side (B : Bs) (g : List Sl) (σ : L2.St) (G : Hp) (p : Addr) : Prop where
  b : B.H p = none
  bg : B.G p = none
  no : G p = none
  f : ∀ (i : Nat) (es : List D) (f : Addr), g[i]? = some (Sl.own es) → σ[i]? = some (some (V.ref f)) → f ≠ p
abbrev Bs.pin (B : Bs) (p : Addr) (u : HO) : Bs := { B with H := upd B.H p u }
theorem Fm.side {p : Addr} (o : Fm K B H G n) (b : B.H p = none) : ¬ B.fp p := by
  rintro (⟨x, y, ed, hxy⟩ | ⟨k, e, _⟩)
  · obtain ⟨_, h1, h2, _⟩ := o.deck x y ed
    rcases hxy with rfl | rfl
    · exact h1 b
    · exact h2 b
  · rw [o.bt p b] at e; cases e
theorem Ok.pin {p : Addr} {u : HO} (o : Ok K B g σ H G n) (s : Side B g σ G p) (h : H p = some u) : Ok K (B.pin p u) g σ H G n where
  fm := {
    keep := fun a x e q => by
      by_cases ha : a = p
      · subst ha
        rw [show (B.pin a u).H a = some u from upd_same] at e
        cases e; exact h
      · rw [show (B.pin p u).H a = B.H a from upd_ne ha] at e
        exact o.fm.keep a x e q
    sub := o.fm.sub
    old := o.fm.old
    obs := o.fm.obs
    bt := fun a e => by
      by_cases ha : a = p
      · subst ha; exact s.bg
      · rw [show (B.pin p u).H a = B.H a from upd_ne ha] at e
        exact o.fm.bt a e
    tg := o.fm.tg
    new := fun a e q => by
      by_cases ha : a = p
      · subst ha; exact s.no
      · rw [show (B.pin p u).H a = B.H a from upd_ne ha] at e
        exact o.fm.new a e q
    deck := fun a b e => by
      obtain ⟨d, h1, h2, h3⟩ := o.fm.deck a b e
      refine ⟨d, ?_, ?_, h3⟩
      · show upd B.H p u a ≠ none
        rw [upd_ne (by rintro rfl; exact h1 s.b)]; exact h1
      · show upd B.H p u b ≠ none
        rw [upd_ne (by rintro rfl; exact h2 s.b)]; exact h2 }
  len := o.len
  val := o.val
  own := by
    obtain ⟨f, h1, h2⟩ := o.own
    refine ⟨f, h1, fun i ds e => ?_⟩
    obtain ⟨a, b, c, r⟩ := h2 i ds e
    refine ⟨a, b, ?_, r⟩
    show upd B.H p u (f i) = none
    rw [upd_ne (s.f i ds _ e a)]; exact c
  dck := o.dck
  adr := o.adr
theorem Fm.unpin {H0 G0 : Hp} {n0 : Wd} {p : Addr} {u : HO} (o : Fm K (B.pin p u) H G n) (o0 : Fm K B H0 G0 n0) (b : B.H p = none) : Fm K B H G n where
  keep := fun a x e q => o.keep a x (by
    show upd B.H p u a = some x
    rw [upd_ne (by rintro rfl; rw [b] at e; cases e)]; exact e) q
  sub := o.sub
  old := o.old
  obs := o.obs
  bt := o0.bt
  tg := o.tg
  new := fun a e q => o.new a (by
    show upd B.H p u a ≠ none
    rw [upd_ne (by rintro rfl; exact e b)]; exact e) q
  deck := fun x y e => ⟨(o.deck x y e).1, (o0.deck x y e).2⟩
theorem Ok.unpin {H0 G0 : Hp} {n0 : Wd} {p : Addr} {u : HO} (o : Ok K (B.pin p u) g σ H G n) (o0 : Fm K B H0 G0 n0) (b : B.H p = none) : Ok K B g σ H G n where
  fm := o.fm.unpin o0 b
  len := o.len
  val := o.val
  own := by
    obtain ⟨f, h1, h2⟩ := o.own
    refine ⟨f, h1, fun i ds e => ?_⟩
    obtain ⟨a, c, d, r⟩ := h2 i ds e
    refine ⟨a, c, ?_, r⟩
    have d' : upd B.H p u (f i) = none := d
    by_cases ha : f i = p
    · rw [ha, upd_same] at d'; cases d'
    · rw [upd_ne ha] at d'; exact d'
  dck := o.dck
  adr := o.adr
/-- such an object may be changed -/
theorem Ok.poke {p : Addr} {u : HO} (o : Ok K B g σ H G n) (s : Side B g σ G p) : Ok K B g σ (upd H p u) G n where
  fm := {
    keep := fun a x e q => by
      rw [upd_ne (by rintro rfl; rw [s.b] at e; cases e)]
      exact o.fm.keep a x e q
    sub := ⟨fun a x e m => by
      rw [upd_ne (by rintro rfl; rw [s.no] at e; cases e)]
      exact o.fm.sub.h a x e m, fun a e => by
      by_cases ha : a = p
      · subst ha; exact s.no
      · rw [upd_ne ha] at e; exact o.fm.sub.t a e⟩
    obs := ⟨fun a k w e m => by
      obtain ⟨c, h1, h2⟩ := o.fm.obs.at_ a k w e m
      refine ⟨c, h1, h2.mono (Same.refl _) fun x hx => ?_⟩
      rw [upd_ne (by rintro rfl; rw [s.no] at e; cases e)]
      exact hx, o.fm.obs.inj, fun k c e => by
      obtain ⟨a, h2⟩ := o.fm.obs.all k c e
      obtain ⟨u, e, _⟩ := h2.mark
      refine ⟨a, h2.mono (Same.refl _) fun x hx => ?_⟩
      rw [upd_ne (by rintro rfl; rw [s.no] at e; cases e)]
      exact hx⟩
    bt := o.fm.bt
    tg := o.fm.tg
    old := o.fm.old
    new := o.fm.new
    deck := fun a b e => by
      obtain ⟨⟨cs, c, e1, e2, r⟩, h1, h2, h3⟩ := o.fm.deck a b e
      exact ⟨⟨cs, c, by rw [upd_ne (by rintro rfl; exact h1 s.b)]; exact e1, by rw [upd_ne (by rintro rfl; exact h2 s.b)]; exact e2, r⟩, h1, h2, h3⟩ }
  len := o.len
  val := o.val
  own := by
    obtain ⟨f, h1, h2⟩ := o.own
    refine ⟨f, h1, fun i ds e => ?_⟩
    obtain ⟨a, c, d, xs, hx, da⟩ := h2 i ds e
    exact ⟨a, c, d, xs, by rw [upd_ne (s.f i ds _ e a)]; exact hx, da⟩
  dck := o.dck
  adr := o.adr
theorem Side.grow {p : Addr} {u : HO} (s : Side B g σ G p) (o : Ok K (B.pin p u) g σ H G' n) : Side B g σ G' p :=
  ⟨s.b, s.bg, o.fm.new p (by show upd B.H p u p ≠ none; rw [upd_same]; simp) s.bg, s.f⟩
theorem Ok.side {p : Addr} (o : Ok K B g σ H G n) (h : H p = none) : Side B g σ G p := by
  obtain ⟨h1, h2⟩ := o.fresh h
  refine ⟨h1, ?_, o.free h, h2⟩
  cases e : B.G p with
  | none => rfl
  | some z => exact absurd h (o.fm.there (o.fm.old _ _ e))
/-! ### comprehensions -/
end
section
variable {m : Type → Type} [Mo m]
def lcA (f : D → m (Option D)) : List D → List D → m (List D)
  | [], acc => pure acc
  | d :: r, acc => f d >>= fun o => lcA f r (acc ++ o.toList)
/-- one turn of a block: target, tests, element -/
def CSem (K : PySem.W.Frag) (g : List Sl) (vs : List Nat) (f : D → m (Option D)) (gT : TG) (tt : TT) (te : TE) : Prop :=
  ∀ (B : Bs) (σ : L2.St) (H G : Hp) (n : Wd) (d : D) (v : V) (φ : Option D → Wd → Prop) (Qy : VK) (Qn : Hp → Prop), Ok K B (wipeG g vs) (L2.wipe σ vs) H G n → Da K G v d → Mo.sat (f d) n φ (fun _ _ => False) →
    (∀ H' G' n' y yv, Ok K B (wipeG g vs) (L2.wipe σ vs) H' G' n' → Same G G' → Da K G' yv y → φ (some y) n' → Qy yv H') →
    (∀ H' G' n', Ok K B (wipeG g vs) (L2.wipe σ vs) H' G' n' → Same G G' → φ none n' → Qn H') →
    gT v (L2.wipe σ vs) H fun σ2 H2 => L2.wipe σ2 vs = L2.wipe σ vs ∧ tt σ2 H2 fun b H3 => if b = true then te σ2 H3 Qy else Qn H3
variable [Calm m] {X : Cx} {EX : XR} {g : List Sl}
theorem tlc_of {gT : TG} {tt : TT} {te : TE} {x : m (List D)} {f : D → m (Option D)} {vs : List Nat} (hsem : CSem X.K g vs f gT tt te) (how : noOwn g vs = true) {σ : L2.St} {H : Hp} {Q : VK}
    (h : tlJ X EX g (x >>= fun ds => Mo.lift (small ds) >>= fun ds => lcA f ds []) σ H Q) : tLc (tiJ X EX g x) gT tt te vs σ H Q := by
  obtain ⟨B, G, n, φ, ξ, o, s, q, xw⟩ := h
  refine ⟨B, G, n, _, ξ, o, Mo.sat_bind s, fun J H1 G1 ds n1 o1 g1 wk s1 => ?_, xw⟩
  obtain ⟨es, ee, s1'⟩ := Mo.sat_lift (Mo.sat_bind s1)
  obtain ⟨rfl, hlen⟩ := small_eq ee
  intro D hD
  have sd := o1.side hD
  refine ⟨fun i k H' => k = es.length - i ∧ i ≤ es.length ∧ ∃ G' n' acc ac, Ok X.K B g σ H' G' n' ∧ Same G1 G' ∧ Side B g σ G' D ∧ H' D = some (.lst acc) ∧ DaAll X.K G' acc ac ∧ acc.length ≤ i ∧ Mo.sat (lcA f (es.drop i) ac) n' φ ξ, ⟨es.length, by omega, Nat.zero_le _, G1, n1, [], [], o1.raw hD, Same.refl _, sd, upd_same, .nil, Nat.zero_le _, s1'⟩, ?_⟩
  rintro i k H' ⟨rfl, hi, G', n', acc, ac, o', g', sd', hD', da, hal, s'⟩
  by_cases hlt : i < es.length
  · refine .inr ⟨wk.goes i H' hlt (g'.subm o'.fm.sub), fun H2 => ∃ G2 n2 acc2 ac2, Ok X.K B g σ H2 G2 n2 ∧ Same G1 G2 ∧ Side B g σ G2 D ∧ H2 D = some (.lst acc2) ∧ DaAll X.K G2 acc2 ac2 ∧ acc2.length ≤ i + 1 ∧ Mo.sat (lcA f (es.drop (i + 1)) ac2) n2 φ ξ,
      fun H2 ⟨G2, n2, acc2, ac2, r⟩ => ⟨es.length - (i + 1), by omega, rfl, hlt, G2, n2, acc2, ac2, r⟩, fun v H2 hy => ?_⟩
    obtain ⟨d, G2, ed, gr, dv⟩ := wk.yields i H' G' v H2 hlt g' o'.fm.sub hy
    have o2 := o'.gr gr
    have sd2 : Side B g σ G2 D := ⟨sd'.b, sd'.bg, gr.new D (by rw [hD']; simp) sd'.no, sd'.f⟩
    have hD2 : H2 D = some (.lst acc) := gr.h _ _ hD'
    have e0 : es.drop i = d :: es.drop (i + 1) := by
      rw [List.drop_eq_getElem_cons hlt]
      congr 1
      rw [List.getElem?_eq_getElem hlt] at ed
      exact Option.some.inj ed
    rw [e0] at s'
    have s2 := Calm.calm (ξ' := fun _ _ => False) (Mo.sat_bind s')
    have sdw : Side B (wipeG g vs) (L2.wipe σ vs) G2 D := ⟨sd2.b, sd2.bg, sd2.no, fun j es2 f2 e1 e2 => sd2.f j es2 f2 (wipeG_some e1 (by simp)).1 (wipe_some e2).1⟩
    refine hsem (B.pin D (.lst acc)) σ H2 G2 n' d v _ _ _ (o2.wipe.pin sdw hD2) dv s2 (fun H3 G3 n3 y yv o3 g3 dy s3 => ?_) (fun H3 G3 n3 o3 g3 s3 => ?_)
    · have o3' := o2.unwipe (o3.unpin o2.fm sd2.b) g3 how
      have sd3 : Side B g σ G3 D := ⟨sd2.b, sd2.bg, (sdw.grow o3).no, sd2.f⟩
      have h3 : H3 D = some (.lst acc) := o3.fm.keep D _ upd_same (o2.fm.side sd2.b)
      refine ⟨acc, h3, Nat.lt_of_le_of_lt hal (Nat.lt_of_lt_of_le hlt (le_line hlen)), G3, n3, _, ac ++ [y], o3'.poke sd3, (g'.trans gr.g).trans g3, sd3, upd_same, ((da.mono gr.g).mono g3).append (.one dy), ?_, s3⟩
      rw [List.length_append, List.length_singleton]
      omega
    · have o3' := o2.unwipe (o3.unpin o2.fm sd2.b) g3 how
      have sd3 : Side B g σ G3 D := ⟨sd2.b, sd2.bg, (sdw.grow o3).no, sd2.f⟩
      have h3 : H3 D = some (.lst acc) := o3.fm.keep D _ upd_same (o2.fm.side sd2.b)
      refine ⟨G3, n3, acc, ac, o3', (g'.trans gr.g).trans g3, sd3, h3, (da.mono gr.g).mono g3, by omega, ?_⟩
      have e9 : ac ++ (none : Option PyData).toList = ac := by simp
      have s4 : Mo.sat (lcA f (es.drop (i + 1)) (ac ++ (none : Option PyData).toList)) n3 φ ξ := s3
      rw [e9] at s4
      exact s4
  · have e : i = es.length := by omega
    subst e
    rw [List.drop_length] at s'
    have p := Mo.sat_pure s'
    exact .inl ⟨wk.stops H' (g'.subm o'.fm.sub), q D acc H' G' ac n' o' (g1.trans g') sd'.b sd'.no hD' sd'.f da p⟩
/-- a comprehension as a value, and as what a name is given on one line -/
structure LcP (X : Cx) (EX : XR) (e : Expr) (g : List Sl) (x : m (List D)) : Prop where
  expr : LJ X EX e g x
  stmt : ∀ {i : Nat} {y : Str} {py spos : Pos}, X.N.Nodup → X.N[i]? = some y → X.env.scope.names.lookup y = some .local → swapsWith e (some (.Name y py)) spos.line X.env = pure true → PS X (.Assign [.Name y py] e spos) (tAsg (tlJ X EX g x) (gName i))
theorem lj_lc {elt tg iter : Expr} {ifs : List Expr} {scope : Scope} {own : List (Str × Nat)} {pos : Pos} {gT : TG} {tt : TT} {te : TE} {x : m (List D)} {f : D → m (Option D)} (hc : X.calm = true) (hN : X.N.Nodup) (hi : IJ X EX tg iter g x) (ok : BlkOk X.N X.env.scope scope own)
    (hg : ∀ (s : Shared) (H : Hp) (C : Addr) (cl : List (Str × Addr)) (fp : List Addr), PG (X.blk s H scope (compEnvC scope cl C X.env) fp) tg gT) (ht : ∀ (s : Shared) (H : Hp) (C : Addr) (cl : List (Str × Addr)) (fp : List Addr), PTs (X.blk s H scope (compEnvC scope cl C X.env) fp) ifs tt)
    (he : ∀ (s : Shared) (H : Hp) (C : Addr) (cl : List (Str × Addr)) (fp : List Addr), PE (X.blk s H scope (compEnvC scope cl C X.env) fp) elt te) (hsem : CSem X.K g (own.map (·.2)) f gT tt te) (how : noOwn g (own.map (·.2)) = true) (hs : ∀ x, foldedSetIterable iter X.env x = pure x := by intro _; rfl) :
    LcP X EX (.ListComp elt [⟨tg, iter, ifs, 0⟩] scope pos) g (x >>= fun ds => Mo.lift (small ds) >>= fun ds => lcA f ds []) :=
  ⟨(pe_lc hc hN hi ok hg ht he hs).weak fun σ H Q h => tlc_of hsem how h, fun nd hy hl hsw => (ps_setLc hc nd hy hl hsw hi ok hg ht he hs).weak fun De σ H h => tlc_of hsem how h⟩
end
end DD
namespace DD
open PySem PySem.Spec PyProof.Rows L2
theorem pe_u {ι : Type} {X : Cx} {e : Expr} {F : ι → TE} (h : ∀ i, PE X e (F i)) : PE X e (fun σ H Q => ∃ i, F i σ H Q) := ⟨fun pins s σ H Q I ⟨i, q⟩ => (h i).run pins s σ H Q I q⟩
theorem pt_u {ι : Type} {X : Cx} {e : Expr} {F : ι → TT} (h : ∀ i, PT X e (F i)) : PT X e (fun σ H Q => ∃ i, F i σ H Q) := ⟨fun pins s σ H Q I ⟨i, q⟩ => (h i).run pins s σ H Q I q⟩
section
variable {K : PySem.W.Frag} {B : Bs} {g : List Sl} {σ : L2.St} {H G H' G' : Hp} {n n' : Wd} {vs : List Nat}
theorem Ok.rewipe {g' : List Sl} {σ' : L2.St} (o : Ok K B g' σ' H G n) (eg : wipeG g' vs = wipeG g vs) (es : L2.wipe σ' vs = L2.wipe σ vs) : Ok K B (wipeG g vs) (L2.wipe σ vs) H G n := by
  have := o.wipe (vs := vs)
  rw [eg, es] at this
  exact this
end
section
variable {m : Type → Type} [Mo m] [Calm m] {X : Cx} {EX : XR} {g : List Sl}
/-- the element alone -/
def someM (x : m D) : m (Option D) := x >>= fun y => pure (some y)
def ifM (t : m Bool) (x : m D) : m (Option D) := t >>= fun k => if k = true then someM x else pure none
theorem csem_end {vs : List Nat} {g' : List Sl} {σ σ' : L2.St} {B : Bs} {H G : Hp} {n : Wd} {x : m D} {φ : Option D → Wd → Prop} {Qy : VK} (eg : wipeG g' vs = wipeG g vs) (es : L2.wipe σ' vs = L2.wipe σ vs) (o : Ok X.K B g' σ' H G n) (s : Mo.sat (someM x) n φ (fun _ _ => False))
    (hy : ∀ H' G' n' y yv, Ok X.K B (wipeG g vs) (L2.wipe σ vs) H' G' n' → Same G G' → Da X.K G' yv y → φ (some y) n' → Qy yv H') : teJ X X0 g' x σ' H Qy :=
  ⟨B, G, n, _, _, o, Mo.sat_bind s, fun v H' G' d n' o' g' dv s' => hy H' G' n' d v (o'.rewipe eg es) g' dv (Mo.sat_pure s'), fun _ _ _ _ _ _ _ z => z.elim⟩
theorem csem1 {i : Nat} {vs : List Nat} {f : D → m D} (hin : i ∈ vs) : CSem X.K g vs (fun d => someM (f d)) (gName i) tYes (fun σ H Q => ∃ d : D, teJ X X0 ((wipeG g vs).set i (.val d)) (f d) σ H Q) := by
  intro B σ H G n d v φ Qy Qn o dv s hy hn
  have es : L2.wipe ((L2.wipe σ vs).set i (some v)) vs = L2.wipe σ vs := by rw [wipe_set hin, wipe_wipe]
  refine ⟨es, ?_⟩
  unfold tYes; dsimp only
  rw [if_pos rfl]
  exact ⟨d, csem_end (by rw [wipeG_set hin, wipeG_wipeG]) es (o.setV dv) s hy⟩
/-- two names -/
def pairM {α : Type} (d : D) (f : D → D → m α) : m α := match d with
  | .tuple [a, b] => f a b
  | _ => Mo.lift none
theorem pair_set {vs : List Nat} {i j : Nat} {φ : Option D → Wd → Prop} {B : Bs} {σ : L2.St} {H G : Hp} {n : Wd} {d : D} {v : V} {f : D → D → m (Option D)} {Q : L2.St → Hp → Prop} (hi : i ∈ vs) (hj : j ∈ vs) (o : Ok X.K B (wipeG g vs) (L2.wipe σ vs) H G n) (dv : Da X.K G v d) (s : Mo.sat (pairM d f) n φ (fun _ _ => False))
    (q : ∀ a b u w, L2.wipe (((L2.wipe σ vs).set i (some u)).set j (some w)) vs = L2.wipe σ vs → wipeG (((wipeG g vs).set i (.val a)).set j (.val b)) vs = wipeG g vs → Ok X.K B (((wipeG g vs).set i (.val a)).set j (.val b)) (((L2.wipe σ vs).set i (some u)).set j (some w)) H G n → Mo.sat (f a b) n φ (fun _ _ => False) → Q (((L2.wipe σ vs).set i (some u)).set j (some w)) H) :
    gTup X.K 2 (gCons (gName i) (gCons (gName j) gNil)) v (L2.wipe σ vs) H Q := by
  unfold pairM at s
  split at s
  · rename_i a b
    cases dv with
    | tup h da =>
      cases da with
      | cons d1 r =>
        cases r with
        | cons d2 r =>
          cases r
          refine ⟨_, _, rfl, sameT o.fm.sub h, rfl, _, _, rfl, _, _, rfl, rfl, q a b _ _ ?_ ?_ ((o.setV d1).setV d2) s⟩
          · rw [wipe_set hj, wipe_set hi, wipe_wipe]
          · rw [wipeG_set hj, wipeG_set hi, wipeG_wipeG]
  · obtain ⟨_, e, _⟩ := Mo.sat_lift s
    cases e
theorem csem2 {i j : Nat} {vs : List Nat} {f : D → D → m D} (hi : i ∈ vs) (hj : j ∈ vs) : CSem X.K g vs (fun d => pairM d fun a b => someM (f a b)) (gTup X.K 2 (gCons (gName i) (gCons (gName j) gNil))) tYes
    (fun σ H Q => ∃ d : D × D, teJ X X0 (((wipeG g vs).set i (.val d.1)).set j (.val d.2)) (f d.1 d.2) σ H Q) := by
  intro B σ H G n d v φ Qy Qn o dv s hy hn
  refine pair_set hi hj o dv s fun a b u w es eg o' s' => ⟨es, ?_⟩
  unfold tYes; dsimp only
  rw [if_pos rfl]
  exact ⟨(a, b), csem_end eg es o' s' hy⟩
theorem csem2i {i j : Nat} {vs : List Nat} {f : D → D → m D} {t : D → D → m Bool} (hi : i ∈ vs) (hj : j ∈ vs) : CSem X.K g vs (fun d => pairM d fun a b => ifM (t a b) (f a b)) (gTup X.K 2 (gCons (gName i) (gCons (gName j) gNil)))
    (fun σ H Q => ∃ d : D × D, ttJ X X0 (((wipeG g vs).set i (.val d.1)).set j (.val d.2)) (t d.1 d.2) σ H Q) (fun σ H Q => ∃ d : D × D, teJ X X0 (((wipeG g vs).set i (.val d.1)).set j (.val d.2)) (f d.1 d.2) σ H Q) := by
  intro B σ H G n d v φ Qy Qn o dv s hy hn
  refine pair_set hi hj o dv s fun a b u w es eg o' s' => ⟨es, (a, b), tt_one (EX := X0) o' s' (fun k H1 G1 n1 o1 g1 s1 => ?_) fun _ _ _ _ _ _ _ z => z.elim⟩
  cases k with
  | true =>
    rw [if_pos rfl] at s1 ⊢
    exact ⟨(a, b), csem_end eg es o1 s1 fun H' G' n' y yv o' g' => hy H' G' n' y yv o' (g1.trans g')⟩
  | false =>
    rw [if_neg Bool.false_ne_true] at s1 ⊢
    exact hn H1 G1 n1 (o1.rewipe eg es) g1 (Mo.sat_pure s1)
theorem ej_blk {s : Shared} {H : Hp} {scope : Scope} {env : Env} {fp : List Addr} {e : Expr} {x : m D} (h : EJ (X.blk s H scope env fp) X0 e g x) : PE (X.blk s H scope env fp) e (teJ X X0 g x) := h
theorem tj_blk {s : Shared} {H : Hp} {scope : Scope} {env : Env} {fp : List Addr} {e : Expr} {x : m Bool} (h : TJ (X.blk s H scope env fp) X0 e g x) : PT (X.blk s H scope env fp) e (ttJ X X0 g x) := h
/-- [e for x in it] -/
theorem lj_lc1 (own : List (Str × Nat)) (i : Nat) {elt tg iter : Expr} {scope : Scope} {pos : Pos} {x : m (List D)} {f : D → m D} (hN : X.N.Nodup) (hi : IJ X EX tg iter g x) (ok : BlkOk X.N X.env.scope scope own)
    (hg : ∀ (s : Shared) (H : Hp) (C : Addr) (cl : List (Str × Addr)) (fp : List Addr), PG (X.blk s H scope (compEnvC scope cl C X.env) fp) tg (gName i))
    (he : ∀ (s : Shared) (H : Hp) (C : Addr) (cl : List (Str × Addr)) (fp : List Addr) (d : D), EJ (X.blk s H scope (compEnvC scope cl C X.env) fp) X0 elt ((wipeG g (own.map (·.2))).set i (.val d)) (f d))
    (hin : i ∈ own.map (·.2) := by decide) (how : noOwn g (own.map (·.2)) = true := by rfl) (hc : X.calm = true := by rfl) (hs : ∀ x, foldedSetIterable iter X.env x = pure x := by intro _; rfl) :
    LcP X EX (.ListComp elt [⟨tg, iter, [], 0⟩] scope pos) g (x >>= fun ds => Mo.lift (small ds) >>= fun ds => lcA (fun d => someM (f d)) ds []) :=
  lj_lc hc hN hi ok hg (fun _ _ _ _ _ => pts_nil) (fun s H C cl fp => pe_u fun d => ej_blk (he s H C cl fp d)) (csem1 hin) how hs
/-- [e for x, y in it] -/
theorem lj_lc2 (own : List (Str × Nat)) (i j : Nat) {elt tg iter : Expr} {scope : Scope} {pos : Pos} {x : m (List D)} {f : D → D → m D} (hN : X.N.Nodup) (hi : IJ X EX tg iter g x) (ok : BlkOk X.N X.env.scope scope own)
    (hg : ∀ (s : Shared) (H : Hp) (C : Addr) (cl : List (Str × Addr)) (fp : List Addr), PG (X.blk s H scope (compEnvC scope cl C X.env) fp) tg (gTup X.K 2 (gCons (gName i) (gCons (gName j) gNil))))
    (he : ∀ (s : Shared) (H : Hp) (C : Addr) (cl : List (Str × Addr)) (fp : List Addr) (a b : D), EJ (X.blk s H scope (compEnvC scope cl C X.env) fp) X0 elt (((wipeG g (own.map (·.2))).set i (.val a)).set j (.val b)) (f a b))
    (hin : i ∈ own.map (·.2) := by decide) (hjn : j ∈ own.map (·.2) := by decide) (how : noOwn g (own.map (·.2)) = true := by rfl) (hc : X.calm = true := by rfl) (hs : ∀ x, foldedSetIterable iter X.env x = pure x := by intro _; rfl) :
    LcP X EX (.ListComp elt [⟨tg, iter, [], 0⟩] scope pos) g (x >>= fun ds => Mo.lift (small ds) >>= fun ds => lcA (fun d => pairM d fun a b => someM (f a b)) ds []) :=
  lj_lc hc hN hi ok hg (fun _ _ _ _ _ => pts_nil) (fun s H C cl fp => pe_u fun d => ej_blk (he s H C cl fp d.1 d.2)) (csem2 hin hjn) how hs
/-- [e for x, y in it if t] -/
theorem lj_lc2i (own : List (Str × Nat)) (i j : Nat) {elt tg iter c : Expr} {scope : Scope} {pos : Pos} {x : m (List D)} {f : D → D → m D} {t : D → D → m Bool} (hN : X.N.Nodup) (hi : IJ X EX tg iter g x) (ok : BlkOk X.N X.env.scope scope own)
    (hg : ∀ (s : Shared) (H : Hp) (C : Addr) (cl : List (Str × Addr)) (fp : List Addr), PG (X.blk s H scope (compEnvC scope cl C X.env) fp) tg (gTup X.K 2 (gCons (gName i) (gCons (gName j) gNil))))
    (ht : ∀ (s : Shared) (H : Hp) (C : Addr) (cl : List (Str × Addr)) (fp : List Addr) (a b : D), TJ (X.blk s H scope (compEnvC scope cl C X.env) fp) X0 c (((wipeG g (own.map (·.2))).set i (.val a)).set j (.val b)) (t a b))
    (he : ∀ (s : Shared) (H : Hp) (C : Addr) (cl : List (Str × Addr)) (fp : List Addr) (a b : D), EJ (X.blk s H scope (compEnvC scope cl C X.env) fp) X0 elt (((wipeG g (own.map (·.2))).set i (.val a)).set j (.val b)) (f a b))
    (hin : i ∈ own.map (·.2) := by decide) (hjn : j ∈ own.map (·.2) := by decide) (how : noOwn g (own.map (·.2)) = true := by rfl) (hc : X.calm = true := by rfl) (hs : ∀ x, foldedSetIterable iter X.env x = pure x := by intro _; rfl) :
    LcP X EX (.ListComp elt [⟨tg, iter, [c], 0⟩] scope pos) g (x >>= fun ds => Mo.lift (small ds) >>= fun ds => lcA (fun d => pairM d fun a b => ifM (t a b) (f a b)) ds []) :=
  lj_lc hc hN hi ok hg (fun s H C cl fp => pts_one (pt_u fun d => tj_blk (ht s H C cl fp d.1 d.2))) (fun s H C cl fp => pe_u fun d => ej_blk (he s H C cl fp d.1 d.2)) (csem2i hin hjn) how hs
end
end DD
namespace DD
open PySem PySem.Spec PyProof.Rows L2
/-! ### statements -/
inductive Fl (A : Type) where
  | nx (a : A) | rt (d : D)
section
variable {m : Type → Type} [Mo m] {A A' : Type}
def tsJ (X : Cx) (EX : XR) (g : List Sl) (x : m A) (P : A → List Sl) : TS := fun De σ H => ∃ B G n φ ξ, Ok X.K B g σ H G n ∧ Mo.sat x n φ ξ ∧ (∀ a σ' H' G' n', Ok X.K B (P a) σ' H' G' n' → Same G G' → φ a n' → De.nx σ' H') ∧ Xw X B EX ξ
/-- a plain statement: no return within -/
def SJ (X : Cx) (EX : XR) (s : Stmt) (g : List Sl) (x : m A) (P : A → List Sl) : Prop := PS X s (tsJ X EX g x P)
def tbJ (X : Cx) (EX : XR) (g : List Sl) (x : m (Fl A)) (P : A → List Sl) : TS := fun De σ H => ∃ B G n φ ξ, Ok X.K B g σ H G n ∧ Mo.sat x n φ ξ ∧ (∀ a σ' H' G' n', Ok X.K B (P a) σ' H' G' n' → Same G G' → φ (.nx a) n' → De.nx σ' H') ∧
  (∀ v H' G' d n', Fm X.K B H' G' n' → Da X.K G' v d → φ (.rt d) n' → De.rt v H') ∧ Xw X B EX ξ
/-- a block that may end or return -/
def BJ (X : Cx) (EX : XR) (ss : List Stmt) (g : List Sl) (x : m (Fl A)) (P : A → List Sl) : Prop := PSs X ss (tbJ X EX g x P)
def tfJ (X : Cx) (EX : XR) (fall : Bool) (g : List Sl) (x : m D) : TS := fun De σ H => ∃ B G n φ ξ, Ok X.K B g σ H G n ∧ Mo.sat x n φ ξ ∧ (∀ v H' G' d n', Fm X.K B H' G' n' → Da X.K G' v d → φ d n' → De.rt v H') ∧
  (fall = true → ∀ σ' H' G' n', Fm X.K B H' G' n' → φ .none n' → De.nx σ' H') ∧ Xw X B EX ξ
/-- the rest of a def's body (fall: it may come to its end, which hands back None) -/
def FJ (X : Cx) (EX : XR) (fall : Bool) (ss : List Stmt) (g : List Sl) (x : m D) : Prop := PSs X ss (tfJ X EX fall g x)
end
section
variable {m : Type → Type} [Mo m] {A A' : Type} {X : Cx} {EX : XR} {g : List Sl} {fall : Bool}
theorem fj_seq {s : Stmt} {rest : List Stmt} {x : m A} {P : A → List Sl} {y : A → m D} (h : SJ X EX s g x P) (hr : ∀ a, FJ X EX fall rest (P a) (y a)) : FJ X EX fall (s :: rest) g (x >>= y) :=
  (pss_cons h (u := fun De σ H => ∃ a, tfJ X EX fall (P a) (y a) De σ H) ⟨fun pins s σ H De I ⟨a, q⟩ => (hr a).run pins s σ H De I q⟩).weak fun De σ H ⟨B, G, n, φ, ξ, o, s, q1, q2, xw⟩ =>
    ⟨B, G, n, _, ξ, o, Mo.sat_bind s, fun a σ' H' G' n' o' g' s' => ⟨a, B, G', n', φ, ξ, o', s', q1, q2, xw⟩, xw⟩
theorem bj_seq {s : Stmt} {rest : List Stmt} {x : m A} {P : A → List Sl} {y : A → m (Fl A')} {P' : A' → List Sl} (h : SJ X EX s g x P) (hr : ∀ a, BJ X EX rest (P a) (y a) P') : BJ X EX (s :: rest) g (x >>= y) P' :=
  (pss_cons h (u := fun De σ H => ∃ a, tbJ X EX (P a) (y a) P' De σ H) ⟨fun pins s σ H De I ⟨a, q⟩ => (hr a).run pins s σ H De I q⟩).weak fun De σ H ⟨B, G, n, φ, ξ, o, s, q1, q2, xw⟩ =>
    ⟨B, G, n, _, ξ, o, Mo.sat_bind s, fun a σ' H' G' n' o' g' s' => ⟨a, B, G', n', φ, ξ, o', s', fun c τ K' L' k oc gc pc => q1 c τ K' L' k oc (g'.trans gc) pc, q2, xw⟩, xw⟩
/-- what a later block need not know is forgotten -/
def Sub : List Sl → List Sl → Prop
  | [], [] => True
  | s :: g, t :: h => (t = .any ∨ t = s) ∧ Sub g h
  | _, _ => False
theorem Sub.len : ∀ {g h : List Sl}, Sub g h → h.length = g.length
  | [], [], _ => rfl
  | _ :: _, _ :: _, q => by simp [Sub.len q.2]
  | [], _ :: _, q => q.elim
  | _ :: _, [], q => q.elim
theorem Sub.get : ∀ {g h : List Sl}, Sub g h → ∀ (i : Nat) (s : Sl), h[i]? = some s → s = .any ∨ g[i]? = some s
  | [], [], _, i, s, e => by simp at e
  | a :: g, b :: h, q, 0, s, e => by
    simp at e
    subst e
    rcases q.1 with z | z
    · exact .inl z
    · exact .inr (by simp [z])
  | a :: g, b :: h, q, i + 1, s, e => by
    simp only [List.getElem?_cons_succ] at e ⊢
    exact Sub.get q.2 i s e
  | [], _ :: _, q, _, _, _ => q.elim
  | _ :: _, [], q, _, _, _ => q.elim
theorem Ok.forget {K : PySem.W.Frag} {B : Bs} {σ : L2.St} {H G : Hp} {n : Wd} {g' : List Sl} (o : Ok K B g σ H G n) (h : Sub g g') : Ok K B g' σ H G n := o.sub h.len h.get
theorem fj_nil : FJ (m := m) X EX true [] g (pure .none) := pss_nil.weak fun De σ H ⟨B, G, n, φ, ξ, o, s, q1, q2, xw⟩ => q2 rfl σ H G n o.fm (Mo.sat_pure s)
theorem bj_nil {a : A} {P : A → List Sl} (h : Sub g (P a)) : BJ (m := m) X EX [] g (pure (.nx a)) P := pss_nil.weak fun De σ H ⟨B, G, n, φ, ξ, o, s, q1, q2, xw⟩ => q1 a σ H G n (o.forget h) (Same.refl _) (Mo.sat_pure s)
theorem pss_ret {e : Expr} {rest : List Stmt} {pos : Pos} {te : TE} (h : PE X e te) : PSs X (.Return (some e) pos :: rest) (fun De σ H => te σ H De.rt) := (pss_cons (ps_ret h) (u := tNever) ⟨fun _ _ _ _ _ _ h => h.elim⟩)
theorem fj_ret {e : Expr} {rest : List Stmt} {pos : Pos} {x : m D} (h : EJ X EX e g x) : FJ X EX fall (.Return (some e) pos :: rest) g x :=
  (pss_ret h).weak fun De σ H ⟨B, G, n, φ, ξ, o, s, q1, q2, xw⟩ => ⟨B, G, n, φ, ξ, o, s, fun v H' G' d n' o' g' d' p => q1 v H' G' d n' o'.fm d' p, xw⟩
theorem bj_ret {e : Expr} {rest : List Stmt} {pos : Pos} {x : m D} {P : A → List Sl} (h : EJ X EX e g x) : BJ X EX (.Return (some e) pos :: rest) g (x >>= fun d => pure (.rt d)) P :=
  (pss_ret h).weak fun De σ H ⟨B, G, n, φ, ξ, o, s, q1, q2, xw⟩ => ⟨B, G, n, _, ξ, o, Mo.sat_bind s, fun v H' G' d n' o' g' d' p => q2 v H' G' d n' o'.fm d' (Mo.sat_pure p), xw⟩
/-! ### if -/
/-- if c: .. (it returns) -/
theorem fj_ifr {c : Expr} {thn rest : List Stmt} {pos : Pos} {t : m Bool} {x y : m D} (hc : TJ X EX c g t) (h1 : FJ X EX false thn g x) (h2 : FJ X EX fall rest g y) : FJ X EX fall (.If c thn [] pos :: rest) g (t >>= fun k => if k = true then x else y) :=
  (pss_cons (ps_if hc h1 pss_nil) h2).weak fun De σ H ⟨B, G, n, φ, ξ, o, s, q1, q2, xw⟩ => tt_one o s (fun b H1 G1 n1 o1 g1 s1 => by
    cases b with
    | true =>
      rw [if_pos rfl] at s1 ⊢
      exact ⟨B, G1, n1, φ, ξ, o1, s1, q1, (fun z => by cases z), xw⟩
    | false =>
      rw [if_neg Bool.false_ne_true] at s1 ⊢
      exact ⟨B, G1, n1, φ, ξ, o1, s1, q1, q2, xw⟩) xw
theorem bj_ifr {c : Expr} {thn rest : List Stmt} {pos : Pos} {t : m Bool} {x : m D} {y : m (Fl A)} {P : A → List Sl} (hc : TJ X EX c g t) (h1 : FJ X EX false thn g x) (h2 : BJ X EX rest g y P) : BJ X EX (.If c thn [] pos :: rest) g (t >>= fun k => if k = true then (x >>= fun d => pure (.rt d)) else y) P :=
  (pss_cons (ps_if hc h1 pss_nil) h2).weak fun De σ H ⟨B, G, n, φ, ξ, o, s, q1, q2, xw⟩ => tt_one o s (fun b H1 G1 n1 o1 g1 s1 => by
    cases b with
    | true =>
      rw [if_pos rfl] at s1 ⊢
      exact ⟨B, G1, n1, _, ξ, o1, Mo.sat_bind s1, (fun v H' G' d n' f' d' p => q2 v H' G' d n' f' d' (Mo.sat_pure p)), (fun z => by cases z), xw⟩
    | false =>
      rw [if_neg Bool.false_ne_true] at s1 ⊢
      exact ⟨B, G1, n1, φ, ξ, o1, s1, fun c τ K' L' k oc gc pc => q1 c τ K' L' k oc (g1.trans gc) pc, q2, xw⟩) xw
def thenM (f : Fl A) (y : A → m D) : m D := match f with
  | .nx a => y a
  | .rt d => pure d
def thenB (f : Fl A) (y : A → m (Fl A')) : m (Fl A') := match f with
  | .nx a => y a
  | .rt d => pure (.rt d)
theorem pss_any {ι : Type} {ss : List Stmt} {F : ι → TS} (h : ∀ i, PSs X ss (F i)) : PSs X ss (fun De σ H => ∃ i, F i De σ H) := ⟨fun pins s σ H De I ⟨i, q⟩ => (h i).run pins s σ H De I q⟩
theorem bj_if {c : Expr} {thn els rest : List Stmt} {pos : Pos} {t : m Bool} {x1 x2 : m (Fl A)} {P : A → List Sl} {y : A → m (Fl A')} {P' : A' → List Sl} (hc : TJ X EX c g t) (h1 : BJ X EX thn g x1 P) (h2 : BJ X EX els g x2 P) (hr : ∀ a, BJ X EX rest (P a) (y a) P') :
    BJ X EX (.If c thn els pos :: rest) g (t >>= fun k => (if k = true then x1 else x2) >>= fun f => thenB f y) P' :=
  (pss_cons (ps_if hc h1 h2) (pss_any hr)).weak fun De σ H ⟨B, G, n, φ, ξ, o, s, q1, q2, xw⟩ => tt_one o s (fun b H1 G1 n1 o1 g1 s1 => by
    cases b with
    | true =>
      rw [if_pos rfl] at s1 ⊢
      exact ⟨B, G1, n1, _, ξ, o1, Mo.sat_bind s1, (fun a σ' H' G' n' o' g' s' => ⟨a, B, G', n', φ, ξ, o', s', fun c τ K' L' k oc gc pc => q1 c τ K' L' k oc ((g1.trans g').trans gc) pc, q2, xw⟩), (fun v H' G' d n' f' d' p => q2 v H' G' d n' f' d' (Mo.sat_pure p)), xw⟩
    | false =>
      rw [if_neg Bool.false_ne_true] at s1 ⊢
      exact ⟨B, G1, n1, _, ξ, o1, Mo.sat_bind s1, (fun a σ' H' G' n' o' g' s' => ⟨a, B, G', n', φ, ξ, o', s', fun c τ K' L' k oc gc pc => q1 c τ K' L' k oc ((g1.trans g').trans gc) pc, q2, xw⟩), (fun v H' G' d n' f' d' p => q2 v H' G' d n' f' d' (Mo.sat_pure p)), xw⟩) xw
/-! ### for -/
def loopM (f : D → A → m (Fl A)) : List D → A → m (Fl A)
  | [], a => pure (.nx a)
  | d :: r, a => f d a >>= fun z => match z with
    | .nx a' => loopM f r a'
    | .rt v => pure (.rt v)
/-- the target's store at a turn: from the loop's slots P a and the item d to what the body finds -/
def GSem (K : PySem.W.Frag) (gT : TG) (P : A → List Sl) (b : D → A → m (Fl A)) (f : D → A → List Sl → m (Fl A) → Prop) : Prop :=
  ∀ (B : Bs) (σ : L2.St) (H G : Hp) (n : Wd) (d : D) (a : A) (v : V) (φ : Fl A → Wd → Prop) (ξ : Exn → Wd → Prop) (Q : L2.St → Hp → Prop), Ok K B (P a) σ H G n → Da K G v d → Mo.sat (b d a) n φ ξ → (∀ g' y σ', f d a g' y → Ok K B g' σ' H G n → Mo.sat y n φ ξ → Q σ' H) → gT v σ H Q
theorem for_core {tg iter : Expr} {body : List Stmt} {pos : Pos} {xi : m (List D)} {gT : TG} {P : A → List Sl} {a0 : A} {b : D → A → m (Fl A)} {F : D → A → List Sl → m (Fl A) → Prop} (hp : PassesOwn (model X.prog X.w) X.A X.env X.xe) (hc : X.calm = true) (hi : IJ X EX tg iter g xi) (hg : PG X tg gT)
    (hb : ∀ d a g' y, F d a g' y → BJ X EX body g' y P) (hsem : GSem X.K gT P b F) (h0 : Sub g (P a0)) (hs : ∀ x, foldedSetIterable iter X.env x = pure x := by intro _; rfl) :
    PS X (.For tg iter body [] pos) (tbJ X EX g (xi >>= fun ds => loopM b ds a0) P) := by
  have hbody : PSs X body (fun De σ H => ∃ t : { t : D × A × List Sl × m (Fl A) // F t.1 t.2.1 t.2.2.1 t.2.2.2 }, tbJ X EX t.1.2.2.1 t.1.2.2.2 P De σ H) := pss_any fun t => hb _ _ _ _ t.2
  refine (ps_for hp hc hi hg hbody hs).weak fun De σ H ⟨B, G, n, φ, ξ, o, s, q1, q2, xw⟩ => ⟨B, G, n, _, ξ, o, Mo.sat_bind s, fun J H1 G1 ds n1 o1 g1 wk s1 => ?_, xw⟩
  refine ⟨fun i k σ' H' => k = ds.length - i ∧ i ≤ ds.length ∧ ∃ G' n' a, Ok X.K B (P a) σ' H' G' n' ∧ Same G1 G' ∧ Mo.sat (loopM b (ds.drop i) a) n' φ ξ, ⟨ds.length, by omega, Nat.zero_le _, G1, n1, a0, o1.forget h0, Same.refl _, s1⟩, ?_⟩
  rintro i k σ' H' ⟨rfl, hi, G', n', a, o', g', s'⟩
  by_cases hlt : i < ds.length
  · refine .inr ⟨wk.goes i H' hlt (g'.subm o'.fm.sub), fun σ2 H2 => ∃ G2 n2 a2, Ok X.K B (P a2) σ2 H2 G2 n2 ∧ Same G1 G2 ∧ Mo.sat (loopM b (ds.drop (i + 1)) a2) n2 φ ξ, fun σ2 H2 ⟨G2, n2, a2, r⟩ => ⟨ds.length - (i + 1), by omega, rfl, hlt, G2, n2, a2, r⟩, fun v H2 hy => ?_⟩
    obtain ⟨d, G2, ed, gr, dv⟩ := wk.yields i H' G' v H2 hlt g' o'.fm.sub hy
    have e0 : ds.drop i = d :: ds.drop (i + 1) := by
      rw [List.drop_eq_getElem_cons hlt]
      congr 1
      rw [List.getElem?_eq_getElem hlt] at ed
      exact Option.some.inj ed
    rw [e0] at s'
    refine hsem B σ' H2 G2 n' d a v _ ξ _ (o'.gr gr) dv (Mo.sat_bind s') fun g2 y σ2 hF o2 s2 => ?_
    refine ⟨⟨(d, a, g2, y), hF⟩, B, G2, n', _, ξ, o2, s2, fun a3 σ3 H3 G3 n3 o3 g3 s3 => ⟨G3, n3, a3, o3, (g'.trans gr.g).trans g3, s3⟩, fun w H3 G3 e n3 f3 d3 s3 => q2 w H3 G3 e n3 f3 d3 (Mo.sat_pure s3), xw⟩
  · have e : i = ds.length := by omega
    subst e
    rw [List.drop_length] at s'
    exact .inl ⟨wk.stops H' (g'.subm o'.fm.sub), q1 a σ' H' G' n' o' (g1.trans g') (Mo.sat_pure s')⟩
end
end DD
namespace DD
open PySem PySem.Spec PyProof.Rows L2
section
variable {m : Type → Type} [Mo m] {A A' : Type} {X : Cx} {EX : XR} {g : List Sl} {fall : Bool}
/-! ### for, by its target -/
theorem gsem1 {i : Nat} {P : A → List Sl} {b : D → A → m (Fl A)} : GSem X.K (gName i) P b (fun d a g' y => g' = (P a).set i (.val d) ∧ y = b d a) := by
  intro B σ H G n d a v φ ξ Q o dv s q
  exact q _ _ _ ⟨rfl, rfl⟩ (o.setV dv) s
theorem gsem2 {i j : Nat} {P : A → List Sl} {b : D → D → A → m (Fl A)} : GSem X.K (gTup X.K 2 (gCons (gName i) (gCons (gName j) gNil))) P (fun d a => pairM d fun u w => b u w a) (fun d a g' y => ∃ u w, g' = ((P a).set i (.val u)).set j (.val w) ∧ y = b u w a) := by
  intro B σ H G n d a v φ ξ Q o dv s q
  unfold pairM at s
  dsimp only at s
  split at s
  · rename_i u w
    cases dv with
    | tup h da =>
      cases da with
      | cons d1 r =>
        cases r with
        | cons d2 r =>
          cases r
          exact ⟨_, _, rfl, sameT o.fm.sub h, rfl, _, _, rfl, _, _, rfl, rfl, q _ _ _ ⟨u, w, rfl, rfl⟩ ((o.setV d1).setV d2) s⟩
  · obtain ⟨_, e, _⟩ := Mo.sat_lift s
    cases e
theorem fj_of_for {s : Stmt} {rest : List Stmt} {x : m (Fl A)} {P : A → List Sl} {y : A → m D} (h : PS X s (tbJ X EX g x P)) (hr : ∀ a, FJ X EX fall rest (P a) (y a)) : FJ X EX fall (s :: rest) g (x >>= fun f => thenM f y) :=
  (pss_cons h (pss_any hr)).weak fun De σ H ⟨B, G, n, φ, ξ, o, s, q1, q2, xw⟩ =>
    ⟨B, G, n, _, ξ, o, Mo.sat_bind s, fun a σ' H' G' n' o' g' s' => ⟨a, B, G', n', φ, ξ, o', s', q1, q2, xw⟩, fun v H' G' d n' f' d' p => q1 v H' G' d n' f' d' (Mo.sat_pure p), xw⟩
theorem bj_of_for {s : Stmt} {rest : List Stmt} {x : m (Fl A)} {P : A → List Sl} {y : A → m (Fl A')} {P' : A' → List Sl} (h : PS X s (tbJ X EX g x P)) (hr : ∀ a, BJ X EX rest (P a) (y a) P') : BJ X EX (s :: rest) g (x >>= fun f => thenB f y) P' :=
  (pss_cons h (pss_any hr)).weak fun De σ H ⟨B, G, n, φ, ξ, o, s, q1, q2, xw⟩ =>
    ⟨B, G, n, _, ξ, o, Mo.sat_bind s, fun a σ' H' G' n' o' g' s' => ⟨a, B, G', n', φ, ξ, o', s', fun c τ K' L' k oc gc pc => q1 c τ K' L' k oc (g'.trans gc) pc, q2, xw⟩, fun v H' G' d n' f' d' p => q2 v H' G' d n' f' d' (Mo.sat_pure p), xw⟩
theorem for1 (i : Nat) {tg iter : Expr} {body : List Stmt} {pos : Pos} {xi : m (List D)} {P : A → List Sl} {a0 : A} {b : D → A → m (Fl A)} (hp : PassesOwn (model X.prog X.w) X.A X.env X.xe) (hi : IJ X EX tg iter g xi) (hg : PG X tg (gName i))
    (hb : ∀ d a, BJ X EX body ((P a).set i (.val d)) (b d a) P) (h0 : Sub g (P a0)) (hc : X.calm = true := by rfl) (hs : ∀ x, foldedSetIterable iter X.env x = pure x := by intro _; rfl) :
    PS X (.For tg iter body [] pos) (tbJ X EX g (xi >>= fun ds => loopM b ds a0) P) :=
  for_core hp hc hi hg (fun d a g' y ⟨e1, e2⟩ => by subst e1 e2; exact hb d a) gsem1 h0 hs
theorem for2 (i j : Nat) {tg iter : Expr} {body : List Stmt} {pos : Pos} {xi : m (List D)} {P : A → List Sl} {a0 : A} {b : D → D → A → m (Fl A)} (hp : PassesOwn (model X.prog X.w) X.A X.env X.xe) (hi : IJ X EX tg iter g xi) (hg : PG X tg (gTup X.K 2 (gCons (gName i) (gCons (gName j) gNil))))
    (hb : ∀ u w a, BJ X EX body (((P a).set i (.val u)).set j (.val w)) (b u w a) P) (h0 : Sub g (P a0)) (hc : X.calm = true := by rfl) (hs : ∀ x, foldedSetIterable iter X.env x = pure x := by intro _; rfl) :
    PS X (.For tg iter body [] pos) (tbJ X EX g (xi >>= fun ds => loopM (fun d a => pairM d fun u w => b u w a) ds a0) P) :=
  for_core hp hc hi hg (fun d a g' y ⟨u, w, e1, e2⟩ => by subst e1 e2; exact hb u w a) gsem2 h0 hs
/-! ### plain statements -/
theorem sj_set (i : Nat) {y : Str} {py pos : Pos} {e : Expr} {x : m D} (hN : X.N.Nodup) (h : EJ X EX e g x) (hi : X.N[i]? = some y := by rfl) (hx : Loc X.env.scope y := by first | exact Or.inl rfl | exact Or.inr rfl) (hs : swapsWith e (some (.Name y py)) pos.line X.env = pure false := by kernel_rfl)
    (hf : X.fn y = true ∨ X.env.scope.names.lookup y = some .local := by first | exact .inl rfl | exact .inr rfl) : SJ X EX (.Assign [.Name y py] e pos) g x (fun d => g.set i (.val d)) :=
  (ps_set hN hi hx h hs hf).weak fun De σ H ⟨B, G, n, φ, ξ, o, s, q, xw⟩ => ⟨B, G, n, φ, ξ, o, s, fun v H' G' d n' o' g' dv p => q d _ H' G' n' (o'.setV dv) g' p, xw⟩
/-- a slot is given a list of its own -/
theorem Ok.setO {K : PySem.W.Frag} {B : Bs} {σ : L2.St} {H G : Hp} {n : Wd} {p : Addr} {xs : List V} {ds : List D} {i : Nat} (o : Ok K B g σ H G n) (hb : B.H p = none) (hg : G p = none) (hh : H p = some (.lst xs))
    (hf : ∀ (i : Nat) (es : List D) (f : Addr), g[i]? = some (Sl.own es) → σ[i]? = some (some (V.ref f)) → f ≠ p) (da : DaAll K G xs ds) : Ok K B (g.set i (.own ds)) (σ.set i (some (.ref p))) H G n where
  fm := o.fm
  len := by rw [List.length_set, List.length_set, o.len]
  val := fun j e he => by
    by_cases hj : i = j
    · subst hj
      by_cases hl : i < g.length
      · rw [List.getElem?_set_self hl] at he; cases he
      · rw [List.getElem?_eq_none (by rw [List.length_set]; omega)] at he; cases he
    · rw [List.getElem?_set_ne hj] at he ⊢
      exact o.val j e he
  own := by
    obtain ⟨f, h1, h2⟩ := o.own
    have out : ∀ (j : Nat) (es : List D), i ≠ j → (g.set i (.own ds))[j]? = some (Sl.own es) → g[j]? = some (Sl.own es) := fun j es hj e => by
      rw [List.getElem?_set_ne hj] at e; exact e
    refine ⟨fun j => if j = i then p else f j, fun j k es es' a b e => ?_, fun j es e => ?_⟩
    · dsimp only at e
      by_cases hj : j = i <;> by_cases hk : k = i
      · rw [hj, hk]
      · rw [if_pos hj, if_neg hk] at e
        have b' := out k es' (Ne.symm hk) b
        obtain ⟨q, _⟩ := h2 k es' b'
        exact absurd e.symm (hf k es' _ b' q)
      · rw [if_neg hj, if_pos hk] at e
        have a' := out j es (Ne.symm hj) a
        obtain ⟨q, _⟩ := h2 j es a'
        exact absurd e (hf j es _ a' q)
      · rw [if_neg hj, if_neg hk] at e
        exact h1 j k es es' (out j es (Ne.symm hj) a) (out k es' (Ne.symm hk) b) e
    · dsimp only
      by_cases hj : j = i
      · subst hj
        by_cases hl : j < g.length
        · rw [List.getElem?_set_self hl] at e
          cases e
          rw [if_pos rfl, List.getElem?_set_self (by rw [← o.len]; exact hl)]
          exact ⟨rfl, hg, hb, xs, hh, da⟩
        · rw [List.getElem?_eq_none (by rw [List.length_set]; omega)] at e; cases e
      · rw [if_neg hj, List.getElem?_set_ne (Ne.symm hj)]
        exact h2 j es (out j es (Ne.symm hj) e)
  dck := fun j e => by
    by_cases hj : i = j
    · subst hj
      by_cases hl : i < g.length
      · rw [List.getElem?_set_self hl] at e; cases e
      · rw [List.getElem?_eq_none (by rw [List.length_set]; omega)] at e; cases e
    · rw [List.getElem?_set_ne hj] at e ⊢
      exact o.dck j e
  adr := fun j b od fs e => by
    by_cases hj : i = j
    · subst hj
      by_cases hl : i < g.length
      · rw [List.getElem?_set_self hl] at e; cases e
      · rw [List.getElem?_eq_none (by rw [List.length_set]; omega)] at e; cases e
    · rw [List.getElem?_set_ne hj] at e ⊢
      exact o.adr j b od fs e
theorem sj_setO (i : Nat) {y : Str} {py pos : Pos} {e : Expr} {x : m (List D)} (hN : X.N.Nodup) (h : LJ X EX e g x) (hi : X.N[i]? = some y := by rfl) (hx : Loc X.env.scope y := by first | exact Or.inl rfl | exact Or.inr rfl) (hs : swapsWith e (some (.Name y py)) pos.line X.env = pure false := by kernel_rfl)
    (hf : X.fn y = true ∨ X.env.scope.names.lookup y = some .local := by first | exact .inl rfl | exact .inr rfl) : SJ X EX (.Assign [.Name y py] e pos) g x (fun ds => g.set i (.own ds)) :=
  (ps_set hN hi hx h hs hf).weak fun De σ H ⟨B, G, n, φ, ξ, o, s, q, xw⟩ => ⟨B, G, n, φ, ξ, o, s, fun p xs H' G' ds n' o' g' hb hg hh hf da pd => q ds _ H' G' n' (o'.setO hb hg hh hf da) g' pd, xw⟩
/-- y = [..] on one line, y a local -/
theorem sj_lcV (i : Nat) {y : Str} {py pos : Pos} {e : Expr} {x : m (List D)} (hN : X.N.Nodup) (h : LcP X EX e g x) (hw : swapsWith e (some (.Name y py)) pos.line X.env = pure true) (hi : X.N[i]? = some y := by rfl) (hl : X.env.scope.names.lookup y = some .local := by rfl) :
    SJ X EX (.Assign [.Name y py] e pos) g x (fun ds => g.set i (.val (.list ds))) :=
  (h.stmt hN hi hl hw).weak fun De σ H ⟨B, G, n, φ, ξ, o, s, q, xw⟩ => ⟨B, G, n, φ, ξ, o, s, fun p xs H' G' ds n' o' g' hb hg hh hf da pd => by
    obtain ⟨o2, g2⟩ := o'.freeze hb hg hh hf
    exact q ds _ H' _ n' (o2.setV (.lst upd_same (da.mono g2))) (g'.trans g2) pd, xw⟩
theorem sj_lcO (i : Nat) {y : Str} {py pos : Pos} {e : Expr} {x : m (List D)} (hN : X.N.Nodup) (h : LcP X EX e g x) (hw : swapsWith e (some (.Name y py)) pos.line X.env = pure true) (hi : X.N[i]? = some y := by rfl) (hl : X.env.scope.names.lookup y = some .local := by rfl) :
    SJ X EX (.Assign [.Name y py] e pos) g x (fun ds => g.set i (.own ds)) :=
  (h.stmt hN hi hl hw).weak fun De σ H ⟨B, G, n, φ, ξ, o, s, q, xw⟩ => ⟨B, G, n, φ, ξ, o, s, fun p xs H' G' ds n' o' g' hb hg hh hf da pd => q ds _ H' G' n' (o'.setO hb hg hh hf da) g' pd, xw⟩
/-- the list in slot i is changed -/
theorem Ok.write {K : PySem.W.Frag} {B : Bs} {σ : L2.St} {H G : Hp} {n : Wd} {a : Addr} {xs : List V} {ds es : List D} {i : Nat} (o : Ok K B g σ H G n) (hi : g[i]? = some (Sl.own es)) (ha : σ[i]? = some (some (V.ref a))) (da : DaAll K G xs ds) : Ok K B (g.set i (.own ds)) σ (upd H a (.lst xs)) G n := by
  obtain ⟨f, h1, h2⟩ := id o.own
  obtain ⟨e1, e2, e3, ys, e4, e5⟩ := h2 i es hi
  rw [ha] at e1
  obtain rfl : a = f i := by cases e1; rfl
  have hl : i < g.length := (List.getElem?_eq_some_iff.mp hi).1
  have sd : Side B (g.set i .any) σ G (f i) := by
    refine ⟨e3, ?_, e2, fun j es' q z y => ?_⟩
    · cases e : B.G (f i) with
      | none => rfl
      | some z => rw [o.fm.old _ _ e] at e2; cases e2
    · by_cases hj : i = j
      · subst hj
        rw [List.getElem?_set_self hl] at z; cases z
      · rw [List.getElem?_set_ne hj] at z
        rintro rfl
        obtain ⟨q1, _⟩ := h2 j es' z
        rw [q1] at y
        exact hj (h1 i j es es' hi z (V.ref.inj (Option.some.inj (Option.some.inj y))).symm)
  have o1 : Ok K B (g.set i .any) σ H G n := o.sub (by simp) fun j s e => by
    by_cases hj : i = j
    · subst hj
      rw [List.getElem?_set_self hl] at e
      cases e
      exact .inl rfl
    · rw [List.getElem?_set_ne hj] at e
      exact .inr e
  have o2 := (o1.poke (u := .lst xs) sd).setO (i := i) (p := f i) sd.b sd.no upd_same sd.f da
  rw [List.set_set] at o2
  have : σ.set i (some (V.ref (f i))) = σ := by
    apply List.ext_getElem?
    intro j
    by_cases hj : i = j
    · subst hj
      rw [List.getElem?_set_self (by rw [← o.len]; exact hl), ha]
    · rw [List.getElem?_set_ne hj]
  rw [this] at o2
  exact o2
end
end DD
namespace DD
open PySem PySem.Spec PyProof.Rows L2
section
variable {m : Type → Type} [Mo m] {A A' : Type} {X : Cx} {EX : XR} {g : List Sl} {fall : Bool}
theorem own_at {K : PySem.W.Frag} {B : Bs} {σ : L2.St} {H G : Hp} {n : Wd} {i : Nat} {ds : List D} (o : Ok K B g σ H G n) (hi : g[i]? = some (Sl.own ds)) : ∃ a xs, σ[i]? = some (some (V.ref a)) ∧ H a = some (.lst xs) ∧ DaAll K G xs ds := by
  obtain ⟨f, _, h2⟩ := o.own
  obtain ⟨e1, _, _, xs, e4, e5⟩ := h2 i ds hi
  exact ⟨f i, xs, e1, e4, e5⟩
def fits (k : Nat) : Option Unit := if k < 1000000 then some () else none
theorem fits_lt {k : Nat} {u : Unit} (h : fits k = some u) : k < sizeLine := by
  unfold fits at h
  split at h
  · rename_i hl; exact Nat.lt_trans hl (by decide)
  · cases h
/-- x.append(e), x a list of one's own -/
theorem sj_append (i : Nat) {ds : List D} {y : Str} {py apos cpos pos : Pos} {e : Expr} {x : m D} (h : EJ X EX e g x) (hg : g[i]? = some (Sl.own ds) := by rfl) (hN : X.N[i]? = some y := by rfl) (hv : Vis X.env.scope y := by first | exact Or.inl rfl | exact Or.inr (Or.inl rfl) | exact Or.inr (Or.inr rfl))
    (hd : (y == ("__debug__" : Str)) = false := by decide) (hcd : (y == ("__classdict__" : Str)) = false := by decide)
    (hbase : attributeBase (.Name y py) "append" X.env (eval (.Name y py) X.env) = eval (.Name y py) X.env := by rfl)
    (hfew : ((backTo cpos (starEach [e] X.env)).all (fun x => !x.1) && (backToKw cpos (keywordEach [] X.env)).all (fun x => x.1.isSome) && decide ([e].length + ([] : List Keyword).length + (if ([] : List Keyword).isEmpty then 0 else 1) < 30)) = true := by rfl)
    (hline : (apos.endLine == cpos.line) = true := by rfl) (hs : starEach [e] X.env = (false, eval e X.env) :: starEach [] X.env := by rfl) (hpl : (backTo cpos (starEach [] X.env)).any (·.1) = false := by rfl)
    (hw : swapsWith (.Call (.Attribute (.Name y py) "append" apos) [e] [] cpos) none pos.line X.env = pure false := by rfl) :
    SJ X EX (.Expr (.Call (.Attribute (.Name y py) "append" apos) [e] [] cpos) pos) g (x >>= fun d => Mo.lift (fits ds.length) >>= fun _ => pure d) (fun d => g.set i (.own (ds ++ [d]))) :=
  (ps_expr (pe_bm PySem.F.plainAttrs_list PySem.F.slot_list_append PySem.F.type_list_append mt_append (pe_var hN hv hd hcd) (pa_cons h pa_nil hs) hbase hfew hline hs hpl) hw).weak fun De σ H ⟨B, G, n, φ, ξ, o, s, q, xw⟩ => by
    obtain ⟨a, xs, e1, e2, e3⟩ := own_at o hg
    refine ⟨.ref a, e1, .inl ⟨rfl, xs, .inl (.inl e2)⟩, te_one o s (fun v H1 G1 d n1 o1 g1 d1 s1 => ?_) xw⟩
    obtain ⟨u, eu, s2⟩ := Mo.sat_lift (Mo.sat_bind s1)
    obtain ⟨a', xs', e1', e2', e3'⟩ := own_at o1 hg
    rw [e1] at e1'
    cases e1'
    refine ⟨a, xs', v, rfl, rfl, e2', by rw [e3'.length]; exact fits_lt eu, q d _ _ G1 n1 (o1.write hg e1 (e3'.append (.one d1))) g1 (Mo.sat_pure s2)⟩
def putD (ds : List D) (k : D) (d : D) : Option (List D) := match k with
  | .int j => (ixN ds.length j).map fun i => ds.set i d
  | _ => none
/-- x[k] = e, x a list of one's own -/
theorem sj_put (i : Nat) {ds : List D} {y : Str} {py p2 pos : Pos} {k e : Expr} {x z : m D} (h : EJ X EX e g x) (hk : EJ X EX k g z) (hg : g[i]? = some (Sl.own ds) := by rfl) (hN : X.N[i]? = some y := by rfl) (hv : Vis X.env.scope y := by first | exact Or.inl rfl | exact Or.inr (Or.inl rfl) | exact Or.inr (Or.inr rfl))
    (hd : (y == ("__debug__" : Str)) = false := by decide) (hcd : (y == ("__classdict__" : Str)) = false := by decide)
    (ha : ∀ v, assign (.Subscript (.Name y py) k p2) X.env v = (do
      let ov ← holding [v] (eval (.Name y py) X.env)
      let iv ← holding [v, ov] (eval k X.env)
      standAt p2
      holding [v, ov, iv] (setItem ov iv v)
      release [v, ov, iv] []) := by intro _; rfl)
    (hs : swapsWithSole [.Subscript (.Name y py) k p2] e pos.line X.env = pure false := by kernel_rfl) (hw : swappedStores [.Subscript (.Name y py) k p2] e X.env = pure none := by kernel_rfl)
    (h1 : (assignEach [.Subscript (.Name y py) k p2] X.env).map (·.2) = [assign (.Subscript (.Name y py) k p2) X.env] := by rfl) :
    SJ X EX (.Assign [.Subscript (.Name y py) k p2] e pos) g (x >>= fun d => z >>= fun j => Mo.lift (putD ds j d)) (fun es => g.set i (.own es)) :=
  (ps_asg h (pg_sub (pe_var hN hv hd hcd) hk set_list ha) hs hw h1).weak fun De σ H ⟨B, G, n, φ, ξ, o, s, q, xw⟩ => te_one o s (fun v H1 G1 d n1 o1 g1 d1 s1 => by
    obtain ⟨a, xs, e1, e2, e3⟩ := own_at o1 hg
    refine ⟨.ref a, e1, te_one o1 s1 (fun w H2 G2 j n2 o2 g2 d2 s2 => ?_) xw⟩
    obtain ⟨es, ee, pe⟩ := Mo.sat_lift s2
    obtain ⟨a', xs', e1', e2', e3'⟩ := own_at o2 hg
    rw [e1] at e1'
    cases e1'
    unfold putD at ee
    cases j with
    | int j =>
      obtain ⟨t, et, rfl⟩ := Option.map_eq_some_iff.mp ee
      cases d2
      exact ⟨a, xs', j, t, rfl, rfl, e2', by rw [e3'.length]; exact et, q _ _ _ G2 n2 (o2.write hg e1 (e3'.set (d1.mono g2) t)) (g1.trans g2) pe⟩
    | _ => cases ee) xw
/-- a, b = e1, e2 -/
theorem sj_par (i j : Nat) {y z : Str} {a b : Expr} {px py pt pos : Pos} {kt k2 pt2} {x1 x2 : m D} (hN : X.N.Nodup) (ha : EJ X EX a g x1) (hb : EJ X EX b g x2) (hij : i ≠ j := by decide) (hi : X.N[i]? = some y := by rfl) (hj : X.N[j]? = some z := by rfl) (hc : X.calm = true := by rfl)
    (hx : X.env.scope.names.lookup y = some .local := by rfl) (hy : X.env.scope.names.lookup z = some .local := by rfl)
    (hw : swappedStores [.Tuple [.Name y px, .Name z py] kt pt] (.Tuple [a, b] k2 pt2) X.env = pure (some [y, z]) := by kernel_rfl) (hs : swapsWithSole [.Tuple [.Name y px, .Name z py] kt pt] (.Tuple [a, b] k2 pt2) pos.line X.env = pure false := by kernel_rfl)
    (hs1 : starEach [a, b] X.env = (false, eval a X.env) :: starEach [b] X.env := by rfl) (hs2 : starEach [b] X.env = (false, eval b X.env) :: starEach [] X.env := by rfl) :
    SJ X EX (.Assign [.Tuple [.Name y px, .Name z py] kt pt] (.Tuple [a, b] k2 pt2) pos) g (x1 >>= fun d => x2 >>= fun e => pure (d, e)) (fun de => (g.set i (.val de.1)).set j (.val de.2)) :=
  (ps_par hc hN hi hj hij hx hy (pa_cons ha (pa_cons hb pa_nil hs2) hs1) hw hs).weak fun De σ H ⟨B, G, n, φ, ξ, o, s, q, xw⟩ => te_one o s (fun v H1 G1 d n1 o1 g1 d1 s1 => te_one o1 s1 (fun w H2 G2 e n2 o2 g2 d2 s2 =>
    ⟨v, w, rfl, q (d, e) _ H2 G2 n2 ((o2.setV (d1.mono g2)).setV d2) (g1.trans g2) (Mo.sat_pure s2)⟩) xw) xw
/-! ### a list of one's own, read -/
theorem Ok.freezeS {K : PySem.W.Frag} {B : Bs} {σ : L2.St} {H G : Hp} {n : Wd} {i : Nat} {ds : List D} (o : Ok K B g σ H G n) (hi : g[i]? = some (Sl.own ds)) : ∃ G', Ok K B (g.set i (.val (.list ds))) σ H G' n ∧ Same G G' := by
  obtain ⟨f, h1, h2⟩ := id o.own
  obtain ⟨e1, e2, e3, ys, e4, e5⟩ := h2 i ds hi
  have hl : i < g.length := (List.getElem?_eq_some_iff.mp hi).1
  have o1 : Ok K B (g.set i .any) σ H G n := o.sub (by simp) fun j s e => by
    by_cases hj : i = j
    · subst hj
      rw [List.getElem?_set_self hl] at e
      cases e
      exact .inl rfl
    · rw [List.getElem?_set_ne hj] at e
      exact .inr e
  obtain ⟨o2, g2⟩ := o1.freeze e3 e2 e4 fun j es' q z y => by
    by_cases hj : i = j
    · subst hj
      rw [List.getElem?_set_self hl] at z; cases z
    · rw [List.getElem?_set_ne hj] at z
      rintro rfl
      obtain ⟨q1, _⟩ := h2 j es' z
      rw [q1] at y
      exact hj (h1 i j ds es' hi z (V.ref.inj (Option.some.inj (Option.some.inj y))).symm)
  refine ⟨_, ?_, g2⟩
  have o3 := o2.setV (i := i) (v := .ref (f i)) (d := .list ds) (.lst upd_same (e5.mono g2))
  rw [List.set_set] at o3
  have : σ.set i (some (V.ref (f i))) = σ := by
    apply List.ext_getElem?
    intro j
    by_cases hj : i = j
    · subst hj
      rw [List.getElem?_set_self (by rw [← o.len]; exact hl), e1]
    · rw [List.getElem?_set_ne hj]
  rw [this] at o3
  exact o3
/-- from here on the list in slot i is data -/
theorem fj_fr (i : Nat) {ds : List D} {ss : List Stmt} {x : m D} (h : FJ X EX fall ss (g.set i (.val (.list ds))) x) (hi : g[i]? = some (Sl.own ds) := by rfl) : FJ X EX fall ss g x :=
  PSs.weak h fun De σ H ⟨B, G, n, φ, ξ, o, s, q1, q2, xw⟩ => by
    obtain ⟨G', o', g'⟩ := o.freezeS hi
    exact ⟨B, G', n, φ, ξ, o', s, q1, q2, xw⟩
theorem bj_fr (i : Nat) {ds : List D} {ss : List Stmt} {x : m (Fl A)} {P : A → List Sl} (h : BJ X EX ss (g.set i (.val (.list ds))) x P) (hi : g[i]? = some (Sl.own ds) := by rfl) : BJ X EX ss g x P :=
  PSs.weak h fun De σ H ⟨B, G, n, φ, ξ, o, s, q1, q2, xw⟩ => by
    obtain ⟨G', o', g'⟩ := o.freezeS hi
    exact ⟨B, G', n, φ, ξ, o', s, fun c τ K' L' k oc gc pc => q1 c τ K' L' k oc (g'.trans gc) pc, q2, xw⟩
end
end DD
namespace DD
open PySem PySem.Spec PyProof.Rows L2
/-! ### defs: as FnOk, where no repr runs around the call -/
structure FnG (P : Program) (w : World) (K : PySem.W.Frag) (mg : Str → Option Value) (base : Heap) (k : Nat) (f : Addr) (fd : FuncData) (ps : List Str) (sp : Sp) : Prop where
  len : ∀ vs H Q E, sp vs H Q E → vs.length = ps.length
  run : ∀ (A : Around) (outer : List Env) (s : Shared) (H : Hp) (args : Args) (us : List Value) (vs : List V) (Q : VK) (E : XK), Room k A → A.guards = some [] → Env0 P w K mg base A outer s H → BindsTo s fd args (ps.zip us) → Vals vs us → sp vs H Q E →
    codeAny (model P w) A (.call (.ref f) args) (CR CX0 outer P w H s Q E) s
theorem FnG.mono {P : Program} {w : World} {K : PySem.W.Frag} {mg : Str → Option Value} {base : Heap} {j k : Nat} {f : Addr} {fd : FuncData} {ps : List Str} {sp : Sp} (F : FnG P w K mg base j f fd ps sp) (h : j ≤ k) : FnG P w K mg base k f fd ps sp :=
  ⟨F.len, fun A outer s H args us vs Q E hr => F.run A outer s H args us vs Q E (hr.mono h)⟩
theorem fng_of {P : Program} {w : World} {K : PySem.W.Frag} {mg : Str → Option Value} {base : Heap} {k : Nat} {x qual : Str} {st : Stmt} {f : Addr} {fd : FuncData} {N ps : List Str} {sp : Sp} (F : Fun K x qual st f fd) (S : FnScope N ps (defScope st)) (len : ∀ vs H Q E, sp vs H Q E → vs.length = ps.length)
    (hb : ∀ (cdv : Value) (A : Around) (outer : List Env) (s : Shared) (H : Hp) (vs : List V) (Q : VK) (E : XK), Room k (A.deeper (envOfC qual (defScope st) s.heap.objs.size f cdv)) → A.guards = some [] → sp vs H Q E →
      ∃ t, PSs (cxOf CX0 P w K mg base N qual (defScope st) f cdv A outer s H E).nox (defBody st) t ∧ t { nx := fun _ H' => Q .non H', rt := Q } (start N vs) H) : FnG P w K mg base (k + 1) f fd ps sp := by
  obtain ⟨oc, od, kV, doc, pm, an, cdv, ct, osl, rfl, lk, hcd⟩ := F.ex
  refine ⟨len, fun A outer s H args us vs Q E room gu e0 bi rv hsp => ?_⟩
  have KH : K.In s.heap := e0.mod.kin.keeps fun b o z => (e0.bs b o z).1
  have kinds : ∀ y ∈ ps.zip us, (defScope st).names.lookup y.1 = some .local ∨ ((defScope st).names.lookup y.1 = some .cell ∧ ((cellsFrom (s.heap.objs.size + 1) (defScope st).names []).lookup y.1).isSome = true) := by
    rintro ⟨nm, _⟩ hy
    exact (S.par nm (List.of_mem_zip hy).1).imp id fun z => ⟨z, PySem.W.cellsFrom_some _ _ _ (.inl z)⟩
  refine codeAny_call_function room.depth (KH _ _ lk) rfl S.co S.gen rfl (PySem.W.codeRec_of KH hcd) (bi _ _ _ _ (wpAny_newFunctionEnv_cells S.kind kinds fun env he s1 nw => ?_))
  subst he
  refine ⟨(e0.mod.nolimit.keeps fun b o z => (e0.bs b o z).1).keeps nw.toInCall.keep, codeAny_func ?_⟩
  obtain ⟨t, ht, hq⟩ := hb cdv A outer s H vs Q E (room.deeper _) gu hsp
  refine wpAny_mono (ht.nox.run [] s1 (start N vs) H _ (inv_start S room.hd e0 (len _ _ _ _ hsp) rv nw) hq) (fun fl s' h => ?_) fun _ _ z => z
  cases fl with
  | ret u =>
    obtain ⟨v, _, H', J, r', q⟩ := h
    exact ⟨v, H', J.os, J.bare, J.base, J.hok, r', q⟩
  | next =>
    obtain ⟨_, H', J, q⟩ := h
    exact ⟨.non, H', J.os, J.bare, J.base, J.hok, rfl, q⟩
  | brk => obtain ⟨_, _, _, q⟩ := h; exact q.elim
  | cont => obtain ⟨_, _, _, q⟩ := h; exact q.elim
/-! ### promises by mirrors -/
section
variable {m : Type → Type} [Mo m]
def spJ (K : PySem.W.Frag) (F : List Sl → m D) : Sp := fun vs H Q _ => ∃ G n dk as φ, ArgsOk K ⟨H, G, dk, G⟩ G vs as ∧ Fm K ⟨H, G, dk, G⟩ H G n ∧ Mo.sat (F as) n φ (fun _ _ => False) ∧
  ∀ v H' G' d n', Fm K ⟨H, G, dk, G⟩ H' G' n' → Da K G' v d → φ d n' → Q v H'
theorem ArgsOk.length {K : PySem.W.Frag} {B : Bs} {G : Hp} : ∀ {vs : List V} {as : List Sl}, ArgsOk K B G vs as → vs.length = as.length
  | _, _, .nil => rfl
  | _, _, .cons _ r => by simp [ArgsOk.length r]
theorem ArgsOk.get {K : PySem.W.Frag} {B : Bs} {G : Hp} : ∀ {vs : List V} {as : List Sl}, ArgsOk K B G vs as → ∀ (i : Nat) (a : Sl), as[i]? = some a → ∃ v, vs[i]? = some v ∧ ArgOk K B G v a
  | _, _, .nil, _, _, e => by simp at e
  | _, _, .cons h _, 0, a, e => by simp at e; subst e; exact ⟨_, rfl, h⟩
  | _, _, .cons _ r, i + 1, a, e => by
    obtain ⟨v, h1, h2⟩ := r.get i a (by simpa using e)
    exact ⟨v, by simpa using h1, h2⟩
theorem ok_start {K : PySem.W.Frag} {B : Bs} {H G : Hp} {n : Wd} {N : List Str} {vs : List V} {as : List Sl} (a : ArgsOk K B G vs as) (f : Fm K B H G n) : Ok K B (as ++ List.replicate (N.length - as.length) .any) (start N vs) H G n := by
  have hl := a.length
  have pick : ∀ (i : Nat) (s : Sl), (as ++ List.replicate (N.length - as.length) Sl.any)[i]? = some s → s ≠ .any → ∃ v, (start N vs)[i]? = some (some v) ∧ ArgOk K B G v s := fun i s e ne => by
    by_cases hi : i < as.length
    · rw [List.getElem?_append_left hi] at e
      obtain ⟨v, h1, h2⟩ := a.get i s e
      refine ⟨v, ?_, h2⟩
      unfold L2.start
      rw [List.getElem?_append_left (by rw [List.length_map]; omega), List.getElem?_map, h1]
      rfl
    · rw [List.getElem?_append_right (by omega), List.getElem?_replicate] at e
      split at e
      · cases e; exact absurd rfl ne
      · cases e
  refine ⟨f, ?_, fun i d e => ?_, ⟨fun _ => 0, fun i j ds es e => ?_, fun i ds e => ?_⟩, fun i e => ?_, fun i a od fs e => ?_⟩
  · unfold L2.start
    simp only [List.length_append, List.length_map, List.length_replicate]
    omega
  · obtain ⟨v, h1, h2⟩ := pick i _ e (by simp)
    exact ⟨v, h1, h2⟩
  · obtain ⟨v, _, h2⟩ := pick i _ e (by simp)
    exact h2.elim
  · obtain ⟨v, _, h2⟩ := pick i _ e (by simp)
    exact h2.elim
  · obtain ⟨v, h1, a, b, h2, rfl⟩ := pick i _ e (by simp)
    exact ⟨a, b, h2, h1⟩
  · obtain ⟨v, _, h2⟩ := pick i _ e (by simp)
    exact h2.elim
/-- a def keeps its mirror's promise, by its body -/
theorem fn_j {P : Program} {w : World} {K : PySem.W.Frag} {mg : Str → Option Value} {base : Heap} {k : Nat} {x qual : Str} {st : Stmt} {f : Addr} {fd : FuncData} {N ps : List Str} {F : List Sl → m D} (Fu : Fun K x qual st f fd) (S : FnScope N ps (defScope st))
    (hb : ∀ (as : List Sl) (n : Wd) (φ : D → Wd → Prop), Mo.sat (F as) n φ (fun _ _ => False) → as.length = ps.length ∧ ∀ (cdv : Value) (A : Around) (outer : List Env) (s : Shared) (H : Hp) (E : XK), Room k (A.deeper (envOfC qual (defScope st) s.heap.objs.size f cdv)) → A.guards = some [] →
      FJ (cxOf CX0 P w K mg base N qual (defScope st) f cdv A outer s H E).nox X0 true (defBody st) (as ++ List.replicate (N.length - as.length) .any) (F as)) : FnG P w K mg base (k + 1) f fd ps (spJ K F) := by
  refine fng_of Fu S (fun vs H Q E ⟨G, n, dk, as, φ, a, _, s, _⟩ => a.length.trans (hb as n φ s).1) fun cdv A outer s H vs Q E hr gu ⟨G, n, dk, as, φ, a, fm, st, q⟩ => ⟨_, (hb as n φ st).2 cdv A outer s H E hr gu, ⟨H, G, dk, G⟩, G, n, φ, fun _ _ => False, ok_start a fm, st, q, fun _ σ' H' G' n' f' p => q .non H' G' .none n' f' .non p, fun _ _ _ _ _ _ _ z => z.elim⟩
/-! ### calls of such defs -/
variable {X : Cx} {EX : XR} {g : List Sl} {k : Nat} {f : Addr} {fd : FuncData} {ps : List Str}
theorem call_g {pins : List (Addr × Obj)} {σ : L2.St} {H : Hp} {s : Shared} {Q : VK} {us : List Value} {vs : List V} {sp : Sp} (F : FnG X.prog X.w X.K X.mg X.base k f fd ps sp) (hr : Room k X.A) (gu : X.A.guards = some []) (hb : Binds X.K fd ps [])
    (I : Inv X pins σ H s) (r : Vals vs us) (h : sp vs H Q E0) : wpAny (model X.prog X.w) X.A (call (.ref f) us) (EP X pins σ Q) X.xe s := by
  have hl : us.length = ps.length := by rw [← r.length]; exact F.len _ _ _ _ h
  have hb' := hb s us I.kIn (by rw [List.append_nil]; exact hl)
  rw [List.append_nil] at hb'
  refine wpAny_call (codeAny_mono (F.run X.A X.stack s H ⟨us, []⟩ us vs Q E0 hr gu I.env0 hb' r h) fun z s' hq => ?_)
  cases z with
  | error e => exact False.elim hq
  | ok fl =>
    cases fl with
    | ret u => exact I.after hq
    | next => exact False.elim hq
    | brk => exact False.elim hq
    | cont => exact False.elim hq
theorem pe_g {x : Str} {p pos : Pos} {e : Expr} {es : List Expr} {t : TA} {sp : Sp} (F : FnG X.prog X.w X.K X.mg X.base k f fd ps sp) (hr : Room k X.A) (gu : X.A.guards = some []) (hg : Gl X x) (hm : X.mg x = some (.ref f)) (hk : PySem.W.keepIn X.K (.ref f) = true) (hb : Binds X.K fd ps [])
    (ha : PA X (e :: es) t) (hd : (x == ("__debug__" : Str)) = false) (he : starEach (e :: es) X.env = (false, eval e X.env) :: starEach es X.env) (hpl : (backTo pos (starEach es X.env)).any (·.1) = false) : PE X (.Call (.Name x p) (e :: es) [] pos) (fun σ H Q => t σ H fun vs H1 => sp vs H1 Q E0) :=
  ⟨fun pins s σ H Q I h => wpAny_Call_Name_kw (ld_glob I hg hm (PySem.W.callWith_K (h₀ := X.base) I.ok.mod.kin hk (thn (ha.run pos pins s σ H _ I h) fun us s1 ⟨vs, H1, I1, r, q⟩ => ⟨I1.kIn, call_g F hr gu hb I1 r q⟩) he hpl) hd)⟩
/-- a deck that the callee does not see stays -/
theorem Fm.back {K : PySem.W.Frag} {B : Bs} {H G H' G' : Hp} {n n' : Wd} {dk : Option (Addr × Addr)} {σ : L2.St} (o : Ok K B g σ H G n) (hd : dk = none ∧ n'.n = n.n ∨ dk = B.dk) (f : Fm K ⟨H, G, dk, G⟩ H' G' n') : Ok K B g σ H' G' n' ∧ Same G G' := by
  have old : Same G G' := f.old
  have dkB : ∀ x y, dk = some (x, y) → B.dk = some (x, y) := fun x y e => by
    rcases hd with ⟨hd, _⟩ | hd
    · rw [hd] at e; cases e
    · exact hd.symm.trans e
  have hfp : ∀ a, B.H a ≠ none → (⟨H, G, dk, G⟩ : Bs).fp a → B.fp a := fun a ha hp => by
    rcases hp with ⟨x, y, e, r⟩ | ⟨k, e, m⟩
    · exact .inl ⟨x, y, dkB x y e, r⟩
    · cases eb : B.G a with
      | none =>
        have e' : G a = some k := e
        rw [o.fm.new a ha eb] at e'
        cases e'
      | some u =>
        have e' : G a = some k := e
        rw [o.fm.old _ _ eb] at e'
        cases e'
        exact .inr ⟨_, eb, m⟩
  have nfp : ∀ a, B.H a = none → G a = none → ¬ (⟨H, G, dk, G⟩ : Bs).fp a := fun a ha hg hp => by
    rcases hp with ⟨x, y, e, r⟩ | ⟨k, e, _⟩
    · exact o.fm.side ha (.inl ⟨x, y, dkB x y e, r⟩)
    · have e' : G a = some k := e
      rw [hg] at e'; cases e'
  have some_of : ∀ a, B.H a ≠ none → H a ≠ none := fun a ha => by
    by_cases hp : B.fp a
    · exact o.fm.fpThere hp
    · cases hb : B.H a with
      | none => exact absurd hb ha
      | some z => rw [o.fm.keep a z hb hp]; simp
  refine ⟨⟨⟨fun a z e q => f.keep a z (o.fm.keep a z e q) fun hp => q (hfp a (by rw [e]; simp) hp), f.sub, o.fm.old.trans old, f.obs, o.fm.bt, o.fm.tg.trans old, fun a e q => f.new a (some_of a e) (o.fm.new a e q), fun a b e => ?_⟩, o.len, fun i d e => ?_, ?_, o.dck, fun i a od fs e => ⟨(o.adr i a od fs e).1, (o.adr i a od fs e).2.mono old⟩⟩, old⟩
  · obtain ⟨d1, r⟩ := o.fm.deck a b e
    rcases hd with ⟨hd, hn⟩ | hd
    · obtain ⟨cs, c, h1, h2, h3⟩ := d1
      have nf : ∀ z, B.H z ≠ none → B.G z = none → ¬ (⟨H, G, dk, G⟩ : Bs).fp z := fun z hz hg hp => by
        rcases hp with ⟨x, y, e2, _⟩ | ⟨k, e2, _⟩
        · have e' : dk = some (x, y) := e2
          rw [hd] at e'; cases e'
        · have e' : G z = some k := e2
          rw [o.fm.new z hz hg] at e'; cases e'
      exact ⟨⟨cs, c, f.keep a _ h1 (nf a r.1 r.2.2.1), f.keep b _ h2 (nf b r.2.1 r.2.2.2), by rw [hn]; exact h3⟩, r⟩
    · exact ⟨(f.deck a b (by show dk = some (a, b); rw [hd]; exact e)).1, r⟩
  · obtain ⟨v, h1, h2⟩ := o.val i d e
    exact ⟨v, h1, h2.mono old⟩
  · obtain ⟨fn, h1, h2⟩ := o.own
    refine ⟨fn, h1, fun i ds e => ?_⟩
    obtain ⟨a, b, c, xs, d, da⟩ := h2 i ds e
    exact ⟨a, f.new _ (by show H (fn i) ≠ none; rw [d]; simp) b, c, xs, f.keep _ _ d (nfp _ c b), da.mono old⟩
theorem ArgsOk.base {K : PySem.W.Frag} {B B' : Bs} {G : Hp} (h : B'.dk = B.dk) : ∀ {vs : List V} {as : List Sl}, ArgsOk K B G vs as → ArgsOk K B' G vs as
  | _, _, .nil => .nil
  | _, _, .cons (a := .val d) q r => .cons (show Da _ _ _ _ from q) (r.base h)
  | _, _, .cons (a := .deck) ⟨a, b, e, ev⟩ r => .cons ⟨a, b, h.trans e, ev⟩ (r.base h)
  | _, _, .cons (a := .own _) q _ => q.elim
  | _, _, .cons (a := .any) q _ => q.elim
  | _, _, .cons (a := .exn _ _ _) q _ => q.elim
theorem Fm.at_call {K : PySem.W.Frag} {B : Bs} {H G : Hp} {n : Wd} (f : Fm K B H G n) : Fm K ⟨H, G, B.dk, G⟩ H G n where
  keep := fun a o e _ => e
  sub := f.sub
  old := Same.refl _
  obs := f.obs
  bt := f.sub.t
  tg := Same.refl _
  new := fun a _ q => q
  deck := fun a b e => by
    obtain ⟨d, h1, h2, h3, h4⟩ := f.deck a b e
    obtain ⟨cs, c, e1, e2, r⟩ := id d
    exact ⟨d, by show H a ≠ none; rw [e1]; simp, by show H b ≠ none; rw [e2]; simp, f.new a h1 h3, f.new b h2 h4⟩
/-- f(..) by its mirror -/
theorem ej_call {x : Str} {p pos : Pos} {e : Expr} {es : List Expr} {F : List Sl → m D} {y : m (List Sl)} [Calm m] (Fn : FnG X.prog X.w X.K X.mg X.base k f fd ps (spJ X.K F)) (hr : Room k X.A) (gu : X.A.guards = some []) (hm : X.mg x = some (.ref f)) (hk : PySem.W.keepIn X.K (.ref f) = true) (hb : Binds X.K fd ps [])
    (ha : AJ X EX (e :: es) g y) (hg : Gl X x := by rfl) (hd : (x == ("__debug__" : Str)) = false := by decide) (he : starEach (e :: es) X.env = (false, eval e X.env) :: starEach es X.env := by rfl) (hpl : (backTo pos (starEach es X.env)).any (·.1) = false := by rfl) :
    EJ X EX (.Call (.Name x p) (e :: es) [] pos) g (y >>= F) :=
  (pe_g Fn hr gu hg hm hk hb ha hd he hpl).weak fun σ H Q ⟨B, G, n, φ, ξ, o, s, q, xw⟩ => ⟨B, G, n, _, ξ, o, Mo.sat_bind s, fun vs H1 G1 as n1 o1 g1 a1 s1 =>
    ⟨G1, n1, B.dk, as, φ, ArgsOk.base (B := B) (B' := ⟨H1, G1, B.dk, G1⟩) rfl a1, o1.fm.at_call, Calm.calm s1, fun v H' G' d n' f' dv p => by
      obtain ⟨o2, g2⟩ := Fm.back o1 (.inr rfl) f'
      exact q v H' G' d n' o2 (g1.trans g2) dv p⟩, xw⟩
/-- .. a mirror without the deck, lifted -/
class Up (m' m : Type → Type) [Mo m'] [Mo m] where
  up : {α : Type} → m' α → m α
  sat_up : ∀ {α : Type} {x : m' α} {n : Wd} {φ : α → Wd → Prop} {ξ : Exn → Wd → Prop}, Mo.sat (up x) n φ ξ → Mo.sat x n φ ξ
instance : Up Option W where
  up := Mo.lift
  sat_up := fun {α x n φ ξ} h => by
    obtain ⟨h1, a, e, h2⟩ := h
    obtain ⟨k, ob⟩ := n
    cases h1
    exact ⟨rfl, a, e, h2⟩
instance : Up Option Option where
  up := fun o => o
  sat_up := fun h => h
end
end DD
namespace DD
open PySem PySem.Spec PyProof.Rows L2
def orR (r q : R2) : R2 := fun x y H Q => r x y H Q ∨ q x y H Q
theorem op_or {X : Cx} {f : Value → Value → Sem Value} {r q : R2} (a : OpR X f r) (b : OpR X f q) : OpR X f (orR r q) := by
  intro pins s σ H x y v u Q I rx ry h
  rcases h with h | h
  · exact a pins s σ H x y v u Q I rx ry h
  · exact b pins s σ H x y v u Q I rx ry h
section
variable {X : Cx} {K : PySem.W.Frag}
theorem Da.toI {G : Hp} {v : V} {i : Int} (h : Da K G v (.int i)) : v = .int i := by cases h; rfl
theorem Da.toS {G : Hp} {v : V} {i : Str} (h : Da K G v (.str i)) : v = .str i := by cases h; rfl
theorem Da.toT {G : Hp} {v : V} {ds : List D} (h : Da K G v (.tuple ds)) : ∃ a xs, v = .ref a ∧ SqT K G a xs ∧ DaAll K G xs ds := by cases h with | tup a b => exact ⟨_, _, rfl, a, b⟩
theorem Da.toL {G : Hp} {v : V} {ds : List D} (h : Da K G v (.list ds)) : ∃ a xs, v = .ref a ∧ G a = some (.lst xs) ∧ DaAll K G xs ds := by cases h with | lst a b => exact ⟨_, _, rfl, a, b⟩
/-! ### + -/
def addD : D → D → Option D
  | .int i, .int j => some (.int (i + j))
  | .tuple a, .tuple b => (small (a ++ b)).map .tuple
  | .list a, .list b => (small (a ++ b)).map .list
  | .str a, .str b => if a.length + b.length ≤ 1000000 then some (.str (a ++ b)) else none
  | _, _ => none
abbrev rAddD (K : PySem.W.Frag) : R2 := orR (rI0 fun i j => .int (i + j)) (orR (rCatA K) (orR rCat (fun x y H Q => ∃ a b, x = .str a ∧ y = .str b ∧ a.length + b.length ≤ sizeLine ∧ Q (.str (a ++ b)) H)))
theorem op_addD : OpR X (binaryOp .Add) (rAddD X.K) := op_or op_add (op_or op_catA (op_or op_cat op_add_str))
theorem rd_add : RD K (rAddD K) addD := by
  intro x y dx dy z H G Q hx hy hs e q
  unfold addD at e
  split at e
  · cases e
    exact .inl ⟨_, _, hx.toI, hy.toI, q _ H G (Gr.refl hs) (.int _)⟩
  · rename_i as bs
    obtain ⟨es, ee, rfl⟩ := Option.map_eq_some_iff.mp e
    obtain ⟨rfl, hl⟩ := small_eq ee
    obtain ⟨a, xs, rfl, ha, da⟩ := hx.toT
    obtain ⟨b, ys, rfl, hb, db⟩ := hy.toT
    rw [List.length_append] at hl
    refine .inr (.inl ⟨a, b, xs, ys, rfl, rfl, sameT hs ha, sameT hs hb, by rw [da.length, db.length]; exact le_line hl, fun e => ?_, fun n e => ?_, fun n k p hp => ?_⟩)
    · subst e
      cases da
      exact q _ H G (Gr.refl hs) (.tup hb db)
    · subst e
      cases db
      rw [List.append_nil] at q
      exact q _ H G (Gr.refl hs) (.tup ha da)
    · have gr := Gr.alloc (u := .tup (xs ++ ys)) hs hp
      exact q _ _ _ gr (.tup (.inl (.inl upd_same)) ((da.append db).mono gr.g))
  · rename_i as bs
    obtain ⟨es, ee, rfl⟩ := Option.map_eq_some_iff.mp e
    obtain ⟨rfl, hl⟩ := small_eq ee
    obtain ⟨a, xs, rfl, ha, da⟩ := hx.toL
    obtain ⟨b, ys, rfl, hb, db⟩ := hy.toL
    rw [List.length_append] at hl
    refine .inr (.inr (.inl ⟨a, b, xs, ys, rfl, rfl, hs.h _ _ ha rfl, hs.h _ _ hb rfl, by rw [da.length, db.length]; exact le_line hl, fun p hp => ?_⟩))
    have gr := Gr.alloc (u := .lst (xs ++ ys)) hs hp
    exact q _ _ _ gr (.lst upd_same ((da.append db).mono gr.g))
  · split at e
    · rename_i hl
      cases e
      exact .inr (.inr (.inr ⟨_, _, hx.toS, hy.toS, le_line hl, q _ H G (Gr.refl hs) (.str _)⟩))
    · cases e
  · cases e
/-! ### ints -/
def intD2 (f : Int → Int → Option D) : D → D → Option D
  | .int i, .int j => f i j
  | _, _ => none
theorem rd_int {C : Int → Int → Prop} {h : Int → Int → V} {f : Int → Int → Option D} (hf : ∀ i j z, f i j = some z → C i j ∧ ∀ K G, Da K G (h i j) z) : RD K (rI C h) (intD2 f) := by
  intro x y dx dy z H G Q hx hy hs e q
  unfold intD2 at e
  split at e
  · obtain ⟨c, d⟩ := hf _ _ _ e
    exact ⟨_, _, hx.toI, hy.toI, c, q _ H G (Gr.refl hs) (d _ _)⟩
  · cases e
theorem rd_int0 {h : Int → Int → V} {f : Int → Int → Option D} (hf : ∀ i j z, f i j = some z → ∀ K G, Da K G (h i j) z) : RD K (rI0 h) (intD2 f) := by
  intro x y dx dy z H G Q hx hy hs e q
  unfold intD2 at e
  split at e
  · exact ⟨_, _, hx.toI, hy.toI, q _ H G (Gr.refl hs) (hf _ _ _ e _ _)⟩
  · cases e
def subD : D → D → Option D := intD2 fun i j => some (.int (i - j))
theorem rd_sub : RD K (rI0 fun i j => .int (i - j)) subD := rd_int0 fun i j z e _ _ => by cases e; exact .int _
def divD : D → D → Option D := intD2 fun i j => if 0 < j ∧ j.natAbs < 1073741824 then some (.int (i / j)) else none
theorem rd_div : RD K (rI CDiv fun i j => .int (i / j)) divD := rd_int fun i j z e => by
  split at e
  · rename_i h; cases e; exact ⟨⟨h.1, by omega⟩, fun _ _ => .int _⟩
  · cases e
def modD : D → D → Option D := intD2 fun i j => if 0 < j then some (.int (i % j)) else none
theorem rd_mod : RD K (rI (fun _ j => 0 < j) fun i j => .int (i % j)) modD := rd_int fun i j z e => by
  split at e
  · rename_i h; cases e; exact ⟨h, fun _ _ => .int _⟩
  · cases e
def powD : D → D → Option D := intD2 fun i j => if 0 ≤ j ∧ j ≤ 1000000 ∧ i.natAbs < 2 ^ 64 then some (.int (i ^ j.toNat)) else none
theorem rd_pow : RD K (rI CPow fun i j => .int (i ^ j.toNat)) powD := rd_int fun i j z e => by
  split at e
  · rename_i h; cases e; exact ⟨h, fun _ _ => .int _⟩
  · cases e
def ltD : D → D → Option D := intD2 fun i j => some (.bool (decide (i < j)))
def leD : D → D → Option D := intD2 fun i j => some (.bool (decide (i ≤ j)))
def gtD : D → D → Option D := intD2 fun i j => some (.bool (decide (j < i)))
def geD : D → D → Option D := intD2 fun i j => some (.bool (decide (j ≤ i)))
theorem rd_lt : RD K (rI0 fun i j => .bl (decide (i < j))) ltD := rd_int0 fun i j z e _ _ => by cases e; exact .bl _
theorem rd_le : RD K (rI0 fun i j => .bl (decide (i ≤ j))) leD := rd_int0 fun i j z e _ _ => by cases e; exact .bl _
theorem rd_gt : RD K (rI0 fun i j => .bl (decide (j < i))) gtD := rd_int0 fun i j z e _ _ => by cases e; exact .bl _
theorem rd_ge : RD K (rI0 fun i j => .bl (decide (j ≤ i))) geD := rd_int0 fun i j z e _ _ => by cases e; exact .bl _
def negD : D → Option D
  | .int i => some (.int (-i))
  | _ => none
theorem ru_neg : RU1 K (rU fun i => .int (-i)) negD := by
  intro x dx z H G Q hx hs e q
  unfold negD at e
  split at e
  · cases e; exact ⟨_, hx.toI, q _ H G (Gr.refl hs) (.int _)⟩
  · cases e
/-! ### == != of data -/
/-- == of what is told apart (or alike) without a look at the items: lists of unlike lengths, a tuple and the empty one -/
def lensD : D → D → Option Bool
  | .list xs, .list ys => if xs.length = ys.length then none else some false
  | .tuple xs, .tuple ys => if xs.length = 0 ∨ ys.length = 0 then some (decide (xs.length = ys.length)) else none
  | _, _ => none
def eqD : D → D → Option D
  | .str a, .str b => some (.bool (decide (a = b)))
  | a, b => if SeqAt.shaped a = true ∧ SeqAt.shaped b = true then some (.bool (PyData.eqv a b)) else (lensD a b).map fun k => .bool k
def neD : D → D → Option D
  | .str a, .str b => some (.bool (!decide (a = b)))
  | a, b => if SeqAt.shaped a = true ∧ SeqAt.shaped b = true then some (.bool (!PyData.eqv a b)) else (lensD a b).map fun k => .bool (!k)
def rEqS (K : PySem.W.Frag) : R2 := fun x y H Q => ∃ d e, Da K H x d ∧ Da K H y e ∧ SeqAt.shaped d = true ∧ SeqAt.shaped e = true ∧ Q (.bl (PyData.eqv d e)) H
def rNeS (K : PySem.W.Frag) : R2 := fun x y H Q => ∃ d e, Da K H x d ∧ Da K H y e ∧ SeqAt.shaped d = true ∧ SeqAt.shaped e = true ∧ Q (.bl (!PyData.eqv d e)) H
def LenAt (K : PySem.W.Frag) (H : Hp) (x y : V) (k : Bool) : Prop := (∃ a b xs ys, x = .ref a ∧ y = .ref b ∧ SqL K H a xs ∧ SqL K H b ys ∧ xs.length ≠ ys.length ∧ k = false) ∨
  (∃ a b xs ys, x = .ref a ∧ y = .ref b ∧ SqT K H a xs ∧ SqT K H b ys ∧ (xs.length = 0 ∨ ys.length = 0) ∧ k = decide (xs.length = ys.length))
def rEqL (K : PySem.W.Frag) : R2 := fun x y H Q => ∃ k, LenAt K H x y k ∧ Q (.bl k) H
def rNeL (K : PySem.W.Frag) : R2 := fun x y H Q => ∃ k, LenAt K H x y k ∧ Q (.bl (!k)) H
abbrev rEqA (K : PySem.W.Frag) : R2 := orR (rEqS K) (orR (rEqL K) rEq)
abbrev rNeA (K : PySem.W.Frag) : R2 := orR (rNeS K) (orR (rNeL K) rNe)
theorem op_eqS (hy : Sys X) (hu : X.A.units + 64 < cLine) : OpR X (compareOp .Eq) (rEqS X.K) := by
  intro pins s σ H x y v u Q I rx ry ⟨d, e, hd, he, sd, se, q⟩
  obtain ⟨as, r1, _⟩ := Da.reads hy I d x v hd (ok_canLay d (SeqAt.canLay_of_shaped sd)) rx
  obtain ⟨bs, r2, _⟩ := Da.reads hy I e y u he (ok_canLay e (SeqAt.canLay_of_shaped se)) ry
  exact SeqAt.compareEq_shaped r1 r2 sd se hu ⟨.bl _, H, I, rfl, q⟩
theorem op_neS (hy : Sys X) (hu : X.A.units + 64 < cLine) : OpR X (compareOp .NotEq) (rNeS X.K) := by
  intro pins s σ H x y v u Q I rx ry ⟨d, e, hd, he, sd, se, q⟩
  obtain ⟨as, r1, _⟩ := Da.reads hy I d x v hd (ok_canLay d (SeqAt.canLay_of_shaped sd)) rx
  obtain ⟨bs, r2, _⟩ := Da.reads hy I e y u he (ok_canLay e (SeqAt.canLay_of_shaped se)) ry
  exact SeqAt.compareNe_shaped r1 r2 sd se hu ⟨.bl _, H, I, rfl, q⟩
theorem lens_at {pins : List (Addr × Obj)} {σ : L2.St} {H : Hp} {s : Shared} {A : Around} {x y : V} {k : Bool} {v u : Value} (I : Inv X pins σ H s) (rx : RelV x v) (ry : RelV y u) (hk : LenAt X.K H x y k) (hu : A.units < cLine) : SeqAt.RcAt A s v u k ∧ SeqAt.RcNeAt A s v u (!k) := by
  rcases hk with ⟨a, b, xs, ys, rfl, rfl, ha, hb, hne, rfl⟩ | ⟨a, b, xs, ys, rfl, rfl, ha, hb, hz, rfl⟩
  · cases rx
    cases ry
    obtain ⟨its, rv, ⟨o, n, h1, h2, _, h3⟩, _⟩ := I.list ha
    obtain ⟨jts, rw, ⟨p, m, k1, k2, _, k3⟩, _⟩ := I.list hb
    have n1 := rv.length
    have n2 := rw.length
    exact ⟨SeqAt.RcAt.lists_lengths ⟨_, h1, h2, _, h3⟩ ⟨_, k1, k2, _, k3⟩ (by simp at n1 n2 ⊢; omega) hu, SeqAt.RcNeAt.lists_lengths ⟨_, h1, h2, _, h3⟩ ⟨_, k1, k2, _, k3⟩ (by simp at n1 n2 ⊢; omega) hu⟩
  · cases rx
    cases ry
    obtain ⟨its, rv, ⟨o, h1, h2, n, h3⟩, _⟩ := I.tuple ha
    obtain ⟨jts, rw, ⟨p, k1, k2, m, k3⟩, _⟩ := I.tuple hb
    have n1 : its.toArray.size = xs.length := by simpa using rv.length.symm
    have n2 : jts.toArray.size = ys.length := by simpa using rw.length.symm
    have e0 : ((List.range (min its.toArray.size jts.toArray.size)).all (fun _ => true) && its.toArray.size == jts.toArray.size) = decide (xs.length = ys.length) := by
      rw [n1, n2]
      rw [Bool.eq_iff_iff]; simp
    have q1 := SeqAt.RcAt.tuples (A := A) (e := fun _ => true) (s := s) (l := a) (b := b) (items := its.toArray) (items2 := jts.toArray) ⟨_, h1, h2, _, h3⟩ ⟨_, k1, k2, _, k3⟩ hu (fun j j1 j2 => by omega)
    have q2 := SeqAt.RcNeAt.tuples (A := A) (e := fun _ => true) (s := s) (l := a) (b := b) (items := its.toArray) (items2 := jts.toArray) ⟨_, h1, h2, _, h3⟩ ⟨_, k1, k2, _, k3⟩ hu (fun j j1 j2 => by omega)
    rw [e0] at q1 q2
    exact ⟨q1, q2⟩
theorem op_eqL (hu : X.A.units + 64 < cLine) : OpR X (compareOp .Eq) (rEqL X.K) := by
  intro pins s σ H x y v u Q I rx ry ⟨k, hk, q⟩
  exact (lens_at I rx ry hk (by omega)).1 X.prog X.w X.xe _ ⟨.bl _, H, I, rfl, q⟩
theorem op_neL (hu : X.A.units + 64 < cLine) : OpR X (compareOp .NotEq) (rNeL X.K) := by
  intro pins s σ H x y v u Q I rx ry ⟨k, hk, q⟩
  exact (lens_at I rx ry hk (by omega)).2 X.prog X.w X.xe _ ⟨.bl _, H, I, rfl, q⟩
theorem lens_da {x y : V} {dx dy : D} {k : Bool} {G H : Hp} (hx : Da K G x dx) (hy : Da K G y dy) (hs : SubM G H) (hk : lensD dx dy = some k) : LenAt K H x y k := by
  unfold lensD at hk
  split at hk
  · split at hk
    · cases hk
    · rename_i hne
      cases hk
      obtain ⟨a, xs, rfl, ha, da⟩ := hx.toL
      obtain ⟨b, ys, rfl, hb, db⟩ := hy.toL
      exact .inl ⟨a, b, xs, ys, rfl, rfl, .of (hs.h _ _ ha rfl), .of (hs.h _ _ hb rfl), by rw [da.length, db.length]; exact hne, rfl⟩
  · split at hk
    · rename_i hz
      cases hk
      obtain ⟨a, xs, rfl, ha, da⟩ := hx.toT
      obtain ⟨b, ys, rfl, hb, db⟩ := hy.toT
      exact .inr ⟨a, b, xs, ys, rfl, rfl, sameT hs ha, sameT hs hb, by rw [da.length, db.length]; exact hz, by rw [da.length, db.length]⟩
    · cases hk
  · cases hk
theorem op_eqA (hy : Sys X) (hu : X.A.units + 64 < cLine) : OpR X (compareOp .Eq) (rEqA X.K) := op_or (op_eqS hy hu) (op_or (op_eqL hu) op_eq)
theorem op_neA (hy : Sys X) (hu : X.A.units + 64 < cLine) : OpR X (compareOp .NotEq) (rNeA X.K) := op_or (op_neS hy hu) (op_or (op_neL hu) op_ne)
theorem str_eqV (a b : Str) : decide (V.str a = V.str b) = decide (a = b) := by
  by_cases h : a = b
  · rw [decide_eq_true h, decide_eq_true (by rw [h])]
  · rw [decide_eq_false h, decide_eq_false (fun e => h (V.str.inj e))]
theorem rd_eq : RD K (rEqA K) eqD := by
  intro x y dx dy z H G Q hx hy hs e q
  unfold eqD at e
  split at e
  · rename_i a b
    cases e
    cases hx
    cases hy
    exact .inr (.inr ⟨rfl, by rw [str_eqV]; exact q _ H G (Gr.refl hs) (.bl _)⟩)
  · split at e
    · rename_i h
      cases e
      exact .inl ⟨dx, dy, hx.toH hs (ok_canLay _ (SeqAt.canLay_of_shaped h.1)), hy.toH hs (ok_canLay _ (SeqAt.canLay_of_shaped h.2)), h.1, h.2, q _ H G (Gr.refl hs) (.bl _)⟩
    · obtain ⟨k, hk, rfl⟩ := Option.map_eq_some_iff.mp e
      exact .inr (.inl ⟨k, lens_da hx hy hs hk, q _ H G (Gr.refl hs) (.bl _)⟩)
theorem rd_ne : RD K (rNeA K) neD := by
  intro x y dx dy z H G Q hx hy hs e q
  unfold neD at e
  split at e
  · rename_i a b
    cases e
    cases hx
    cases hy
    exact .inr (.inr ⟨rfl, by rw [str_eqV]; exact q _ H G (Gr.refl hs) (.bl _)⟩)
  · split at e
    · rename_i h
      cases e
      exact .inl ⟨dx, dy, hx.toH hs (ok_canLay _ (SeqAt.canLay_of_shaped h.1)), hy.toH hs (ok_canLay _ (SeqAt.canLay_of_shaped h.2)), h.1, h.2, q _ H G (Gr.refl hs) (.bl _)⟩
    · obtain ⟨k, hk, rfl⟩ := Option.map_eq_some_iff.mp e
      exact .inr (.inl ⟨k, lens_da hx hy hs hk, q _ H G (Gr.refl hs) (.bl _)⟩)
/-! ### is None -/
def isNone : D → Bool
  | .none => true
  | _ => false
def isD (a b : D) : Option D := if isNone b then some (.bool (isNone a)) else none
def isnD (a b : D) : Option D := if isNone b then some (.bool (!isNone a)) else none
/-! ### subscripts -/
theorem DaAll.atI {G : Hp} {vs : List V} {ds : List D} {i : Int} {d : D} (h : DaAll K G vs ds) (e : L2.atI ds i = some d) : ∃ v, L2.atI vs i = some v ∧ Da K G v d := by
  unfold L2.atI at e ⊢
  rw [h.length]
  cases hk : ixN ds.length i with
  | none => rw [hk] at e; cases e
  | some j =>
    rw [hk] at e
    obtain ⟨v, h1, h2⟩ := h.get (i := j) (d := d) e
    exact ⟨v, h1, h2⟩
def getD : D → D → Option D
  | .list ds, .int i => L2.atI ds i
  | .tuple ds, .int i => L2.atI ds i
  | .str z, .int i => if z.length ≤ 1000000 then (L2.atI z.cps.toList i).map fun c => .str ⟨#[c]⟩ else none
  | _, _ => none
theorem rd_ix : RD K (rIx K) getD := by
  intro x y dx dy z H G Q hx hy hs e q
  unfold getD at e
  split at e
  · obtain ⟨a, xs, rfl, ha, da⟩ := hx.toL
    obtain ⟨v, h1, h2⟩ := da.atI e
    exact .inl ⟨a, xs, _, v, rfl, hy.toI, .of (hs.h _ _ ha rfl), h1, q v H G (Gr.refl hs) h2⟩
  · obtain ⟨a, xs, rfl, ha, da⟩ := hx.toT
    obtain ⟨v, h1, h2⟩ := da.atI e
    exact .inr (.inl ⟨a, xs, _, v, rfl, hy.toI, sameT hs ha, h1, q v H G (Gr.refl hs) h2⟩)
  · split at e
    · rename_i hl
      obtain ⟨c, hc, rfl⟩ := Option.map_eq_some_iff.mp e
      exact .inr (.inr ⟨_, _, c, hx.toS, hy.toI, le_line hl, hc, q _ H G (Gr.refl hs) (.str _)⟩)
    · cases e
  · cases e
end
end DD
namespace DD
open PySem PySem.Spec PyProof.Rows L2
/-! ### * -/
theorem tuple_mul1 (l : Addr) (items : Array Value) (n : Nat) (dd : Option Addr) (sl : Array (Option Value)) (u : Tok) :
    Meets (Builtin.«tuple.__mul__» ⟨[.ref l, .int 1 u], []⟩) (fun _ R s => s.heap.get? l = some { cls := .type "tuple", dict := dd, data := .seq items n, slots := sl } ∧ R (.ok (.ret (Value.ref l))) s) :=
  .of_wp fun prog w A R s h => by
    obtain ⟨hp, g, d, tk, os⟩ := s
    obtain ⟨hl, h⟩ := h
    have f1 := AutoSeq1.idx_int
    have c1 : (items.isEmpty || (1 : Int) == 1) = true := by simp
    wp_walk using wpAny_loadPart' hl
    exact ⟨_, rfl, h⟩
def rMul1 (K : PySem.W.Frag) : R2 := fun x y H Q => ∃ l xs, x = .ref l ∧ y = .int 1 ∧ SqT K H l xs ∧ Q (.ref l) H
section
variable {X : Cx} {K : PySem.W.Frag}
theorem op_mul1 : OpR X (binaryOp .Mult) (rMul1 X.K) := by
  intro pins s σ H x y v u Q I rx ry ⟨l, xs, ex, ey, hT, q⟩
  subst ex ey
  cases rx
  obtain ⟨t, rfl⟩ := ry
  obtain ⟨its, r, ⟨⟨cls, dd, data, sl⟩, ho, hc, n, hd⟩, hs⟩ := I.tuple hT
  simp only at hc hd
  subst hc hd
  exact wpAny_binaryOp_repeat_ref (T := "tuple") (U := "int") (by decide) ⟨_, ho, rfl⟩ (fun s' => typeIs_int s' 1 t) noFill_tuple_mul F.fills_int_mul F.slot_int_rmul repeat_tuple F.slot_int_index.lookup
    (call_meets F.slot_int_rmul (typeIs_int s 1 t) F.entry_int_rmul (F.args_int_rmul_2 _ _) (int_rmul_tuple 1 t l its.toArray n dd sl)
      ⟨ho, rfl, ⟨_, ho, rfl⟩, call_meets F.slot_tuple_mul ⟨_, ho, rfl⟩ F.entry_tuple_mul (F.args_tuple_mul_2 _ _) (tuple_mul1 l its.toArray n dd sl t) ⟨ho, ⟨.ref l, H, I, rfl, q⟩⟩⟩)
theorem tuple_mul0 (l : Addr) (items : Array Value) (n : Nat) (dd : Option Addr) (sl : Array (Option Value)) (u : Tok) (c1 : (items.isEmpty || (0 : Int) == 1) = false) :
    Meets (Builtin.«tuple.__mul__» ⟨[.ref l, .int 0 u], []⟩) (fun _ R s => s.heap.get? l = some { cls := .type "tuple", dict := dd, data := .seq items n, slots := sl } ∧ R (.ok (.ret (Value.ref s.heap.objs.size))) { s with heap := s.heap.push { cls := Value.type "tuple", data := Data.seq #[] }, toks := s.toks }) :=
  .of_wp fun prog w A R s h => by
    obtain ⟨hp, g, d, tk, os⟩ := s
    obtain ⟨hl, h⟩ := h
    have f1 := AutoSeq1.idx_int
    wp_walk using wpAny_loadPart' hl
    refine wpAny_ite_false (decide_eq_false (by rw [c1]; exact Bool.false_ne_true)) ?_
    wp_walk using wpAny_loadPart' hl
    exact ⟨_, rfl, h⟩
def rMul0 (K : PySem.W.Frag) : R2 := fun x y H Q => ∃ l xs, x = .ref l ∧ y = .int 0 ∧ SqT K H l xs ∧ xs ≠ [] ∧ ∀ p, H p = none → Q (.ref p) (upd H p (.tup []))
theorem op_mul0 : OpR X (binaryOp .Mult) (rMul0 X.K) := by
  intro pins s σ H x y v u Q I rx ry ⟨l, xs, ex, ey, hT, hne, q⟩
  subst ex ey
  cases rx
  obtain ⟨t, rfl⟩ := ry
  obtain ⟨its, r, ⟨⟨cls, dd, data, sl⟩, ho, hc, n, hd⟩, hs⟩ := I.tuple hT
  simp only at hc hd
  subst hc hd
  have c1 : (its.toArray.isEmpty || (0 : Int) == 1) = false := by
    cases its with
    | nil => cases r; exact absurd rfl hne
    | cons a b => rfl
  exact wpAny_binaryOp_repeat_ref (T := "tuple") (U := "int") (by decide) ⟨_, ho, rfl⟩ (fun s' => typeIs_int s' 0 t) noFill_tuple_mul F.fills_int_mul F.slot_int_rmul repeat_tuple F.slot_int_index.lookup
    (call_meets F.slot_int_rmul (typeIs_int s 0 t) F.entry_int_rmul (F.args_int_rmul_2 _ _) (int_rmul_tuple 0 t l its.toArray n dd sl)
      ⟨ho, rfl, ⟨_, ho, rfl⟩, call_meets F.slot_tuple_mul ⟨_, ho, rfl⟩ F.entry_tuple_mul (F.args_tuple_mul_2 _ _) (tuple_mul0 l its.toArray n dd sl t c1) ⟨ho, ⟨.ref _, _, I.laid (t' := s.toks) (o := .tup []) (fun b ob q => Heap.get?_push_of_some _ q) (Nat.le_refl _) ⟨Nat.zero_le _, [], .nil, IsTup.new _ _⟩, rfl, q _ (I.hok.fresh (Nat.le_refl _))⟩⟩⟩)
abbrev rMulD (K : PySem.W.Frag) : R2 := orR (rI CMul fun i j => .int (i * j)) (orR (rRepT K) (orR (rMul1 K) (orR (rMul0 K) rRep)))
theorem op_mulD : OpR X (binaryOp .Mult) (rMulD X.K) := op_or op_mul (op_or op_repT (op_or op_mul1 (op_or op_mul0 op_rep)))
def mulD : D → D → Option D
  | .int i, .int j => if i.natAbs < 2 ^ 64 ∨ j.natAbs < 2 ^ 64 then some (.int (i * j)) else none
  | .tuple a, .int k => if k = 1 then some (.tuple a) else if a ≠ [] ∧ 2 ≤ k ∧ k ≤ 1000 ∧ a.length ≤ 1000 then some (.tuple (List.replicate k.toNat a).flatten) else if a ≠ [] ∧ k = 0 then some (.tuple []) else none
  | .list a, .int k => if 0 ≤ k ∧ k ≤ 1000 ∧ a.length ≤ 1000 then some (.list (List.replicate k.toNat a).flatten) else none
  | _, _ => none
theorem rd_mul : RD K (rMulD K) mulD := by
  intro x y dx dy z H G Q hx hy hs e q
  unfold mulD at e
  split at e
  · split at e
    · rename_i h
      cases e
      exact .inl ⟨_, _, hx.toI, hy.toI, (show (-(2 ^ 64) < _ ∧ _ < 2 ^ 64) ∨ (-(2 ^ 64) < _ ∧ _ < 2 ^ 64) by omega), q _ H G (Gr.refl hs) (.int _)⟩
    · cases e
  · obtain ⟨a, xs, rfl, ha, da⟩ := hx.toT
    rename_i as k
    split at e
    · rename_i h
      subst h
      cases e
      exact .inr (.inr (.inl ⟨a, xs, rfl, hy.toI, sameT hs ha, q _ H G (Gr.refl hs) (.tup ha da)⟩))
    · split at e
      · rename_i h
        cases e
        refine .inr (.inl ⟨a, _, xs, rfl, hy.toI, sameT hs ha, fun z => h.1 (by subst z; cases da; rfl), h.2.1, h.2.2.1, by rw [da.length]; exact h.2.2.2, fun p hp => ?_⟩)
        have gr := Gr.alloc (u := .tup (List.replicate k.toNat xs).flatten) hs hp
        exact q _ _ _ gr (.tup (.inl (.inl upd_same)) ((da.flatReplicate _).mono gr.g))
      · split at e
        · rename_i h
          obtain ⟨h1, h2⟩ := h
          subst h2
          cases e
          refine .inr (.inr (.inr (.inl ⟨a, xs, rfl, hy.toI, sameT hs ha, fun z => h1 (by subst z; cases da; rfl), fun p hp => ?_⟩)))
          have gr := Gr.alloc (u := .tup []) hs hp
          exact q _ _ _ gr (.tup (.inl (.inl upd_same)) .nil)
        · cases e
  · obtain ⟨a, xs, rfl, ha, da⟩ := hx.toL
    rename_i as k
    split at e
    · rename_i h
      cases e
      refine .inr (.inr (.inr (.inr ⟨a, _, xs, rfl, hy.toI, hs.h _ _ ha rfl, by omega, by omega, ?_, fun p hp => ?_⟩)))
      · have h1 : xs.length * k.toNat ≤ 1000 * 1000 := Nat.mul_le_mul (by rw [da.length]; exact h.2.2) (by omega)
        exact le_line h1
      · have gr := Gr.alloc (u := .lst (List.replicate k.toNat xs).flatten) hs hp
        exact q _ _ _ gr (.lst upd_same ((da.flatReplicate _).mono gr.g))
    · cases e
  · cases e
/-! ### built-ins -/
def callOr (r q : List V → Hp → VK → Prop) : List V → Hp → VK → Prop := fun xs H Q => r xs H Q ∨ q xs H Q
theorem call_or {f : Value} {r q : List V → Hp → VK → Prop} (a : CallR X f r) (b : CallR X f q) : CallR X f (callOr r q) := by
  intro pins s σ H xs us Q I rx h
  rcases h with h | h
  · exact a pins s σ H xs us Q I rx h
  · exact b pins s σ H xs us Q I rx h
def lenD : D → Option D
  | .list ds => some (.int ds.length)
  | .tuple ds => some (.int ds.length)
  | .str z => if z.length ≤ 1000000 then some (.int z.length) else none
  | _ => none
abbrev rLenD (K : PySem.W.Frag) := callOr (fun xs H Q => ∃ p ys, xs = [V.ref p] ∧ (SqL K H p ys ∨ SqT K H p ys) ∧ Q (.int ys.length) H) (fun xs H Q => ∃ z : Str, xs = [V.str z] ∧ z.length ≤ sizeLine ∧ Q (.int z.length) H)
theorem call_lenD' : CallR X (.builtin "len") (rLenD X.K) := call_or call_len_seq call_len_str
theorem rc_len : RC1 K (rLenD K) lenD := by
  intro x dx z H G Q hx hs e q
  unfold lenD at e
  split at e
  · cases e
    obtain ⟨a, xs, rfl, ha, da⟩ := hx.toL
    rw [← da.length] at q
    exact .inl ⟨a, xs, rfl, .inl (.of (hs.h _ _ ha rfl)), q _ H G (Gr.refl hs) (.int _)⟩
  · cases e
    obtain ⟨a, xs, rfl, ha, da⟩ := hx.toT
    rw [← da.length] at q
    exact .inl ⟨a, xs, rfl, .inr (sameT hs ha), q _ H G (Gr.refl hs) (.int _)⟩
  · split at e
    · rename_i h
      cases e
      cases hx
      exact .inr ⟨_, rfl, le_line h, q _ H G (Gr.refl hs) (.int _)⟩
    · cases e
  · cases e
def intD : D → Option D
  | .int i => some (.int i)
  | .bool b => some (.int (if b then 1 else 0))
  | _ => none
theorem rc_int : RC1 K (fun xs H Q => (∃ i, xs = [V.int i] ∧ Q (.int i) H) ∨ ∃ k, xs = [V.bl k] ∧ Q (.int (if k then 1 else 0)) H) intD := by
  intro x dx z H G Q hx hs e q
  unfold intD at e
  split at e
  · cases e; cases hx; exact .inl ⟨_, rfl, q _ H G (Gr.refl hs) (.int _)⟩
  · cases e; cases hx; exact .inr ⟨_, rfl, q _ H G (Gr.refl hs) (.int _)⟩
  · cases e
def tupleD : D → Option D
  | .list ds => some (.tuple ds)
  | .tuple ds => some (.tuple ds)
  | _ => none
theorem rc_tuple : RC1 K (fun xs H Q => ∃ p ys, xs = [V.ref p] ∧ ((SqL K H p ys ∧ ∀ l, H l = none → Q (.ref l) (upd H l (.tup ys))) ∨ (SqT K H p ys ∧ Q (.ref p) H))) tupleD := by
  intro x dx z H G Q hx hs e q
  unfold tupleD at e
  split at e
  · cases e
    obtain ⟨a, xs, rfl, ha, da⟩ := hx.toL
    refine ⟨a, xs, rfl, .inl ⟨.of (hs.h _ _ ha rfl), fun l hl => ?_⟩⟩
    have gr := Gr.alloc (u := .tup xs) hs hl
    exact q _ _ _ gr (.tup (.inl (.inl upd_same)) (da.mono gr.g))
  · cases e
    obtain ⟨a, xs, rfl, ha, da⟩ := hx.toT
    exact ⟨a, xs, rfl, .inr ⟨sameT hs ha, q _ H G (Gr.refl hs) (.tup ha da)⟩⟩
  · cases e
def listD : D → Option D
  | .list ds => some (.list ds)
  | .tuple ds => some (.list ds)
  | _ => none
theorem rc_list : RC1 K (fun xs H Q => ∃ p ys, xs = [V.ref p] ∧ (SqL K H p ys ∨ SqT K H p ys) ∧ ∀ l, H l = none → Q (.ref l) (upd H l (.lst ys))) listD := by
  intro x dx z H G Q hx hs e q
  unfold listD at e
  split at e
  · cases e
    obtain ⟨a, xs, rfl, ha, da⟩ := hx.toL
    refine ⟨a, xs, rfl, .inl (.of (hs.h _ _ ha rfl)), fun l hl => ?_⟩
    have gr := Gr.alloc (u := .lst xs) hs hl
    exact q _ _ _ gr (.lst upd_same (da.mono gr.g))
  · cases e
    obtain ⟨a, xs, rfl, ha, da⟩ := hx.toT
    refine ⟨a, xs, rfl, .inr (sameT hs ha), fun l hl => ?_⟩
    have gr := Gr.alloc (u := .lst xs) hs hl
    exact q _ _ _ gr (.lst upd_same (da.mono gr.g))
  · cases e
def bools : List D → Option (List Bool)
  | [] => some []
  | .bool b :: r => (bools r).map (b :: ·)
  | _ :: _ => none
theorem DaAll.bools {G : Hp} : ∀ {ds : List D} {vs : List V} {bs : List Bool}, DaAll K G vs ds → bools ds = some bs → vs = bs.map V.bl
  | [], _, _, .nil, e => by cases e; rfl
  | .bool b :: r, _, _, .cons h t, e => by
    obtain ⟨cs, ec, rfl⟩ := Option.map_eq_some_iff.mp e
    cases h
    rw [t.bools ec]
    rfl
  | .none :: _, _, _, _, e => by cases e
  | .int _ :: _, _, _, _, e => by cases e
  | .str _ :: _, _, _, _, e => by cases e
  | .list _ :: _, _, _, _, e => by cases e
  | .tuple _ :: _, _, _, _, e => by cases e
  | .dict _ :: _, _, _, _, e => by cases e
def allD : D → Option D
  | .list ds => (bools ds).map fun bs => .bool (bs.all id)
  | _ => none
theorem rc_all : RC1 K (rAll K) allD := by
  intro x dx z H G Q hx hs e q
  unfold allD at e
  split at e
  · obtain ⟨bs, eb, rfl⟩ := Option.map_eq_some_iff.mp e
    obtain ⟨a, xs, rfl, ha, da⟩ := hx.toL
    have := da.bools eb
    subst this
    exact ⟨a, bs, rfl, .of (hs.h _ _ ha rfl), q _ H G (Gr.refl hs) (.bl _)⟩
  · cases e
def intsD : List D → Option (List Int)
  | [] => some []
  | .int b :: r => (intsD r).map (b :: ·)
  | _ :: _ => none
theorem ints_map : ∀ {ds : List D} {ns : List Int}, intsD ds = some ns → ds = ns.map .int
  | [], _, e => by cases e; rfl
  | .int b :: r, _, e => by
    obtain ⟨cs, ec, rfl⟩ := Option.map_eq_some_iff.mp e
    rw [ints_map ec]
    rfl
  | .none :: _, _, e => by cases e
  | .bool _ :: _, _, e => by cases e
  | .str _ :: _, _, e => by cases e
  | .list _ :: _, _, e => by cases e
  | .tuple _ :: _, _, e => by cases e
  | .dict _ :: _, _, e => by cases e
/-! ### sum, max, min of lists and tuples of ints -/
section
variable {prog : Program} {w : World} {A : Around} {E : Value → Shared → Prop} {s : Shared} {l : Addr} {its : List Value} {ns : List Int} {Q : Value → Shared → Prop}
theorem iter_tup {items : Array Value} (hl : s.heap.IsTuple l items)
    (h : ∀ s2 : Shared, s2 = { s with heap := s.heap.push { cls := .type "tuple_iterator", data := .fields #[.ref l, .int 0 0] } } → (s2.heap.IsTupleIter s.heap.objs.size l 0 ∧ s2.heap.IsTuple l items) → (∀ b ∈ [s.heap.objs.size, l], b < s2.heap.objs.size) → l ≠ s.heap.objs.size → Q (.ref s.heap.objs.size) s2) :
    wpAny (model prog w) A (pyIter (.ref l)) Q E s := by
  have hlt : l < s.heap.objs.size := by obtain ⟨_, e, _⟩ := hl; exact Heap.lt_size e
  refine wpAny_pyIter_tuple hl (h _ rfl ⟨⟨_, Heap.get?_push_size _ rfl, rfl, rfl⟩, hl.push _⟩ (fun b hb => ?_) (Nat.ne_of_lt hlt))
  show b < (s.heap.push _).objs.size
  rw [Heap.size_push]
  have hb' : b = s.heap.objs.size ∨ b = l := by simpa using hb
  rcases hb' with rfl | rfl
  · exact Nat.lt_succ_self _
  · exact Nat.lt_succ_of_lt hlt
theorem kept_tup {h' : Heap} (hk : ∀ b o, b ∉ [s.heap.objs.size] → (s.heap.push { cls := .type "tuple_iterator", data := .fields #[.ref l, .int 0 0] }).get? b = some o → h'.get? b = some o) : ∀ b o, s.heap.get? b = some o → h'.get? b = some o := fun b o e =>
  hk b o (fun hm => by rw [List.mem_singleton.mp hm] at e; exact absurd (Heap.lt_size e) (Nat.lt_irrefl _)) (Heap.get?_push_of_some _ e)
theorem max_tup (hh : A.handled = none) (hl : s.heap.IsTuple l its.toArray) (hi : IntsAre its ns) (hne : 0 < ns.length)
    (h : ∀ h' tk M t', (∀ b o, s.heap.get? b = some o → h'.get? b = some o) → M ∈ ns → (∀ a, a ∈ ns → a ≤ M) → Q (.int M t') { s with heap := h', toks := tk }) : wpAny (model prog w) A (call (.builtin "max") [.ref l]) Q E s := by
  obtain ⟨xs, e⟩ := hi.allInts.items
  have hn : numsOf (intItems xs).toList = ns := by rw [← e]; exact hi.numsOf
  rw [nums_intItems] at hn
  subst hn
  rw [e] at hl
  have hsz : 0 < xs.size := by simpa using hne
  refine call_max_walk (iter_tup hl fun s2 e2 st hfp hn2 => ?_)
  subst e2
  refine ⟨_, _, _, _, _, _, _, rfl, Walks.tuple (A := A.in1) hh _ l hn2 (intItems xs), st, hfp, by simpa [intItems] using hsz, CmpOf.ints_gt (numAt xs) (fun _ _ => intItems_at), fun v h' tk hP hk => ?_⟩
  have hP' : (intItems xs)[argBest (fun i j => decide (numAt xs i > numAt xs j)) (xs.size - 1)]? = some v := by simpa [intItems] using hP
  obtain ⟨t, rfl⟩ := intItems_at hP'
  obtain ⟨h1, h2⟩ := argBest_gt (numAt xs) (xs.size - 1)
  refine h h' tk _ t (kept_tup hk) ?_ fun a ha => ?_
  · rw [numAt_eq]; exact PySem.getD_mem (by rw [List.length_map, Array.length_toList]; omega)
  · obtain ⟨j, hj, rfl⟩ := mem_getD ha
    rw [List.length_map, Array.length_toList] at hj
    rw [← numAt_eq]; exact h2 j (by omega)
end
end
end DD
namespace DD
open PySem PySem.Spec PyProof.Rows L2
section
variable {X : Cx} {K : PySem.W.Frag}
def rMaxT (K : PySem.W.Frag) : List V → Hp → VK → Prop := fun vs H Q => ∃ (a : Addr) (ns : List Int), vs = [V.ref a] ∧ SqT K H a (ns.map V.int) ∧ 0 < ns.length ∧ ∀ m, m ∈ ns → (∀ y, y ∈ ns → y ≤ m) → Q (.int m) H
theorem cr_maxT (hc : X.calm = true) : CallR X (.builtin "max") (rMaxT X.K) := by
  intro pins s σ H vs us Q I r ⟨a, ns, e, hs, hne, q⟩
  subst e
  obtain ⟨its, rv, hl, _⟩ := I.tuple hs
  rw [Vals.ref1 r]
  exact max_tup (I.ok.hd hc) hl rv.ints hne fun h' tk m t' hk h1 h2 => ⟨.int _, H, I.kept hk, ⟨_, rfl⟩, q m h1 h2⟩
def maxD : D → Option D
  | .list ds => (intsD ds).bind fun ns => ns.max?.map .int
  | .tuple ds => (intsD ds).bind fun ns => ns.max?.map .int
  | _ => none
abbrev rMaxD (K : PySem.W.Frag) := callOr (rMax K) (rMaxT K)
theorem call_maxD (hc : X.calm = true) : CallR X (.builtin "max") (rMaxD X.K) := call_or (cr_max hc) (cr_maxT hc)
theorem max_is {ns : List Int} {m k : Int} (h1 : m ∈ ns) (h2 : ∀ y, y ∈ ns → y ≤ m) (e : ns.max? = some k) : m = k := by
  obtain ⟨a, b⟩ := List.max?_eq_some_iff.mp e
  have := b m h1
  have := h2 k a
  omega
theorem max_ne {ns : List Int} {k : Int} (e : ns.max? = some k) : 0 < ns.length := by
  cases ns with
  | nil => cases e
  | cons a b => simp
theorem rc_max : RC1 K (rMaxD K) maxD := by
  intro x dx z H G Q hx hs e q
  unfold maxD at e
  split at e
  · obtain ⟨ns, en, e⟩ := Option.bind_eq_some_iff.mp e
    obtain ⟨k, ek, rfl⟩ := Option.map_eq_some_iff.mp e
    have := ints_map en
    subst this
    obtain ⟨a, xs, rfl, ha, da⟩ := hx.toL
    have := da.ints
    subst this
    exact .inl ⟨a, ns, rfl, .of (hs.h _ _ ha rfl), max_ne ek, fun m h1 h2 => by rw [max_is h1 h2 ek]; exact q _ H G (Gr.refl hs) (.int _)⟩
  · obtain ⟨ns, en, e⟩ := Option.bind_eq_some_iff.mp e
    obtain ⟨k, ek, rfl⟩ := Option.map_eq_some_iff.mp e
    have := ints_map en
    subst this
    obtain ⟨a, xs, rfl, ha, da⟩ := hx.toT
    have := da.ints
    subst this
    exact .inr ⟨a, ns, rfl, sameT hs ha, max_ne ek, fun m h1 h2 => by rw [max_is h1 h2 ek]; exact q _ H G (Gr.refl hs) (.int _)⟩
  · cases e
def max2D : D → D → Option D := intD2 fun i j => some (.int (if j > i then j else i))
def min2D : D → D → Option D := intD2 fun i j => some (.int (if j < i then j else i))
theorem rc_max2 : RC2 K (fun xs H Q => ∃ i j, xs = [V.int i, V.int j] ∧ Q (.int (if j > i then j else i)) H) max2D := by
  intro x y dx dy z H G Q hx hy hs e q
  unfold max2D intD2 at e
  split at e
  · cases e; cases hx; cases hy; exact ⟨_, _, rfl, q _ H G (Gr.refl hs) (.int _)⟩
  · cases e
/-! ### repr -/
def reprD (d : D) : Option D := if d.showable = true ∧ d.shown.length ≤ 1000000 ∧ d.depth ≤ 50 then some (.str d.shown) else none
def rRepr (K : PySem.W.Frag) : List V → Hp → VK → Prop := fun xs H Q => ∃ v d, xs = [v] ∧ Da K H v d ∧ d.showable = true ∧ d.shown.length ≤ sizeLine ∧ d.depth ≤ 50 ∧ Q (.str d.shown) H
theorem call_repr (hy : Sys X) (hu : X.A.units + 64 < cLine) (gu : X.A.guards = some []) : CallR X (.builtin "repr") (rRepr X.K) := by
  intro pins s σ H xs us Q I r ⟨v, d, e, hd, h1, h2, h3, q⟩
  subst e
  obtain ⟨u, rfl, rv⟩ := r.one
  obtain ⟨as, hr, hn⟩ := Da.reads hy I d v u hd (hd.okS h1) rv
  have fin : ∀ (h' : Heap) (t : Tok) (tk : Nat), (∀ b o, s.heap.get? b = some o → h'.get? b = some o) → EP X pins σ Q (.str d.shown t) { s with heap := h', toks := tk } := fun h' t tk hk => ⟨.str _, H, I.kept hk, ⟨t, rfl⟩, q⟩
  have same : ∀ (t : Tok) (tk : Nat), EP X pins σ Q (.str d.shown t) { s with toks := tk } := fun t tk => ⟨.str _, H, I.tok tk, ⟨t, rfl⟩, q⟩
  cases u with
  | none =>
    cases hr
    have := same s.toks (s.toks + 1)
    simp only [PyData.shown] at this
    exact P.repr_of_none this
  | bool b =>
    cases hr
    have := same s.toks (s.toks + 1)
    simp only [PyData.shown] at this
    exact P.repr_of_bool this
  | int i t =>
    cases hr
    have := same s.toks (s.toks + 1)
    simp only [PyData.shown] at this
    exact P.repr_of_int (by simpa [PyData.showable] using h1) this
  | str x t =>
    cases hr
    have := same s.toks (s.toks + 1)
    simp only [PyData.shown] at this h2
    exact P.repr_of_str this h2
  | ref a => exact repr_of_reads' hr h1 (fun _ => hn) gu (by omega) (fun _ _ e => e) (fun h' u tk hk => fin h' u tk hk) h2
  | _ => cases hr
theorem rc_repr : RC1 K (rRepr K) reprD := by
  intro x dx z H G Q hx hs e q
  unfold reprD at e
  split at e
  · rename_i h
    cases e
    exact ⟨x, dx, rfl, hx.toH hs (hx.okS h.1), h.1, le_line h.2.1, h.2.2, q _ H G (Gr.refl hs) (.str _)⟩
  · cases e
/-! ### isinstance of a built-in class -/
def typeN : D → String
  | .none => "NoneType"
  | .bool _ => "bool"
  | .int _ => "int"
  | .str _ => "str"
  | .list _ => "list"
  | .tuple _ => "tuple"
  | .dict _ => "dict"
def isiB (T : String) (d : D) : Bool := typeN d == T || (typeN d == "bool" && T == "int")
theorem typeN_mem (d : D) : typeN d ∈ ["NoneType", "bool", "int", "str", "list", "tuple", "dict"] := by cases d <;> simp [typeN]
def isRf : D → Bool
  | .dict ((.none, _) :: _) => true
  | .dict ((.bool _, _) :: _) => true
  | _ => false
def isRl : D → Bool
  | .dict ((.bool false, _) :: _) => true
  | _ => false
theorem Da.ty {B : Bs} {H G : Hp} {n : Wd} {v : V} {d : D} (fm : Fm K B H G n) (h : Da K G v d) : (TyX K H v (.type (typeN d)) ∧ isRf d = false) ∨ (isRl d = true ∧ typeN d = "dict" ∧ TyX K H v (.type "list")) ∨ (isRl d = false ∧ typeN d = "dict" ∧ ∃ c C, ClsOk K c C ∧ TyX K H v (.ref C)) := by
  cases h with
  | non => exact .inl ⟨.base .non, rfl⟩
  | bl b => exact .inl ⟨.base (.bl b), rfl⟩
  | int i => exact .inl ⟨.base (.int i), rfl⟩
  | str x => exact .inl ⟨.base (.str x), rfl⟩
  | lst e _ => exact .inl ⟨.base (.lst (fm.sub.h _ _ e rfl)), rfl⟩
  | tup e _ =>
    refine .inl ⟨?_, rfl⟩
    rcases sameT fm.sub e with (e | ⟨o, e⟩) | ⟨o, its, n, hk, hc, _⟩
    · exact .base (.tup e)
    · exact .fTuple e
    · exact .kTuple hk hc
  | @dct a kvs e _ =>
    refine .inl ⟨.base (.dK (fm.sub.h _ _ e rfl)), ?_⟩
    cases kvs with
    | nil => rfl
    | cons p r =>
      obtain ⟨k, v⟩ := p
      cases k <;> rfl
  | obj e =>
    obtain ⟨c, _, h⟩ := fm.obs.at_ _ _ _ e rfl
    cases c with
    | ins c fs =>
      obtain ⟨_, C, dx, vs, ck, h, _⟩ := h
      exact .inr (.inr ⟨rfl, rfl, c, C, ck, .base (.ins h ck.cl ck.ha ck.hn ck.ht ck.hm)⟩)
    | lst ds =>
      have := h.1
      rw [e] at this
      cases this
  | cel e =>
    obtain ⟨c, _, h⟩ := fm.obs.at_ _ _ _ e rfl
    cases c with
    | ins c fs =>
      have := h.1
      rw [e] at this
      cases this
    | lst ds =>
      obtain ⟨_, xs, h, _⟩ := h
      exact .inr (.inl ⟨rfl, rfl, .base (.lst h)⟩)
  | fin e ck _ _ => exact .inr (.inr ⟨rfl, rfl, _, _, ck, .base (.ins (fm.sub.h _ _ e rfl) ck.cl ck.ha ck.hn ck.ht ck.hm)⟩)
theorem ClsOk.kitF {c : Str} {C : Addr} (h : ClsOk K c C) {T : String} (hT : T ∈ ["NoneType", "bool", "int", "str", "list", "tuple", "dict"]) : PySem.W.kitOne K (.ref C) (.type T) = some false := eq_of_beq (List.all_eq_true.mp h.kit _ hT)
variable {m : Type → Type} [Mo m] {EX : XR} {g : List Sl}
theorem isi_core (T : String) {tn : Str} {a : Expr} {p p2 pos : Pos} {x : m D} (ha : EJ X EX a g x) (hm : X.mg "isinstance" = none) (hmt : X.mg tn = none) (hT : (["NoneType", "bool", "int", "str", "list", "tuple", "dict"].all fun t => kitB t T == some (t == T || (t == "bool" && T == "int"))) = true)
    (hvt : bootBuiltins tn = some (.type T)) (hgt : Gl X tn) (hg : Gl X "isinstance") (hnt : tn ≠ "__name__") (hdt : (tn == ("__debug__" : Str)) = false)
    (hs : starEach [a, .Name tn p2] X.env = (false, eval a X.env) :: starEach [.Name tn p2] X.env) (hs2 : starEach [.Name tn p2] X.env = (false, eval (.Name tn p2) X.env) :: starEach [] X.env) (hTm : T ∈ ["NoneType", "bool", "int", "str", "list", "tuple"]) {f : D → m D} (hf : ∀ (d : D) (n : Wd) (φ : D → Wd → Prop) (ξ : Exn → Wd → Prop), Mo.sat (f d) n φ ξ → ¬ (isRl d = true ∧ T = "list") ∧ φ (.bool (isiB T d)) n) :
    EJ X EX (.Call (.Name "isinstance" p) [a, .Name tn p2] [] pos) g (x >>= f) :=
  (pe_callB call_isi hg hm (by decide +kernel) (pa_cons ha (pa_cons (pe_bltn (v := .ty T) hgt hmt hvt rfl hnt hdt) pa_nil hs2) hs) (by decide) (by decide) hs (by rw [hs2]; rfl)).weak fun σ H Q ⟨B, G, n, φ, ξ, o, s, q, xw⟩ => te_one o s (fun v H1 G1 d n1 o1 g1 d1 s1 => by
    obtain ⟨hn, s2⟩ := hf _ _ _ _ s1
    have fin := q _ H1 G1 _ n1 o1 g1 (.bl (isiB T d)) s2
    have hT' : T ∈ ["NoneType", "bool", "int", "str", "list", "tuple", "dict"] := by
      simp only [List.mem_cons, List.not_mem_nil, or_false] at hTm ⊢
      rcases hTm with h | h | h | h | h | h <;> simp [h]
    rcases d1.ty o1.fm with ⟨t1, _⟩ | ⟨t0, t1, t2⟩ | ⟨_, t1, c, C, ck, t2⟩
    · exact ⟨v, .ty T, .type (typeN d), .type T, isiB T d, rfl, .ty T, t1, kit_ty (eq_of_beq (List.all_eq_true.mp hT _ (typeN_mem d))), fin⟩
    · have hl : T ≠ "list" := fun e => hn ⟨t0, e⟩
      refine ⟨v, .ty T, .type "list", .type T, isiB T d, rfl, .ty T, t2, ?_, fin⟩
      have e1 := eq_of_beq (List.all_eq_true.mp hT "list" (by decide))
      rw [kit_ty e1]
      have e2 : isiB T d = false := by
        unfold isiB
        rw [t1]
        simp only [List.mem_cons, List.not_mem_nil, or_false] at hTm
        rcases hTm with h | h | h | h | h | h <;> subst h <;> first | rfl | exact absurd rfl hl
      rw [e2]
      simp only [List.mem_cons, List.not_mem_nil, or_false] at hTm
      rcases hTm with h | h | h | h | h | h <;> subst h <;> first | rfl | exact absurd rfl hl
    · refine ⟨v, .ty T, .ref C, .type T, isiB T d, rfl, .ty T, t2, ?_, fin⟩
      rw [ck.kitF hT']
      have e2 : isiB T d = false := by
        unfold isiB
        rw [t1]
        simp only [List.mem_cons, List.not_mem_nil, or_false] at hTm
        rcases hTm with h | h | h | h | h | h <;> subst h <;> rfl
      rw [e2]) xw
theorem ej_isi (T : String) {tn : Str} {a : Expr} {p p2 pos : Pos} {x : m D} (ha : EJ X EX a g x) (hm : X.mg "isinstance" = none) (hmt : X.mg tn = none) (hT : (["NoneType", "bool", "int", "str", "list", "tuple", "dict"].all fun t => kitB t T == some (t == T || (t == "bool" && T == "int"))) = true := by decide +kernel)
    (hvt : bootBuiltins tn = some (.type T) := by decide +kernel) (hgt : Gl X tn := by rfl) (hg : Gl X "isinstance" := by rfl) (hnt : tn ≠ "__name__" := by decide) (hdt : (tn == ("__debug__" : Str)) = false := by decide)
    (hs : starEach [a, .Name tn p2] X.env = (false, eval a X.env) :: starEach [.Name tn p2] X.env := by rfl) (hs2 : starEach [.Name tn p2] X.env = (false, eval (.Name tn p2) X.env) :: starEach [] X.env := by rfl) (hTm : T ∈ ["NoneType", "bool", "int", "str", "list", "tuple"] := by decide) (hL : (T == "list") = false := by decide) :
    EJ X EX (.Call (.Name "isinstance" p) [a, .Name tn p2] [] pos) g (x >>= fun d => pure (.bool (isiB T d))) :=
  isi_core T ha hm hmt hT hvt hgt hg hnt hdt hs hs2 hTm fun d n φ ξ h => ⟨fun z => (by rw [z.2] at hL; exact absurd hL (by decide)), Mo.sat_pure h⟩
/-! ### slices -/
def cutD (ds : List D) (lo hi : Option Int) : List D := (ds.drop (HT.sIx ds.length 0 lo)).take (HT.sIx ds.length ds.length hi - HT.sIx ds.length 0 lo)
theorem DaAll.cut {G : Hp} {vs : List V} {ds : List D} (h : DaAll K G vs ds) (lo hi : Option Int) : DaAll K G (cutV vs lo hi) (cutD ds lo hi) := by
  unfold cutV cutD
  rw [h.length]
  exact (h.drop _).take _
def sliceD (d : D) (lo hi : Option Int) : Option D := match d with
  | .list ds => some (.list (cutD ds lo hi))
  | .tuple ds => some (.tuple (cutD ds lo hi))
  | _ => none
def oint : D → Option (Option Int)
  | .int i => some (some i)
  | _ => none
theorem sl_or {r q : V → Option Int → Option Int → Hp → VK → Prop} (a : SlR X r) (b : SlR X q) : SlR X (fun x l u H Q => r x l u H Q ∨ q x l u H Q) := by
  intro pins s σ H x v vl vu l u sl Q I rx hs pl pu h
  rcases h with h | h
  · exact a pins s σ H x v vl vu l u sl Q I rx hs pl pu h
  · exact b pins s σ H x v vl vu l u sl Q I rx hs pl pu h
theorem whole_cut {α : Type} {xs : List α} {lo hi : Option Int} (h : HT.sIx xs.length 0 lo = 0 ∧ HT.sIx xs.length xs.length hi = xs.length) : (xs.drop (HT.sIx xs.length 0 lo)).take (HT.sIx xs.length xs.length hi - HT.sIx xs.length 0 lo) = xs := by
  rw [h.1, h.2]
  simp
theorem sl_data {x : V} {d z : D} {H G : Hp} {lo hi : Option Int} {Q : VK} (hx : Da K G x d) (hs : SubM G H) (e : sliceD d lo hi = some z) (q : ∀ v H' G', Gr H G H' G' → Da K G' v z → Q v H') : rSlL K x lo hi H Q ∨ rSlA K x lo hi H Q := by
  unfold sliceD at e
  split at e
  · cases e
    obtain ⟨a, xs, rfl, ha, da⟩ := hx.toL
    refine .inl ⟨a, xs, rfl, .of (hs.h _ _ ha rfl), fun p hp => ?_⟩
    have gr := Gr.alloc (u := .lst (cutV xs lo hi)) hs hp
    exact q _ _ _ gr (.lst upd_same ((da.cut lo hi).mono gr.g))
  · cases e
    obtain ⟨a, xs, rfl, ha, da⟩ := hx.toT
    refine .inr ⟨a, xs, rfl, sameT hs ha, fun hw => ?_, fun hw p hp => ?_⟩
    · rw [da.length] at hw
      have : cutD _ lo hi = _ := whole_cut hw
      rw [this] at q
      exact q _ H G (Gr.refl hs) (.tup ha da)
    · have gr := Gr.alloc (u := .tup (cutV xs lo hi)) hs hp
      exact q _ _ _ gr (.tup (.inl (.inl upd_same)) ((da.cut lo hi).mono gr.g))
  · cases e
def toJ (X : Cx) (EX : XR) (g : List Sl) (x : m (Option Int)) : TO := fun σ H Q => ∃ B G n φ ξ, Ok X.K B g σ H G n ∧ Mo.sat x n φ ξ ∧ (∀ d H' G' n', Ok X.K B g σ H' G' n' → Same G G' → φ d n' → Q d H') ∧ Xw X B EX ξ
/-- a part of a slice -/
def OJ (X : Cx) (EX : XR) (e : Option Expr) (g : List Sl) (x : m (Option Int)) : Prop := PO X e (toJ X EX g x)
theorem _root_.L2.PO.weak {X : Cx} {e : Option Expr} {t t' : TO} (h : PO X e t) (w : ∀ σ H Q, t' σ H Q → t σ H Q) : PO X e t' := ⟨fun pins s σ H Q I q => h.run pins s σ H Q I (w _ _ _ q)⟩
theorem oj_none : OJ (m := m) X EX none g (pure none) := po_none.weak fun σ H Q ⟨B, G, n, φ, ξ, o, s, q, _⟩ => q none H G n o (Same.refl _) (Mo.sat_pure s)
theorem oj_some {e : Expr} {x : m D} (h : EJ X EX e g x) : OJ X EX (some e) g (x >>= fun d => Mo.lift (oint d)) :=
  (po_some h).weak fun σ H Q ⟨B, G, n, φ, ξ, o, s, q, xw⟩ => te_one o s (fun v H1 G1 d n1 o1 g1 d1 s1 => by
    obtain ⟨w, ew, pw⟩ := Mo.sat_lift s1
    cases d with
    | int i => cases ew; exact ⟨i, d1.toI, q _ H1 G1 n1 o1 g1 pw⟩
    | _ => cases ew) xw
theorem ej_slice {a : Expr} {lo hi : Option Expr} {pos p2 : Pos} {x : m D} {y z : m (Option Int)} (ha : EJ X EX a g x) (hb : OJ X EX lo g y) (hc : OJ X EX hi g z) : EJ X EX (.Subscript a (.Slice lo hi none p2) pos) g (x >>= fun d => y >>= fun l => z >>= fun h => Mo.lift (sliceD d l h)) :=
  (pe_slice (sl_or sl_list sl_tupA) ha hb hc).weak fun σ H Q ⟨B, G, n, φ, ξ, o, s, q, xw⟩ => te_one o s (fun v H1 G1 d n1 o1 g1 d1 s1 => ⟨B, G1, n1, _, ξ, o1, Mo.sat_bind s1, fun l H2 G2 n2 o2 g2 s2 => ⟨B, G2, n2, _, ξ, o2, Mo.sat_bind s2, fun h H3 G3 n3 o3 g3 s3 => by
    obtain ⟨w, ew, pw⟩ := Mo.sat_lift s3
    exact sl_data ((d1.mono g2).mono g3) o3.fm.sub ew fun u H4 G4 gr du => q u H4 G4 w n3 (o3.gr gr) (((g1.trans g2).trans g3).trans gr.g) du pw, xw⟩, xw⟩) xw
end
end DD
namespace DD
open PySem PySem.Spec PyProof.Rows
theorem forIn_wp {α β : Type} {M : Model} {A : Around} {E : Value → Shared → Prop} {Q : β → Shared → Prop} {b : α → β → Sem (ForInStep β)} (P : Nat → β → Shared → Prop) : ∀ (l : List α) (j : Nat) (r : β) (s : Shared), P j r s →
    (∀ i x r s, l[i]? = some x → P (j + i) r s → wpAny M A (b x r) (fun st s' => ∃ r', st = .yield r' ∧ P (j + i + 1) r' s') E s) → (∀ r s, P (j + l.length) r s → Q r s) → wpAny M A (forIn l r b) Q E s
  | [], j, r, s, h, _, hq => by
    simp only [List.forIn_nil]
    exact wpAny_pure (hq r s h)
  | x :: l, j, r, s, h, hs, hq => by
    simp only [List.forIn_cons]
    refine wpAny_bind (wpAny_mono (hs 0 x r s rfl h) (fun st s' ⟨r', e, p⟩ => ?_) fun _ _ z => z)
    subst e
    refine forIn_wp P l (j + 1) r' s' p (fun i y r2 s2 e p2 => ?_) fun r2 s2 p2 => hq r2 s2 (by rw [List.length_cons, show j + (l.length + 1) = j + 1 + l.length by omega]; exact p2)
    have := hs (i + 1) y r2 s2 (by simpa using e) (by rw [show j + (i + 1) = j + 1 + i by omega]; exact p2)
    rw [show j + (i + 1) + 1 = j + 1 + i + 1 by omega] at this
    exact this
/-! a list or a tuple, by its kind -/
def SqOf (k : Bool) (h : Heap) (l : Addr) (items : Array Value) : Prop := if k = true then h.IsList l items else h.IsTuple l items
def SqIter (k : Bool) (h : Heap) (a l : Addr) (i : Nat) : Prop := if k = true then h.IsListIter a l i else h.IsTupleIter a l i
section
variable {k : Bool} {h h' : Heap} {a l b : Addr} {i : Nat} {items : Array Value}
theorem SqOf.at (x : SqOf k h l items) (e : ∀ o, h.get? l = some o → h'.get? l = some o) : SqOf k h' l items := by
  cases k
  · obtain ⟨o, ho, r⟩ := (show h.IsTuple l items from x)
    exact (show h'.IsTuple l items from ⟨o, e o ho, r⟩)
  · obtain ⟨o, ho, r⟩ := (show h.IsList l items from x)
    exact (show h'.IsList l items from ⟨o, e o ho, r⟩)
theorem SqIter.at (x : SqIter k h a l i) (e : ∀ o, h.get? a = some o → h'.get? a = some o) : SqIter k h' a l i := by
  cases k
  · obtain ⟨o, ho, r⟩ := (show h.IsTupleIter a l i from x)
    exact (show h'.IsTupleIter a l i from ⟨o, e o ho, r⟩)
  · obtain ⟨o, ho, r⟩ := (show h.IsListIter a l i from x)
    exact (show h'.IsListIter a l i from ⟨o, e o ho, r⟩)
theorem SqOf.extBut (x : SqOf k h l items) (hs : Heap.ExtBut b h h') (hb : l ≠ b) : SqOf k h' l items := x.at fun o e => hs l o hb e
theorem SqIter.extBut (x : SqIter k h a l i) (hs : Heap.ExtBut b h h') (hb : a ≠ b) : SqIter k h' a l i := x.at fun o e => hs a o hb e
theorem SqIter.ex (x : SqIter k h a l i) : ∃ o, h.get? a = some o ∧ True ∧ o.data = .fields #[.ref l, .int i 0] := by
  cases k
  · obtain ⟨o, ho, _, r⟩ := (show h.IsTupleIter a l i from x)
    exact ⟨o, ho, trivial, r⟩
  · obtain ⟨o, ho, _, r⟩ := (show h.IsListIter a l i from x)
    exact ⟨o, ho, trivial, r⟩
end
section
variable {prog : Program} {w : World} {A : Around} {E : Value → Shared → Prop} {s : Shared} {k : Bool}
theorem sq_item {it l : Addr} {i : Nat} {items} {x : Value} {Q : Value → Shared → Prop} (hit : SqIter k s.heap it l i) (hl : SqOf k s.heap l items) (hx : items[i]? = some x) (hQ : ∀ h', SqIter k h' it l (i + 1) → Heap.SameBut it s.heap h' → Q x { s with heap := h' }) : wpAny (model prog w) A (Builtin.SmallTypes.nextOf (.ref it)) Q E s := by
  cases k
  · exact RZ.nextOf_tuple_item hit hl hx hQ
  · exact wpAny_nextOf_list_item hit hl hx hQ
theorem sq_end {it l : Addr} {i : Nat} {items} {Q : Value → Shared → Prop} (hh : A.handled = none) (hit : SqIter k s.heap it l i) (hl : SqOf k s.heap l items) (hx : items[i]? = none) (hE : ∀ h' e, Heap.ExtBut it s.heap h' → (∃ o, h'.get? e = some o ∧ o.cls = .type "StopIteration") → E (.ref e) { s with heap := h' }) : wpAny (model prog w) A (Builtin.SmallTypes.nextOf (.ref it)) Q E s := by
  cases k
  · exact RZ.nextOf_tuple_end hh hit hl hx hE
  · exact wpAny_nextOf_list_end hh hit hl hx hE
theorem sq_pyIter {l : Addr} {items} {Q : Value → Shared → Prop} (hl : SqOf k s.heap l items) (hQ : ∀ o : Obj, SqIter k (s.heap.push o) s.heap.objs.size l 0 → Q (.ref s.heap.objs.size) { s with heap := s.heap.push o }) : wpAny (model prog w) A (pyIter (.ref l)) Q E s := by
  cases k
  · exact wpAny_pyIter_tuple hl (hQ _ ⟨_, Heap.get?_push_size _ rfl, rfl, rfl⟩)
  · exact wpAny_pyIter_list hl (hQ _ ⟨_, Heap.get?_push_size _ rfl, rfl, rfl⟩)
end
def ZObj (f0 f1 : Value) (TI TO : Addr) : Obj := { cls := .type "zip", dict := none, data := .fields #[f0, f1, .bool false, .ref TI, .ref TO], slots := #[] }
/-- the zip at z, its iterators its over the tuples ls, each at turn i -/
structure ZSt (kd : Nat → Bool) (h : Heap) (z TI TO : Addr) (its ls : List Addr) (i : Nat) : Prop where
  zo : ∃ f0 f1, h.get? z = some (ZObj f0 f1 TI TO) ∧ (f0 = .none ∨ ∃ a : Int, f0 = rawInt a)
  ti : h.get? TI = some { cls := .type "tuple", data := .seq (its.map Value.ref).toArray }
  to : ∃ kept k, h.get? TO = some { cls := .type "tuple", data := .seq kept k } ∧ kept.size = its.length
  it : ∀ (t : Nat) (a l : Addr), its[t]? = some a → ls[t]? = some l → SqIter (kd t) h a l i
structure ZAp (z TI TO : Addr) (its ls : List Addr) : Prop where
  ne : its ≠ []
  len : ls.length = its.length
  few : its.length ≤ 1000
  nd : (z :: TI :: TO :: its).Nodup
  old : ∀ l ∈ ls, l ∉ z :: TI :: TO :: its
section
variable {prog : Program} {w : World} {A : Around} {E : Value → Shared → Prop} {s : Shared} {kd : Nat → Bool}
theorem ZAp.TIz {z TI TO : Addr} {its ls : List Addr} (D : ZAp z TI TO its ls) : TI ≠ z := fun e => by
  have := D.nd; subst e; simp at this
theorem ZAp.TOz {z TI TO : Addr} {its ls : List Addr} (D : ZAp z TI TO its ls) : TO ≠ z := fun e => by
  have := D.nd; subst e; simp at this
theorem ZAp.TITO {z TI TO : Addr} {its ls : List Addr} (D : ZAp z TI TO its ls) : TI ≠ TO := fun e => by
  have := D.nd; subst e; simp at this
theorem ZAp.itz {z TI TO a : Addr} {its ls : List Addr} (D : ZAp z TI TO its ls) (h : a ∈ its) : a ≠ z ∧ a ≠ TI ∧ a ≠ TO := by
  have := D.nd
  refine ⟨?_, ?_, ?_⟩ <;> (rintro rfl; simp_all)
theorem ZAp.inj {z TI TO a : Addr} {its ls : List Addr} {t u : Nat} (D : ZAp z TI TO its ls) (h : its[t]? = some a) (h' : its[u]? = some a) : t = u := by
  have nd : its.Nodup := ((D.nd.sublist (List.sublist_cons_self ..)).sublist (List.sublist_cons_self ..)).sublist (List.sublist_cons_self ..)
  exact L2.nd_ix nd h h'
theorem wpAny_alive {M : Model} {a : Addr} {Q : Option Obj → Shared → Prop} (h : Q (s.heap.get? a) s) : wpAny M A (loadIfAlive a) Q E s := fun Γ p _ => by
  unfold loadIfAlive
  rw [Sem.wp_loadIfAlive]
  exact (wpAny_pure (M := M) (A := A) (E := E) h) Γ p (by assumption)
theorem zipN_free {z TI TO : Addr} {its ls : List Addr} {i : Nat} {f1 : Value} {xs : List Value} {Q : Value → Shared → Prop} (D : ZAp z TI TO its ls) {f0 : Value} (hz : s.heap.get? z = some (ZObj f0 f1 TI TO)) (hf0 : f0 = .none ∨ ∃ a : Int, f0 = rawInt a ∧ s.heap.get? a.toNat = none) (S : ZSt kd s.heap z TI TO its ls i)
    (hl : xs.length = its.length) (hx : ∀ (t : Nat) (l : Addr) (x : Value), ls[t]? = some l → xs[t]? = some x → ∃ items, SqOf (kd t) s.heap l items ∧ items[i]? = some x)
    (hQ : ∀ h', ZSt kd h' z TI TO its ls (i + 1) → (h'.get? z = some (ZObj (rawInt s.heap.objs.size) (.bool false) TI TO)) → h'.get? s.heap.objs.size = some { cls := .type "tuple", data := .seq xs.toArray } → h'.objs.size = s.heap.objs.size + 1 →
      (∀ c o, c ∉ z :: TO :: its → s.heap.get? c = some o → h'.get? c = some o) → Q (.ref s.heap.objs.size) { s with heap := h' }) :
    wpAny (model prog w) A (Builtin.«zip.__next__» ⟨[.ref z], []⟩) (fun fin s' => ∃ v, fin = .done (.ret v) ∧ Q v s') E s := by
  obtain ⟨kept, k0, hTO, hks⟩ := S.to
  have hTI := S.ti
  show wpAny _ _ (field (.ref z) 2 >>= _) _ _ _
  refine wpAny_bind (wpAny_field hz rfl (x := .bool false) rfl ?_)
  show wpAny _ _ (field (.ref z) 3 >>= _) _ _ _
  refine wpAny_bind (wpAny_field hz rfl (x := .ref TI) rfl ?_)
  refine wpAny_bind (wpAny_seqItems hTI rfl ?_)
  have he : (its.map Value.ref).toArray.isEmpty = false := by have := D.ne; cases its <;> simp_all
  simp only [he]
  refine wpAny_bind ?_
  have isfree : ∀ {R : Bool → Shared → Prop}, R true s → wpAny (model prog w) A (Builtin.SmallTypes.ownedTupleIsFree (.ref z)) R E s := fun {R} hR => by
    unfold Builtin.SmallTypes.ownedTupleIsFree
    refine wpAny_bind (wpAny_field hz rfl (x := f0) rfl ?_)
    rcases hf0 with rfl | ⟨a, rfl, ha⟩
    · exact wpAny_pure hR
    · refine wpAny_bind (wpAny_alive ?_)
      rw [ha]
      exact wpAny_pure hR
  refine isfree ?_
  simp only [if_true]
  refine wpAny_bind (wpAny_rule ?_)
  refine wpAny_bind (wpAny_field hz rfl (x := .ref TO) rfl ?_)
  refine wpAny_bind (wpAny_setField_rec hz (by simp) fun h₁ hz₁ hs₁ => ?_)
  replace hz₁ : h₁.get? z = some (ZObj .ellipsis f1 TI TO) := hz₁
  have up1 : ∀ c o, c ≠ z → s.heap.get? c = some o → h₁.get? c = some o := fun c o hc e => (hs₁.2 c hc).trans e
  refine wpAny_bind (forIn_wp (fun j r s' => r = (none, ()) ∧ ∃ h kj kk, s' = { s with heap := h } ∧ h.get? z = some (ZObj .ellipsis f1 TI TO) ∧ h.get? TO = some { cls := .type "tuple", data := .seq kj kk } ∧ kj.size = its.length ∧ (∀ t : Nat, t < j → kj[t]? = xs[t]?) ∧
      (∀ (t : Nat) (a l : Addr), its[t]? = some a → ls[t]? = some l → SqIter (kd t) h a l (if t < j then i + 1 else i)) ∧ h.objs.size = s.heap.objs.size ∧ (∀ c o, c ∉ z :: TO :: its → s.heap.get? c = some o → h.get? c = some o)) _ 0 _ _
    ⟨rfl, h₁, kept, k0, rfl, hz₁, up1 _ _ D.TOz hTO, hks, fun t ht => absurd ht (Nat.not_lt_zero _), fun t a l e1 e2 => (S.it t a l e1 e2).extBut hs₁.extBut (D.itz (List.mem_of_getElem? e1)).1, hs₁.1, fun c o hc e => up1 c o (fun z => hc (by simp [z])) e⟩ (fun j p r s' e hp => ?_) fun r s' hp => ?_)
  · obtain ⟨rfl, h, kj, kk, rfl, hz2, hTO2, hk2, hpre, hit, hsz, hold⟩ := hp
    rw [Nat.zero_add] at *
    obtain ⟨a, ea⟩ : ∃ a, its[j]? = some a ∧ p = (Value.ref a, j) := by
      rw [List.getElem?_zipIdx, List.getElem?_map] at e
      cases hj : its[j]? with
      | none => rw [hj] at e; cases e
      | some a => rw [hj] at e; cases e; exact ⟨a, rfl, by simp⟩
    obtain ⟨ea, rfl⟩ := ea
    have hjl : j < its.length := (List.getElem?_eq_some_iff.mp ea).1
    obtain ⟨l, el⟩ : ∃ l, ls[j]? = some l := ⟨ls[j]'(by rw [D.len]; exact hjl), by simp [D.len, hjl]⟩
    obtain ⟨x, ex⟩ : ∃ x, xs[j]? = some x := ⟨xs[j]'(by rw [hl]; exact hjl), by simp [hl, hjl]⟩
    obtain ⟨items, ht, hix⟩ := hx j l x el ex
    have hlo : l ∉ z :: TI :: TO :: its := D.old l (List.mem_of_getElem? el)
    have ht2 : SqOf (kd j) h l items := ht.at fun o e => hold l o (fun hm => hlo (by
      simp only [List.mem_cons] at hm ⊢
      rcases hm with h | h | h
      · exact .inl h
      · exact .inr (.inr (.inl h))
      · exact .inr (.inr (.inr h)))) e
    have hi2 := hit j a l ea el
    rw [if_neg (Nat.lt_irrefl _)] at hi2
    have am := D.itz (List.mem_of_getElem? ea)
    refine wpAny_bind (wpAny_onRaise ?_)
    show wpAny _ _ (Builtin.SmallTypes.nextOf (.ref a) >>= _) _ _ _
    refine wpAny_bind (sq_item hi2 ht2 hix fun h₂ hi3 hs₂ => wpAny_pure ?_)
    have hTO3 : h₂.get? TO = some { cls := .type "tuple", data := .seq kj kk } := (hs₂.2 TO (Ne.symm am.2.2)).trans hTO2
    refine wpAny_bind (wpAny_seqItems hTO3 rfl ?_)
    have hfew := D.few
    have line : (1000 : Nat) ≤ sizeLine := by decide
    refine wpAny_bind (wpAny_updateSeq hTO3 rfl ?_ (by rw [hk2]; omega) (by rw [Array.size_setIfInBounds, hk2]; omega))
    refine wpAny_bind (wpAny_letGo (wpAny_pure ⟨_, rfl, rfl, _, _, _, rfl, ?_, Heap.get?_update_self _ hTO3 rfl, ?_, ?_, ?_, ?_, ?_⟩))
    · rw [Heap.get?_update_other _ _ D.TOz, hs₂.2 z am.1.symm]; exact hz2
    · simp [hk2]
    · intro t ht
      show (kj.setIfInBounds j x)[t]? = _
      by_cases htj : t = j
      · subst htj
        rw [Array.getElem?_setIfInBounds_self_of_lt (by rw [hk2]; exact hjl)]
        exact ex.symm
      · rw [Array.getElem?_setIfInBounds_ne (Ne.symm htj)]
        exact hpre t (by omega)
    · intro t a' l' e1 e2
      have am' := D.itz (List.mem_of_getElem? e1)
      by_cases htj : t = j
      · subst htj
        rw [ea] at e1; cases e1
        rw [el] at e2; cases e2
        rw [if_pos (Nat.lt_succ_self _)]
        exact hi3.at fun o e => (Heap.get?_update_other _ _ am'.2.2.symm).trans e
      · have hne : a' ≠ a := fun z => htj (D.inj e1 (z ▸ ea))
        have := hit t a' l' e1 e2
        have ei : (if t < j + 1 then i + 1 else i) = (if t < j then i + 1 else i) := by split <;> split <;> omega
        rw [ei]
        exact this.at fun o e => (Heap.get?_update_other _ _ am'.2.2.symm).trans ((hs₂.2 a' hne).trans e)
    · rw [show ∀ hh : Heap, (hh.update TO (Obj.mapSeq fun b => b.setIfInBounds j x)).objs.size = hh.objs.size from fun _ => by simp [Heap.update], hs₂.1]; exact hsz
    · intro c o hc e
      have h1 : c ≠ TO := fun z => hc (by simp [z])
      have h2 : c ≠ a := fun z => hc (by subst z; exact List.mem_cons_of_mem _ (List.mem_cons_of_mem _ (List.mem_of_getElem? ea)))
      exact (Heap.get?_update_other _ _ h1.symm).trans ((hs₂.2 c h2).trans (hold c o hc e))
  · obtain ⟨rfl, h, kj, kk, rfl, hz2, hTO2, hk2, hpre, hit, hsz, hold⟩ := hp
    rw [Nat.zero_add, List.length_zipIdx, List.length_map] at hpre
    have hkx : kj = xs.toArray := by
      apply Array.ext_getElem?
      intro t
      by_cases ht : t < its.length
      · rw [hpre t ht]; simp
      · rw [Array.getElem?_eq_none (by omega), Array.getElem?_eq_none (by simp; omega)]
    subst hkx
    refine wpAny_bind (wpAny_seqItems hTO2 rfl ?_)
    refine wpAny_bind (wpAny_newTuple ?_ (by have := D.few; have line : (1000 : Nat) ≤ sizeLine := (by decide); simp at hk2 ⊢; omega))
    have hit' : ∀ (t : Nat) (a l : Addr), its[t]? = some a → ls[t]? = some l → SqIter (kd t) h a l (i + 1) := fun t a l e1 e2 => by
      have := hit t a l e1 e2
      rw [if_pos (by rw [Nat.zero_add, List.length_zipIdx, List.length_map]; exact (List.getElem?_eq_some_iff.mp e1).1)] at this
      exact this
    have zlt : z < h.objs.size := Heap.lt_size hz2
    refine wpAny_bind ?_
    unfold Builtin.SmallTypes.ownedTupleHandOut
    have hz3 : (h.push { cls := .type "tuple", data := .seq xs.toArray }).get? z = some (ZObj .ellipsis f1 TI TO) := Heap.get?_push_of_some _ hz2
    refine wpAny_bind (wpAny_setField_rec hz3 (by simp) fun h₇ hz₇ hs₇ => ?_)
    replace hz₇ : h₇.get? z = some (ZObj (rawInt h.objs.size) f1 TI TO) := hz₇
    refine wpAny_setField_rec hz₇ (by simp) fun h₈ hz₈ hs₈ => ?_
    replace hz₈ : h₈.get? z = some (ZObj (rawInt h.objs.size) (.bool false) TI TO) := hz₈
    have up : ∀ c o, c ≠ z → h.get? c = some o → h₈.get? c = some o := fun c o c1 e => (hs₈.2 c c1).trans ((hs₇.2 c c1).trans (Heap.get?_push_of_some _ e))
    have hT : h₈.get? h.objs.size = some { cls := .type "tuple", data := .seq xs.toArray } := (hs₈.2 _ (Nat.ne_of_gt zlt)).trans ((hs₇.2 _ (Nat.ne_of_gt zlt)).trans (Heap.get?_push_size _ rfl))
    have hz8 : h₈.objs.size = h.objs.size + 1 := by rw [hs₈.1, hs₇.1, Heap.size_push]
    have hTI2 : h.get? TI = _ := hold TI _ (fun hm => by
      rcases List.mem_cons.mp hm with q | hm
      · exact D.TIz q
      rcases List.mem_cons.mp hm with q | hm
      · exact D.TITO q
      · exact (D.itz hm).2.1 rfl) hTI
    have st : ZSt kd h₈ z TI TO its ls (i + 1) := ⟨⟨_, _, hz₈, .inr ⟨_, rfl⟩⟩, up _ _ D.TIz hTI2, ⟨_, _, up _ _ D.TOz hTO2, hk2⟩, fun t a l e1 e2 => (hit' t a l e1 e2).at fun o e => up _ o (D.itz (List.mem_of_getElem? e1)).1 e⟩
    rw [hsz] at hz₈ hT hz8
    refine wpAny_pure ⟨_, rfl, ?_⟩
    show Q (.ref h.objs.size) _
    rw [hsz]
    exact hQ h₈ st hz₈ hT hz8 fun c o hc e => up c o (fun q => hc (by simp [q])) (hold c o hc e)
theorem zipN_busy {z TI TO : Addr} {its ls : List Addr} {i : Nat} {a0 : Int} {f1 : Value} {xs : List Value} {Q : Value → Shared → Prop} (D : ZAp z TI TO its ls) (hz : s.heap.get? z = some (ZObj (rawInt a0) f1 TI TO)) {oa : Obj} (ha : s.heap.get? a0.toNat = some oa) (S : ZSt kd s.heap z TI TO its ls i)
    (hl : xs.length = its.length) (hx : ∀ (t : Nat) (l : Addr) (x : Value), ls[t]? = some l → xs[t]? = some x → ∃ items, SqOf (kd t) s.heap l items ∧ items[i]? = some x)
    (hQ : ∀ h', ZSt kd h' z TI TO its ls (i + 1) → h'.get? s.heap.objs.size = some { cls := .type "tuple", data := .seq xs.toArray } → h'.objs.size = s.heap.objs.size + 1 →
      (∀ c o, c ∉ z :: TO :: its → s.heap.get? c = some o → h'.get? c = some o) → Q (.ref s.heap.objs.size) { s with heap := h' }) :
    wpAny (model prog w) A (Builtin.«zip.__next__» ⟨[.ref z], []⟩) (fun fin s' => ∃ v, fin = .done (.ret v) ∧ Q v s') E s := by
  obtain ⟨kept, k0, hTO, hks⟩ := S.to
  have hTI := S.ti
  show wpAny _ _ (field (.ref z) 2 >>= _) _ _ _
  refine wpAny_bind (wpAny_field hz rfl (x := .bool false) rfl ?_)
  show wpAny _ _ (field (.ref z) 3 >>= _) _ _ _
  refine wpAny_bind (wpAny_field hz rfl (x := .ref TI) rfl ?_)
  refine wpAny_bind (wpAny_seqItems hTI rfl ?_)
  have he : (its.map Value.ref).toArray.isEmpty = false := by have := D.ne; cases its <;> simp_all
  simp only [he]
  refine wpAny_bind ?_
  have isbusy : ∀ {R : Bool → Shared → Prop}, (∀ h f1', h.get? z = some (ZObj (rawInt a0) f1' TI TO) → Heap.SameBut z s.heap h → R false { s with heap := h }) → wpAny (model prog w) A (Builtin.SmallTypes.ownedTupleIsFree (.ref z)) R E s := fun {R} hR => by
    unfold Builtin.SmallTypes.ownedTupleIsFree
    refine wpAny_bind (wpAny_field hz rfl (x := rawInt a0) rfl ?_)
    refine wpAny_bind (wpAny_alive ?_)
    rw [ha]
    refine wpAny_bind (wpAny_field hz rfl (x := f1) rfl ?_)
    by_cases hf : (f1 != Value.bool true) = true
    · simp only [hf, if_true]
      exact wpAny_bind (wpAny_setField_rec hz (by simp) fun h1 hz1 hs1 => wpAny_pure (hR h1 _ hz1 hs1))
    · simp only [hf]
      exact wpAny_pure (hR s.heap f1 hz (Heap.SameBut.refl _ _))
  refine isbusy fun h₁ f2 hz₁ hs₁ => ?_
  simp only [Bool.false_eq_true, if_false, List.forIn_toArray]
  have up1 : ∀ c o, c ≠ z → s.heap.get? c = some o → h₁.get? c = some o := fun c o hc e => (hs₁.2 c hc).trans e
  refine wpAny_bind (forIn_wp (fun j r s' => r = (none, (xs.take j).toArray) ∧ ∃ h, s' = { s with heap := h } ∧ h.get? z = some (ZObj (rawInt a0) f2 TI TO) ∧
      (∀ (t : Nat) (a l : Addr), its[t]? = some a → ls[t]? = some l → SqIter (kd t) h a l (if t < j then i + 1 else i)) ∧ h.objs.size = s.heap.objs.size ∧ (∀ c o, c ∉ z :: its → s.heap.get? c = some o → h.get? c = some o)) _ 0 _ _
    ⟨by simp, h₁, rfl, hz₁, fun t a l e1 e2 => (S.it t a l e1 e2).extBut hs₁.extBut (D.itz (List.mem_of_getElem? e1)).1, hs₁.1, fun c o hc e => up1 c o (fun z => hc (by simp [z])) e⟩ (fun j p r s' e hp => ?_) fun r s' hp => ?_)
  · obtain ⟨rfl, h, rfl, hz2, hit, hsz, hold⟩ := hp
    rw [Nat.zero_add] at *
    obtain ⟨a, ea, rfl⟩ : ∃ a, its[j]? = some a ∧ p = Value.ref a := by
      rw [List.getElem?_map] at e
      cases hj : its[j]? with
      | none => rw [hj] at e; cases e
      | some a => rw [hj] at e; cases e; exact ⟨a, rfl, rfl⟩
    have hjl : j < its.length := (List.getElem?_eq_some_iff.mp ea).1
    obtain ⟨l, el⟩ : ∃ l, ls[j]? = some l := ⟨ls[j]'(by rw [D.len]; exact hjl), by simp [D.len, hjl]⟩
    obtain ⟨x, ex⟩ : ∃ x, xs[j]? = some x := ⟨xs[j]'(by rw [hl]; exact hjl), by simp [hl, hjl]⟩
    obtain ⟨items, ht, hix⟩ := hx j l x el ex
    have hlo : l ∉ z :: TI :: TO :: its := D.old l (List.mem_of_getElem? el)
    have ht2 : SqOf (kd j) h l items := ht.at fun o e => hold l o (fun hm => hlo (by
      simp only [List.mem_cons] at hm ⊢
      rcases hm with h | h
      · exact .inl h
      · exact .inr (.inr (.inr h)))) e
    have hi2 := hit j a l ea el
    rw [if_neg (Nat.lt_irrefl _)] at hi2
    refine wpAny_bind (wpAny_holding ?_)
    show wpAny _ _ (Builtin.SmallTypes.nextOf (.ref a) >>= _) _ _ _
    refine wpAny_bind (sq_item hi2 ht2 hix fun h₂ hi3 hs₂ => wpAny_pure ?_)
    refine wpAny_pure ⟨_, rfl, ?_, h₂, rfl, ?_, ?_, ?_, ?_⟩
    · show (none, (xs.take j).toArray.push x) = _
      rw [List.take_add_one, ex]
      simp
    · rw [hs₂.2 z (D.itz (List.mem_of_getElem? ea)).1.symm]; exact hz2
    · intro t a' l' e1 e2
      by_cases htj : t = j
      · subst htj
        rw [ea] at e1; cases e1
        rw [el] at e2; cases e2
        rw [if_pos (Nat.lt_succ_self _)]
        exact hi3
      · have hne : a' ≠ a := fun z => htj (D.inj e1 (z ▸ ea))
        have := hit t a' l' e1 e2
        have ei : (if t < j + 1 then i + 1 else i) = (if t < j then i + 1 else i) := by split <;> split <;> omega
        rw [ei]
        exact this.at fun o e => (hs₂.2 a' hne).trans e
    · rw [hs₂.1]; exact hsz
    · intro c o hc e
      exact (hs₂.2 c (fun z => hc (by subst z; exact List.mem_cons_of_mem _ (List.mem_of_getElem? ea)))).trans (hold c o hc e)
  · obtain ⟨rfl, h, rfl, hz2, hit, hsz, hold⟩ := hp
    have hlen : 0 + (its.map Value.ref).length = xs.length := by rw [Nat.zero_add, List.length_map, hl]
    rw [hlen, List.take_length]
    have few := D.few
    have line : (1000 : Nat) ≤ sizeLine := by decide
    refine wpAny_bind (wpAny_newTuple ?_ (by simp; omega))
    have hit' : ∀ (t : Nat) (a l : Addr), its[t]? = some a → ls[t]? = some l → SqIter (kd t) h a l (i + 1) := fun t a l e1 e2 => by
      have := hit t a l e1 e2
      rw [if_pos (by rw [hlen, hl]; exact (List.getElem?_eq_some_iff.mp e1).1)] at this
      exact this
    have notin : ∀ c, (c = TI ∨ c = TO) → c ∉ z :: its := fun c hc hm => by
      rcases List.mem_cons.mp hm with q | hm
      · rcases hc with rfl | rfl
        · exact D.TIz q
        · exact D.TOz q
      · rcases hc with rfl | rfl
        · exact (D.itz hm).2.1 rfl
        · exact (D.itz hm).2.2 rfl
    have st : ZSt kd (h.push { cls := .type "tuple", data := .seq xs.toArray }) z TI TO its ls (i + 1) := ⟨⟨_, _, Heap.get?_push_of_some _ hz2, .inr ⟨_, rfl⟩⟩, Heap.get?_push_of_some _ (hold _ _ (notin TI (.inl rfl)) hTI), ⟨_, _, Heap.get?_push_of_some _ (hold _ _ (notin TO (.inr rfl)) hTO), hks⟩,
      fun t a l e1 e2 => (hit' t a l e1 e2).at fun o e => Heap.get?_push_of_some _ e⟩
    refine wpAny_pure ⟨_, rfl, ?_⟩
    show Q (.ref h.objs.size) _
    have hT := Heap.get?_push_size h (o := { cls := .type "tuple", data := .seq xs.toArray }) rfl
    have hz8 : (h.push { cls := .type "tuple", data := .seq xs.toArray }).objs.size = h.objs.size + 1 := Heap.size_push ..
    rw [hsz] at hT hz8 ⊢
    exact hQ _ st hT hz8 fun c o hc e => Heap.get?_push_of_some _ (hold c o (fun hm => hc (by
      rcases List.mem_cons.mp hm with q | hm
      · simp [q]
      · exact List.mem_cons_of_mem _ (List.mem_cons_of_mem _ hm))) e)
/-- one item more: the tuple of the i-th items -/
theorem zipN_item {z TI TO : Addr} {its ls : List Addr} {i : Nat} {xs : List Value} {Q : Option Value → Shared → Prop} (D : ZAp z TI TO its ls) (S : ZSt kd s.heap z TI TO its ls i)
    (hl : xs.length = its.length) (hx : ∀ (t : Nat) (l : Addr) (x : Value), ls[t]? = some l → xs[t]? = some x → ∃ items, SqOf (kd t) s.heap l items ∧ items[i]? = some x)
    (hQ : ∀ h', ZSt kd h' z TI TO its ls (i + 1) → h'.get? s.heap.objs.size = some { cls := .type "tuple", data := .seq xs.toArray } → h'.objs.size = s.heap.objs.size + 1 →
      (∀ c o, c ∉ z :: TO :: its → s.heap.get? c = some o → h'.get? c = some o) → Q (some (.ref s.heap.objs.size)) { s with heap := h' }) :
    wpAny (model prog w) A (pyNext (.ref z)) Q E s := by
  obtain ⟨f0, f1, hz, hf⟩ := id S.zo
  have hT : s.TypeIs (.ref z) "zip" := ⟨_, hz, rfl⟩
  unfold pyNext
  refine wpAny_bind (wpAny_attempt (wpAny_callSpecial?_slot (name := Str.ofString "__next__") hT F.slot_zip_next (wpAny_call_entry F.slot_zip_next hT F.entry_zip_next ?_ (F.args_zip_next_1 _))))
  rcases hf with rfl | ⟨a, rfl⟩
  · exact zipN_free D hz (.inl rfl) S hl hx fun h' a1 _ a3 a4 a5 => wpAny_pure (hQ h' a1 a3 a4 a5)
  · cases ea : s.heap.get? a.toNat with
    | none => exact zipN_free D hz (.inr ⟨a, rfl, ea⟩) S hl hx fun h' a1 _ a3 a4 a5 => wpAny_pure (hQ h' a1 a3 a4 a5)
    | some oa => exact zipN_busy D hz ea S hl hx fun h' a1 a3 a4 a5 => wpAny_pure (hQ h' a1 a3 a4 a5)
/-- a turn of the walk over the parts that ends in an error -/
theorem forIn_stop {α β : Type} {M : Model} {Q : β → Shared → Prop} {b : α → β → Sem (ForInStep β)} (P : Nat → β → Shared → Prop) : ∀ (t : Nat) (l : List α) (j : Nat) (r : β) (s : Shared) (x : α), l[t]? = some x → P j r s →
    (∀ i x r s, i < t → l[i]? = some x → P (j + i) r s → wpAny M A (b x r) (fun st s' => ∃ r', st = .yield r' ∧ P (j + i + 1) r' s') E s) → (∀ r s, P (j + t) r s → wpAny M A (b x r) (fun _ _ => False) E s) → wpAny M A (forIn l r b) Q E s
  | _, [], j, r, s, x, hx, _, _, _ => by simp at hx
  | 0, y :: l, j, r, s, x, hx, h, _, hq => by
    simp only [List.forIn_cons]
    obtain rfl : y = x := by simpa using hx
    exact wpAny_bind (wpAny_mono (hq r s h) (fun _ _ z => z.elim) fun _ _ z => z)
  | t + 1, y :: l, j, r, s, x, hx, h, hs, hq => by
    simp only [List.forIn_cons]
    refine wpAny_bind (wpAny_mono (hs 0 y r s (Nat.succ_pos _) rfl h) (fun st s' ⟨r', e, p⟩ => ?_) fun _ _ z => z)
    subst e
    refine forIn_stop P t l (j + 1) r' s' x (by simpa using hx) p (fun i y r2 s2 hi e p2 => ?_) fun r2 s2 p2 => hq r2 s2 (by rw [show j + (t + 1) = j + 1 + t by omega]; exact p2)
    have := hs (i + 1) y r2 s2 (by omega) (by simpa using e) (by rw [show j + (i + 1) = j + 1 + i by omega]; exact p2)
    rw [show j + (i + 1) + 1 = j + 1 + i + 1 by omega] at this
    exact this
/-- the part at place t is at its end, the ones ahead are not -/
theorem zipN_stop {z TI TO a l : Addr} {its ls : List Addr} {i t : Nat} {items : Array Value} {Q : Fin → Shared → Prop} (hh : A.handled = none) (D : ZAp z TI TO its ls) (S : ZSt kd s.heap z TI TO its ls i) (hta : its[t]? = some a) (htl : ls[t]? = some l) (ht : SqOf (kd t) s.heap l items) (hend : items[i]? = none)
    (hx : ∀ (u : Nat) (l : Addr), u < t → ls[u]? = some l → ∃ items x, SqOf (kd u) s.heap l items ∧ items[i]? = some x)
    (hE : ∀ h' e, (∀ c o, c ∉ z :: TO :: its → s.heap.get? c = some o → h'.get? c = some o) → (∃ o, h'.get? e = some o ∧ o.cls = .type "StopIteration") → E (.ref e) { s with heap := h' }) :
    wpAny (model prog w) A (Builtin.«zip.__next__» ⟨[.ref z], []⟩) Q E s := by
  obtain ⟨kept, k0, hTO, hks⟩ := S.to
  obtain ⟨f0, f1, hz, hf⟩ := id S.zo
  have hTI := S.ti
  have am := D.itz (List.mem_of_getElem? hta)
  have notin : ∀ {u : Nat} {l : Addr}, ls[u]? = some l → l ∉ z :: TO :: its := fun {u l} el hm => D.old l (List.mem_of_getElem? el) (by
    simp only [List.mem_cons] at hm ⊢
    rcases hm with h | h | h
    · exact .inl h
    · exact .inr (.inr (.inl h))
    · exact .inr (.inr (.inr h)))
  show wpAny _ _ (field (.ref z) 2 >>= _) _ _ _
  refine wpAny_bind (wpAny_field hz rfl (x := .bool false) rfl ?_)
  show wpAny _ _ (field (.ref z) 3 >>= _) _ _ _
  refine wpAny_bind (wpAny_field hz rfl (x := .ref TI) rfl ?_)
  refine wpAny_bind (wpAny_seqItems hTI rfl ?_)
  have he : (its.map Value.ref).toArray.isEmpty = false := by have := D.ne; cases its <;> simp_all
  simp only [he]
  refine wpAny_bind ?_
  have freeGo : wpAny (model prog w) A (Builtin.SmallTypes.ownedTupleIsFree (.ref z)) (fun b s' => s' = s ∧ b = true ∨ b = false ∧ ∃ h, s' = { s with heap := h } ∧ Heap.SameBut z s.heap h) E s := by
    unfold Builtin.SmallTypes.ownedTupleIsFree
    refine wpAny_bind (wpAny_field hz rfl (x := f0) rfl ?_)
    rcases hf with rfl | ⟨a9, rfl⟩
    · exact wpAny_pure (.inl ⟨rfl, rfl⟩)
    · refine wpAny_bind (wpAny_alive ?_)
      cases ea : s.heap.get? a9.toNat with
      | none => exact wpAny_pure (.inl ⟨rfl, rfl⟩)
      | some oa =>
        refine wpAny_bind (wpAny_field hz rfl (x := f1) rfl ?_)
        by_cases hf : (f1 != Value.bool true) = true
        · simp only [hf, if_true]
          exact wpAny_bind (wpAny_setField_rec hz (by simp) fun h1 hz1 hs1 => wpAny_pure (.inr ⟨rfl, h1, rfl, hs1⟩))
        · simp only [hf]
          exact wpAny_pure (.inr ⟨rfl, s.heap, rfl, Heap.SameBut.refl _ _⟩)
  refine wpAny_mono freeGo (fun b s' hb => ?_) fun _ _ z => z
  have itAt : ∀ {u : Nat} {p : Value × Nat}, (its.map Value.ref).zipIdx[u]? = some p → ∃ a, its[u]? = some a ∧ p = (Value.ref a, u) := fun {u p} e => by
    rw [List.getElem?_zipIdx, List.getElem?_map] at e
    cases hj : its[u]? with
    | none => rw [hj] at e; cases e
    | some a => rw [hj] at e; cases e; exact ⟨a, rfl, by simp⟩
  rcases hb with ⟨rfl, rfl⟩ | ⟨rfl, h₁, rfl, hs₁⟩
  · simp only [if_true]
    refine wpAny_bind (wpAny_rule ?_)
    refine wpAny_bind (wpAny_field hz rfl (x := .ref TO) rfl ?_)
    refine wpAny_bind (wpAny_setField_rec hz (by simp) fun h₁ hz₁ hs₁ => ?_)
    replace hz₁ : h₁.get? z = some (ZObj .ellipsis f1 TI TO) := hz₁
    have up1 : ∀ c o, c ≠ z → s'.heap.get? c = some o → h₁.get? c = some o := fun c o hc e => (hs₁.2 c hc).trans e
    refine wpAny_bind (forIn_stop (fun j r s2 => r = (none, ()) ∧ ∃ h kj kk, s2 = { s' with heap := h } ∧ h.get? z = some (ZObj .ellipsis f1 TI TO) ∧ h.get? TO = some { cls := .type "tuple", data := .seq kj kk } ∧ kj.size = its.length ∧
        (∀ (u : Nat) (a l : Addr), its[u]? = some a → ls[u]? = some l → SqIter (kd u) h a l (if u < j then i + 1 else i)) ∧ (∀ c o, c ∉ z :: TO :: its → s'.heap.get? c = some o → h.get? c = some o)) t _ 0 _ _ (Value.ref a, t)
      (by rw [List.getElem?_zipIdx, List.getElem?_map, hta]; simp) ⟨rfl, h₁, kept, k0, rfl, hz₁, up1 _ _ D.TOz hTO, hks, fun u a l e1 e2 => (S.it u a l e1 e2).extBut hs₁.extBut (D.itz (List.mem_of_getElem? e1)).1, fun c o hc e => up1 c o (fun z => hc (by simp [z])) e⟩ (fun j p r s2 hj e hp => ?_) fun r s2 hp => ?_)
    · obtain ⟨rfl, h, kj, kk, rfl, hz2, hTO2, hk2, hit, hold⟩ := hp
      rw [Nat.zero_add] at *
      obtain ⟨a, ea, rfl⟩ := itAt e
      have hjl : j < its.length := (List.getElem?_eq_some_iff.mp ea).1
      obtain ⟨l, el⟩ : ∃ l, ls[j]? = some l := ⟨ls[j]'(by rw [D.len]; exact hjl), by simp [D.len, hjl]⟩
      obtain ⟨items, x, ht, hix⟩ := hx j l hj el
      have ht2 : SqOf (kd j) h l items := ht.at fun o e => hold l o (notin el) e
      have hi2 := hit j a l ea el
      rw [if_neg (Nat.lt_irrefl _)] at hi2
      have am := D.itz (List.mem_of_getElem? ea)
      refine wpAny_bind (wpAny_onRaise ?_)
      show wpAny _ _ (Builtin.SmallTypes.nextOf (.ref a) >>= _) _ _ _
      refine wpAny_bind (sq_item hi2 ht2 hix fun h₂ hi3 hs₂ => wpAny_pure ?_)
      have hTO3 : h₂.get? TO = some { cls := .type "tuple", data := .seq kj kk } := (hs₂.2 TO (Ne.symm am.2.2)).trans hTO2
      refine wpAny_bind (wpAny_seqItems hTO3 rfl ?_)
      have hfew := D.few
      have line : (1000 : Nat) ≤ sizeLine := by decide
      refine wpAny_bind (wpAny_updateSeq hTO3 rfl ?_ (by rw [hk2]; omega) (by rw [Array.size_setIfInBounds, hk2]; omega))
      refine wpAny_bind (wpAny_letGo (wpAny_pure ⟨_, rfl, rfl, _, _, _, rfl, ?_, Heap.get?_update_self _ hTO3 rfl, ?_, ?_, ?_⟩))
      · rw [Heap.get?_update_other _ _ D.TOz, hs₂.2 z am.1.symm]; exact hz2
      · simp [hk2]
      · intro u a' l' e1 e2
        have am' := D.itz (List.mem_of_getElem? e1)
        by_cases htj : u = j
        · subst htj
          rw [ea] at e1; cases e1
          rw [el] at e2; cases e2
          rw [if_pos (Nat.lt_succ_self _)]
          exact hi3.at fun o e => (Heap.get?_update_other _ _ am'.2.2.symm).trans e
        · have hne : a' ≠ a := fun z => htj (D.inj e1 (z ▸ ea))
          have := hit u a' l' e1 e2
          have ei : (if u < j + 1 then i + 1 else i) = (if u < j then i + 1 else i) := by split <;> split <;> omega
          rw [ei]
          exact this.at fun o e => (Heap.get?_update_other _ _ am'.2.2.symm).trans ((hs₂.2 a' hne).trans e)
      · intro c o hc e
        have h1 : c ≠ TO := fun z => hc (by simp [z])
        have h2 : c ≠ a := fun z => hc (by subst z; exact List.mem_cons_of_mem _ (List.mem_cons_of_mem _ (List.mem_of_getElem? ea)))
        exact (Heap.get?_update_other _ _ h1.symm).trans ((hs₂.2 c h2).trans (hold c o hc e))
    · obtain ⟨rfl, h, kj, kk, rfl, hz2, hTO2, hk2, hit, hold⟩ := hp
      rw [Nat.zero_add] at *
      have hi2 := hit t a l hta htl
      rw [if_neg (Nat.lt_irrefl _)] at hi2
      refine wpAny_bind (wpAny_onRaise ?_)
      show wpAny _ _ (Builtin.SmallTypes.nextOf (.ref a) >>= _) _ _ _
      refine wpAny_bind (sq_end hh hi2 (ht.at fun o e => hold l o (notin htl) e) hend fun h₂ e hs₂ he => ?_)
      obtain ⟨oe, hoe, hce⟩ := he
      have hz₂ : h₂.get? z = some (ZObj .ellipsis f1 TI TO) := hs₂ _ _ am.1.symm hz2
      have hez : e ≠ z := fun x => by subst x; rw [hz₂] at hoe; cases hoe; simp [ZObj] at hce
      refine wpAny_setField_rec hz₂ (by simp) fun h₃ _ hs₃ => hE h₃ e (fun c o hc x => hs₃.extBut _ _ (fun q => hc (by simp [q])) (hs₂ _ _ (fun q => hc (by subst q; exact List.mem_cons_of_mem _ (List.mem_cons_of_mem _ (List.mem_of_getElem? hta)))) (hold c o hc x))) ⟨oe, hs₃.extBut _ _ hez hoe, hce⟩
  · simp only [Bool.false_eq_true, if_false, List.forIn_toArray]
    have up1 : ∀ c o, c ≠ z → s.heap.get? c = some o → h₁.get? c = some o := fun c o hc e => (hs₁.2 c hc).trans e
    refine wpAny_bind (forIn_stop (fun j r s2 => r.1 = none ∧ ∃ h, s2 = { s with heap := h } ∧
        (∀ (u : Nat) (a l : Addr), its[u]? = some a → ls[u]? = some l → SqIter (kd u) h a l (if u < j then i + 1 else i)) ∧ (∀ c o, c ∉ z :: TO :: its → s.heap.get? c = some o → h.get? c = some o)) t _ 0 _ _ (Value.ref a)
      (by rw [List.getElem?_map, hta]; rfl) ⟨rfl, h₁, rfl, fun u a l e1 e2 => (S.it u a l e1 e2).extBut hs₁.extBut (D.itz (List.mem_of_getElem? e1)).1, fun c o hc e => up1 c o (fun z => hc (by simp [z])) e⟩ (fun j p r s2 hj e hp => ?_) fun r s2 hp => ?_)
    · obtain ⟨r1, r2⟩ := r
      obtain ⟨rfl, h, rfl, hit, hold⟩ := hp
      rw [Nat.zero_add] at *
      obtain ⟨a, ea, rfl⟩ : ∃ a, its[j]? = some a ∧ p = Value.ref a := by
        rw [List.getElem?_map] at e
        cases hj : its[j]? with
        | none => rw [hj] at e; cases e
        | some a => rw [hj] at e; cases e; exact ⟨a, rfl, rfl⟩
      have hjl : j < its.length := (List.getElem?_eq_some_iff.mp ea).1
      obtain ⟨l, el⟩ : ∃ l, ls[j]? = some l := ⟨ls[j]'(by rw [D.len]; exact hjl), by simp [D.len, hjl]⟩
      obtain ⟨items, x, ht, hix⟩ := hx j l hj el
      have ht2 : SqOf (kd j) h l items := ht.at fun o e => hold l o (notin el) e
      have hi2 := hit j a l ea el
      rw [if_neg (Nat.lt_irrefl _)] at hi2
      refine wpAny_bind (wpAny_holding ?_)
      show wpAny _ _ (Builtin.SmallTypes.nextOf (.ref a) >>= _) _ _ _
      refine wpAny_bind (sq_item hi2 ht2 hix fun h₂ hi3 hs₂ => wpAny_pure ?_)
      refine wpAny_pure ⟨_, rfl, rfl, h₂, rfl, ?_, ?_⟩
      · intro u a' l' e1 e2
        by_cases htj : u = j
        · subst htj
          rw [ea] at e1; cases e1
          rw [el] at e2; cases e2
          rw [if_pos (Nat.lt_succ_self _)]
          exact hi3
        · have hne : a' ≠ a := fun z => htj (D.inj e1 (z ▸ ea))
          have := hit u a' l' e1 e2
          have ei : (if u < j + 1 then i + 1 else i) = (if u < j then i + 1 else i) := by split <;> split <;> omega
          rw [ei]
          exact this.at fun o e => (hs₂.2 a' hne).trans e
      · intro c o hc e
        exact (hs₂.2 c (fun z => hc (by subst z; exact List.mem_cons_of_mem _ (List.mem_cons_of_mem _ (List.mem_of_getElem? ea))))).trans (hold c o hc e)
    · obtain ⟨r1, r2⟩ := r
      obtain ⟨rfl, h, rfl, hit, hold⟩ := hp
      rw [Nat.zero_add] at *
      have hi2 := hit t a l hta htl
      rw [if_neg (Nat.lt_irrefl _)] at hi2
      refine wpAny_bind (wpAny_holding ?_)
      show wpAny _ _ (Builtin.SmallTypes.nextOf (.ref a) >>= _) _ _ _
      refine wpAny_bind (sq_end hh hi2 (ht.at fun o e => hold l o (notin htl) e) hend fun h₂ e hs₂ he => ?_)
      exact hE h₂ e (fun c o hc x => hs₂ _ _ (fun q => hc (by subst q; exact List.mem_cons_of_mem _ (List.mem_cons_of_mem _ (List.mem_of_getElem? hta)))) (hold c o hc x)) he
theorem zipN_end {z TI TO a l : Addr} {its ls : List Addr} {i t : Nat} {items : Array Value} {Q : Option Value → Shared → Prop} (hh : A.handled = none) (D : ZAp z TI TO its ls) (S : ZSt kd s.heap z TI TO its ls i) (hta : its[t]? = some a) (htl : ls[t]? = some l) (ht : SqOf (kd t) s.heap l items) (hend : items[i]? = none)
    (hx : ∀ (u : Nat) (l : Addr), u < t → ls[u]? = some l → ∃ items x, SqOf (kd u) s.heap l items ∧ items[i]? = some x)
    (hQ : ∀ h', (∀ c o, c ∉ z :: TO :: its → s.heap.get? c = some o → h'.get? c = some o) → Q none { s with heap := h' }) : wpAny (model prog w) A (pyNext (.ref z)) Q E s := by
  obtain ⟨f0, f1, hz, hf⟩ := id S.zo
  have hT : s.TypeIs (.ref z) "zip" := ⟨_, hz, rfl⟩
  unfold pyNext
  refine wpAny_bind (wpAny_attempt (wpAny_callSpecial?_slot (name := Str.ofString "__next__") hT F.slot_zip_next (wpAny_call_entry F.slot_zip_next hT F.entry_zip_next (zipN_stop hh D S hta htl ht hend hx fun h' e hk he => ?_) (F.args_zip_next_1 _))))
  obtain ⟨o, ho, hc⟩ := he
  exact wpAny_bind (wpAny_isInstance (T := "StopIteration") (b := true) ⟨o, ho, hc⟩ isSubtype_stop (wpAny_pure (hQ _ hk)))
theorem zip_self {z TI TO : Addr} {f0 f1 : Value} {Q : Value → Shared → Prop} (hz : s.heap.get? z = some (ZObj f0 f1 TI TO)) (h : Q (.ref z) s) : wpAny (model prog w) A (pyIter (.ref z)) Q E s := by
  have hT : s.TypeIs (.ref z) "zip" := ⟨_, hz, rfl⟩
  refine wpAny_pyIter_slot hT F.slot_zip_iter (wpAny_call_entry F.slot_zip_iter hT F.entry_zip_iter ?_ (F.args_zip_iter_1 _))
  show wpAny _ _ (ret (.ref z)) _ _ s
  exact wpAny_pure ⟨_, rfl, "zip", _, hT, F.slot_zip_next.lookup, h⟩
/-- zip(..) of tuples -/
theorem meets_zipN (ls : List Addr) (hl : ls.length ≤ 1000) : Meets (Builtin.«zip.__new__» ⟨.type "zip" :: ls.map Value.ref, []⟩) (fun _ R s => (∀ (t : Nat) (l : Addr), ls[t]? = some l → ∃ items, SqOf (kd t) s.heap l items) ∧
    ∀ h' its, ZSt kd h' (s.heap.objs.size + ls.length + 2) (s.heap.objs.size + ls.length) (s.heap.objs.size + ls.length + 1) its ls 0 → its = (List.range ls.length).map (s.heap.objs.size + ·) → (∀ c o, s.heap.get? c = some o → h'.get? c = some o) → R (.ok (.ret (.ref (s.heap.objs.size + ls.length + 2)))) { s with heap := h' }) :=
  .of_wp fun prog w A R s ⟨ht, h⟩ => by
    have hsub := sub_zip
    obtain ⟨hp, g, d, tk, os⟩ := s
    wp_walk
    show wpAny (model prog w) A.in1 (forIn (ls.map Value.ref) (#[] : Array Value) (fun x its => do let v ← holding its.toList (pyIter x); pure (ForInStep.yield (its.push v)))) _ _ _
    refine forIn_wp (fun j r s' => r = ((List.range j).map fun t => Value.ref (hp.objs.size + t)).toArray ∧ ∃ hh, s' = ⟨hh, g, d, tk, os⟩ ∧ hh.objs.size = hp.objs.size + j ∧ (∀ (t : Nat) (l : Addr), t < j → ls[t]? = some l → SqIter (kd t) hh (hp.objs.size + t) l 0) ∧ ∀ c o, hp.get? c = some o → hh.get? c = some o) _ 0 _ _
      ⟨rfl, hp, rfl, rfl, fun t l ht => absurd ht (Nat.not_lt_zero _), fun _ _ e => e⟩ (fun j x r s' e hq => ?_) fun r s' hq => ?_
    · obtain ⟨rfl, hh, rfl, hsz, hit, hold⟩ := hq
      rw [Nat.zero_add] at *
      obtain ⟨l, el, rfl⟩ : ∃ l, ls[j]? = some l ∧ x = Value.ref l := by
        rw [List.getElem?_map] at e
        cases hj : ls[j]? with
        | none => rw [hj] at e; cases e
        | some a => rw [hj] at e; cases e; exact ⟨a, rfl, rfl⟩
      obtain ⟨items, htl⟩ := ht j l el
      have htl' : SqOf (kd j) hp l items := htl
      refine wpAny_bind (wpAny_holding (sq_pyIter (s := ⟨hh, g, d, tk, os⟩) (htl'.at fun o e => hold l o e) fun ob hob => wpAny_pure ⟨_, rfl, ?_, _, rfl, ?_, ?_, ?_⟩))
      · rw [List.range_succ, List.map_append]
        show Array.push _ (Value.ref hh.objs.size) = _
        rw [hsz]
        simp
      · rw [Heap.size_push, hsz]; omega
      · intro t l' ht' el'
        by_cases htj : t = j
        · subst htj
          rw [el] at el'; cases el'
          rw [← hsz]
          exact hob
        · exact (hit t l' (by omega) el').at fun o e => Heap.get?_push_of_some _ e
      · exact fun c o e => Heap.get?_push_of_some _ (hold c o e)
    · obtain ⟨rfl, hh, rfl, hsz, hit, hold⟩ := hq
      rw [Nat.zero_add, List.length_map] at *
      have line : (1000 : Nat) ≤ sizeLine := (by decide)
      refine wpAny_pure ?_
      refine wpAny_bind (wpAny_newTuple ?_ (by simp; omega))
      refine wpAny_bind (wpAny_newTuple ?_ (by simp; omega))
      show wpAny _ _ (newObj (.type "zip") (.fields #[.none, .bool false, .bool false, _, _]) >>= _) _ _ _
      refine wpAny_bind (wpAny_newObj_type ?_)
      have e1 : ((List.range ls.length).map fun t => Value.ref (hp.objs.size + t)).toArray.toList = ((List.range ls.length).map (hp.objs.size + ·)).map Value.ref := by simp
      have s1 : (hh.push { cls := .type "tuple", data := .seq (((List.range ls.length).map fun t => Value.ref (hp.objs.size + t)).toArray.toList).toArray }).objs.size = hp.objs.size + ls.length + 1 := by rw [Heap.size_push, hsz]
      refine wpAny_pure ⟨_, rfl, ?_⟩
      have hgo := h
      simp only at hgo
      rw [e1] at s1 ⊢
      generalize hits : (List.range ls.length).map (hp.objs.size + ·) = its at *
      have lits : its.length = ls.length := by rw [← hits]; simp
      generalize hA : hh.push { cls := .type "tuple", data := .seq (its.map Value.ref).toArray } = h1 at *
      have zA : h1.objs.size = hp.objs.size + ls.length + 1 := s1
      generalize hB : h1.push { cls := .type "tuple", data := .seq ((its.map Value.ref).map fun _ => Value.none).toArray } = h2 at *
      have zB : h2.objs.size = hp.objs.size + ls.length + 2 := by rw [← hB, Heap.size_push, zA]
      have up : ∀ c o, hh.get? c = some o → h2.get? c = some o := fun c o e => by rw [← hB, ← hA]; exact Heap.get?_push_of_some _ (Heap.get?_push_of_some _ e)
      have gI : h2.get? (hp.objs.size + ls.length) = some { cls := .type "tuple", data := .seq (its.map Value.ref).toArray } := by
        rw [← hB]
        refine Heap.get?_push_of_some _ ?_
        rw [← hA, ← hsz]
        exact Heap.get?_push_size _ rfl
      have gO : h2.get? (hp.objs.size + ls.length + 1) = some { cls := .type "tuple", data := .seq ((its.map Value.ref).map fun _ => Value.none).toArray } := by
        rw [← hB, ← zA]
        exact Heap.get?_push_size _ rfl
      show R (.ok (.ret (.ref h2.objs.size))) ⟨h2.push { cls := .type "zip", data := .fields #[.none, .bool false, .bool false, .ref hh.objs.size, .ref h1.objs.size] }, g, d, tk, os⟩
      rw [hsz, zA]
      have gZ := Heap.get?_push_size h2 (o := { cls := .type "zip", data := .fields #[.none, .bool false, .bool false, .ref (hp.objs.size + ls.length), .ref (hp.objs.size + ls.length + 1)] }) rfl
      rw [zB] at gZ ⊢
      refine hgo _ its ⟨⟨_, _, gZ, .inl rfl⟩, Heap.get?_push_of_some _ gI, ⟨_, _, Heap.get?_push_of_some _ gO, by simp⟩, fun t a l e2 e3 => ?_⟩ rfl fun c o e => Heap.get?_push_of_some _ (up c o (hold c o e))
      have ht3 : t < ls.length := (List.getElem?_eq_some_iff.mp e3).1
      have ea : a = hp.objs.size + t := by
        rw [← hits, List.getElem?_map, List.getElem?_range ht3] at e2
        cases e2; rfl
      subst ea
      exact (hit t l ht3 e3).at fun o e => Heap.get?_push_of_some _ (up _ o e)
end
end DD
namespace DD
open PySem PySem.Spec PyProof.Rows L2
theorem typeCall_zip1 (a : Value) : checkTypeCall "zip" ⟨[a], []⟩ = pure () := by kernel_rfl
theorem typeCall_zip3 (a b c : Value) : checkTypeCall "zip" ⟨[a, b, c], []⟩ = pure () := by kernel_rfl
theorem typeCall_zip4 (a b c d : Value) : checkTypeCall "zip" ⟨[a, b, c, d], []⟩ = pure () := by kernel_rfl
theorem newCall_zip1 (a : Value) : checkBuiltinCall "zip.__new__" ⟨[.type "zip", a], []⟩ = pure () := by kernel_rfl
theorem newCall_zip3 (a b c : Value) : checkBuiltinCall "zip.__new__" ⟨[.type "zip", a, b, c], []⟩ = pure () := by kernel_rfl
theorem newCall_zip4 (a b c d : Value) : checkBuiltinCall "zip.__new__" ⟨[.type "zip", a, b, c, d], []⟩ = pure () := by kernel_rfl
theorem initOk4 (a b c d : Value) : argsOk "object.__init__" ⟨[a, b, c, d], []⟩ := by
  unfold argsOk
  rw [signature?_of (id := "object.__init__") (n := ['_', '_', 't', 'i', 'n', 'i', '_', '_']) (o := ['t', 'c', 'e', 'j', 'b', 'o']) (by kernel_rfl) F.owner_object]
  kernel_rfl
theorem initOk5 (a b c d e : Value) : argsOk "object.__init__" ⟨[a, b, c, d, e], []⟩ := by
  unfold argsOk
  rw [signature?_of (id := "object.__init__") (n := ['_', '_', 't', 'i', 'n', 'i', '_', '_']) (o := ['t', 'c', 'e', 'j', 'b', 'o']) (by kernel_rfl) F.owner_object]
  kernel_rfl
section
variable {prog : Program} {w : World} {A : Around} {E : Value → Shared → Prop} {s : Shared} {kd : Nat → Bool}
theorem call_zipN {ls : List Addr} {Q : Value → Shared → Prop} (h0 : ls ≠ []) (h4 : ls.length ≤ 4) (ht : ∀ (t : Nat) (l : Addr), ls[t]? = some l → ∃ items, SqOf (kd t) s.heap l items)
    (h : ∀ h' its, ZSt kd h' (s.heap.objs.size + ls.length + 2) (s.heap.objs.size + ls.length) (s.heap.objs.size + ls.length + 1) its ls 0 → its = (List.range ls.length).map (s.heap.objs.size + ·) → (∀ c o, s.heap.get? c = some o → h'.get? c = some o) → Q (.ref (s.heap.objs.size + ls.length + 2)) { s with heap := h' }) :
    wpAny (model prog w) A (call (.type "zip") (ls.map Value.ref)) Q E s := by
  have hct : checkTypeCall "zip" ⟨ls.map Value.ref, []⟩ = pure () := by
    match ls, h0, h4 with
    | [a], _, _ => exact typeCall_zip1 _
    | [a, b], _, _ => exact F.typeCall_zip_2 _ _
    | [a, b, c], _, _ => exact typeCall_zip3 _ _ _
    | [a, b, c, d], _, _ => exact typeCall_zip4 _ _ _ _
    | _ :: _ :: _ :: _ :: _ :: _, _, h => simp at h
  have hcn : checkBuiltinCall "zip.__new__" ⟨.type "zip" :: ls.map Value.ref, []⟩ = pure () := by
    match ls, h0, h4 with
    | [a], _, _ => exact newCall_zip1 _
    | [a, b], _, _ => exact F.newCall_zip_2 _ _
    | [a, b, c], _, _ => exact newCall_zip3 _ _ _
    | [a, b, c, d], _, _ => exact newCall_zip4 _ _ _ _
    | _ :: _ :: _ :: _ :: _ :: _, _, h => simp at h
  have hok : ∀ obj, argsOk "object.__init__" ⟨obj :: ls.map Value.ref, []⟩ := fun obj => by
    match ls, h0, h4 with
    | [a], _, _ => exact F.args_object_init_2 _ _
    | [a, b], _, _ => exact F.args_object_init_3 _ _ _
    | [a, b, c], _, _ => exact initOk4 _ _ _ _
    | [a, b, c, d], _, _ => exact initOk5 _ _ _ _ _
    | _ :: _ :: _ :: _ :: _ :: _, _, h => simp at h
  have h5 : ls.length ≤ 1000 := by omega
  refine callType_new F.called_zip (by decide) hct hcn hok F.entry_zip_new (meets_zipN (kd := kd) ls h5) ?_
  refine ⟨ht, fun h' its hz he hk => ?_⟩
  obtain ⟨f0, f1, hzo, _⟩ := hz.zo
  exact ⟨⟨_, hzo, rfl⟩, h h' its hz he hk⟩
end
/-- a list or a tuple, by its kind -/
def SqK (k : Bool) (K : PySem.W.Frag) (H : Hp) (a : Addr) (row : List V) : Prop := if k = true then SqL K H a row else SqT K H a row
theorem SqK.mono {k : Bool} {K : PySem.W.Frag} {H H' : Hp} {a : Addr} {row : List V} (e : SubM H H') (h : SqK k K H a row) : SqK k K H' a row := by
  cases k
  · exact sameT e h
  · exact e.seq h
theorem sqk_inv {X : Cx} {pins : List (Addr × Obj)} {σ : L2.St} {H : Hp} {s : Shared} (I : Inv X pins σ H s) {k : Bool} {a : Addr} {row : List V} (h : SqK k X.K H a row) : ∃ its : List Value, Vals row its ∧ SqOf k s.heap a its.toArray ∧ row.length ≤ sizeLine := by
  cases k
  · obtain ⟨its, r, p, z⟩ := I.tuple h
    exact ⟨its, r, p, z⟩
  · obtain ⟨its, r, p, z⟩ := I.list h
    exact ⟨its, r, p.isList, z⟩
theorem sqk_inj {X : Cx} {pins : List (Addr × Obj)} {σ : L2.St} {H : Hp} {s : Shared} (I : Inv X pins σ H s) {k : Bool} {a : Addr} {row row' : List V} (h : SqK k X.K H a row) (h' : SqK k X.K H a row') : row = row' := by
  cases k
  · exact I.tuple_inj h h'
  · exact I.list_inj h h'
/-- the sequences at as, turn by turn: new tuples of their items -/
def Itn (K : PySem.W.Frag) (kd : Nat → Bool) (as : List Addr) : It :=
  ⟨fun i H => ∀ (t : Nat) (a : Addr), as[t]? = some a → ∃ row x, SqK (kd t) K H a row ∧ row[i]? = some x,
    fun i H v H' => ∃ T xs, v = .ref T ∧ H T = none ∧ H' = upd H T (.tup xs) ∧ xs.length = as.length ∧ ∀ (t : Nat) (a : Addr) (row : List V), as[t]? = some a → SqK (kd t) K H a row → ∃ x, xs[t]? = some x ∧ row[i]? = some x,
    fun i H => ∃ t a row, as[t]? = some a ∧ SqK (kd t) K H a row ∧ row.length ≤ i ∧ ∀ (u : Nat) (b : Addr), u < t → as[u]? = some b → ∃ row x, SqK (kd u) K H b row ∧ row[i]? = some x⟩
theorem zip_go {prog : Program} {w : World} {A : Around} {E : Value → Shared → Prop} {s : Shared} {tg : Expr} {z TI TO T : Addr} {its as : List Addr} {i : Nat} {kd : Nat → Bool} {R : Unit → Shared → Prop} (D : ZAp z TI TO its as) (st : ZSt kd s.heap z TI TO its as i)
    (hR : ∀ h2, ZSt kd h2 z TI TO its as i → (∀ c o, c ≠ z → s.heap.get? c = some o → h2.get? c = some o) → R () { s with heap := h2 }) : wpAny (model prog w) A (letOwnedTupleGo tg (.ref z) (.ref T)) R E s := by
  have plain : wpAny (model prog w) A (pure ()) R E s := wpAny_pure (hR s.heap st fun _ _ _ e => e)
  obtain ⟨f0, f1, hz, hf0⟩ := id st.zo
  have hit : ∀ {R' : Unit → Shared → Prop}, (∀ s', R () s' → R' () s') → wpAny (model prog w) A (setField (.ref z) 0 .none) R' E s := fun {R'} hw => by
    refine wpAny_setField_rec hz (by simp) fun h2 hz2 hs2 => hw _ (hR h2 ?_ fun c o hc e => (hs2.2 c hc).trans e)
    obtain ⟨kp, k0, hTO, hks⟩ := st.to
    exact ⟨⟨.none, f1, hz2, .inl rfl⟩, (hs2.2 _ D.TIz).trans st.ti, ⟨kp, k0, (hs2.2 _ D.TOz).trans hTO, hks⟩, fun t a l e1 e2 => (st.it t a l e1 e2).at fun o e => (hs2.2 a (D.itz (List.mem_of_getElem? e1)).1).trans e⟩
  unfold letOwnedTupleGo
  split
  · refine wpAny_bind (wpAny_load hz ?_)
    simp only [ZObj]
    split
    · exact wpAny_bind (wpAny_rule (hit fun _ h => h))
    · exact plain
  · refine wpAny_bind (wpAny_load hz ?_)
    simp only [ZObj]
    split
    · exact wpAny_bind (wpAny_rule (hit fun _ h => h))
    · exact plain
  · exact plain
theorem turn_zipN {P : Program} {w : World} {K : PySem.W.Frag} {tg : Expr} {z TI TO : Addr} {its as : List Addr} {kd : Nat → Bool} (D : ZAp z TI TO its as) : Turn P w K tg (Itn K kd as) (z :: TI :: TO :: its) z (fun i h => ZSt kd h z TI TO its as i) where
  mem := by simp
  obj := fun i h st c hc => by
    obtain ⟨f0, f1, hz, _⟩ := st.zo
    obtain ⟨kp, k0, hTO, _⟩ := st.to
    simp only [List.mem_cons] at hc
    rcases hc with rfl | rfl | rfl | hc
    · exact ⟨_, hz, fun v q => nomatch q⟩
    · exact ⟨_, st.ti, fun v q => nomatch q⟩
    · exact ⟨_, hTO, fun v q => nomatch q⟩
    · obtain ⟨t, ht⟩ := List.getElem?_of_mem hc
      have hl : t < as.length := by rw [D.len]; exact (List.getElem?_eq_some_iff.mp ht).1
      obtain ⟨o, ho, _, hd⟩ := (st.it t c as[t] ht (List.getElem?_eq_getElem hl)).ex
      exact ⟨o, ho, fun v q => by rw [hd] at q; cases q⟩
  keep := fun i h h' st k => by
    obtain ⟨f0, f1, hz, hf⟩ := st.zo
    obtain ⟨kp, k0, hTO, hs⟩ := st.to
    exact ⟨⟨f0, f1, k z (by simp) _ hz, hf⟩, k TI (by simp) _ st.ti, ⟨kp, k0, k TO (by simp) _ hTO, hs⟩, fun t a l e1 e2 => (st.it t a l e1 e2).at fun o q => k a (by simp [List.mem_of_getElem? e1]) o q⟩
  item := by
    intro X hP hw hK hc i pins s σ H E I hf st hg
    subst hP hw hK
    have hg' : ∀ (t : Nat) (a : Addr), as[t]? = some a → ∃ row x, SqK (kd t) X.K H a row ∧ row[i]? = some x := hg
    -- the values, one a tuple
    have vals : ∀ (bs : List Addr) (off : Nat), (∀ (t : Nat) (a : Addr), bs[t]? = some a → ∃ row x, SqK (kd (off + t)) X.K H a row ∧ row[i]? = some x) → ∃ (xs : List V) (us : List Value), Vals xs us ∧ xs.length = bs.length ∧ ∀ (t : Nat) (a : Addr), bs[t]? = some a → ∃ x u row items, xs[t]? = some x ∧ us[t]? = some u ∧ SqK (kd (off + t)) X.K H a row ∧ row[i]? = some x ∧ SqOf (kd (off + t)) s.heap a items ∧ items[i]? = some u := by
      intro bs
      induction bs with
      | nil => intro _ _; exact ⟨[], [], .nil, rfl, fun t a e => by simp at e⟩
      | cons b bs ih =>
        intro off hb
        obtain ⟨xs, us, r, hl, q⟩ := ih (off + 1) fun t a e => by
          have := hb (t + 1) a (by simpa using e)
          rwa [show off + (t + 1) = off + 1 + t by omega] at this
        obtain ⟨row, x, sq, hx⟩ := hb 0 b rfl
        obtain ⟨its', rv, p, _⟩ := sqk_inv I sq
        obtain ⟨u, hu, ru⟩ := rv.get hx
        refine ⟨x :: xs, u :: us, .cons ru r, by simp [hl], fun t a e => ?_⟩
        cases t with
        | zero =>
          simp at e
          subst e
          exact ⟨x, u, row, _, rfl, rfl, sq, hx, p, by simpa using hu⟩
        | succ t =>
          have := q t a (by simpa using e)
          rw [show off + 1 + t = off + (t + 1) by omega] at this
          simpa using this
    obtain ⟨xs, us, rv, hlx, q⟩ := vals as 0 fun t a e => by rw [Nat.zero_add]; exact hg' t a e
    simp only [Nat.zero_add] at q
    obtain ⟨f0', f1', hz0, _⟩ := id st.zo
    have hzl : ∀ c ∈ z :: TI :: TO :: its, c < s.heap.objs.size := fun c hc => by
      obtain ⟨kp, k0, hTO, _⟩ := st.to
      simp only [List.mem_cons] at hc
      rcases hc with rfl | rfl | rfl | hc
      · exact Heap.lt_size hz0
      · exact Heap.lt_size st.ti
      · exact Heap.lt_size hTO
      · obtain ⟨t, ht⟩ := List.getElem?_of_mem hc
        have hl : t < as.length := by rw [D.len]; exact (List.getElem?_eq_some_iff.mp ht).1
        obtain ⟨o, ho, _, hd⟩ := (st.it t c as[t] ht (List.getElem?_eq_getElem hl)).ex
        exact Heap.lt_size ho
    have hus : us.length = its.length := by rw [← rv.length, hlx, D.len]
    have hux : ∀ (t : Nat) (l : Addr) (x : Value), as[t]? = some l → us[t]? = some x → ∃ items, SqOf (kd t) s.heap l items ∧ items[i]? = some x := fun t l x e1 e2 => by
      obtain ⟨x', u, row, items, _, e4, _, _, e5, e6⟩ := q t l e1
      rw [e2] at e4
      cases e4
      exact ⟨items, e5, e6⟩
    apply zipN_item D st hus hux
    intro h' st' hT hsz hk
    refine ⟨_, rfl, ?_⟩
    refine zip_go (s := { s with heap := h' }) D st' fun h2 st2 hk2 => ?_
    have hT2 : h2.get? s.heap.objs.size = some { cls := .type "tuple", data := .seq us.toArray } := hk2 _ _ (Nat.ne_of_gt (hzl z (by simp))) hT
    have few := D.few
    have line : (1000 : Nat) ≤ sizeLine := by decide
    have new : ObjOk X.prog X.w (upd H s.heap.objs.size (.tup xs)) h2 s.heap.objs.size (.tup xs) := ⟨by rw [hlx, D.len]; omega, us, rv, ⟨_, hT2, rfl, _, rfl⟩⟩
    have I1 : Inv X pins σ (upd H s.heap.objs.size (.tup xs)) { s with heap := h2 } :=
      I.turnedNew (t' := s.toks) (ch := z :: TI :: TO :: its) (fun c o hb e => hk2 c o (fun q => hb (by simp [q])) (hk c o (fun hm => hb (by
        simp only [List.mem_cons] at hm ⊢
        rcases hm with h | h | h
        · exact .inl h
        · exact .inr (.inr (.inl h))
        · exact .inr (.inr (.inr h)))) e)) hf (Nat.le_refl _) new
    have hy : (Itn X.K kd as).yld i H (.ref s.heap.objs.size) (upd H s.heap.objs.size (.tup xs)) := by
      refine ⟨s.heap.objs.size, xs, rfl, I.hok.fresh (Nat.le_refl _), rfl, hlx, fun t a row e1 e2 => ?_⟩
      obtain ⟨x', u, row', items, h1, _, h3, h4, _⟩ := q t a e1
      rw [sqk_inj I h3 e2] at h4
      exact ⟨x', h1, h4⟩
    have hfree : ∀ b ∈ z :: TI :: TO :: its, (upd H s.heap.objs.size (.tup xs)) b = none := fun c hcm => by
      rw [upd_ne (Nat.ne_of_lt (hzl c hcm))]
      exact (hf c hcm).1
    exact ⟨.ref s.heap.objs.size, upd H s.heap.objs.size (.tup xs), I1, rfl, hy, st2, hfree⟩
  done := by
    intro X hP hw hK hc i pins s σ H E I hf st hg
    subst hP hw hK
    obtain ⟨t, a, row, ha, sq, hlen, hpre⟩ := hg
    obtain ⟨its', rv, p, _⟩ := sqk_inv I sq
    have htl : t < its.length := by rw [← D.len]; exact (List.getElem?_eq_some_iff.mp ha).1
    refine zipN_end (I.ok.hd hc) D st (List.getElem?_eq_getElem htl) ha p (by rw [List.getElem?_toArray, ← List.getElem?_eq_none_iff.mpr (show its'.length ≤ i by rw [← rv.length]; exact hlen)]) (fun u l hu el => by
      obtain ⟨row', x, sq', hx'⟩ := hpre u l hu el
      obtain ⟨its2, rv2, p2, _⟩ := sqk_inv I sq'
      obtain ⟨v, hv, _⟩ := rv2.get hx'
      exact ⟨_, v, p2, by simpa using hv⟩) fun h' hk => ⟨rfl, I.turnedL (t' := s.toks) (ch := z :: TI :: TO :: its) (fun c o hb e => hk c o (fun hm => hb (by
        simp only [List.mem_cons] at hm ⊢
        rcases hm with h | h | h
        · exact .inl h
        · exact .inr (.inr (.inl h))
        · exact .inr (.inr (.inr h)))) e) hf⟩
  self := fun A i s Q E st h => let ⟨_, _, hz, _⟩ := st.zo; zip_self hz h
end DD
namespace DD
open PySem PySem.Spec PyProof.Rows L2
def iZipN (K : PySem.W.Frag) (ta : TA) : TI := fun σ H R => ta σ H fun vs H1 => ∃ (kd : Nat → Bool) (as : List Addr), vs = as.map V.ref ∧ as ≠ [] ∧ as.length ≤ 4 ∧ (∀ (t : Nat) (a : Addr), as[t]? = some a → ∃ row, SqK (kd t) K H1 a row) ∧ R (Itn K kd as) H1
theorem vals_refs : ∀ {as : List Addr} {us : List Value}, Vals (as.map V.ref) us → us = as.map Value.ref
  | [], _, .nil => rfl
  | a :: as, _, .cons r rs => by
    rw [vals_refs rs]
    cases r
    rfl
section
variable {X : Cx} {tg : Expr}
theorem zip_come {pins : List (Addr × Obj)} {s : Shared} {σ : L2.St} {H : Hp} {R : It → Hp → Prop} {as : List Addr} {kd : Nat → Bool} (I : Inv X pins σ H s) (h0 : as ≠ []) (h4 : as.length ≤ 4) (ht : ∀ (t : Nat) (a : Addr), as[t]? = some a → ∃ row, SqK (kd t) X.K H a row) (hR : R (Itn X.K kd as) H) :
    wpAny (model X.prog X.w) X.A (call (.type "zip") (as.map Value.ref)) (fun v s1 => wpAny (model X.prog X.w) X.A (pyIter v) (PIE X pins σ tg R) X.xe s1) X.xe s := by
  have htl : ∀ a : Nat, a ∈ as → a < s.heap.objs.size := fun a ha => by
    obtain ⟨t, hta⟩ := List.getElem?_of_mem ha
    obtain ⟨row, sq⟩ := ht t a hta
    obtain ⟨its, _, p, _⟩ := sqk_inv I sq
    generalize kd t = k at p
    cases k
    · obtain ⟨o, ho, _⟩ := (show s.heap.IsTuple a _ from p)
      exact Heap.lt_size ho
    · obtain ⟨o, ho, _⟩ := (show s.heap.IsList a _ from p)
      exact Heap.lt_size ho
  refine call_zipN (kd := kd) h0 h4 (fun t l hl => by obtain ⟨row, sq⟩ := ht t l hl; obtain ⟨its, _, p, _⟩ := sqk_inv I sq; exact ⟨_, p⟩) fun h' its hz he hk => ?_
  obtain ⟨f0, f1, hzo, _⟩ := id hz.zo
  refine zip_self hzo ?_
  have I2 : Inv X pins σ H { s with heap := h' } := I.kept (t' := s.toks) hk
  have hle : ∀ c : Nat, c ∈ (s.heap.objs.size + as.length + 2) :: (s.heap.objs.size + as.length) :: (s.heap.objs.size + as.length + 1) :: its → s.heap.objs.size ≤ c := fun c hc => by
    simp only [List.mem_cons] at hc
    rcases hc with rfl | rfl | rfl | hc
    · omega
    · omega
    · omega
    · rw [he] at hc
      obtain ⟨t, _, rfl⟩ := List.mem_map.mp hc
      omega
  have D : ZAp (s.heap.objs.size + as.length + 2) (s.heap.objs.size + as.length) (s.heap.objs.size + as.length + 1) its as := by
    have hi : ∀ c : Nat, c ∈ its → c < s.heap.objs.size + as.length := fun c hc => by
      rw [he] at hc
      obtain ⟨t, ht, rfl⟩ := List.mem_map.mp hc
      have := List.mem_range.mp ht
      omega
    refine ⟨?_, by rw [he]; simp, by rw [he]; simp; omega, ?_, fun l hl hm => ?_⟩
    · rw [he]
      intro e
      have : as.length = 0 := by simpa using congrArg List.length e
      exact h0 (List.eq_nil_of_length_eq_zero this)
    · refine List.nodup_cons.mpr ⟨fun hm => ?_, List.nodup_cons.mpr ⟨fun hm => ?_, List.nodup_cons.mpr ⟨fun hm => ?_, ?_⟩⟩⟩
      · simp only [List.mem_cons] at hm
        rcases hm with e | e | e
        · exact absurd (show (_ : Nat) = _ from e) (by omega)
        · exact absurd (show (_ : Nat) = _ from e) (by omega)
        · have := hi _ e; omega
      · simp only [List.mem_cons] at hm
        rcases hm with e | e
        · exact absurd (show (_ : Nat) = _ from e) (by omega)
        · have := hi _ e; omega
      · have := hi _ hm; omega
      · rw [he]
        exact (List.pairwise_map.mpr (List.nodup_range.imp (fun {a b} h e => h (Nat.add_left_cancel e))))
    · have := hle l hm
      have := htl l hl
      omega
  exact ⟨_, _, _, _, H, rfl, I2, turn_zipN D, hz, fun b hb => I.fpOk (hle b hb) (I.hok.fresh (hle b hb)), hR⟩
theorem pi_zipN {e : Expr} {es : List Expr} {ta : TA} {p pos : Pos} (hg : Gl X "zip") (hm : X.mg "zip" = none) (ha : PA X (e :: es) ta)
    (hs : starEach (e :: es) X.env = (false, eval e X.env) :: starEach es X.env := by rfl) (hpl : (backTo pos (starEach es X.env)).any (·.1) = false := by rfl) :
    PI X tg (.Call (.Name "zip" p) (e :: es) [] pos) (iZipN X.K ta) := by
  refine ⟨fun pins s σ H R I h => ?_⟩
  refine Call_ (ld_blt I hg hm PyProof.Rows.boot_zip (PyProof.Rows.callWith_type1 (thn (ha.run pos pins s σ H _ I h) fun us s1 ⟨vs, H1, I1, r1, q1⟩ => ?_) hs hpl))
  obtain ⟨kd, as, ex, h0, h4, ht, q⟩ := q1
  subst ex
  rw [vals_refs r1]
  exact zip_come I1 h0 h4 ht q
end
/-- the rows of a table: tuples or lists -/
def rowsD : List D → Option (List (List D))
  | [] => some []
  | .tuple r :: ds => (rowsD ds).map (r :: ·)
  | .list r :: ds => (rowsD ds).map (r :: ·)
  | _ :: _ => none
def kindsD : List D → List Bool
  | [] => []
  | .list _ :: ds => true :: kindsD ds
  | _ :: ds => false :: kindsD ds
/-- the least length -/
def leastL : Nat → List (List D) → Nat
  | n, [] => n
  | n, r :: rs => leastL (min n r.length) rs
theorem leastL_le : ∀ (n : Nat) (rs : List (List D)), leastL n rs ≤ n
  | n, [] => Nat.le_refl _
  | n, r :: rs => Nat.le_trans (leastL_le _ rs) (Nat.min_le_left ..)
theorem leastL_mem : ∀ (n : Nat) (rs : List (List D)) (r : List D), r ∈ rs → leastL n rs ≤ r.length
  | n, r' :: rs, r, h => by
    rcases List.mem_cons.mp h with rfl | h
    · exact Nat.le_trans (leastL_le _ rs) (Nat.min_le_right ..)
    · exact leastL_mem _ rs r h
theorem leastL_eq : ∀ (n : Nat) (rs : List (List D)), (∀ r ∈ rs, n ≤ r.length) → leastL n rs = n
  | n, [], _ => rfl
  | n, r :: rs, h => by
    unfold leastL
    rw [Nat.min_eq_left (h r List.mem_cons_self)]
    exact leastL_eq n rs fun x hx => h x (List.mem_cons_of_mem _ hx)
/-- the first that is that short -/
theorem leastL_at : ∀ (r : List D) (rs : List (List D)), ∃ (t : Nat) (x : List D), (r :: rs)[t]? = some x ∧ x.length = leastL r.length rs ∧ ∀ (u : Nat) (y : List D), u < t → (r :: rs)[u]? = some y → leastL r.length rs < y.length := by
  intro r rs
  have ex : ∃ (t : Nat) (x : List D), (r :: rs)[t]? = some x ∧ x.length = leastL r.length rs := by
    have gen : ∀ (n : Nat) (rs : List (List D)), leastL n rs = n ∨ ∃ x ∈ rs, x.length = leastL n rs := by
      intro n rs
      induction rs generalizing n with
      | nil => exact .inl rfl
      | cons a rs ih =>
        unfold leastL
        rcases ih (min n a.length) with h | ⟨x, hx, e⟩
        · rcases Nat.le_total n a.length with h2 | h2
          · left; rw [h, Nat.min_eq_left h2]
          · right; exact ⟨a, List.mem_cons_self, by rw [h, Nat.min_eq_right h2]⟩
        · exact .inr ⟨x, List.mem_cons_of_mem _ hx, e⟩
    rcases gen r.length rs with h | ⟨x, hx, e⟩
    · exact ⟨0, r, rfl, h.symm⟩
    · obtain ⟨t, ht⟩ := List.getElem?_of_mem hx
      exact ⟨t + 1, x, by simpa using ht, e⟩
  obtain ⟨t, x, h1, h2⟩ := ex
  induction t using Nat.strongRecOn generalizing x with
  | ind t ih =>
    by_cases hc : ∃ (u : Nat) (y : List D), u < t ∧ (r :: rs)[u]? = some y ∧ y.length = leastL r.length rs
    · obtain ⟨u, y, hu, e1, e2⟩ := hc
      exact ih u hu y e1 e2
    · refine ⟨t, x, h1, h2, fun u y hu e => ?_⟩
      have hle : leastL r.length rs ≤ y.length := by
        cases u with
        | zero => simp at e; subst e; exact leastL_le _ _
        | succ u => exact leastL_mem _ _ _ (List.mem_of_getElem? (by simpa using e))
      rcases Nat.lt_or_eq_of_le hle with h | h
      · exact h
      · exact absurd ⟨u, y, hu, e, h.symm⟩ hc
def zipD (ds : List D) : Option (List D) :=
  match rowsD ds with
  | some (r :: rs) => if rs.length ≤ 3 then some ((List.range (leastL r.length rs)).map fun i => .tuple ((r :: rs).map fun x => x.getD i .none)) else none
  | _ => none
theorem zipD_old {ds : List D} {r : List D} {rs : List (List D)} (h : rowsD ds = some (r :: rs)) (h3 : rs.length ≤ 3) (hl : ∀ x ∈ rs, r.length ≤ x.length) : zipD ds = some ((List.range r.length).map fun i => .tuple ((r :: rs).map fun x => x.getD i .none)) := by
  unfold zipD
  rw [h]
  simp only
  rw [if_pos h3, leastL_eq _ _ hl]
theorem rows_da {K : PySem.W.Frag} {G : Hp} : ∀ {ds : List D} {rs : List (List D)} {xs : List V}, DaAll K G xs ds → rowsD ds = some rs → ∃ as : List Addr, xs = as.map V.ref ∧ as.length = rs.length ∧ ∀ (t : Nat) (a : Addr), as[t]? = some a → ∃ row r, SqK ((kindsD ds).getD t false) K G a row ∧ rs[t]? = some r ∧ DaAll K G row r
  | [], rs, _, .nil, e => by cases e; exact ⟨[], rfl, rfl, fun t a h => by simp at h⟩
  | .tuple r :: ds, rs, _, .cons h hs, e => by
    unfold rowsD at e
    obtain ⟨rs', e', rfl⟩ := Option.map_eq_some_iff.mp e
    obtain ⟨as, ex, el, q⟩ := rows_da hs e'
    obtain ⟨a, xs, rfl, sq, da⟩ := h.toT
    refine ⟨a :: as, by rw [ex]; rfl, by simp [el], fun t b hb => ?_⟩
    cases t with
    | zero => simp at hb; subst hb; exact ⟨xs, r, sq, rfl, da⟩
    | succ t => exact q t b (by simpa using hb)
  | .list r :: ds, rs, _, .cons h hs, e => by
    unfold rowsD at e
    obtain ⟨rs', e', rfl⟩ := Option.map_eq_some_iff.mp e
    obtain ⟨as, ex, el, q⟩ := rows_da hs e'
    cases h with
    | lst hl da =>
      rename_i a xs
      refine ⟨a :: as, by rw [ex]; rfl, by simp [el], fun t b hb => ?_⟩
      cases t with
      | zero => simp at hb; subst hb; exact ⟨xs, r, SqL.of hl, rfl, da⟩
      | succ t => exact q t b (by simpa using hb)
  | .none :: _, _, _, .cons _ _, e => by cases e
  | .bool _ :: _, _, _, .cons _ _, e => by cases e
  | .int _ :: _, _, _, .cons _ _, e => by cases e
  | .str _ :: _, _, _, .cons _ _, e => by cases e
  | .dict _ :: _, _, _, .cons _ _, e => by cases e
theorem zipD_w {K : PySem.W.Frag} {G : Hp} {ds out : List D} {xs : List V} (da : DaAll K G xs ds) (e : zipD ds = some out) : ∃ (kd : Nat → Bool) (as : List Addr), xs = as.map V.ref ∧ as ≠ [] ∧ as.length ≤ 4 ∧ (∀ (t : Nat) (a : Addr), as[t]? = some a → ∃ row, SqK (kd t) K G a row) ∧ WalkD K G (Itn K kd as) out := by
  unfold zipD at e
  split at e
  · rename_i r rs er
    split at e
    · rename_i h3
      cases e
      obtain ⟨as, rfl, el, q⟩ := rows_da da er
      have hlen : ∀ (t : Nat) (x : List D), (r :: rs)[t]? = some x → leastL r.length rs ≤ x.length := fun t x hx => by
        cases t with
        | zero => simp at hx; subst hx; exact leastL_le _ _
        | succ t => exact leastL_mem _ _ x (List.mem_of_getElem? (by simpa using hx))
      refine ⟨fun t => (kindsD ds).getD t false, as, rfl, fun e => by subst e; simp at el, by simp at el; omega, fun t a ht => ?_, ?_, ?_, ?_⟩
      · obtain ⟨row, _, sq, _⟩ := q t a ht
        exact ⟨row, sq⟩
      · intro i H hi sm t a ht
        obtain ⟨row, x, sq, hx, dr⟩ := q t a ht
        have h1 := hlen t x hx
        have h2 := dr.length
        have h3 : i < row.length := by simp at hi; omega
        exact ⟨row, row[i], sq.mono sm, by simp [h3]⟩
      · intro H sm
        obtain ⟨t, x, hx, hxl, hpre⟩ := leastL_at r rs
        have ht : t < as.length := by rw [el]; exact (List.getElem?_eq_some_iff.mp hx).1
        obtain ⟨row, x', sq, hx', dr⟩ := q t as[t] (List.getElem?_eq_getElem ht)
        rw [hx] at hx'
        cases hx'
        refine ⟨t, as[t], row, List.getElem?_eq_getElem ht, sq.mono sm, by rw [dr.length, hxl]; simp, fun u b hu hb => ?_⟩
        obtain ⟨row', y, sq', hy, dr'⟩ := q u b hb
        have h1 := hpre u y hu hy
        have h2 := dr'.length
        have h3 : leastL r.length rs < row'.length := by omega
        exact ⟨row', row'[leastL r.length rs], sq'.mono sm, by simp [h3]⟩
      · intro i H G1 x H' hi sm s1 y
        obtain ⟨T, ys, rfl, hT, rfl, hyl, hy⟩ := y
        have hi' : i < leastL r.length rs := by simpa using hi
        refine ⟨.tuple ((r :: rs).map fun x => x.getD i .none), upd G1 T (.tup ys), by simp [hi'], Gr.alloc s1 hT, ?_⟩
        have gr := Gr.alloc (u := .tup ys) s1 hT
        refine .tup (.inl (.inl upd_same)) ?_
        have all : ∀ (bs : List Addr) (zs : List V) (rr : List (List D)), zs.length = bs.length → bs.length = rr.length → (∀ (t : Nat) (a : Addr), bs[t]? = some a → ∃ x row r', zs[t]? = some x ∧ row[i]? = some x ∧ rr[t]? = some r' ∧ DaAll K G row r') → DaAll K (upd G1 T (.tup ys)) zs (rr.map fun x => x.getD i .none) := by
          intro bs
          induction bs with
          | nil =>
            intro zs rr e1 e2 _
            obtain rfl := List.eq_nil_of_length_eq_zero (by simpa using e1)
            obtain rfl := List.eq_nil_of_length_eq_zero (by simpa using e2.symm)
            exact .nil
          | cons b bs ih =>
            intro zs rr e1 e2 hq
            cases zs with
            | nil => simp at e1
            | cons z zs =>
              cases rr with
              | nil => simp at e2
              | cons r1 rr =>
                refine .cons ?_ (ih zs rr (by simpa using e1) (by simpa using e2) fun t a ha => by
                  have := hq (t + 1) a (by simpa using ha)
                  simpa using this)
                obtain ⟨x, row, r', z1, z2, z3, z4⟩ := hq 0 b rfl
                simp at z1 z3
                subst z1 z3
                obtain ⟨d, z5, z6⟩ := z4.getV z2
                have : r1.getD i .none = d := by simp [List.getD, z5]
                show Da K _ z (r1.getD i .none)
                rw [this]
                exact z6.mono (sm.trans gr.g)
        refine all as ys (r :: rs) (by omega) el fun t a ha => ?_
        obtain ⟨row, x, sq, hx, dr⟩ := q t a ha
        obtain ⟨z, z1, z2⟩ := hy t a row ha (sq.mono (sm.subm s1))
        exact ⟨z, row, x, z1, z2, hx, dr⟩
    · cases e
  · cases e
section
variable {m : Type → Type} [Mo m] {X : Cx} {EX : XR} {g : List Sl} {tg : Expr}
/-- zip(a, b), tuples -/
theorem ij_zip2 {a b : Expr} {p pos : Pos} {x y : m D} (hm : X.mg "zip" = none) (h : EJ X EX a g x) (h2 : EJ X EX b g y) (hg : Gl X "zip" := by rfl)
    (hs' : starEach [a, b] X.env = (false, eval a X.env) :: starEach [b] X.env := by rfl) (hs2' : starEach [b] X.env = (false, eval b X.env) :: starEach [] X.env := by rfl) (hpl : (backTo pos (starEach [b] X.env)).any (·.1) = false := by rfl) :
    IJ X EX tg (.Call (.Name "zip" p) [a, b] [] pos) g (x >>= fun d => y >>= fun e => Mo.lift (zipD [d, e])) :=
  (pi_zipN hg hm (pa_cons h (pa_cons h2 pa_nil hs2') hs') hs' hpl).weak fun σ H R ⟨B, G, n, φ, ξ, o, s, q, xw⟩ => te_one o s (fun v H1 G1 d n1 o1 g1 d1 s1 => te_one o1 s1 (fun w H2 G2 e n2 o2 g2 d2 s2 => by
    obtain ⟨out, ed, pd⟩ := Mo.sat_lift s2
    obtain ⟨kd, as, ex, h0, h4, ht, wk⟩ := zipD_w (.cons (d1.mono g2) (.cons d2 .nil)) ed
    exact ⟨kd, as, ex, h0, h4, fun t b hb => by obtain ⟨row, z⟩ := ht t b hb; exact ⟨row, z.mono o2.fm.sub⟩, q _ H2 G2 out n2 o2 (g1.trans g2) wk pd⟩) xw) xw
end
end DD
namespace DD
open PySem PySem.Spec PyProof.Rows L2
/-! ### the law's call, where no repr runs around it -/
abbrev SysAt (h : Heap) : Prop := ∃ o es ep, h.get? sysModules = some o ∧ o.data = .dict es ep
def scrO (vs : List Value) : Obj := { cls := .type "list", data := .seq vs.toArray }
def scrH (K : PySem.W.Frag) (a : Addr) (vs : List Value) (ns : List Int) : Hp := fun b => if b = a ∧ K.lookup a = none then some (.frz (scrO vs) (.lst (ns.map V.int))) else none
theorem scr_at {K : PySem.W.Frag} {a b : Addr} {vs : List Value} {ns : List Int} {u : HO} (h : scrH K a vs ns b = some u) : b = a ∧ K.lookup a = none ∧ u = .frz (scrO vs) (.lst (ns.map V.int)) := by
  unfold scrH at h
  split at h
  · rename_i e
    cases h
    exact ⟨e.1, e.2, rfl⟩
  · cases h
theorem scr_seq {K : PySem.W.Frag} {h : Heap} {a : Addr} {vs : List Value} {ns : List Int} (KX : K.In h) (ha : h.get? a = some (scrO vs)) (hi : IntsAre vs ns) (hl : ns.length ≤ sizeLine) : SqL K (scrH K a vs ns) a (ns.map V.int) := by
  cases hk : K.lookup a with
  | none => exact .inl (.inr ⟨scrO vs, by unfold scrH; rw [if_pos ⟨rfl, hk⟩]⟩)
  | some o =>
    have e := (KX a o hk).symm.trans ha
    cases e
    exact .inr ⟨_, vs.toArray, _, hk, rfl, rfl, rfl, by rw [List.size_toArray, hi.length]; exact hl, by simpa using vals_ints hi⟩
theorem call_lawG {P : Program} {w : World} {K : PySem.W.Frag} {mg mb : Str → Option Value} {k : Nat} {fa a : Addr} {fd : FuncData} {x : Str} {sp : Sp} {s : Shared} {vs : List Value} {ns : List Int}
    (KX : K.In s.heap) (hns : s.heap.Ns mainGlobals mg) (hb : s.heap.Ns builtinsNs mb) (hbb : ∀ y : Str, y ≠ "__name__" → mb y = bootBuiltins y) (hlim : s.heap.NoLimit) (hy : SysAt s.heap) (hg : s.gens = #[])
    (ha : s.heap.get? a = some (scrO vs)) (hi : IntsAre vs ns) (hl : ns.length ≤ sizeLine) (hr : Room k callerA)
    (F : ∀ base : Heap, K.In base → base.Ns mainGlobals mg → SysAt base → FnG P w K mg base k fa fd [x] sp) (hbind : ∀ (s : Shared) (u : Value), BindsTo s fd ⟨[u], []⟩ [(x, u)])
    (hsp : ∀ H : Hp, SqL K H a (ns.map V.int) → sp [.ref a] H (fun v _ => v = .bl true) E0) :
    codeAny (model P w) callerA (.call (.ref fa) ⟨[.ref a], []⟩) (fun r s' => r = .ok (.ret (.bool true)) ∧ OldK s.heap s'.heap ∧ s'.os = s.os ∧ AllBare s'.gens) s := by
  have hok : HOk P w (scrH K a vs ns) s.heap := fun b u z => by
    obtain ⟨rfl, _, rfl⟩ := scr_at z
    exact ⟨ha, by rw [List.length_map]; exact hl, vs, _, vals_ints hi, ha⟩
  have noA : ∀ {b : Addr} {o : Obj} {es : Array DictEntry} {ep : Nat}, s.heap.get? b = some o → o.data = .dict es ep → scrH K a vs ns b = none := fun {b o es ep} e d => by
    cases q : scrH K a vs ns b with
    | none => rfl
    | some u =>
      obtain ⟨rfl, _, _⟩ := scr_at q
      rw [ha] at e
      cases e
      exact absurd (show Data.seq vs.toArray _ = Data.dict es ep from d) (by simp)
  have nsK : ∀ {b : Addr} {m : Str → Option Value}, s.heap.Ns b m → (hidT s.heap (scrH K a vs ns)).Ns b m := fun ⟨o, es, ep, e, d, r⟩ => ⟨o, es, ep, hidT_get e (noA e d), d, r⟩
  have hKb : K.In (hidT s.heap (scrH K a vs ns)) := fun b o e => hidT_get (KX b o e) (by
    cases q : scrH K a vs ns b with
    | none => rfl
    | some u =>
      obtain ⟨rfl, hn, _⟩ := scr_at q
      rw [hn] at e
      cases e)
  have hyb : SysAt (hidT s.heap (scrH K a vs ns)) := let ⟨o, es, ep, e, d⟩ := hy; ⟨o, es, ep, hidT_get e (noA e d), d⟩
  have hM : Mod K mg (hidT s.heap (scrH K a vs ns)) := ⟨hKb, nsK hns, ⟨mb, nsK hb, hbb⟩, let ⟨mc, h1, h2⟩ := hlim; ⟨mc, nsK h1, h2⟩⟩
  have nil : ∀ b : Addr, ¬ b ∈ frs ([] : List Env) := fun b h => by simp [frs] at h
  have e0 : Env0 P w K mg (hidT s.heap (scrH K a vs ns)) callerA [] s (scrH K a vs ns) := ⟨rfl, hM, fun b o e => of_hidT e, Nat.le_of_eq (hidT_size _ _), trivial, fun b h => absurd h (nil b), hok, .of_eq hg⟩
  refine codeAny_mono ((F _ hKb (nsK hns) hyb).run callerA [] s _ ⟨[.ref a], []⟩ [.ref a] [.ref a] _ _ hr rfl e0 (hbind s (.ref a)) (.cons rfl .nil) (hsp _ (scr_seq KX ha hi hl))) fun r s' h => ?_
  match r, h with
  | .error _, h => exact False.elim h
  | .ok (.ret u), ⟨v, H', os, bare, un, hok', r', q⟩ =>
    have q' : v = .bl true := q
    subst q'
    obtain rfl : u = Value.bool true := r'
    refine ⟨rfl, OldK.of_keep fun b o e => ?_, os, bare⟩
    cases q : scrH K a vs ns b with
    | none => exact un.keep b o e q (nil b) (by simp)
    | some z =>
      obtain ⟨rfl, _, rfl⟩ := scr_at q
      rw [ha] at e
      cases e
      exact (hok' _ _ (un.frzs _ _ _ q)).1
theorem walk_g {l : PySem.W.OpenLaw} {n k : Nat} {q : Program} {loose : List Str} {XP : (Str → Option Value) → Heap → Prop} {YP : World → Heap → Prop} {d : DefRec} {K : Params → PySem.W.Frag} {sp : World → Sp} {x : Str}
    (hn : l.most = some n) (hn2 : n ≤ sizeLine) (hdf : d.params.defaults = []) (hr : Room k callerA) (himp : importsNone q = true) (hY : ∀ (w : World) (h : Heap), YP w h → (K w.params).In h)
    (F : ∀ (w : World) (mg : Str → Option Value) (fa : Addr) (h : Heap), (K w.params).In h → h.Ns mainGlobals mg → mg d.name = some (.ref fa) →
      ∃ fd : FuncData, (∀ (s : Shared) (u : Value), BindsTo s fd ⟨[u], []⟩ [(x, u)]) ∧ ∀ base : Heap, (K w.params).In base → base.Ns mainGlobals mg → SysAt base → FnG l.prog w (K w.params) mg base k fa fd [x] (sp w))
    (hsp : ∀ (w : World) (H : Hp) (a : Addr) (ns : List Int), ns.length ≤ n → SqL (K w.params) H a (ns.map V.int) → sp w [.ref a] H (fun v _ => v = .bl true) E0) :
    PySem.W.WalkO q loose XP YP l.row.toRowW d [] (fun f vs => PySem.call f vs) := by
  refine Att.attach_call hn hdf fun w s0 s1 mg mb fa o pm cd doc a vs ns G Y ho hd hcd hmg hobj hints hlen hg => ?_
  obtain ⟨fd, hb, hF⟩ := F w mg fa _ (hY w _ Y) G.T.g hmg
  have hy : SysAt s1.heap := let ⟨_, ⟨o, es, ep, e, d, _⟩, _⟩ := (G.T.seer himp).mods; ⟨o, es, ep, e, d⟩
  exact call_lawG (hY w _ Y) G.T.g G.T.b G.T.builtins G.T.nolimit hy hg hobj hints (Nat.le_trans hlen hn2) hr hF hb fun H hS => hsp w H a ns hlen hS
end DD
namespace DD
open PySem PySem.Spec PyProof.Rows L2
/-! ### the deck: made, drawn from -/
def spLaw (K : PySem.W.Frag) : Sp := fun vs H Q _ => ∃ (a : Addr) (ns : List Int), vs = [.ref a] ∧ SqL K H a (ns.map V.int) ∧ ∀ H', Q (.bl true) H'
theorem FnG.weak {P : Program} {w : World} {K : PySem.W.Frag} {mg : Str → Option Value} {base : Heap} {k : Nat} {f : Addr} {fd : FuncData} {ps : List Str} {sp sp' : Sp} (F : FnG P w K mg base k f fd ps sp) (h : ∀ vs H Q E, sp' vs H Q E → sp vs H Q E) : FnG P w K mg base k f fd ps sp' :=
  ⟨fun vs H Q E q => F.len vs H Q E (h _ _ _ _ q), fun A outer s H args us vs Q E r gu e b v q => F.run A outer s H args us vs Q E r gu e b v (h _ _ _ _ q)⟩
end DD
namespace DD
open PySem PySem.Spec PyProof.Rows L2
/-! ### the deck's own code: what it means -/
theorem same_new {H : Hp} {p : Addr} (h : H p = none) (o : HO) : Same H (upd H p o) := same_upd h
theorem line63 {n : Nat} (h : n ≤ 1000) : n ≤ sizeLine := Nat.le_trans h (by decide)
/-- a comprehension's scope, checked -/
def blkB (N : List Str) (sc scope : Scope) (own : List (Str × Nat)) : Bool :=
  decide (scope.kind = .function) && scope.names.all (fun y => decide (scope.names.lookup y.1 = some y.2)) && own.all (fun p => decide (N[p.2]? = some p.1)) &&
  scope.names.all (fun y => !decide (y.2 = .free) || (decide (sc.names.lookup y.1 = some .cell) || decide (sc.names.lookup y.1 = some .free))) &&
  scope.names.all (fun y => !(decide (y.2 = .local) || decide (y.2 = .cell)) || (decide (y.1 ∈ own.map (·.1)) || !decide (y.1 ∈ N)))
theorem blk_of {N : List Str} {sc scope : Scope} {own : List (Str × Nat)} (h : blkB N sc scope own = true) : BlkOk N sc scope own := by
  unfold blkB at h
  simp only [Bool.and_eq_true, List.all_eq_true, Bool.or_eq_true, Bool.not_eq_true', decide_eq_true_eq, decide_eq_false_iff_not, Bool.or_eq_false_iff] at h
  obtain ⟨⟨⟨⟨h1, h2⟩, h3⟩, h4⟩, h5⟩ := h
  refine ⟨h1, h2, h3, fun y hy e => ?_, fun y hy e => ?_⟩
  · rcases h4 y hy with z | z
    · exact absurd e z
    · exact z
  · rcases h5 y hy with z | z
    · rcases e with e | e
      · exact absurd e z.1
      · exact absurd e z.2
    · exact z
theorem atI_at {α : Type} {xs : List α} {i : Int} {j : Nat} {x : α} (h : i = (j : Int)) (e : xs[j]? = some x) : atI xs i = some x := by
  subst h
  exact atI_nat e
theorem ixN_at {n : Nat} {i : Int} {j : Nat} (h : i = (j : Int)) (e : j < n) : ixN n i = some j := by
  subst h
  unfold ixN
  rw [if_pos (by omega), if_pos (by omega)]
  simp
end DD
namespace DD
open PySem PySem.Spec PyProof.Rows L2
/-! ### mirrors' words -/
section
variable {m : Type → Type} [Mo m]
abbrev op2 (f : D → D → Option D) (x y : m D) : m D := x >>= fun dx => y >>= fun dy => Mo.lift (f dx dy)
abbrev op1 (f : D → Option D) (x : m D) : m D := x >>= fun d => Mo.lift (f d)
abbrev cmp2 (f : D → D → Option D) (x y : m D) : m Bool := x >>= fun dx => y >>= fun dy => Mo.lift ((f dx dy).bind boolD)
abbrev chain3 (f f' : D → D → Option D) (x y z : m D) : m D := x >>= fun dx => y >>= fun dy => Mo.lift ((f dx dy).bind boolD) >>= fun k => if k = true then (z >>= fun dz => Mo.lift (f' dy dz)) else pure (.bool false)
abbrev tst (x : m D) : m Bool := x >>= fun d => Mo.lift (boolD d)
abbrev notB (x : m Bool) : m Bool := x >>= fun b => pure (!b)
abbrev andB (x y : m Bool) : m Bool := x >>= fun k => if k = true then y else pure false
abbrev orB (x y : m Bool) : m Bool := x >>= fun k => if k = true then pure true else y
abbrev andD (x y : m D) : m D := x >>= fun d => Mo.lift (boolD d) >>= fun k => if k = true then y else pure (.bool false)
abbrev orD (x y : m D) : m D := x >>= fun d => Mo.lift (boolD d) >>= fun k => if k = true then pure (.bool true) else y
abbrev iteM {α : Type} (t : m Bool) (x y : m α) : m α := t >>= fun k => if k = true then x else y
abbrev consM (x : m D) (y : m (List D)) : m (List D) := x >>= fun d => y >>= fun ds => pure (d :: ds)
abbrev starM (x : m D) (y : m (List D)) : m (List D) := x >>= fun d => Mo.lift (itemsD d) >>= fun as => y >>= fun ds => pure (as ++ ds)
abbrev smallM (x : m (List D)) : m (List D) := x >>= fun ds => Mo.lift (small ds)
abbrev tupM (x : m (List D)) : m D := x >>= fun ds => pure (.tuple ds)
abbrev tupSM (x : m (List D)) : m D := x >>= fun ds => Mo.lift (small ds) >>= fun ds => pure (.tuple ds)
abbrev lstM (x : m (List D)) : m D := x >>= fun ds => pure (.list ds)
abbrev argV (x : m D) (y : m (List Sl)) : m (List Sl) := x >>= fun d => y >>= fun as => pure (.val d :: as)
abbrev argK (y : m (List Sl)) : m (List Sl) := y >>= fun as => pure (.deck :: as)
abbrev comp1 (x : m (List D)) (f : D → m D) : m (List D) := x >>= fun ds => Mo.lift (small ds) >>= fun ds => lcA (fun d => someM (f d)) ds []
abbrev comp1i (x : m (List D)) (t : D → m Bool) (f : D → m D) : m (List D) := x >>= fun ds => Mo.lift (small ds) >>= fun ds => lcA (fun d => ifM (t d) (f d)) ds []
abbrev comp2 (x : m (List D)) (f : D → D → m D) : m (List D) := x >>= fun ds => Mo.lift (small ds) >>= fun ds => lcA (fun d => pairM d fun a b => someM (f a b)) ds []
abbrev comp2i (x : m (List D)) (t : D → D → m Bool) (f : D → D → m D) : m (List D) := x >>= fun ds => Mo.lift (small ds) >>= fun ds => lcA (fun d => pairM d fun a b => ifM (t a b) (f a b)) ds []
abbrev seqM (x : m D) : m (List D) := x >>= fun d => Mo.lift (itemsD d)
abbrev rng1 (x : m D) : m (List D) := x >>= fun d => Mo.lift (rangeD1 d)
abbrev rng2 (x y : m D) : m (List D) := x >>= fun d => y >>= fun e => Mo.lift (rangeD2 d e)
abbrev zipSM (x : m D) : m (List D) := x >>= fun d => Mo.lift ((itemsD d).bind zipD)
abbrev zip2M (x y : m D) : m (List D) := x >>= fun d => y >>= fun e => Mo.lift (zipD [d, e])
abbrev zip3M (x y z : m D) : m (List D) := x >>= fun d => y >>= fun e => z >>= fun f => Mo.lift (zipD [d, e, f])
abbrev partM (x : m D) : m (Option Int) := x >>= fun d => Mo.lift (oint d)
abbrev slcM (x : m D) (y z : m (Option Int)) : m D := x >>= fun d => y >>= fun l => z >>= fun h => Mo.lift (sliceD d l h)
abbrev isiM (T : String) (x : m D) : m D := x >>= fun d => pure (.bool (isiB T d))
abbrev rtM {A : Type} (x : m D) : m (Fl A) := x >>= fun d => pure (.rt d)
abbrev forM1 {A : Type} (x : m (List D)) (a0 : A) (b : D → A → m (Fl A)) : m (Fl A) := x >>= fun ds => loopM b ds a0
abbrev forM2 {A : Type} (x : m (List D)) (a0 : A) (b : D → D → A → m (Fl A)) : m (Fl A) := x >>= fun ds => loopM (fun d a => pairM d fun u w => b u w a) ds a0
abbrev parM {α β : Type} (x : m α) (y : m β) : m (α × β) := x >>= fun d => y >>= fun e => pure (d, e)
def pairD : D → Option (D × D)
  | .tuple [a, b] => some (a, b)
  | _ => none
def tripD : D → Option (D × D × D)
  | .tuple [a, b, c] => some (a, b, c)
  | _ => none
abbrev unp2 (x : m D) : m (D × D) := x >>= fun d => Mo.lift (pairD d)
abbrev unp3 (x : m D) : m (D × D × D) := x >>= fun d => Mo.lift (tripD d)
end
abbrev upW (o : Option D) : W D := Up.up (m' := Option) (m := W) o
/-! ### defs by their names -/
structure Def (P : Program) (w : World) (K : PySem.W.Frag) (mg : Str → Option Value) (base : Heap) (k : Nat) (x : Str) (ps : List Str) (sp : Sp) : Prop where
  ex : ∃ f fd, FnG P w K mg base k f fd ps sp ∧ mg x = some (.ref f) ∧ PySem.W.keepIn K (.ref f) = true ∧ Binds K fd ps []
section
variable {m : Type → Type} [Mo m] {A : Type} {X : Cx} {EX : XR} {g : List Sl} {k : Nat} {ps : List Str}
theorem ej_callD {x : Str} {p pos : Pos} {e : Expr} {es : List Expr} {F : List Sl → m D} {y : m (List Sl)} [Calm m] (Fn : Def X.prog X.w X.K X.mg X.base k x ps (spJ X.K F)) (hr : Room k X.A) (gu : X.A.guards = some [])
    (ha : AJ X EX (e :: es) g y) (hg : Gl X x := by rfl) (hd : (x == ("__debug__" : Str)) = false := by decide) (he : starEach (e :: es) X.env = (false, eval e X.env) :: starEach es X.env := by rfl) (hpl : (backTo pos (starEach es X.env)).any (·.1) = false := by rfl) :
    EJ X EX (.Call (.Name x p) (e :: es) [] pos) g (y >>= F) := by
  obtain ⟨f, fd, h1, h2, h3, h4⟩ := Fn.ex
  exact ej_call h1 hr gu h2 h3 h4 ha hg hd he hpl
theorem units_of {A : Around} {k : Nat} (h : Room k A) : A.units + 64 < cLine := by
  have := h.un
  omega
end
section
variable {m : Type → Type} [Mo m] {P : Program} {w : World} {K : PySem.W.Frag} {mg : Str → Option Value} {base : Heap} {k : Nat} {x qual : Str} {st : Stmt} {f : Addr} {fd : FuncData} {N ps : List Str}
def ar1 (F : D → m D) : List Sl → m D
  | [.val a0] => F a0
  | _ => Mo.lift none
theorem fn_ar1 {F : D → m D} (Fu : Fun K x qual st f fd) (S : FnScope N ps (defScope st)) (hl : ps.length = 1)
    (hb : ∀ (a0 : D), ∀ (cdv : Value) (A : Around) (outer : List Env) (s : Shared) (H : Hp) (E : XK), Room k (A.deeper (envOfC qual (defScope st) s.heap.objs.size f cdv)) → A.guards = some [] →
      FJ (cxOf CX0 P w K mg base N qual (defScope st) f cdv A outer s H E).nox X0 true (defBody st) ([Sl.val a0] ++ List.replicate (N.length - 1) .any) (F a0)) : FnG P w K mg base (k + 1) f fd ps (spJ K (ar1 F)) := by
  refine fn_j Fu S fun as n φ s => ?_
  unfold ar1 at s
  split at s
  · exact ⟨hl.symm, hb _⟩
  · obtain ⟨_, e, _⟩ := Mo.sat_lift s
    cases e
def ar2 (F : D → D → m D) : List Sl → m D
  | [.val a0, .val a1] => F a0 a1
  | _ => Mo.lift none
theorem fn_ar2 {F : D → D → m D} (Fu : Fun K x qual st f fd) (S : FnScope N ps (defScope st)) (hl : ps.length = 2)
    (hb : ∀ (a0 : D) (a1 : D), ∀ (cdv : Value) (A : Around) (outer : List Env) (s : Shared) (H : Hp) (E : XK), Room k (A.deeper (envOfC qual (defScope st) s.heap.objs.size f cdv)) → A.guards = some [] →
      FJ (cxOf CX0 P w K mg base N qual (defScope st) f cdv A outer s H E).nox X0 true (defBody st) ([Sl.val a0, Sl.val a1] ++ List.replicate (N.length - 2) .any) (F a0 a1)) : FnG P w K mg base (k + 1) f fd ps (spJ K (ar2 F)) := by
  refine fn_j Fu S fun as n φ s => ?_
  unfold ar2 at s
  split at s
  · exact ⟨hl.symm, hb _ _⟩
  · obtain ⟨_, e, _⟩ := Mo.sat_lift s
    cases e
def ar3 (F : D → D → D → m D) : List Sl → m D
  | [.val a0, .val a1, .val a2] => F a0 a1 a2
  | _ => Mo.lift none
theorem fn_ar3 {F : D → D → D → m D} (Fu : Fun K x qual st f fd) (S : FnScope N ps (defScope st)) (hl : ps.length = 3)
    (hb : ∀ (a0 : D) (a1 : D) (a2 : D), ∀ (cdv : Value) (A : Around) (outer : List Env) (s : Shared) (H : Hp) (E : XK), Room k (A.deeper (envOfC qual (defScope st) s.heap.objs.size f cdv)) → A.guards = some [] →
      FJ (cxOf CX0 P w K mg base N qual (defScope st) f cdv A outer s H E).nox X0 true (defBody st) ([Sl.val a0, Sl.val a1, Sl.val a2] ++ List.replicate (N.length - 3) .any) (F a0 a1 a2)) : FnG P w K mg base (k + 1) f fd ps (spJ K (ar3 F)) := by
  refine fn_j Fu S fun as n φ s => ?_
  unfold ar3 at s
  split at s
  · exact ⟨hl.symm, hb _ _ _⟩
  · obtain ⟨_, e, _⟩ := Mo.sat_lift s
    cases e
def dk1 (F : D → m D) : List Sl → m D
  | [.deck, .val a0] => F a0
  | _ => Mo.lift none
end
end DD
namespace DD
open PySem PySem.Spec PyProof.Rows L2
/-! ### reasoning about mirrors that draw: at most b draws, then φ -/
def Tri {α : Type} (b : Nat) (x : W α) (φ : α → Prop) : Prop := ∀ (n : Nat) (ψ : α → Nat → Prop), n + b ≤ 2 ^ 40 → (∀ a n', n' ≤ n + b → φ a → ψ a n') → x n ψ
section
variable {α β : Type} {b c : Nat}
theorem Tri.pure {a : α} {φ : α → Prop} (h : φ a) : Tri 0 (Pure.pure a : W α) φ := fun n ψ _ q => q a n (Nat.le_refl _) h
theorem Tri.bind {x : W α} {f : α → W β} {φ : α → Prop} {χ : β → Prop} (h : Tri b x φ) (hf : ∀ a, φ a → Tri c (f a) χ) : Tri (b + c) (x >>= f) χ := fun n ψ hn q =>
  h n (fun a n' => f a n' ψ) (by omega) fun a n' hn' ha => hf a ha n' ψ (by omega) fun a2 n2 h2 p2 => q a2 n2 (by omega) p2
theorem Tri.lift {o : Option α} {a : α} {φ : α → Prop} (e : o = some a) (h : φ a) : Tri 0 (Mo.lift o : W α) φ := fun n ψ _ q => ⟨a, e, q a n (Nat.le_refl _) h⟩
theorem Tri.mono {x : W α} {φ χ : α → Prop} (h : Tri b x φ) (hb : b ≤ c) (hp : ∀ a, φ a → χ a) : Tri c x χ := fun n ψ hn q => h n ψ (by omega) fun a n' hn' ha => q a n' (by omega) (hp a ha)
theorem Tri.le {x : W α} {φ : α → Prop} (h : Tri b x φ) (hb : b ≤ c) : Tri c x φ := h.mono hb fun _ z => z
theorem Tri.up {o : Option D} {a : D} {φ : D → Prop} (e : o = some a) (h : φ a) : Tri 0 (upW o) φ := fun n ψ _ q => ⟨a, e, q a n (Nat.le_refl _) h⟩
/-- behind a loop: it went on, or handed back -/
def Post {A : Type} (I : A → Prop) (R : D → Prop) : Fl A → Prop
  | .nx a => I a
  | .rt v => R v
theorem Tri.sat {x : W D} {φ : D → Prop} (h : Tri b x φ) (hb : b ≤ 2 ^ 40) : Mo.sat x 0 (fun d _ => φ d) (fun _ _ => False) := ⟨rfl, h 0 (fun d _ => φ d) (by omega) fun _ _ _ z => z⟩
end
/-! ### mirrors that do not draw -/
theorem lcA_map {f : D → Option D} {g : D → D} : ∀ (ds acc : List D), (∀ d ∈ ds, f d = some (g d)) → lcA (m := Option) (fun d => someM (f d)) ds acc = some (acc ++ ds.map g)
  | [], acc, _ => by simp [lcA]
  | d :: ds, acc, h => by
    show ((f d >>= fun y => Pure.pure (some y)) >>= fun o => lcA (m := Option) (fun d => someM (f d)) ds (acc ++ o.toList)) = _
    rw [h d List.mem_cons_self]
    show lcA (m := Option) (fun d => someM (f d)) ds (acc ++ [g d]) = _
    rw [lcA_map ds (acc ++ [g d]) fun d hd => h d (List.mem_cons_of_mem _ hd)]
    simp
/-! ### tuples of ints -/
abbrev tI (r : List Int) : D := .tuple (r.map .int)
abbrev tT (rows : List (List Int)) : D := .tuple (rows.map tI)
theorem ints_of : ∀ r : List Int, intsD (r.map .int) = some r
  | [] => rfl
  | i :: r => by
    show (intsD (r.map .int)).map (i :: ·) = _
    rw [ints_of r]
    rfl
/-! ### what repr shows -/
mutual
def smallB : D → Bool
  | .none => true
  | .bool _ => true
  | .int i => decide (i.natAbs < 10 ^ 20)
  | .str x => PyData.strOk x && decide ((PyData.str x).shown.length ≤ 28)
  | .list xs => smallAll xs
  | .tuple xs => smallAll xs
  | .dict _ => false
def smallAll : List D → Bool
  | [] => true
  | x :: xs => smallB x && smallAll xs
end
mutual
def nodes : D → Nat
  | .list xs => nodesAll xs + 1
  | .tuple xs => nodesAll xs + 1
  | _ => 1
def nodesAll : List D → Nat
  | [] => 0
  | x :: xs => nodes x + nodesAll xs
end
theorem int_len {i : Int} (h : i.natAbs < 10 ^ 20) : (Str.ofString (toString i)).length ≤ 21 := by
  rw [PySem.ofString_length, Int.toString_eq_repr, Int.repr_eq_if]
  split
  · exact Nat.le_trans ((Nat.length_repr_le_iff (k := 20) (by decide)).mpr (by omega)) (by decide)
  · rw [String.length_append]
    have := (Nat.length_repr_le_iff (n := (-i).toNat) (k := 20) (by decide)).mpr (by omega)
    have e : ("-" : String).length = 1 := by decide
    omega
theorem log_lt {i : Int} (h : i.natAbs < 10 ^ 20) : i.natAbs.log2 < 1920 := by
  by_cases h0 : i.natAbs = 0
  · rw [h0]; decide
  · exact Nat.lt_of_lt_of_le ((Nat.log2_lt h0).mpr (Nat.lt_of_lt_of_le h (show 10 ^ 20 ≤ 2 ^ 70 by decide))) (by decide)
theorem list_len (ts : List Str) : (listText ts).length ≤ 2 + piled ts := by
  unfold listText
  rw [strLen_append]
  have e : ((("]" : String) : Str)).length = 1 := rfl
  cases ts with
  | nil =>
    show ((("[" : String) : Str)).length + _ ≤ _
    have e' : ((("[" : String) : Str)).length = 1 := rfl
    rw [e, e', piled_nil]
    omega
  | cons t r =>
    show (textFrom 1 (Str.ofString "[" ++ Str.ofString (if 0 > 0 then ", " else "") ++ t) r).length + _ ≤ _
    rw [textFrom_length_pos r 1 _ (by decide), strLen_append, strLen_append, piled_cons, e]
    have e' : (Str.ofString "[").length = 1 := rfl
    have e2 : (Str.ofString (if 0 > 0 then ", " else "")).length = 0 := rfl
    omega
theorem tup_len (ts : List Str) : (tupleText ts).length ≤ 3 + piled ts := by
  unfold tupleText
  rw [strLen_append, strLen_append]
  have e1 : ((("(" : String) : Str)).length = 1 := rfl
  have e3 : (((if ts.length == 1 then ",)" else ")" : String) : Str)).length ≤ 2 := by split <;> decide
  by_cases h : ts = []
  · subst h
    have e2 : (Str.join (Str.ofString ", ") []).length = 0 := rfl
    rw [e1, e2]
    omega
  · have := join_length_add ts h
    rw [e1]
    omega
mutual
theorem shown_len : ∀ d : D, smallB d = true → d.shown.length + 2 ≤ 30 * nodes d ∧ d.showable = true ∧ d.depth ≤ nodes d
  | .none, _ => ⟨by decide, rfl, by decide⟩
  | .bool b, _ => ⟨by cases b <;> decide, rfl, by cases b <;> decide⟩
  | .int i, h => by
    have h' : i.natAbs < 10 ^ 20 := of_decide_eq_true h
    refine ⟨?_, decide_eq_true (log_lt h'), by simp [PyData.depth, nodes]⟩
    have := int_len h'
    show (Str.ofString (toString i)).length + 2 ≤ 30 * 1
    omega
  | .str x, h => by
    have h' : PyData.strOk x = true ∧ (PyData.str x).shown.length ≤ 28 := by
      have : (PyData.strOk x && decide ((PyData.str x).shown.length ≤ 28)) = true := h
      simpa using this
    refine ⟨?_, rfl, by simp [PyData.depth, nodes]⟩
    show (PyData.str x).shown.length + 2 ≤ 30 * 1
    omega
  | .list xs, h => by
    obtain ⟨h1, h2, h3⟩ := shownAll_len xs h
    refine ⟨?_, h2, ?_⟩
    · show (listText (PyData.shownAll xs)).length + 2 ≤ 30 * (nodesAll xs + 1)
      have := list_len (PyData.shownAll xs)
      omega
    · simp only [PyData.depth, nodes]
      omega
  | .tuple xs, h => by
    obtain ⟨h1, h2, h3⟩ := shownAll_len xs h
    refine ⟨?_, h2, ?_⟩
    · show (tupleText (PyData.shownAll xs)).length + 2 ≤ 30 * (nodesAll xs + 1)
      have := tup_len (PyData.shownAll xs)
      omega
    · simp only [PyData.depth, nodes]
      omega
  | .dict _, h => by cases h
theorem shownAll_len : ∀ xs : List D, smallAll xs = true → piled (PyData.shownAll xs) ≤ 30 * nodesAll xs ∧ PyData.showableAll xs = true ∧ PyData.depthAll xs ≤ nodesAll xs
  | [], _ => ⟨by simp [PyData.shownAll, piled], rfl, by simp [PyData.depthAll]⟩
  | x :: xs, h => by
    have h' : smallB x = true ∧ smallAll xs = true := by
      have : (smallB x && smallAll xs) = true := h
      simpa using this
    obtain ⟨a1, a2, a3⟩ := shown_len x h'.1
    obtain ⟨b1, b2, b3⟩ := shownAll_len xs h'.2
    refine ⟨?_, ?_, ?_⟩
    · show piled (x.shown :: PyData.shownAll xs) ≤ 30 * (nodes x + nodesAll xs)
      rw [piled_cons]
      omega
    · show (x.showable && PyData.showableAll xs) = true
      rw [a2, b2]
      rfl
    · show _ ≤ nodes x + nodesAll xs
      simp only [PyData.depthAll]
      omega
end
theorem repr_ok {d : D} (h : smallB d = true) (hn : nodes d ≤ 30000) (hd : d.depth ≤ 50) : reprD d = some (.str d.shown) := by
  obtain ⟨a, b, c⟩ := shown_len d h
  unfold reprD
  rw [if_pos ⟨b, by omega, hd⟩]
/-! ### drawing mirrors' shapes -/
theorem small_ok {ds : List D} (h : ds.length ≤ 1000000) : small ds = some ds := by
  unfold small
  rw [if_pos h]
theorem rangeL_length (lo : Int) (n : Nat) : (rangeL lo n).length = n := by simp [rangeL]
theorem range1_ok {k : Int} (h1 : k < 2 ^ 62) (h0 : -(2 ^ 62) < k) : rangeD1 (.int k) = some (rangeL 0 k.toNat) := by
  show (if k.natAbs < 2 ^ 62 then some (rangeL 0 k.toNat) else none) = _
  rw [if_pos (by omega)]
theorem ints_ex {P : Int → Prop} : ∀ es : List D, (∀ e ∈ es, ∃ r : Int, e = .int r ∧ P r) → ∃ rs : List Int, es = rs.map .int ∧ ∀ r ∈ rs, P r
  | [], _ => ⟨[], rfl, fun r h => by simp at h⟩
  | e :: es, h => by
    obtain ⟨r, rfl, hr⟩ := h e List.mem_cons_self
    obtain ⟨rs, rfl, hs⟩ := ints_ex es fun e he => h e (List.mem_cons_of_mem _ he)
    exact ⟨r :: rs, rfl, fun x hx => (List.mem_cons.mp hx).elim (fun z => z ▸ hr) (hs x)⟩
theorem eq_str (x y : Str) : eqD (.str x) (.str y) = some (.bool (decide (x = y))) := rfl
theorem ne_str (x y : Str) : neD (.str x) (.str y) = some (.bool (!decide (x = y))) := rfl
section
variable {α β : Type} {b c d : Nat}
theorem Tri.st {x : W α} {f : α → W β} {φ : α → Prop} {χ : β → Prop} (h : Tri b x φ) (hf : ∀ a, φ a → Tri (d - b) (f a) χ) (hd : b ≤ d := by decide) : Tri d (x >>= f) χ := (h.bind hf).le (by omega)
end
/-! ### columns -/
abbrev col (rows : List (List Int)) (i : Nat) : List Int := rows.map fun r => r.getD i 0
theorem ob_pure {α β : Type} (a : α) (f : α → Option β) : ((Pure.pure a : Option α) >>= f) = f a := rfl
theorem ob_some {α β : Type} (a : α) (f : α → Option β) : (some a >>= f) = f a := rfl
theorem ob_lift {α : Type} (o : Option α) : (Mo.lift o : Option α) = o := rfl
section
variable {b c d : Nat}
theorem Tri.nx {A : Type} {a : A} {I : A → Prop} {R : D → Prop} (h : I a) : Tri d (Pure.pure (Fl.nx a) : W (Fl A)) (Post I R) := (Tri.pure (φ := Post I R) (a := Fl.nx a) h).le (Nat.zero_le _)
theorem Tri.rt {A : Type} {v : D} {I : A → Prop} {R : D → Prop} (h : R v) : Tri d (Pure.pure (Fl.rt v) : W (Fl A)) (Post I R) := (Tri.pure (φ := Post I R) (a := Fl.rt v) h).le (Nat.zero_le _)
end
end DD
namespace DD
open PySem PySem.Spec PyProof.Rows L2
/-! ### enumerate(tuple) -/
def enO (it : Addr) : Obj := { cls := .type "enumerate", data := .fields #[.none, .bool false, .ref it, rawInt 0, .none, .none] }
def tiO (l : Addr) : Obj := { cls := .type "tuple_iterator", data := .fields #[.ref l, .int 0 0] }
theorem meets_enT (l : Addr) (items : Array Value) : Meets (Builtin.«enumerate.__new__» ⟨[.type "enumerate", .ref l], []⟩) (fun _ R s => s.heap.IsTuple l items ∧ R (.ok (.ret (.ref (s.heap.push (tiO l)).objs.size))) { s with heap := (s.heap.push (tiO l)).push (enO s.heap.objs.size) }) :=
  .of_wp fun prog w A R s h => by
    obtain ⟨hp, g, d, tk, os⟩ := s
    obtain ⟨hl, h⟩ := h
    have hsub := sub_enumerate
    have q1 : ∀ {A' : Around} {E : Value → Shared → Prop} {Q : Value → Shared → Prop}, Q (.ref hp.objs.size) ⟨hp.push (tiO l), g, d, tk, os⟩ → wpAny (model prog w) A' (pyIter (.ref l)) Q E ⟨hp, g, d, tk, os⟩ := fun q => wpAny_pyIter_tuple hl q
    wp_walk using q1
    refine wpAny_stack_any fun st => wpAny_pure ?_
    split
    · rename_i c _ _ _ _ _
      cases (c == Value.type "enumerate") <;> (wp_walk using q1; exact ⟨_, rfl, h⟩)
    · wp_walk using q1
      exact ⟨_, rfl, h⟩
section
variable {prog : Program} {w : World} {A : Around} {E : Value → Shared → Prop} {s : Shared}
theorem call_enT {l : Addr} {items : Array Value} {Q : Value → Shared → Prop} (hL : s.heap.IsTuple l items)
    (h : ∀ h', IsEnum h' (s.heap.objs.size + 1) s.heap.objs.size 0 .none → h'.IsTupleIter s.heap.objs.size l 0 → (∀ b o, s.heap.get? b = some o → h'.get? b = some o) → Q (.ref (s.heap.objs.size + 1)) { s with heap := h' }) : wpAny (model prog w) A (call (.type "enumerate") [.ref l]) Q E s := by
  refine callType_new F.called_enumerate (by decide) (F.typeCall_enumerate_1 _) (F.newCall_enumerate_1 _) (fun obj => F.args_object_init_2 obj _) F.entry_enumerate_new (meets_enT l items) ⟨hL, ?_⟩
  have hz : (s.heap.push (tiO l)).objs.size = s.heap.objs.size + 1 := Heap.size_push ..
  show _ ∧ _
  rw [hz]
  have he : IsEnum ((s.heap.push (tiO l)).push (enO s.heap.objs.size)) (s.heap.objs.size + 1) s.heap.objs.size 0 .none := by
    have := Heap.get?_push_size (s.heap.push (tiO l)) (o := enO s.heap.objs.size) rfl
    rw [hz] at this
    exact this
  exact ⟨⟨_, he, rfl⟩, h _ he ⟨_, Heap.get?_push_of_some _ (Heap.get?_push_size _ rfl), rfl, rfl⟩ fun b o x => Heap.get?_push_of_some _ (Heap.get?_push_of_some _ x)⟩
theorem draws_tup {it l : Addr} {items : Array Value} (hh : A.handled = none) (hne : l ≠ it) : Draws prog w A it [it, l] items.size (fun i x => items[i]? = some x) (fun i h => h.IsTupleIter it l i ∧ h.IsTuple l items) where
  live := fun i h st => let ⟨⟨o, e, _⟩, _⟩ := st; ⟨o, e⟩
  frame := fun i h h' st k => let ⟨⟨o, e, r⟩, ⟨o2, e2, r2⟩⟩ := st; ⟨⟨o, k it (by simp) o e, r⟩, ⟨o2, k l (by simp) o2 e2, r2⟩⟩
  item := fun i s Q E hi st hQ => by
    refine wpAny_nextOf_tuple_item st.1 st.2 (x := items[i]) (Array.getElem?_eq_getElem hi) fun h' hi' sb => hQ _ h' s.toks (Array.getElem?_eq_getElem hi) ⟨hi', ?_⟩ sb
    obtain ⟨o2, e2, r2⟩ := st.2
    exact ⟨o2, (sb.2 l hne).trans e2, r2⟩
  done := fun s Q E st hE => wpAny_nextOf_tuple_end hh st.1 st.2 (by simp) hE
end
def IteT (K : PySem.W.Frag) (a : Addr) : It :=
  ⟨fun i H => ∃ (xs : List V) (x : V), SqT K H a xs ∧ xs[i]? = some x, fun i H v H' => ∃ T x, v = .ref T ∧ H T = none ∧ H' = upd H T (.tup [.int (i : Nat), x]) ∧ ∀ xs, SqT K H a xs → xs[i]? = some x, fun i H => ∃ xs : List V, SqT K H a xs ∧ xs.length ≤ i⟩
theorem turn_enT {P : Program} {w : World} {K : PySem.W.Frag} {elts : List Expr} {kk : Nat} {tpos : Pos} {a e it : Addr} (hai : a ≠ it) (hae : a ≠ e) (hei : e ≠ it) :
    Turn P w K (.Tuple elts kk tpos) (IteT K a) [e, it] e (fun i h => (∃ old, IsEnum h e it ((i : Nat) : Int) old) ∧ h.IsTupleIter it a i) where
  mem := by simp
  obj := fun i h st b hb => by
    obtain ⟨⟨old, he⟩, ⟨o, ho, hc, hd⟩⟩ := st
    rcases List.mem_cons.mp hb with rfl | hb
    · exact ⟨_, he, fun v q => nomatch q⟩
    · rw [List.mem_singleton.mp hb]
      exact ⟨o, ho, fun v q => by rw [hd] at q; cases q⟩
  keep := fun i h h' st k => let ⟨⟨old, he⟩, ⟨o, ho, r⟩⟩ := st; ⟨⟨old, k e (by simp) _ he⟩, ⟨o, k it (by simp) o ho, r⟩⟩
  item := by
    intro X hP hw hK hc i pins s σ H E I hf st hg
    subst hP hw hK
    obtain ⟨⟨old, he⟩, hit⟩ := st
    obtain ⟨xs, x, hq, hx⟩ := hg
    obtain ⟨its, rv, p, hz⟩ := I.tuple hq
    obtain ⟨u, hu, ru⟩ := rv.get hx
    have hel : e < s.heap.objs.size := Heap.lt_size he
    have hil : it < s.heap.objs.size := by obtain ⟨_, q, _⟩ := hit; exact Heap.lt_size q
    have hlt : i < its.toArray.size := by simpa using (List.getElem?_eq_some_iff.mp hu).1
    refine wpAny_pyNext_enum_itemD (draws_tup (I.ok.hd hc) hai) he (i := i) ⟨hit, p⟩ hlt hei (by simp [hei]; exact fun z => hae z.symm) fun y h' tk hy ho st' hT hsz hk => ?_
    have hy' : y = u := by
      have hy2 : its.toArray[i]? = some y := hy
      rw [List.getElem?_toArray, hu] at hy2
      exact (Option.some.inj hy2).symm
    subst hy'
    refine ⟨_, rfl, wpAny_letOwnedTupleGo_enum (s := { s with heap := h', toks := tk + 1 }) ho fun h'' he' sb => ?_⟩
    have hT2 : h''.get? s.heap.objs.size = some { cls := .type "tuple", data := .seq #[.int i tk, y] } := (sb.2 _ (Nat.ne_of_gt hel)).trans hT
    have new : ObjOk X.prog X.w (upd H s.heap.objs.size (.tup [.int (i : Nat), x])) h'' s.heap.objs.size (.tup [.int (i : Nat), x]) :=
      ⟨by show 2 ≤ sizeLine; decide, [.int i tk, y], .cons ⟨_, rfl⟩ (.cons ru .nil), ⟨_, hT2, rfl, _, rfl⟩⟩
    have I1 : Inv X pins σ (upd H s.heap.objs.size (.tup [.int (i : Nat), x])) { s with heap := h'', toks := tk + 1 } :=
      I.turnedNew (t' := tk + 1) (ch := [e, it]) (fun b ob hb q => (sb.2 b (fun z => hb (by simp [z]))).trans (hk b ob (fun z => hb (by simp [z])) (fun z => hb (by simp [z])) q)) hf (Nat.le_refl _) new
    obtain ⟨⟨oi, hoi, ri⟩, _⟩ := st'
    refine ⟨.ref s.heap.objs.size, _, I1, rfl, ⟨_, x, rfl, I.hok.fresh (Nat.le_refl _), rfl, fun ys hy => by rw [I.tuple_inj hy hq]; exact hx⟩, ⟨⟨y, ?_⟩, ⟨oi, (sb.2 it (Ne.symm hei)).trans hoi, ri⟩⟩, fun b hb => ?_⟩
    · rw [show ((i + 1 : Nat) : Int) = (i : Int) + 1 by omega]
      exact he'
    · have hb' : b < s.heap.objs.size := by
        rcases List.mem_cons.mp hb with rfl | hb
        · exact hel
        · rw [List.mem_singleton.mp hb]; exact hil
      rw [upd_ne (Nat.ne_of_lt hb')]
      exact (hf b hb).1
  done := by
    intro X hP hw hK hc i pins s σ H E I hf st hg
    subst hP hw hK
    obtain ⟨⟨old, he⟩, hit⟩ := st
    obtain ⟨xs, hq, hx⟩ := hg
    obtain ⟨its, rv, p, hz⟩ := I.tuple hq
    obtain ⟨f0, f1, f2, f3, f4, f5⟩ := hf it (by simp)
    unfold pyNext
    refine wpAny_bind (wpAny_attempt (wpAny_callSpecial?_slot (name := Str.ofString "__next__") (T := "enumerate") ⟨_, he, rfl⟩ F.slot_enumerate_next (wpAny_call_entry F.slot_enumerate_next (T := "enumerate") ⟨_, he, rfl⟩ F.entry_enumerate_next ?_ (F.args_enumerate_next_1 _))))
    show wpAny _ _ (field (.ref e) 2 >>= _) _ _ _
    refine wpAny_bind (wpAny_field he rfl (x := .ref it) rfl ?_)
    refine wpAny_bind (wpAny_nextOf_tuple_end (I.ok.hd hc) hit p (by simp; have := rv.length; omega) fun h' e2 he' hx' => ?_)
    obtain ⟨o, ho, hcl⟩ := hx'
    refine wpAny_bind (wpAny_isInstance (T := "StopIteration") (b := true) ⟨o, ho, hcl⟩ isSubtype_stop (wpAny_pure ⟨rfl, ?_⟩))
    exact I.turned (t' := s.toks) (fun b o hb q => he' b o hb q) f0 f1 f3 f4 f5
  self := fun A i s Q E st h => let ⟨⟨_, he⟩, _⟩ := st; wpAny_pyIter_enum he h
def iEnS (K : PySem.W.Frag) (ta : TA) : TI := fun σ H R => ta σ H fun vs H1 => ∃ a xs, vs = [.ref a] ∧ ((SqL K H1 a xs ∧ R (Ite K a) H1) ∨ (SqT K H1 a xs ∧ R (IteT K a) H1))
theorem pi_enS {X : Cx} {e : Expr} {ta : TA} {p pos tpos : Pos} {elts : List Expr} {kk : Nat} (hg : Gl X "enumerate") (hm : X.mg "enumerate" = none) (ha : PA X [e] ta) (hs : starEach [e] X.env = [(false, eval e X.env)] := by rfl) : PI X (.Tuple elts kk tpos) (.Call (.Name "enumerate" p) [e] [] pos) (iEnS X.K ta) := by
  refine ⟨fun pins s σ H R I h => Call_ (ld_blt I hg hm boot_enumerate (PyProof.Rows.callWith_type1 (thn (ha.run pos pins s σ H _ I h) fun us s1 ⟨vs, H1, I1, r1, q1⟩ => ?_) hs rfl))⟩
  obtain ⟨a, xs, rfl, q1⟩ := q1
  cases r1 with
  | cons r rr =>
    cases rr
    cases r
    have fp : ∀ b : Nat, b ∈ [s1.heap.objs.size + 1, s1.heap.objs.size] → FpOk X pins H1 b := fun b hb => by
      have hle : s1.heap.objs.size ≤ b := by
        rcases List.mem_cons.mp hb with z | z
        · rw [z]; omega
        · rw [List.mem_singleton.mp z]; omega
      exact I1.fpOk hle (I1.hok.fresh hle)
    rcases q1 with ⟨hq, q⟩ | ⟨hq, q⟩
    · obtain ⟨its, rv, p', hz⟩ := I1.list hq
      exact call_enumerate_list p'.isList fun h' he hit hsz hk => wpAny_pyIter_enum he ⟨s1.heap.objs.size + 1, [s1.heap.objs.size + 1, s1.heap.objs.size], _, _, H1, rfl, I1.kept (t' := s1.toks) hk, turn_enum a (s1.heap.objs.size + 1) s1.heap.objs.size, ⟨⟨.none, he⟩, hit, Nat.succ_ne_self _⟩, fp, q⟩
    · obtain ⟨its, rv, p', hz⟩ := I1.tuple hq
      have hl : a < s1.heap.objs.size := by obtain ⟨o, ho, _⟩ := p'; exact Heap.lt_size ho
      exact call_enT p' fun h' he hit hk => wpAny_pyIter_enum he ⟨s1.heap.objs.size + 1, [s1.heap.objs.size + 1, s1.heap.objs.size], _, _, H1, rfl, I1.kept (t' := s1.toks) hk, turn_enT (Nat.ne_of_lt hl) (Nat.ne_of_lt (Nat.lt_succ_of_lt hl)) (Nat.succ_ne_self _), ⟨⟨.none, he⟩, hit⟩, fp, q⟩
def enumL (ds : List D) : List D := ds.zipIdx.map fun p => .tuple [.int (p.2 : Nat), p.1]
theorem enumL_at (ds : List D) (i : Nat) : (enumL ds)[i]? = ds[i]?.map fun d => .tuple [.int (i : Nat), d] := by
  unfold enumL
  rw [List.getElem?_map, List.getElem?_zipIdx]
  cases ds[i]? <;> simp
theorem enumL_len (ds : List D) : (enumL ds).length = ds.length := by simp [enumL]
theorem walkD_en {K : PySem.W.Frag} {G : Hp} {xs : List V} {ds : List D} {J : It} (da : DaAll K G xs ds) (hgo : ∀ i H, i < xs.length → SubM G H → J.go i H) (hst : ∀ H, SubM G H → J.stop xs.length H)
    (hy : ∀ i H v H', SubM G H → J.yld i H v H' → ∃ T x, v = .ref T ∧ H T = none ∧ H' = upd H T (.tup [.int (i : Nat), x]) ∧ xs[i]? = some x) : WalkD K G J (enumL ds) where
  goes := fun i H hi s => hgo i H (by rw [da.length, ← enumL_len]; exact hi) s
  stops := fun H s => by rw [enumL_len, ← da.length]; exact hst H s
  yields := fun i H G1 v H' hi s s1 y => by
    obtain ⟨T, x, rfl, hT, rfl, hx⟩ := hy i H v H' (s.subm s1) y
    obtain ⟨d, e1, e2⟩ := da.getV hx
    have gr := Gr.alloc (u := .tup [.int (i : Nat), x]) s1 hT
    refine ⟨.tuple [.int (i : Nat), d], _, by rw [enumL_at, e1]; rfl, gr, .tup (.inl (.inl upd_same)) (.cons (.int _) (.cons (e2.mono (s.trans gr.g)) .nil))⟩
section
variable {m : Type → Type} [Mo m] {X : Cx} {EX : XR} {g : List Sl}
abbrev enumM (x : m D) : m (List D) := x >>= fun d => Mo.lift ((itemsD d).map enumL)
theorem ij_enum {e : Expr} {p pos tpos : Pos} {elts : List Expr} {kk : Nat} {x : m D} (hm : X.mg "enumerate" = none) (h : EJ X EX e g x) (hg : Gl X "enumerate" := by rfl) (hs : starEach [e] X.env = [(false, eval e X.env)] := by rfl) (hs' : starEach [e] X.env = (false, eval e X.env) :: starEach [] X.env := by rfl) :
    IJ X EX (.Tuple elts kk tpos) (.Call (.Name "enumerate" p) [e] [] pos) g (enumM x) :=
  (pi_enS hg hm (pa_cons h pa_nil hs') hs).weak fun σ H R ⟨B, G, n, φ, ξ, o, s, q, xw⟩ => te_one o s (fun v H1 G1 d n1 o1 g1 d1 s1 => by
    obtain ⟨out, ed, pd⟩ := Mo.sat_lift s1
    obtain ⟨ds, e1, rfl⟩ := Option.map_eq_some_iff.mp ed
    obtain ⟨a, xs, rfl, sq, da⟩ := d1.seq e1
    refine ⟨a, xs, rfl, ?_⟩
    rcases sq with sq | sq
    · refine .inr ⟨sameT o1.fm.sub sq, q _ H1 G1 _ n1 o1 g1 (walkD_en da (fun i H hi s => ⟨xs, xs[i], sameT s sq, by simp [hi]⟩) (fun H s => ⟨xs, sameT s sq, Nat.le_refl _⟩) fun i H v H' s y => ?_) pd⟩
      obtain ⟨T, x, a1, a2, a3, a4⟩ := y
      exact ⟨T, x, a1, a2, a3, a4 xs (sameT s sq)⟩
    · refine .inl ⟨o1.fm.sub.seq sq, q _ H1 G1 _ n1 o1 g1 (walkD_en da (fun i H hi s => ⟨xs, xs[i], s.seq sq, by simp [hi]⟩) (fun H s => ⟨xs, s.seq sq, Nat.le_refl _⟩) fun i H v H' s y => ?_) pd⟩
      obtain ⟨T, x, a1, a2, a3, a4⟩ := y
      exact ⟨T, x, a1, a2, a3, a4 xs (s.seq sq)⟩) xw
end
end DD
namespace DD
open PySem PySem.Spec PyProof.Rows L2
/-! ### a list of one's own, read in the middle: what comes out holds no list -/
mutual
def noL : D → Bool
  | .list _ => false
  | .tuple xs => noLs xs
  | .dict _ => false
  | _ => true
def noLs : List D → Bool
  | [] => true
  | x :: xs => noL x && noLs xs
end
def flatO (d : D) : Option D := if noL d = true then some d else none
theorem flatO_eq {d e : D} (h : flatO d = some e) : e = d ∧ noL d = true := by
  unfold flatO at h
  split at h
  · rename_i hl; cases h; exact ⟨rfl, hl⟩
  · cases h
/-- the data among what has come: what stood in the heap and was no data is left out -/
noncomputable def cutB (H G G' : Hp) : Hp := fun a => open Classical in if G a = none ∧ H a ≠ none then none else G' a
theorem cutB_in {H G G' : Hp} {a : Addr} (h : ¬ (G a = none ∧ H a ≠ none)) : cutB H G G' a = G' a := by unfold cutB; rw [if_neg h]
theorem cutB_out {H G G' : Hp} {a : Addr} (h1 : G a = none) (h2 : H a ≠ none) : cutB H G G' a = none := by unfold cutB; rw [if_pos ⟨h1, h2⟩]
theorem cutB_sub {H G G' : Hp} {a : Addr} {o : HO} (h : cutB H G G' a = some o) : G' a = some o := by
  unfold cutB at h
  split at h
  · cases h
  · exact h
def lend1 : Sl → Sl
  | .own ds => .val (.list ds)
  | s => s
abbrev lendG (g : List Sl) : List Sl := g.map lend1
section
variable {K : PySem.W.Frag} {H G G' : Hp}
mutual
theorem Da.cut (hp : ∀ a o, G' a = some o → G a = none → H a ≠ none → ∃ xs, o = .lst xs) : ∀ {d : D} {v : V}, noL d = true → Da K G' v d → Da K (cutB H G G') v d
  | _, _, _, .non => .non
  | _, _, _, .bl b => .bl b
  | _, _, _, .int i => .int i
  | _, _, _, .str x => .str x
  | _, _, h, .lst _ _ => by cases h
  | .tuple ds, _, h, .tup sq a => by
    refine .tup ?_ (DaAll.cutA hp (show noLs ds = true from h) a)
    rcases sq with (sq | ⟨o, sq⟩) | sq
    · refine .inl (.inl ((cutB_in fun z => ?_).trans sq))
      obtain ⟨xs, e⟩ := hp _ _ sq z.1 z.2
      cases e
    · refine .inl (.inr ⟨o, (cutB_in fun z => ?_).trans sq⟩)
      obtain ⟨xs, e⟩ := hp _ _ sq z.1 z.2
      cases e
    · exact .inr sq
  | _, _, h, .dct _ _ => by cases h
  | _, _, h, .obj _ => by cases h
  | _, _, h, .cel _ => by cases h
  | _, _, h, .fin _ _ _ _ => by cases h
theorem DaAll.cutA (hp : ∀ a o, G' a = some o → G a = none → H a ≠ none → ∃ xs, o = .lst xs) : ∀ {ds : List D} {vs : List V}, noLs ds = true → DaAll K G' vs ds → DaAll K (cutB H G G') vs ds
  | _, _, _, .nil => .nil
  | d :: ds, _, h, .cons a b => by
    have h' : noL d = true ∧ noLs ds = true := by
      have : (noL d && noLs ds) = true := h
      simpa using this
    exact .cons (Da.cut hp h'.1 a) (DaAll.cutA hp h'.2 b)
end
end
section
variable {m : Type → Type} [Mo m] {X : Cx} {EX : XR} {g : List Sl}
/-- all lists of one's own become data, a while -/
theorem Ok.lend {K : PySem.W.Frag} {B : Bs} {σ : L2.St} {H G : Hp} {n : Wd} (o : Ok K B g σ H G n) (hn0 : n.ob = []) : ∃ G1 : Hp, Ok K ⟨H, G1, B.dk, G1⟩ (lendG g) σ H G1 n ∧
    ∀ (H' G' : Hp) (n' : Wd), n'.ob = [] → Fm K ⟨H, G1, B.dk, G1⟩ H' G' n' → (Ok K B g σ H' (cutB H G G') n' ∧ Same G (cutB H G G')) ∧ ∀ a o, G' a = some o → G a = none → H a ≠ none → ∃ xs, o = .lst xs := by
  classical
  obtain ⟨f, h1, h2⟩ := id o.own
  let OwnA : Addr → Prop := fun a => ∃ (j : Nat) (ds : List D), g[j]? = some (Sl.own ds) ∧ f j = a
  have own_lst : ∀ a, OwnA a → G a = none ∧ B.H a = none ∧ ∃ xs, H a = some (.lst xs) := by
    rintro a ⟨j, ds, e, rfl⟩
    obtain ⟨_, b, c, xs, d, _⟩ := h2 j ds e
    exact ⟨b, c, xs, d⟩
  let G1 : Hp := fun a => if OwnA a then H a else G a
  have g1o : ∀ a, OwnA a → G1 a = H a := fun a h => if_pos h
  have g1n : ∀ a, ¬ OwnA a → G1 a = G a := fun a h => if_neg h
  have sG : Same G G1 := fun a u e => by
    rw [g1n a fun z => by rw [(own_lst a z).1] at e; cases e]
    exact e
  have nomk : ∀ a u, G a = some u → isMk u = false := fun a u e => by
    cases hm : mkOf u with
    | none => unfold isMk; rw [hm]; rfl
    | some k =>
      obtain ⟨c, e2, _⟩ := o.fm.obs.at_ a u k e hm
      rw [hn0] at e2
      cases e2
  have sH : SubM G1 H := ⟨fun a u e m => by
    by_cases z : OwnA a
    · rw [g1o a z] at e; exact e
    · rw [g1n a z] at e; exact o.fm.sub.h a u e m, fun a e => by
    by_cases z : OwnA a
    · rw [g1o a z]; exact e
    · rw [g1n a z]; exact o.fm.sub.t a e⟩
  have mk1 : ∀ a u k, G1 a = some u → mkOf u = some k → False := fun a u k e hm => by
    by_cases z : OwnA a
    · obtain ⟨_, _, xs, hx⟩ := own_lst a z
      rw [g1o a z, hx] at e
      cases e
      cases hm
    · rw [g1n a z] at e
      have := nomk a u e
      unfold isMk at this
      rw [hm] at this
      cases this
  have ob1 : Obs K H G1 n := ⟨fun a u k e hm => (mk1 a u k e hm).elim, fun a b u w k e _ hm => (mk1 a u k e hm).elim, fun k c e => by rw [hn0] at e; cases e⟩
  have pick : ∀ (i : Nat) (s : Sl), (lendG g)[i]? = some s → ∃ s0, g[i]? = some s0 ∧ s = lend1 s0 := fun i s e => by
    rw [List.getElem?_map] at e
    obtain ⟨s0, e0, e1⟩ := Option.map_eq_some_iff.mp e
    exact ⟨s0, e0, e1.symm⟩
  refine ⟨G1, ⟨⟨fun a u e _ => e, sH, Same.refl _, ob1, sH.t, Same.refl _, fun a _ e => e, fun a b e => ?_⟩, by rw [List.length_map]; exact o.len, fun i d e => ?_, ⟨f, fun i j ds es e => ?_, fun i ds e => ?_⟩, fun i e => ?_, fun i a od fs e => ?_⟩, fun H' G' n' hn1 fm => ?_⟩
  · obtain ⟨dk, b1, b2, b3, b4⟩ := o.fm.deck a b e
    obtain ⟨cs, c, k1, k2, _⟩ := id dk
    have na : ¬ OwnA a := fun z => b1 (own_lst a z).2.1
    have nb : ¬ OwnA b := fun z => b2 (own_lst b z).2.1
    refine ⟨dk, by show H a ≠ none; rw [k1]; simp, by show H b ≠ none; rw [k2]; simp, ?_, ?_⟩
    · show G1 a = none
      rw [g1n a na]; exact o.fm.new a b1 b3
    · show G1 b = none
      rw [g1n b nb]; exact o.fm.new b b2 b4
  · obtain ⟨s0, e0, e1⟩ := pick i _ e
    cases s0 with
    | val d0 =>
      cases e1
      obtain ⟨v, a, b⟩ := o.val i d e0
      exact ⟨v, a, b.mono sG⟩
    | own ds =>
      cases e1
      obtain ⟨a, b, c, xs, hd, da⟩ := h2 i ds e0
      refine ⟨_, a, .lst (xs := xs) ?_ (da.mono sG)⟩
      rw [g1o _ ⟨i, ds, e0, rfl⟩]
      exact hd
    | deck => cases e1
    | any => cases e1
    | exn _ _ _ => cases e1
  · obtain ⟨s0, e0, e1⟩ := pick i _ e
    cases s0 <;> cases e1
  · obtain ⟨s0, e0, e1⟩ := pick i _ e
    cases s0 <;> cases e1
  · obtain ⟨s0, e0, e1⟩ := pick i _ e
    cases s0 with
    | deck => exact o.dck i e0
    | val _ => cases e1
    | own _ => cases e1
    | any => cases e1
    | exn _ _ _ => cases e1
  · obtain ⟨s0, e0, e1⟩ := pick i _ e
    cases s0 with
    | exn _ _ _ => cases e1; exact ⟨(o.adr i a od fs e0).1, (o.adr i a od fs e0).2.mono sG⟩
    | val _ => cases e1
    | own _ => cases e1
    | any => cases e1
    | deck => cases e1
  · have lst : ∀ a u, G' a = some u → G a = none → H a ≠ none → ∃ xs, u = .lst xs := fun a u e ga ha => by
      by_cases z : OwnA a
      · obtain ⟨_, _, xs, hx⟩ := own_lst a z
        have : G' a = some (.lst xs) := fm.old a _ (by show G1 a = _; rw [g1o a z]; exact hx)
        rw [this] at e
        cases e
        exact ⟨xs, rfl⟩
      · have : G' a = none := fm.new a ha (by show G1 a = none; rw [g1n a z]; exact ga)
        rw [this] at e; cases e
    have fm2 : Fm K ⟨H, G, B.dk, G⟩ H' (cutB H G G') n' := by
      have mk2 : ∀ a u k, cutB H G G' a = some u → mkOf u = some k → False := fun a u k e hm => by
        obtain ⟨c, e2, _⟩ := fm.obs.at_ a u k (cutB_sub e) hm
        rw [hn1] at e2
        cases e2
      refine ⟨fun a u e q => fm.keep a u e fun z => q ?_, ⟨fun a u e m => fm.sub.h a u (cutB_sub e) m, fun a e => ?_⟩, fun a u e => ?_, ⟨fun a u k e hm => (mk2 a u k e hm).elim, fun a b u w k e _ hm => (mk2 a u k e hm).elim, fun k c e => by rw [hn1] at e; cases e⟩, o.fm.sub.t, (fun a u e => by
        rw [cutB_in fun z => by rw [show G a = some u from e] at z; cases z.1]
        exact fm.old a u (sG a u e)), fun a e q => cutB_out q e, fun a b e => ?_⟩
      · rcases z with z | ⟨w, e2, m⟩
        · exact .inl z
        · have e' : G1 a = some w := e2
          cases hm : mkOf w with
          | none => unfold isMk at m; rw [hm] at m; cases m
          | some k => exact (mk1 a w k e' hm).elim
      · cases ec : cutB H G G' a with
        | none => rfl
        | some u => have := cutB_sub ec; rw [fm.sub.t a e] at this; cases this
      · rw [cutB_in fun z => by rw [show G a = some u from e] at z; cases z.1]
        exact fm.old a u (sG a u e)
      · obtain ⟨dk, b1, b2, b3, b4⟩ := fm.deck a b e
        obtain ⟨dk', c1, c2, c3, c4⟩ := o.fm.deck a b e
        exact ⟨dk, b1, b2, o.fm.new a c1 c3, o.fm.new b c2 c4⟩
    exact ⟨Fm.back o (.inr rfl) fm2, lst⟩
variable [Calm m] [Plain m]
def flatsO (ds : List D) : Option (List D) := if noLs ds = true then some ds else none
end
/-! ### new lists by operations -/
section
variable {m : Type → Type} [Mo m] {X : Cx} {EX : XR} {g : List Sl}
def repO (ds : List D) (k : D) : Option (List D) := match k with
  | .int k => if 0 ≤ k ∧ k ≤ 1000 ∧ ds.length ≤ 1000 then some (List.replicate k.toNat ds).flatten else none
  | _ => none
def listOnly : D → Option (List D)
  | .list ds => some ds
  | _ => none
/-- range(..) as what list() takes -/
def lrgO1 : D → Option (List D)
  | .int j => if 0 ≤ j ∧ j ≤ 1000000 then some (rangeL 0 j.toNat) else none
  | _ => none
abbrev repM (x : m (List D)) (y : m D) : m (List D) := (x >>= fun ds => pure (PyData.list ds)) >>= fun d => y >>= fun k => Mo.lift ((listOnly d).bind fun ds => repO ds k)
abbrev lrg1M (x : m D) : m (List D) := x >>= fun d => Mo.lift (lrgO1 d)
abbrev par3M (x y z : m D) : m (D × D × D) := x >>= fun d => y >>= fun e => z >>= fun f => pure (d, e, f)
abbrev rdM (x : m D) : m D := x >>= fun d => Mo.lift (flatO d)
abbrev rdLM (x : m (List D)) : m (List D) := x >>= fun ds => Mo.lift (flatsO ds)
end
def addI : D → D → Option D := intD2 fun i j => some (.int (i + j))
def subI : D → D → Option D := intD2 fun i j => some (.int (i - j))
section
variable {m : Type → Type} [Mo m] {X : Cx} {EX : XR} {g : List Sl}
/-- as ej_var, the slot looked up by the kernel -/
theorem ej_vk (i : Nat) {x : Str} {pos : Pos} {d : D} (hs : g[i]? = some (Sl.val d) := by kernel_rfl) (hN : X.N[i]? = some x := by rfl) (hv : Vis X.env.scope x := by first | exact Or.inl rfl | exact Or.inr (Or.inl rfl) | exact Or.inr (Or.inr rfl)) (hd : (x == ("__debug__" : Str)) = false := by decide)
    (hcd : (x == ("__classdict__" : Str)) = false := by decide) : EJ (m := m) X EX (.Name x pos) g (pure d) := ej_var i hs hN hv hd hcd
end
end DD
namespace DD
open PySem PySem.Spec PyProof.Rows L2
/-! ### mirrors without draws, by equations -/
class MoL (m : Type → Type) [Mo m] : Prop where
  pb : ∀ {α β : Type} (a : α) (f : α → m β), ((pure a : m α) >>= f) = f a
  as : ∀ {α β γ : Type} (x : m α) (f : α → m β) (g : β → m γ), ((x >>= f) >>= g) = (x >>= fun a => f a >>= g)
  ls : ∀ {α : Type} (a : α), (Mo.lift (some a) : m α) = pure a
theorem wl_some {α : Type} (a : α) : (Mo.lift (some a) : W α) = Pure.pure a := by
  funext n φ
  exact propext ⟨fun ⟨b, e, h⟩ => by cases e; exact h, fun h => ⟨a, rfl, h⟩⟩
instance : MoL W := ⟨fun _ _ => rfl, fun _ _ _ => rfl, wl_some⟩
instance : MoL Option := ⟨fun _ _ => rfl, fun x f g => by cases x <;> rfl, fun _ => rfl⟩
section
variable {m : Type → Type} [Mo m] [MoL m] {A γ : Type}
theorem lcA_map2 {f : D → D → m D} {F Ga Gb G : γ → D} (hF : ∀ x, F x = .tuple [Ga x, Gb x]) (xs : List γ) (acc : List D) (h : ∀ x ∈ xs, f (Ga x) (Gb x) = pure (G x)) : lcA (fun d => pairM d fun a b => someM (f a b)) (xs.map F) acc = pure (acc ++ xs.map G) := by
  induction xs generalizing acc with
  | nil => simp [lcA]
  | cons x xs ih =>
    show (pairM (F x) (fun a b => someM (f a b)) >>= fun o => lcA (fun d => pairM d fun a b => someM (f a b)) (xs.map F) (acc ++ o.toList)) = _
    have e : pairM (F x) (fun a b => someM (f a b)) = pure (some (G x)) := by
      rw [hF]
      show someM (f (Ga x) (Gb x)) = _
      unfold someM
      rw [h x List.mem_cons_self, MoL.pb]
    rw [e, MoL.pb, ih _ fun y hy => h y (List.mem_cons_of_mem _ hy)]
    simp
theorem lcA_filt2 {f : D → D → m D} {t : D → D → m Bool} {F Ga Gb G : γ → D} {p : γ → Bool} (hF : ∀ x, F x = .tuple [Ga x, Gb x]) (xs : List γ) (acc : List D) (h : ∀ x ∈ xs, t (Ga x) (Gb x) = pure (p x)) (h2 : ∀ x ∈ xs, p x = true → f (Ga x) (Gb x) = pure (G x)) : lcA (fun d => pairM d fun a b => ifM (t a b) (f a b)) (xs.map F) acc = pure (acc ++ (xs.filter p).map G) := by
  induction xs generalizing acc with
  | nil => simp [lcA]
  | cons x xs ih =>
    show (pairM (F x) (fun a b => ifM (t a b) (f a b)) >>= fun o => lcA (fun d => pairM d fun a b => ifM (t a b) (f a b)) (xs.map F) (acc ++ o.toList)) = _
    have e : pairM (F x) (fun a b => ifM (t a b) (f a b)) = pure (if p x = true then some (G x) else none) := by
      rw [hF]
      show ifM (t (Ga x) (Gb x)) (f (Ga x) (Gb x)) = _
      unfold ifM someM
      rw [h x List.mem_cons_self, MoL.pb]
      cases hp : p x with
      | true => simp only [if_true]; rw [h2 x List.mem_cons_self hp, MoL.pb]
      | false => rfl
    rw [e, MoL.pb, ih _ (fun y hy => h y (List.mem_cons_of_mem _ hy)) fun y hy => h2 y (List.mem_cons_of_mem _ hy)]
    cases hp : p x <;> simp [hp]
/-- a loop that looks for the first -/
theorem loop_find {f : D → A → m (Fl A)} {F : γ → D} {p : γ → Bool} {R : γ → D} {a : A} : ∀ xs : List γ, (∀ x ∈ xs, f (F x) a = if p x = true then pure (.rt (R x)) else pure (.nx a)) → loopM f (xs.map F) a = pure (match xs.find? p with | some x => .rt (R x) | none => .nx a)
  | [], _ => rfl
  | x :: xs, h => by
    show (f (F x) a >>= fun z => match z with | .nx a' => loopM f (xs.map F) a' | .rt v => pure (.rt v)) = _
    rw [h x List.mem_cons_self]
    cases hp : p x with
    | true => simp only [if_true, MoL.pb, List.find?_cons, hp]
    | false =>
      simp only [Bool.false_eq_true, if_false, MoL.pb, List.find?_cons, hp]
      exact loop_find xs fun y hy => h y (List.mem_cons_of_mem _ hy)
end
section
variable {A γ : Type} {c : Nat}
theorem Tri.eq {α : Type} {b : Nat} {x : W α} {a : α} {φ : α → Prop} (e : x = Pure.pure a) (h : φ a) : Tri b x φ := by
  rw [e]
  exact (Tri.pure h).le (Nat.zero_le _)
end
theorem bindE {m : Type → Type} [Mo m] [MoL m] {α β : Type} {x : m α} {a : α} {f : α → m β} {y : m β} (e : x = pure a) (h : f a = y) : (x >>= f) = y := by
  rw [e, MoL.pb]
  exact h
/-! ### operations on data of known shape -/
theorem add_int (a b : Int) : addD (.int a) (.int b) = some (.int (a + b)) := rfl
theorem sub_int (a b : Int) : subD (.int a) (.int b) = some (.int (a - b)) := rfl
theorem lt_int (a b : Int) : ltD (.int a) (.int b) = some (.bool (decide (a < b))) := rfl
theorem le_int (a b : Int) : leD (.int a) (.int b) = some (.bool (decide (a ≤ b))) := rfl
theorem gt_int (a b : Int) : gtD (.int a) (.int b) = some (.bool (decide (b < a))) := rfl
theorem ge_int (a b : Int) : geD (.int a) (.int b) = some (.bool (decide (b ≤ a))) := rfl
theorem eq_int (a b : Int) : eqD (.int a) (.int b) = some (.bool (a == b)) := rfl
theorem ne_int (a b : Int) : neD (.int a) (.int b) = some (.bool (!(a == b))) := rfl
theorem min_int (a b : Int) : min2D (.int a) (.int b) = some (.int (min a b)) := by
  show some (PyData.int (if b < a then b else a)) = _
  congr 2
  omega
theorem max_int (a b : Int) : max2D (.int a) (.int b) = some (.int (max a b)) := by
  show some (PyData.int (if b > a then b else a)) = _
  congr 2
  omega
theorem neg_int (a : Int) : negD (.int a) = some (.int (-a)) := rfl
theorem bool_bool (b : Bool) : boolD (.bool b) = some b := rfl
theorem not_bool (b : Bool) : notD (.bool b) = some (.bool (!b)) := rfl
theorem is_none (d : D) : isD d .none = some (.bool (isNone d)) := rfl
theorem isn_none (d : D) : isnD d .none = some (.bool (!isNone d)) := rfl
theorem nn_int (i : Int) : isNone (.int i) = false := rfl
theorem nn_none : isNone .none = true := rfl
theorem nn_tup (xs : List D) : isNone (.tuple xs) = false := rfl
theorem len_tup (xs : List D) : lenD (.tuple xs) = some (.int xs.length) := rfl
theorem len_lst (xs : List D) : lenD (.list xs) = some (.int xs.length) := rfl
theorem tup_lst (xs : List D) : tupleD (.list xs) = some (.tuple xs) := rfl
theorem tup_tup (xs : List D) : tupleD (.tuple xs) = some (.tuple xs) := rfl
theorem it_lst (xs : List D) : itemsD (.list xs) = some xs := rfl
theorem it_tup (xs : List D) : itemsD (.tuple xs) = some xs := rfl
theorem int_bool (b : Bool) : intD (.bool b) = some (.int (if b then 1 else 0)) := rfl
theorem int_int (i : Int) : intD (.int i) = some (.int i) := rfl
theorem oint_int (i : Int) : oint (.int i) = some (some i) := rfl
theorem addI_int (a b : Int) : addI (.int a) (.int b) = some (.int (a + b)) := rfl
theorem subI_int (a b : Int) : subI (.int a) (.int b) = some (.int (a - b)) := rfl
theorem fits_ok {k : Nat} (h : k < 1000000) : fits k = some () := by unfold fits; rw [if_pos h]
theorem mod_int {a b : Int} (h : 0 < b) : modD (.int a) (.int b) = some (.int (a % b)) := by
  show (if 0 < b then some (PyData.int (a % b)) else none) = _
  rw [if_pos h]
theorem div_int {a b : Int} (h : 0 < b) (h1 : b < 1073741824) : divD (.int a) (.int b) = some (.int (a / b)) := by
  show (if 0 < b ∧ b.natAbs < 1073741824 then some (PyData.int (a / b)) else none) = _
  rw [if_pos ⟨h, by omega⟩]
theorem mul_int {a b : Int} (h : (-(2 ^ 64) < a ∧ a < 2 ^ 64) ∨ (-(2 ^ 64) < b ∧ b < 2 ^ 64)) : mulD (.int a) (.int b) = some (.int (a * b)) := by
  show (if a.natAbs < 2 ^ 64 ∨ b.natAbs < 2 ^ 64 then some (PyData.int (a * b)) else none) = _
  rw [if_pos (by omega)]
theorem add_tup {a b : List D} (h : a.length + b.length ≤ 1000000) : addD (.tuple a) (.tuple b) = some (.tuple (a ++ b)) := by
  show (small (a ++ b)).map PyData.tuple = _
  rw [small_ok (by rw [List.length_append]; exact h)]
  rfl
theorem add_lst {a b : List D} (h : a.length + b.length ≤ 1000000) : addD (.list a) (.list b) = some (.list (a ++ b)) := by
  show (small (a ++ b)).map PyData.list = _
  rw [small_ok (by rw [List.length_append]; exact h)]
  rfl
theorem enum_map {γ : Type} (F : γ → D) (xs : List γ) : enumL (xs.map F) = xs.zipIdx.map fun p => .tuple [.int (p.2 : Nat), F p.1] := by
  unfold enumL
  rw [List.zipIdx_map, List.map_map]
  rfl
theorem zip_map {γ δ : Type} {F : γ → D} {G : δ → D} {xs : List γ} {ys : List δ} (h : xs.length ≤ ys.length) : zipD [.tuple (xs.map F), .tuple (ys.map G)] = some ((xs.zip ys).map fun p => .tuple [F p.1, G p.2]) := by
  rw [zipD_old (r := xs.map F) (rs := [ys.map G]) rfl (by simp) fun x hx => by rw [List.mem_singleton.mp hx]; simpa using h]
  congr 1
  refine List.ext_getElem (by simp; omega) fun i h1 h2 => ?_
  have hi : i < xs.length := by simpa using h1
  have hj : i < ys.length := by omega
  simp [List.getD, hi, hj]
theorem get_tup {γ : Type} {F : γ → D} {xs : List γ} {i : Nat} (h : i < xs.length) : getD (.tuple (xs.map F)) (.int (i : Nat)) = some (F xs[i]) := by
  refine atI_at rfl ?_
  rw [List.getElem?_map, List.getElem?_eq_getElem h]
  rfl
theorem get_lst {γ : Type} {F : γ → D} {xs : List γ} {i : Nat} (h : i < xs.length) : getD (.list (xs.map F)) (.int (i : Nat)) = some (F xs[i]) := by
  refine atI_at rfl ?_
  rw [List.getElem?_map, List.getElem?_eq_getElem h]
  rfl
theorem at_intL {r : List Int} {i : Nat} (h : i < r.length) : getD (.list (r.map .int)) (.int (i : Nat)) = some (.int (r.getD i 0)) := by
  refine atI_at rfl ?_
  rw [List.getElem?_map, List.getElem?_eq_getElem h]
  simp [List.getD, h]
theorem max_tI {r : List Int} {v : Int} (e : r.max? = some v) : maxD (tI r) = some (.int v) := by
  show (intsD (r.map .int)).bind (fun ns => ns.max?.map PyData.int) = _
  rw [ints_of]
  show r.max?.map PyData.int = _
  rw [e]
  rfl
theorem bools_of {γ : Type} {p : γ → Bool} : ∀ xs : List γ, bools (xs.map fun x => PyData.bool (p x)) = some (xs.map p)
  | [] => rfl
  | x :: xs => by
    show (bools (xs.map fun x => PyData.bool (p x))).map (p x :: ·) = _
    rw [bools_of xs]
    rfl
theorem all_map {γ : Type} {p : γ → Bool} (xs : List γ) : allD (.list (xs.map fun x => .bool (p x))) = some (.bool (xs.all p)) := by
  show (bools (xs.map fun x => PyData.bool (p x))).map _ = _
  rw [bools_of]
  simp [Function.comp_def]
/-! slices -/
/-! no list within -/
theorem noL_map {γ : Type} {F : γ → D} : ∀ xs : List γ, (∀ x ∈ xs, noL (F x) = true) → noLs (xs.map F) = true
  | [], _ => rfl
  | x :: xs, h => by
    show (noL (F x) && noLs (xs.map F)) = true
    rw [h x List.mem_cons_self, noL_map xs fun y hy => h y (List.mem_cons_of_mem _ hy)]
    rfl
theorem noL_ints (r : List Int) : noLs (r.map .int) = true := noL_map r fun _ _ => rfl
theorem flat_ok {d : D} (h : noL d = true) : flatO d = some d := by unfold flatO; rw [if_pos h]
theorem flat_tI (r : List Int) : flatO (tI r) = some (tI r) := flat_ok (noL_ints r)
theorem flat_int (i : Int) : flatO (.int i) = some (.int i) := rfl
theorem flat_none : flatO .none = some .none := rfl
theorem put_at {ds : List D} {i : Nat} {d : D} (h : i < ds.length) : putD ds (.int (i : Nat)) d = some (ds.set i d) := by
  show (ixN ds.length (i : Nat)).map (fun j => ds.set j d) = _
  rw [ixN_at rfl h]
  rfl
/-! ### what repr can show: n nodes, depth k -/
structure Sm (n k : Nat) (d : D) : Prop where
  b : smallB d = true
  n : nodes d ≤ n
  k : d.depth ≤ k
structure SmA (n k : Nat) (ds : List D) : Prop where
  b : smallAll ds = true
  n : nodesAll ds ≤ n
  k : PyData.depthAll ds ≤ k
theorem Sm.repr {n k : Nat} {d : D} (h : Sm n k d) (hn : n ≤ 30000) (hk : k ≤ 50) : reprD d = some (.str d.shown) := repr_ok h.b (Nat.le_trans h.n hn) (Nat.le_trans h.k hk)
theorem Sm.le {n k n' k' : Nat} {d : D} (h : Sm n k d) (hn : n ≤ n') (hk : k ≤ k') : Sm n' k' d := ⟨h.b, Nat.le_trans h.n hn, Nat.le_trans h.k hk⟩
theorem Sm.int {i : Int} (h : i.natAbs < 10 ^ 20) : Sm 1 0 (.int i) := ⟨decide_eq_true h, Nat.le_refl _, by simp [PyData.depth]⟩
theorem Sm.str {x : Str} (h : PyData.strOk x = true) (h2 : (PyData.str x).shown.length ≤ 28) : Sm 1 0 (.str x) := ⟨by show (PyData.strOk x && decide ((PyData.str x).shown.length ≤ 28)) = true; rw [h, decide_eq_true h2]; rfl, Nat.le_refl _, by simp [PyData.depth]⟩
theorem Sm.none : Sm 1 0 .none := ⟨rfl, Nat.le_refl _, by simp [PyData.depth]⟩
theorem Sm.bool (b : Bool) : Sm 1 0 (.bool b) := ⟨rfl, Nat.le_refl _, by simp [PyData.depth]⟩
theorem SmA.nil : SmA 0 0 [] := ⟨rfl, Nat.le_refl _, by simp [PyData.depthAll]⟩
theorem SmA.cons {n k n' k' : Nat} {d : D} {ds : List D} (h : Sm n k d) (t : SmA n' k' ds) : SmA (n + n') (max k k') (d :: ds) :=
  ⟨by show (smallB d && smallAll ds) = true; rw [h.b, t.b]; rfl, by show nodes d + nodesAll ds ≤ _; have := h.n; have := t.n; omega, by show max d.depth (PyData.depthAll ds) ≤ _; have := h.k; have := t.k; omega⟩
theorem SmA.map {γ : Type} {n k : Nat} {F : γ → D} : ∀ xs : List γ, (∀ x ∈ xs, Sm n k (F x)) → SmA (xs.length * n) k (xs.map F)
  | [], _ => ⟨rfl, by simp [nodesAll], by simp [PyData.depthAll]⟩
  | x :: xs, h => by
    have := SmA.cons (h x List.mem_cons_self) (SmA.map xs fun y hy => h y (List.mem_cons_of_mem _ hy))
    exact ⟨this.b, by have := this.n; rw [List.length_cons, Nat.succ_mul]; simp only [List.map_cons]; omega, by have := this.k; simp only [List.map_cons]; omega⟩
theorem SmA.le {n k n' k' : Nat} {ds : List D} (h : SmA n k ds) (hn : n ≤ n') (hk : k ≤ k') : SmA n' k' ds := ⟨h.b, Nat.le_trans h.n hn, Nat.le_trans h.k hk⟩
theorem SmA.tup {n k : Nat} {ds : List D} (h : SmA n k ds) : Sm (n + 1) (k + 1) (.tuple ds) := ⟨h.b, by show nodesAll ds + 1 ≤ _; have := h.n; omega, by show PyData.depthAll ds + 1 ≤ _; have := h.k; omega⟩
theorem SmA.lst {n k : Nat} {ds : List D} (h : SmA n k ds) : Sm (n + 1) (k + 1) (.list ds) := ⟨h.b, by show nodesAll ds + 1 ≤ _; have := h.n; omega, by show PyData.depthAll ds + 1 ≤ _; have := h.k; omega⟩
theorem Sm.tI {r : List Int} {n : Nat} (h : ∀ x ∈ r, x.natAbs < 10 ^ 20) (hn : r.length ≤ n) : Sm (n + 1) 1 (tI r) := (SmA.map (n := 1) (k := 0) r fun x hx => Sm.int (h x hx)).tup.le (by omega) (Nat.le_refl _)
mutual
theorem lay_small : ∀ d : D, smallB d = true → d.canLay0 = true
  | .none, _ => rfl
  | .bool _, _ => rfl
  | .int _, _ => rfl
  | .str x, h => by
    have h' : PyData.strOk x = true ∧ (PyData.str x).shown.length ≤ 28 := by
      have : (PyData.strOk x && decide ((PyData.str x).shown.length ≤ 28)) = true := h
      simpa using this
    exact h'.1
  | .list xs, h => layA_small xs h
  | .tuple xs, h => layA_small xs h
  | .dict _, h => by cases h
theorem layA_small : ∀ xs : List D, smallAll xs = true → PyData.canLayAll0 xs = true
  | [], _ => rfl
  | x :: xs, h => by
    have h' : smallB x = true ∧ smallAll xs = true := by
      have : (smallB x && smallAll xs) = true := h
      simpa using this
    show (x.canLay0 && PyData.canLayAll0 xs) = true
    rw [lay_small x h'.1, layA_small xs h'.2]
    rfl
end
theorem Sm.shaped {n k : Nat} {d : D} (h : Sm n k d) (hk : k ≤ 64) : SeqAt.shaped d = true := by
  unfold SeqAt.shaped
  rw [lay_small d h.b, Bool.true_and]
  exact decide_eq_true (Nat.le_trans h.k hk)
theorem eq_sm {n k n' k' : Nat} {a b : D} (h : Sm n k a) (h' : Sm n' k' b) (hk : k ≤ 64) (hk' : k' ≤ 64) : eqD a b = some (.bool (PyData.eqv a b)) := by
  have e := h.shaped hk
  have e' := h'.shaped hk'
  cases a with
  | str x =>
    cases b with
    | str y =>
      show some (PyData.bool (decide (x = y))) = some (PyData.bool (x == y))
      refine congrArg (fun b => some (PyData.bool b)) ?_
      rw [Bool.eq_iff_iff, decide_eq_true_eq, beq_iff_eq]
    | _ => unfold eqD; exact if_pos (And.intro e e')
  | _ => unfold eqD; exact if_pos (And.intro e e')
theorem ne_sm {n k n' k' : Nat} {a b : D} (h : Sm n k a) (h' : Sm n' k' b) (hk : k ≤ 64) (hk' : k' ≤ 64) : neD a b = some (.bool (!PyData.eqv a b)) := by
  have e := h.shaped hk
  have e' := h'.shaped hk'
  cases a with
  | str x =>
    cases b with
    | str y =>
      show some (PyData.bool (!decide (x = y))) = some (PyData.bool (!(x == y)))
      refine congrArg (fun b => some (PyData.bool !b)) ?_
      rw [Bool.eq_iff_iff, decide_eq_true_eq, beq_iff_eq]
    | _ => unfold neD; exact if_pos (And.intro e e')
  | _ => unfold neD; exact if_pos (And.intro e e')
/-! data without bools and dicts: == is equality -/
mutual
def noB : D → Bool
  | .bool _ => false
  | .dict _ => false
  | .list xs => noBs xs
  | .tuple xs => noBs xs
  | _ => true
def noBs : List D → Bool
  | [] => true
  | x :: xs => noB x && noBs xs
end
theorem noB_map {γ : Type} {F : γ → D} : ∀ xs : List γ, (∀ x ∈ xs, noB (F x) = true) → noBs (xs.map F) = true
  | [], _ => rfl
  | x :: xs, h => by
    show (noB (F x) && noBs (xs.map F)) = true
    rw [h x List.mem_cons_self, noB_map xs fun y hy => h y (List.mem_cons_of_mem _ hy)]
    rfl
mutual
theorem eqv_iff : ∀ a b : D, noB a = true → noB b = true → (PyData.eqv a b = true ↔ a = b) := fun a b ha hb => by
  cases a with
  | none => cases b <;> simp [PyData.eqv, noB] at *
  | bool x => cases ha
  | int x => cases b <;> simp [PyData.eqv, noB] at *
  | str x => cases b <;> simp [PyData.eqv, noB] at *
  | list xs => cases b with
    | list ys => simp only [PyData.eqv, PyData.list.injEq]; exact eqvAll_iff xs ys ha hb
    | _ => simp [PyData.eqv]
  | tuple xs => cases b with
    | tuple ys => simp only [PyData.eqv, PyData.tuple.injEq]; exact eqvAll_iff xs ys ha hb
    | _ => simp [PyData.eqv]
  | dict x => cases ha
theorem eqvAll_iff : ∀ xs ys : List D, noBs xs = true → noBs ys = true → (PyData.eqvAll xs ys = true ↔ xs = ys) := fun xs ys ha hb => by
  cases xs with
  | nil => cases ys <;> simp [PyData.eqvAll]
  | cons x xs => cases ys with
    | nil => simp [PyData.eqvAll]
    | cons y ys =>
      have h1 : noB x = true ∧ noBs xs = true := by
        have : (noB x && noBs xs) = true := ha
        simpa using this
      have h2 : noB y = true ∧ noBs ys = true := by
        have : (noB y && noBs ys) = true := hb
        simpa using this
      simp only [PyData.eqvAll, Bool.and_eq_true, List.cons.injEq]
      rw [eqv_iff x y h1.1 h2.1, eqvAll_iff xs ys h1.2 h2.2]
end
theorem mul_one {x : D} {k : Int} (h : 0 ≤ k) (h1 : k ≤ 1000) : mulD (.tuple [x]) (.int k) = some (.tuple (List.replicate k.toNat x)) := by
  show (if k = 1 then some (PyData.tuple [x]) else if [x] ≠ [] ∧ 2 ≤ k ∧ k ≤ 1000 ∧ [x].length ≤ 1000 then some (.tuple (List.replicate k.toNat [x]).flatten) else if [x] ≠ [] ∧ k = 0 then some (.tuple []) else none) = _
  by_cases e : k = 1
  · rw [if_pos e, e]; rfl
  · by_cases e0 : k = 0
    · rw [if_neg e, if_neg (by omega), if_pos ⟨by simp, e0⟩, e0]
      rfl
    rw [if_neg e, if_pos ⟨by simp, by omega, h1, by simp⟩]
    congr 2
    generalize k.toNat = n
    induction n with
    | zero => rfl
    | succ n ih => rw [List.replicate_succ, List.flatten_cons, ih]; rfl
/-! the first index -/
def firstN {α : Type} (p : α → Bool) (l : List α) : Option Nat := (l.zipIdx.find? fun q => p q.1).map (·.2)
def oN : Option Nat → D
  | none => .none
  | some n => .int (n : Nat)
end DD
namespace DD
open PySem PySem.Spec PyProof.Rows L2
theorem ob_assoc {α β γ : Type} (x : Option α) (f : α → Option β) (g : β → Option γ) : ((x >>= f) >>= g) = (x >>= fun a => f a >>= g) := by cases x <;> rfl
/-! ### other draws -/
end DD
namespace DD
open PySem PySem.Spec PyProof.Rows L2
/-! ### x in c, x not in c: data of any depth -/
/-- a list of texts -/
def strsOf : List D → Option (List Str)
  | [] => some []
  | .str x :: ds => (strsOf ds).map (x :: ·)
  | _ :: _ => none
/-! ### [e for x in it for y in it2] -/
section
variable {m : Type → Type} [Mo m]
def lc2B (f : D → m D) : List D → List D → m (List D)
  | [], acc => pure acc
  | e :: r, acc => f e >>= fun z => Mo.lift (fits acc.length) >>= fun _ => lc2B f r (acc ++ [z])
def lc2A (y : D → m (List D)) (f : D → D → m D) : List D → List D → m (List D)
  | [], acc => pure acc
  | d :: r, acc => y d >>= fun es => lc2B (f d) es acc >>= fun acc => lc2A y f r acc
variable [Calm m] {X : Cx} {EX : XR} {g : List Sl}
abbrev comp11 (x : m (List D)) (y : D → m (List D)) (f : D → D → m D) : m (List D) := x >>= fun ds => Mo.lift (small ds) >>= fun ds => lc2A y f ds []
end
/-! rows -/
theorem get_row {rows : List (List Int)} {d : Nat} (h : d < rows.length) : DD.getD (tT rows) (.int (d : Nat)) = some (tI (rows.getD d [])) := by
  have := get_tup (F := tI) h
  rw [this]
  simp [List.getD, h]
theorem row_len {rows : List (List Int)} {k d : Nat} (hl : ∀ r ∈ rows, r.length = k) (h : d < rows.length) : (rows.getD d []).length = k := by
  simp [List.getD, h]
  exact hl _ (List.getElem_mem h)
theorem cut_loA {r : List D} {j : Int} (h0 : 0 ≤ j) : sliceD (.tuple r) none (some j) = some (.tuple (r.take j.toNat)) := by
  show some (PyData.tuple (cutD r none (some j))) = _
  unfold cutD
  have e : HT.sIx r.length r.length (some j) = min j.toNat r.length := by
    show (if j < 0 then (j + (r.length : Int)).toNat else min j.toNat r.length) = _
    rw [if_neg (by omega)]
  rw [e, HT.sIx_none, List.drop_zero, Nat.sub_zero]
  congr 2
  rw [List.take_eq_take_iff]
  omega
theorem mulL_one {x : D} {k : Int} (h : 0 ≤ k) (h1 : k ≤ 1000) : mulD (.list [x]) (.int k) = some (.list (List.replicate k.toNat x)) := by
  show (if 0 ≤ k ∧ k ≤ 1000 ∧ [x].length ≤ 1000 then some (PyData.list (List.replicate k.toNat [x]).flatten) else none) = _
  rw [if_pos ⟨h, h1, by simp⟩]
  congr 2
  generalize k.toNat = n
  induction n with
  | zero => rfl
  | succ n ih => rw [List.replicate_succ, List.flatten_cons, ih]; rfl
/-! ### defs that call themselves -/
/-- drawn wishes: one to four rows of k ints, none all zero -/
structure Wishes (k : Nat) (m : Int) (rows : List (List Int)) : Prop where
  one : 1 ≤ rows.length
  four : rows.length ≤ 4
  len : ∀ r ∈ rows, r.length = k
  ge : ∀ r ∈ rows, ∀ x ∈ r, 0 ≤ x ∧ x ≤ m
  pos : ∀ r ∈ rows, ∃ x ∈ r, 0 < x
def good (k : Nat) (m : Int) (r : List Int) : Prop := r.length = k ∧ (∀ x ∈ r, 0 ≤ x ∧ x ≤ m) ∧ ∃ x ∈ r, 0 < x
theorem Wishes.take {k : Nat} {m : Int} {rows : List (List Int)} (w : Wishes k m rows) {n : Nat} (h : 1 ≤ n) : Wishes k m (rows.take n) :=
  ⟨by have := w.one; rw [List.length_take]; omega, by have := w.four; rw [List.length_take]; omega, fun r hr => w.len r (List.mem_of_mem_take hr), fun r hr => w.ge r (List.mem_of_mem_take hr), fun r hr => w.pos r (List.mem_of_mem_take hr)⟩
/-! ### is, is not of bools -/
/-! ### for with three names -/
section
variable {m : Type → Type} [Mo m] {A : Type} {X : Cx} {EX : XR} {g : List Sl}
def tripM {α : Type} (d : D) (f : D → D → D → m α) : m α := match d with
  | .tuple [a, b, c] => f a b c
  | _ => Mo.lift none
abbrev forM3 (x : m (List D)) (a0 : A) (b : D → D → D → A → m (Fl A)) : m (Fl A) := x >>= fun ds => loopM (fun d a => tripM d fun u w v => b u w v a) ds a0
end
end DD
namespace DD
open PySem PySem.Spec PyProof.Rows L2
/-! ### two new lists at once -/
/-! the same by a tuple that is built and taken apart (names that a comprehension reads) -/
section
variable {m : Type → Type} [Mo m] {X : Cx} {EX : XR} {g : List Sl}
theorem sj_tupVL (i j : Nat) {tg a b : Expr} {pos : Pos} {k2 pt2} {x1 : m D} {x2 : m (List D)} (ha : EJ X EX a g x1) (hb : LJ X EX b g x2) (hg : PG X tg (gTup X.K 2 (gCons (gName i) (gCons (gName j) gNil)))) (hs : swapsWithSole [tg] (.Tuple [a, b] k2 pt2) pos.line X.env = pure false := by kernel_rfl) (hw : swappedStores [tg] (.Tuple [a, b] k2 pt2) X.env = pure none := by kernel_rfl)
    (h1 : (assignEach [tg] X.env).map (·.2) = [assign tg X.env] := by rfl) (hs1 : starEach [a, b] X.env = (false, eval a X.env) :: starEach [b] X.env := by rfl) (hs2 : starEach [b] X.env = (false, eval b X.env) :: starEach [] X.env := by rfl) :
    SJ X EX (.Assign [tg] (.Tuple [a, b] k2 pt2) pos) g (x1 >>= fun d => x2 >>= fun e => pure (d, e)) (fun de => (g.set i (.val de.1)).set j (.own de.2)) :=
  (ps_asg (pe_tup (pa_cons ha (pa_cons hb pa_nil hs2) hs1)) hg hs hw h1).weak fun De σ H ⟨B, G, n, φ, ξ, o, s, q, xw⟩ => te_one o s (fun v H1 G1 d n1 o1 g1 d1 s1 => ⟨B, G1, n1, _, ξ, o1, Mo.sat_bind s1, fun p xs H2 G2 es n2 o2 g2 hb' hg' hh hf da s2 =>
    ⟨(by show 2 ≤ sizeLine; decide), fun t ht => ⟨t, _, rfl, .inl (.inl upd_same), rfl, _, _, rfl, _, _, rfl, rfl, q (d, es) _ _ G2 n2 (((o2.raw ht).setV (d1.mono g2)).setO hb' hg' (by rw [upd_ne (fun e => by rw [← e, hh] at ht; cases ht)]; exact hh) (fun k es' f e1 e2 => by
      by_cases hk : i = k
      · subst hk
        by_cases hl : i < g.length
        · rw [List.getElem?_set_self hl] at e1; cases e1
        · rw [List.getElem?_eq_none (by rw [List.length_set]; omega)] at e1; cases e1
      · rw [List.getElem?_set_ne hk] at e1 e2
        exact hf k es' f e1 e2) da) (g1.trans g2) (Mo.sat_pure s2)⟩⟩, xw⟩) xw
end
/-! ### dicts as constants -/
section
variable {m : Type → Type} [Mo m] {X : Cx} {EX : XR} {g : List Sl}
theorem ej_dict0 {pos : Pos} : EJ (m := m) X EX (.Dict [] [] pos) g (pure (.dict [])) :=
  (pe_dnewK).weak fun σ H Q ⟨B, G, n, φ, ξ, o, s, q, xw⟩ p hp => by
    obtain ⟨o2, g2⟩ := o.alloc (u := .dK []) hp
    exact q _ _ _ _ n o2 g2 (.dct (kvs := []) upd_same (by simp)) (Mo.sat_pure s)
end
end DD
namespace DD
open PySem PySem.Spec PyProof.Rows
/-! ### t[::-1] of a tuple -/
open L2
theorem log60 {i : Int} (h : i.natAbs < 10 ^ 60) : i.natAbs.log2 < 1920 := by
  by_cases h0 : i.natAbs = 0
  · rw [h0]; decide
  · exact Nat.lt_of_lt_of_le ((Nat.log2_lt h0).mpr (Nat.lt_of_lt_of_le h (show 10 ^ 60 ≤ 2 ^ 200 by decide))) (by decide)
section
variable {m : Type → Type} [Mo m] {X : Cx} {EX : XR} {g : List Sl} {K : PySem.W.Frag}
/-- xs + ys of lists: a new list -/
def catO : D → D → Option (List D)
  | .list a, .list b => if a.length + b.length ≤ 1000000 then some (a ++ b) else none
  | _, _ => none
end
section
variable {m : Type → Type} [Mo m] {X : Cx} {EX : XR} {g : List Sl}
abbrev par3LM (x : m (List D)) (y z : m D) : m (List D × D × D) := x >>= fun d => y >>= fun e => z >>= fun f => pure (d, e, f)
abbrev put2M (ds : List D) (x1 x2 z1 : m D) (z2 : List D → m D) : m (List D) := x1 >>= fun a => x2 >>= fun b => z1 >>= fun j1 => Mo.lift (putD ds j1 a) >>= fun es => z2 es >>= fun j2 => Mo.lift (putD es j2 b)
abbrev catM (x y : m D) : m (List D) := x >>= fun d => y >>= fun e => Mo.lift (catO d e)
end
/-! ### sep.join(texts) -/
def strOnly : D → Option Str
  | .str x => some x
  | _ => none
def joinD (a : Str) (d : D) : Option D := (itemsD d).bind fun xs => (strsOf xs).bind fun ss => if (ss.map (·.length)).sum + ss.length * a.length ≤ 1000000 then some (.str (Str.join a ss)) else none
section
variable {m : Type → Type} [Mo m] {X : Cx} {EX : XR} {g : List Sl}
abbrev joinM (x y : m D) : m D := x >>= fun a => Mo.lift (strOnly a) >>= fun s => y >>= fun d => Mo.lift (joinD s d)
end
/-! ### repr of any data: n nodes, depth k; dicts of constants -/
mutual
def repB : D → Bool
  | .none => true
  | .bool _ => true
  | .int i => decide (i.natAbs < 10 ^ 60)
  | .str x => decide ((PyData.str x).shown.length ≤ 250)
  | .list xs => repAll xs
  | .tuple xs => repAll xs
  | .dict kvs => decide ((PyData.dict kvs).shown.length ≤ 90) && (PyData.dict kvs).showable && decide ((PyData.dict kvs).depth ≤ 1)
def repAll : List D → Bool
  | [] => true
  | x :: xs => repB x && repAll xs
end
theorem int_len60 {i : Int} (h : i.natAbs < 10 ^ 60) : (Str.ofString (toString i)).length ≤ 61 := by
  rw [PySem.ofString_length, Int.toString_eq_repr, Int.repr_eq_if]
  split
  · exact Nat.le_trans ((Nat.length_repr_le_iff (k := 60) (by decide)).mpr (by omega)) (by decide)
  · rw [String.length_append]
    have := (Nat.length_repr_le_iff (n := (-i).toNat) (k := 60) (by decide)).mpr (by omega)
    have e : ("-" : String).length = 1 := by decide
    omega
mutual
theorem rep_len : ∀ d : D, repB d = true → d.shown.length + 2 ≤ 300 * nodes d ∧ d.showable = true
  | .none, _ => ⟨by decide, rfl⟩
  | .bool b, _ => ⟨by cases b <;> decide, rfl⟩
  | .int i, h => by
    have h' : i.natAbs < 10 ^ 60 := of_decide_eq_true h
    refine ⟨?_, decide_eq_true (log60 h')⟩
    have := int_len60 h'
    show (Str.ofString (toString i)).length + 2 ≤ 300 * 1
    omega
  | .str x, h => by
    have h' : (PyData.str x).shown.length ≤ 250 := of_decide_eq_true h
    refine ⟨?_, rfl⟩
    show (PyData.str x).shown.length + 2 ≤ 300 * 1
    omega
  | .list xs, h => by
    obtain ⟨h1, h2⟩ := repAll_len xs h
    refine ⟨?_, h2⟩
    show (listText (PyData.shownAll xs)).length + 2 ≤ 300 * (nodesAll xs + 1)
    have := list_len (PyData.shownAll xs)
    omega
  | .tuple xs, h => by
    obtain ⟨h1, h2⟩ := repAll_len xs h
    refine ⟨?_, h2⟩
    show (tupleText (PyData.shownAll xs)).length + 2 ≤ 300 * (nodesAll xs + 1)
    have := tup_len (PyData.shownAll xs)
    omega
  | .dict kvs, h => by
    have h' : ((PyData.dict kvs).shown.length ≤ 90 ∧ (PyData.dict kvs).showable = true) ∧ (PyData.dict kvs).depth ≤ 1 := by
      have : (decide ((PyData.dict kvs).shown.length ≤ 90) && (PyData.dict kvs).showable && decide ((PyData.dict kvs).depth ≤ 1)) = true := h
      simpa using this
    refine ⟨?_, h'.1.2⟩
    show (PyData.dict kvs).shown.length + 2 ≤ 300 * 1
    omega
theorem repAll_len : ∀ xs : List D, repAll xs = true → piled (PyData.shownAll xs) ≤ 300 * nodesAll xs ∧ PyData.showableAll xs = true
  | [], _ => ⟨by simp [PyData.shownAll, piled], rfl⟩
  | x :: xs, h => by
    have h' : repB x = true ∧ repAll xs = true := by
      have : (repB x && repAll xs) = true := h
      simpa using this
    obtain ⟨a1, a2⟩ := rep_len x h'.1
    obtain ⟨b1, b2⟩ := repAll_len xs h'.2
    refine ⟨?_, ?_⟩
    · show piled (x.shown :: PyData.shownAll xs) ≤ 300 * (nodes x + nodesAll xs)
      rw [piled_cons]
      omega
    · show (x.showable && PyData.showableAll xs) = true
      rw [a2, b2]
      rfl
end
/-- what repr can show: n nodes, depth k -/
structure Rp (n k : Nat) (d : D) : Prop where
  b : repB d = true
  n : nodes d ≤ n
  k : d.depth ≤ k
structure RpA (n k : Nat) (ds : List D) : Prop where
  b : repAll ds = true
  n : nodesAll ds ≤ n
  k : PyData.depthAll ds ≤ k
theorem Rp.repr {n k : Nat} {d : D} (h : Rp n k d) (hn : n ≤ 3300) (hk : k ≤ 50) : reprD d = some (.str d.shown) := by
  obtain ⟨a, b⟩ := rep_len d h.b
  have := h.n
  have := h.k
  unfold reprD
  rw [if_pos ⟨b, by omega, by omega⟩]
theorem Rp.le {n k n' k' : Nat} {d : D} (h : Rp n k d) (hn : n ≤ n') (hk : k ≤ k') : Rp n' k' d := ⟨h.b, Nat.le_trans h.n hn, Nat.le_trans h.k hk⟩
theorem Rp.int {i : Int} (h : i.natAbs < 10 ^ 60) : Rp 1 0 (.int i) := ⟨decide_eq_true h, Nat.le_refl _, by simp [PyData.depth]⟩
theorem Rp.none : Rp 1 0 .none := ⟨rfl, Nat.le_refl _, by simp [PyData.depth]⟩
theorem Rp.bool (b : Bool) : Rp 1 0 (.bool b) := ⟨rfl, Nat.le_refl _, by simp [PyData.depth]⟩
theorem Rp.str {x : Str} (h : (PyData.str x).shown.length ≤ 250) : Rp 1 0 (.str x) := ⟨decide_eq_true h, Nat.le_refl _, by simp [PyData.depth]⟩
theorem RpA.nil : RpA 0 0 [] := ⟨rfl, Nat.le_refl _, by simp [PyData.depthAll]⟩
theorem RpA.cons {n k n' k' : Nat} {d : D} {ds : List D} (h : Rp n k d) (t : RpA n' k' ds) : RpA (n + n') (max k k') (d :: ds) :=
  ⟨by show (repB d && repAll ds) = true; rw [h.b, t.b]; rfl, by show nodes d + nodesAll ds ≤ _; have := h.n; have := t.n; omega, by have := h.k; have := t.k; simp only [PyData.depthAll]; omega⟩
theorem RpA.map {γ : Type} {n k : Nat} {F : γ → D} : ∀ xs : List γ, (∀ x ∈ xs, Rp n k (F x)) → RpA (xs.length * n) k (xs.map F)
  | [], _ => ⟨rfl, by simp [nodesAll], by simp [PyData.depthAll]⟩
  | x :: xs, h => by
    have := RpA.cons (h x List.mem_cons_self) (RpA.map xs fun y hy => h y (List.mem_cons_of_mem _ hy))
    exact ⟨this.b, by have := this.n; rw [List.length_cons, Nat.succ_mul]; simp only [List.map_cons]; omega, by have := this.k; simp only [List.map_cons]; omega⟩
theorem RpA.le {n k n' k' : Nat} {ds : List D} (h : RpA n k ds) (hn : n ≤ n') (hk : k ≤ k') : RpA n' k' ds := ⟨h.b, Nat.le_trans h.n hn, Nat.le_trans h.k hk⟩
theorem RpA.tup {n k : Nat} {ds : List D} (h : RpA n k ds) : Rp (n + 1) (k + 1) (.tuple ds) := ⟨h.b, by show nodesAll ds + 1 ≤ _; have := h.n; omega, by show PyData.depthAll ds + 1 ≤ _; have := h.k; omega⟩
theorem RpA.lst {n k : Nat} {ds : List D} (h : RpA n k ds) : Rp (n + 1) (k + 1) (.list ds) := ⟨h.b, by show nodesAll ds + 1 ≤ _; have := h.n; omega, by show PyData.depthAll ds + 1 ≤ _; have := h.k; omega⟩
theorem Rp.all {n k : Nat} {d : D} {ds : List D} (h : Rp n k d) (e : d = .tuple ds ∨ d = .list ds) : RpA (n - 1) (k - 1) ds := by
  rcases e with rfl | rfl
  · exact ⟨h.b, by have : nodesAll ds + 1 ≤ n := h.n; omega, by have : PyData.depthAll ds + 1 ≤ k := h.k; omega⟩
  · exact ⟨h.b, by have : nodesAll ds + 1 ≤ n := h.n; omega, by have : PyData.depthAll ds + 1 ≤ k := h.k; omega⟩
theorem nodes_pos (d : D) : 1 ≤ nodes d := by cases d <;> simp [nodes]
theorem RpA.len {n k : Nat} : ∀ {ds : List D}, RpA n k ds → ds.length ≤ n
  | [], _ => Nat.zero_le _
  | x :: xs, h => by
    have hn : nodes x + nodesAll xs ≤ n := h.n
    have hb : repB x = true ∧ repAll xs = true := by
      have : (repB x && repAll xs) = true := h.b
      simpa using this
    have hk : max x.depth (PyData.depthAll xs) ≤ k := by have := h.k; simpa only [PyData.depthAll] using this
    have := RpA.len (n := n - 1) (k := k) (ds := xs) ⟨hb.2, by have := nodes_pos x; omega, by omega⟩
    have := nodes_pos x
    simp only [List.length_cons]
    omega
theorem repAll_append : ∀ (a b : List D), repAll (a ++ b) = (repAll a && repAll b)
  | [], b => rfl
  | x :: a, b => by show (repB x && repAll (a ++ b)) = _; rw [repAll_append a b, ← Bool.and_assoc]; rfl
theorem nodesAll_append : ∀ (a b : List D), nodesAll (a ++ b) = nodesAll a + nodesAll b
  | [], b => by simp [nodesAll]
  | x :: a, b => by show nodes x + nodesAll (a ++ b) = nodes x + nodesAll a + nodesAll b; rw [nodesAll_append a b]; omega
theorem depthAll_append : ∀ (a b : List D), PyData.depthAll (a ++ b) = max (PyData.depthAll a) (PyData.depthAll b)
  | [], b => by simp [PyData.depthAll]
  | x :: a, b => by rw [List.cons_append]; simp only [PyData.depthAll]; rw [depthAll_append a b]; omega
theorem RpA.append {n k n' k' : Nat} {a b : List D} (h : RpA n k a) (t : RpA n' k' b) : RpA (n + n') (max k k') (a ++ b) :=
  ⟨by rw [repAll_append, h.b, t.b]; rfl, by rw [nodesAll_append]; have := h.n; have := t.n; omega, by rw [depthAll_append]; have := h.k; have := t.k; omega⟩
theorem RpA.part {n k : Nat} {a b c : List D} (h : RpA n k (a ++ b ++ c)) : RpA n k b := by
  have h1 := h.b
  have h2 := h.n
  have h3 := h.k
  rw [repAll_append, repAll_append] at h1
  rw [nodesAll_append, nodesAll_append] at h2
  rw [depthAll_append, depthAll_append] at h3
  simp only [Bool.and_eq_true] at h1
  exact ⟨h1.1.2, by omega, by omega⟩
theorem RpA.take {n k : Nat} {ds : List D} (h : RpA n k ds) (i : Nat) : RpA n k (ds.take i) := RpA.part (a := []) (c := ds.drop i) (by rw [List.nil_append, List.take_append_drop]; exact h)
theorem RpA.drop {n k : Nat} {ds : List D} (h : RpA n k ds) (i : Nat) : RpA n k (ds.drop i) := RpA.part (a := ds.take i) (c := []) (by rw [List.append_nil, List.take_append_drop]; exact h)
theorem RpA.each {n k : Nat} {ds : List D} (h : ∀ d ∈ ds, Rp n k d) : RpA (ds.length * n) k ds := by
  have := RpA.map (F := id) ds h
  rwa [List.map_id] at this
theorem cut_hiA {r : List D} {j : Int} (h0 : 0 ≤ j) : sliceD (.tuple r) (some j) none = some (.tuple (r.drop j.toNat)) := by
  show some (PyData.tuple (cutD r (some j) none)) = _
  unfold cutD
  have e : HT.sIx r.length 0 (some j) = min j.toNat r.length := by
    show (if j < 0 then (j + (r.length : Int)).toNat else min j.toNat r.length) = _
    rw [if_neg (by omega)]
  rw [e, HT.sIx_none, List.take_of_length_le (by simp)]
  congr 2
  rcases Nat.le_total j.toNat r.length with h | h
  · rw [Nat.min_eq_left h]
  · rw [Nat.min_eq_right h, List.drop_of_length_le h, List.drop_of_length_le (Nat.le_refl _)]
/-- an item of a list by a drawn place -/
theorem get_mem {ds : List D} {r : Int} (h0 : 0 ≤ r) (h1 : r < ds.length) : ∃ d ∈ ds, getD (.list ds) (.int r) = some d := by
  obtain ⟨n, rfl⟩ : ∃ n : Nat, r = (n : Int) := ⟨r.toNat, by omega⟩
  have hn : n < ds.length := by omega
  exact ⟨ds[n], List.getElem_mem hn, atI_at rfl (List.getElem?_eq_getElem hn)⟩
theorem eq_nilA (xs : List D) : eqD (.list xs) (.list []) = some (.bool xs.isEmpty) := by
  show (if SeqAt.shaped (.list xs) = true ∧ SeqAt.shaped (.list []) = true then some (PyData.bool (PyData.eqv (.list xs) (.list []))) else (lensD (.list xs) (.list [])).map fun k => .bool k) = _
  cases xs with
  | nil => kernel_rfl
  | cons x xs =>
    split
    · simp [PyData.eqv, PyData.eqvAll]
    · rfl
end DD
namespace DD
open PySem PySem.Spec PyProof.Rows L2
section
variable {m : Type → Type} [Mo m] {X : Cx} {EX : XR} {g : List Sl}
/-- what pop takes out, and what is left -/
def popD (ds : List D) (k : D) : Option (D × List D) := match k with
  | .int j => if 0 ≤ j ∧ j < 2 ^ 62 then (ds[j.toNat]?).map fun d => (d, ds.eraseIdx j.toNat) else none
  | _ => none
theorem DaAll.eraseIdx {K : PySem.W.Frag} {G : Hp} : ∀ {vs : List V} {ds : List D} (n : Nat), DaAll K G vs ds → DaAll K G (vs.eraseIdx n) (ds.eraseIdx n)
  | _, _, _, .nil => .nil
  | _, _, 0, .cons _ b => b
  | _, _, n + 1, .cons a b => .cons a (DaAll.eraseIdx n b)
abbrev popM (fs ds : List D) (x : m D) : m (D × List D) := x >>= fun k => Mo.lift (popD fs k) >>= fun p => Mo.lift (fits ds.length) >>= fun _ => pure p
abbrev parLV (x : m (List D)) (y : m D) : m (List D × D) := x >>= fun d => y >>= fun e => pure (d, e)
abbrev putVM (ds : List D) (x1 x2 zk : m D) : m (List D × D) := x1 >>= fun a => x2 >>= fun b => zk >>= fun j1 => Mo.lift (putD ds j1 a) >>= fun es => pure (es, b)
end
/-! ### sorted of ints -/
def insI (x : Int) : List Int → List Int
  | [] => [x]
  | y :: l => if x ≤ y then x :: y :: l else y :: insI x l
def sortI : List Int → List Int
  | [] => []
  | x :: l => insI x (sortI l)
end DD
namespace DD
open PySem PySem.Spec PyProof.Rows L2 StX
/-! ### a, *b = t -/
/-- what is first, and the rest -/
def headD : D → Option (D × List D)
  | .tuple (d :: ds) => some (d, ds)
  | _ => none
section
variable {m : Type → Type} [Mo m] {A : Type} {X : Cx} {EX : XR} {g : List Sl}
abbrev unpS (x : m D) : m (D × List D) := x >>= fun d => Mo.lift (headD d)
theorem fj_dead {ss : List Stmt} {fall : Bool} : FJ X EX fall ss g (Mo.lift none : m D) :=
  ⟨fun pins s σ H D I ⟨B, G, n, φ, ξ, o, st, _⟩ => by obtain ⟨_, e, _⟩ := Mo.sat_lift st; cases e⟩
end
/-! ### defs with a star parameter -/
end DD
namespace DD
open PySem PySem.Spec PyProof.Rows L2
section
variable {m : Type → Type} [Mo m] {A : Type} {X : Cx} {EX : XR} {g : List Sl}
abbrev trg1M (x : m D) : m D := x >>= fun d => Mo.lift (lrgO1 d) >>= fun ds => pure (.tuple ds)
/-- x or y, the value itself -/
def truD : D → Option Bool
  | .none => some false
  | .bool b => some b
  | .int i => some (!(i == 0))
  | _ => none
abbrev orV (x y : m D) : m D := x >>= fun d => Mo.lift (truD d) >>= fun k => if k = true then pure d else y
/-! ### while -/
theorem pt_any {c : Expr} {tc : A → TT} (h : ∀ a, PT X c (tc a)) : PT X c (fun σ H Q => ∃ a, tc a σ H Q) := ⟨fun pins s σ H Q I ⟨a, ha⟩ => (h a).run pins s σ H Q I ha⟩
end
end DD
namespace DD
open PySem PySem.Spec PyProof.Rows L2
/-- sorted, each once -/
def dedI : List Int → List Int
  | [] => []
  | x :: l => if decide (x ∈ l) = true then dedI l else x :: dedI l
def sortSetD : D → Option (List D)
  | .list ds => (intsD ds).bind fun ns => if ns.length < 63 then some ((sortI (dedI ns)).map .int) else none
  | _ => none
section
variable {m : Type → Type} [Mo m] {X : Cx} {EX : XR} {g : List Sl}
abbrev sortSetM (x : m D) : m D := x >>= fun d => Mo.lift (sortSetD d) >>= fun ds => pure (.list ds)
end
end DD
/-! errors whose context is None: the kit's L2N in the place of L2 (a class with its own __init__; an except clause without a name) -/
namespace DD
open PySem PySem.Spec PyProof.Rows L2
/-- what a class's call leaves, the context None -/
theorem mk_endN {X : Cx} {pins : List (Addr × Obj)} {σ : L2.St} {H1 H2 : Hp} {Q : XK} {hp hp2 h2 : Heap} {g1 g2 : Array GenState} {d1 d2 : Drawn} {t1 t2 : Nat} {os1 os2 : OsState} {a C d : Addr} {fs : List (Str × V)} (T : Raises X (.ref C)) (I1 : Inv X pins σ H1 ⟨hp, g1, d1, t1, os1⟩)
    (up : hp.objs.size ≤ a) (old : ∀ b o, hp.get? b = some o → hp2.get? b = some o) (un : Un (frs X.stack) [] (upd H1 a (exo a C none)) H2 hp2 h2) (hok : HOk X.prog X.w H2 h2) (ho : os2 = os1) (bare : AllBare g2)
    (ea : H2 a = some (exo a C (some d))) (ed : H2 d = some (exd d fs)) (nd : H1 d = none) (q : Q (.ref C) (some d) (upd (del H2 a) d (.xd fs))) : L2N.MkP X pins σ Q (.ref a) ⟨h2, g2, d2, t2, os2⟩ :=
  let ⟨_, G, J, kG, ge, oe, na⟩ := mk_end0 (d2 := d2) (t2 := t2) I1 up old un hok ho bare ea ed nd
  ⟨a, _, _, ⟨G, g2, d2, t2, os2⟩, _, .ref C, some d, rfl, J, kG, ge, oe, ⟨rfl, rfl, fun _ z => by cases z; rfl⟩, rfl, rfl, na, rfl, bare, T, q⟩
section
variable {X : Cx} {e : Expr} {es : List Expr} {ta : TA}
/-- C(e, ..) makes the error, its __init__ fills it; its context is None -/
theorem pmk_oexN {CX : CXT} {c : Str} {p pos : Pos} {C fI : Addr} {k : Nat} {fd : FuncData} {ps : List Str} {sp : Sp} {ds : List Value} {dvs : List V} (T : OexC X.K C) (i1 : PySem.W.findIn X.K (.ref C) "__init__" = some (some (.ref fI))) (i2 : PySem.W.typeIn X.K (.ref fI) = some (.type "function")) (F1 : FnOk X.prog X.w X.K X.mg X.base CX k fI fd ps sp) (hr : Room (k + 1) X.A) (hb : Binds X.K fd ps ds) (hd : Vals dvs ds)
    (hx : Passes CX X (fun _ _ _ => False)) (hg : Gl X c) (hm : X.mg c = some (.ref C)) (ha : PA X (e :: es) ta) (hdb : (c == ("__debug__" : Str)) = false) (he : starEach (e :: es) X.env = (false, eval e X.env) :: starEach es X.env) (hpl : (backTo pos (starEach es X.env)).any (·.1) = false) :
    L2N.PMk X (.Call (.Name c p) (e :: es) [] pos) (tMkO C sp dvs ta) := by
  intro pins s σ H Q I h
  obtain ⟨nm, q, N, bs, bm, sn, sub, ab, col, dd, k0, k1, k2, k3, k5, lk, tl⟩ := T.cls
  refine wpAny_Call_Name_kw (ld_glob I hg hm (PySem.W.callWith_K (h₀ := X.base) I.ok.mod.kin T.kC (thn (ha.run pos pins s σ H _ I h) fun us s1 ⟨vs, H1, I1, r1, hz, q1⟩ => ⟨I1.kIn, ?_⟩) he hpl) hdb)
  show wpAny _ _ (call (.ref C) us) _ _ _
  obtain ⟨hp, gs, dr, tk, os⟩ := s1
  have up1 : hp.objs.size ≤ hp.objs.size + 1 := Nat.le_succ _
  have body := q1 (hp.objs.size + 1) (I1.hok.fresh up1)
  generalize hx1 : hp.objs.size + 1 = x at body up1
  obtain ⟨h2, eh2⟩ : ∃ h2 : Heap, h2 = (hp.push (PySem.W.kdv_tup us)).push (PySem.HandSPX.excO C hp.objs.size) := ⟨_, rfl⟩
  have old : ∀ b o, hp.get? b = some o → h2.get? b = some o := fun b o z => eh2 ▸ Heap.get?_push_of_some _ (Heap.get?_push_of_some _ z)
  have new : h2.get? x = some (PySem.HandSPX.excO C hp.objs.size) := by
    rw [← hx1, eh2]
    heap_get
  have I2 : Inv X pins σ (upd H1 x (exo x C none)) ⟨h2, gs, dr, tk, os⟩ := I1.laid (t' := tk) (h' := h2) old up1 (exo_ok new)
  have rv : Vals (V.ref x :: (vs ++ dvs)) (Value.ref x :: (us ++ ds)) := .cons rfl (r1.append hd)
  have len : (Value.ref x :: us ++ ds).length = ps.length := by
    have z := rv.length
    rw [F1.len _ _ _ _ body] at z
    exact z.symm
  have hus : us.length ≤ sizeLine := by
    rw [← Paired.length r1, sizeLine_eq]
    omega
  have bd : BindsTo ⟨h2, gs, dr, tk, os⟩ fd ⟨Value.ref x :: us, []⟩ (ps.zip (Value.ref x :: (us ++ ds))) := hb _ (Value.ref x :: us) I2.kIn len
  refine wpAny_call (PySem.HandSPX.call_own PySem.F.excBase_ValueError (fun Y => PySem.HandSPX.refsVE_contains Y bm tl) (I1.kIn _ _ lk) (PySem.W.looks_findIn I1.kIn i1) (fun self => PySem.W.bind_fn I1.kIn self i2) hus ?_)
  rw [hx1, ← eh2]
  refine codeAny_mono (F1.run _ X.stack _ _ ⟨Value.ref x :: us, []⟩ (Value.ref x :: (us ++ ds)) _ _ (fun _ _ _ => False) (hr.make C us []) (I2.env0.make C us []) bd rv body) fun r s' back => ?_
  cases r with
  | error er => exact hx pins σ _ _ er s' I2 back
  | ok fl =>
    cases fl with
    | ret u =>
      obtain ⟨v, H2, os2, bare2, un2, hok2, rz, ev, d, fs, ea, ed, hd1, q2⟩ := back
      subst ev
      obtain ⟨h3, g3, d3, t3, os3⟩ := s'
      exact ⟨rz, mk_endN (raises_own T.exC T.tyC) I1 up1 old un2 hok2 os2 bare2 ea ed hd1 q2⟩
    | next => exact False.elim back
    | brk => exact False.elim back
    | cont => exact False.elim back
end
end DD
namespace DD
open PySem PySem.Spec PyProof.Rows L2
/-! ### mirrors that raise -/
/-- plain data, or an error -/
def Xo (α : Type) : Type := Option (Except Exn α)
instance : Mo Xo where
  pure := fun a => some (.ok a)
  bind := fun x f => match x with
    | some (.ok a) => f a
    | some (.error e) => some (.error e)
    | none => none
  sat := fun x n φ ξ => n.ob = [] ∧ ((∃ a, x = some (.ok a) ∧ φ a n) ∨ ∃ e, x = some (.error e) ∧ ξ e n)
  lift := fun o => o.map .ok
  sat_pure := fun h => by
    obtain ⟨_, ⟨a, e, q⟩ | ⟨a, e, q⟩⟩ := h
    · cases e; exact q
    · cases e
  sat_bind := fun {α β x f n φ ξ} h => by
    obtain ⟨hn, h⟩ := h
    refine ⟨hn, ?_⟩
    match x, h with
    | some (.ok a), h => exact .inl ⟨a, rfl, hn, h⟩
    | some (.error e), .inl ⟨a, e', q⟩ => cases e'
    | some (.error e), .inr ⟨e2, e', q⟩ => cases e'; exact .inr ⟨e, rfl, q⟩
    | none, .inl ⟨a, e', q⟩ => cases e'
    | none, .inr ⟨e2, e', q⟩ => cases e'
  sat_lift := fun {α o n φ ξ} h => by
    obtain ⟨_, ⟨a, e, q⟩ | ⟨a, e, q⟩⟩ := h
    · cases o with
      | none => cases e
      | some b => cases e; exact ⟨_, rfl, q⟩
    · cases o with
      | none => cases e
      | some b => cases e
class MoX (m : Type → Type) [Mo m] where
  throw : {α : Type} → Exn → m α
  sat_throw : ∀ {α : Type} {e : Exn} {n : Wd} {φ : α → Wd → Prop} {ξ : Exn → Wd → Prop}, Mo.sat (throw e : m α) n φ ξ → ξ e n
instance : MoX Xo where
  throw := fun e => some (.error e)
  sat_throw := fun h => by
    obtain ⟨_, ⟨a, e, q⟩ | ⟨a, e, q⟩⟩ := h
    · cases e
    · cases e; exact q
instance : Up Option Xo where
  up := fun o => o.map .ok
  sat_up := fun {α o n φ ξ} h => ⟨h.1, Mo.sat_lift (m := Xo) h⟩
/-- what is raised by one mirror is caught by another -/
class Tr (m₁ m : Type → Type) [Mo m₁] [Mo m] where
  try_ : {α : Type} → m₁ α → (Exn → m α) → m α
  sat_try : ∀ {α : Type} {x : m₁ α} {h : Exn → m α} {n : Wd} {φ : α → Wd → Prop} {ξ : Exn → Wd → Prop}, Mo.sat (try_ x h) n φ ξ → Mo.sat x n φ (fun e n' => Mo.sat (h e) n' φ ξ)
def tryO {α : Type} (x : Xo α) (h : Exn → Option α) : Option α := match x with
  | some (.ok a) => some a
  | some (.error e) => h e
  | none => none
instance : Tr Xo Option where
  try_ := tryO
  sat_try := fun {α x h n φ ξ} s => by
    obtain ⟨hn, a, e, q⟩ := s
    refine ⟨hn, ?_⟩
    match x, e with
    | some (.ok b), e => cases e; exact .inl ⟨_, rfl, q⟩
    | some (.error b), e => exact .inr ⟨b, rfl, hn, a, e, q⟩
    | none, e => cases e
/-! ### defs that raise -/
structure FnX (P : Program) (w : World) (K : PySem.W.Frag) (mg : Str → Option Value) (base : Heap) (k : Nat) (f : Addr) (fd : FuncData) (ps : List Str) (sp : Sp) : Prop where
  len : ∀ vs H Q E, sp vs H Q E → vs.length = ps.length
  run : ∀ (A : Around) (outer : List Env) (s : Shared) (H : Hp) (args : Args) (us : List Value) (vs : List V) (Q : VK) (E : XK), Room k A → A.guards = some [] → Env0 P w K mg base A outer s H → BindsTo s fd args (ps.zip us) → Vals vs us → sp vs H Q E →
    codeAny (model P w) A (.call (.ref f) args) (CR (L2N.CX P w) outer P w H s Q E) s
theorem FnX.mono {P : Program} {w : World} {K : PySem.W.Frag} {mg : Str → Option Value} {base : Heap} {j k : Nat} {f : Addr} {fd : FuncData} {ps : List Str} {sp : Sp} (F : FnX P w K mg base j f fd ps sp) (h : j ≤ k) : FnX P w K mg base k f fd ps sp :=
  ⟨F.len, fun A outer s H args us vs Q E hr => F.run A outer s H args us vs Q E (hr.mono h)⟩
theorem fnx_of {P : Program} {w : World} {K : PySem.W.Frag} {mg : Str → Option Value} {base : Heap} {k : Nat} {x qual : Str} {st : Stmt} {f : Addr} {fd : FuncData} {N ps : List Str} {sp : Sp} (F : Fun K x qual st f fd) (S : FnScope N ps (defScope st)) (len : ∀ vs H Q E, sp vs H Q E → vs.length = ps.length)
    (hb : ∀ (cdv : Value) (A : Around) (outer : List Env) (s : Shared) (H : Hp) (vs : List V) (Q : VK) (E : XK), Room k (A.deeper (envOfC qual (defScope st) s.heap.objs.size f cdv)) → A.guards = some [] → sp vs H Q E →
      ∃ t, PSs (cxOf (L2N.CX P w) P w K mg base N qual (defScope st) f cdv A outer s H E) (defBody st) t ∧ t { nx := fun _ H' => Q .non H', rt := Q } (start N vs) H) : FnX P w K mg base (k + 1) f fd ps sp := by
  obtain ⟨oc, od, kV, doc, pm, an, cdv, ct, osl, rfl, lk, hcd⟩ := F.ex
  refine ⟨len, fun A outer s H args us vs Q E room gu e0 bi rv hsp => ?_⟩
  have KH : K.In s.heap := e0.mod.kin.keeps fun b o z => (e0.bs b o z).1
  have kinds : ∀ y ∈ ps.zip us, (defScope st).names.lookup y.1 = some .local ∨ ((defScope st).names.lookup y.1 = some .cell ∧ ((cellsFrom (s.heap.objs.size + 1) (defScope st).names []).lookup y.1).isSome = true) := by
    rintro ⟨nm, _⟩ hy
    exact (S.par nm (List.of_mem_zip hy).1).imp id fun z => ⟨z, PySem.W.cellsFrom_some _ _ _ (.inl z)⟩
  refine codeAny_call_function room.depth (KH _ _ lk) rfl S.co S.gen rfl (PySem.W.codeRec_of KH hcd) (bi _ _ _ _ (wpAny_newFunctionEnv_cells S.kind kinds fun env he s1 nw => ?_))
  subst he
  refine ⟨(e0.mod.nolimit.keeps fun b o z => (e0.bs b o z).1).keeps nw.toInCall.keep, codeAny_func ?_⟩
  obtain ⟨t, ht, hq⟩ := hb cdv A outer s H vs Q E (room.deeper _) gu hsp
  refine wpAny_mono (ht.run [] s1 (start N vs) H _ (inv_start S room.hd e0 (len _ _ _ _ hsp) rv nw) hq) (fun fl s' h => ?_) fun _ _ z => z
  cases fl with
  | ret u =>
    obtain ⟨v, _, H', J, r', q⟩ := h
    exact ⟨v, H', J.os, J.bare, J.base, J.hok, r', q⟩
  | next =>
    obtain ⟨_, H', J, q⟩ := h
    exact ⟨.non, H', J.os, J.bare, J.base, J.hok, rfl, q⟩
  | brk => obtain ⟨_, _, _, q⟩ := h; exact q.elim
  | cont => obtain ⟨_, _, _, q⟩ := h; exact q.elim
section
variable {m : Type → Type} [Mo m]
/-- a promise by a mirror that may raise -/
def spX (K : PySem.W.Frag) (mg : Str → Option Value) (F : List Sl → m D) : Sp := fun vs H Q E => ∃ G n dk as φ ξ, ArgsOk K ⟨H, G, dk, G⟩ G vs as ∧ Fm K ⟨H, G, dk, G⟩ H G n ∧ Mo.sat (F as) n φ ξ ∧
  (∀ v H' G' d n', Fm K ⟨H, G, dk, G⟩ H' G' n' → Da K G' v d → φ d n' → Q v H') ∧ ∀ e c od H' G' n', Fm K ⟨H, G, dk, G⟩ H' G' n' → ExA K mg e G' c od → ξ e n' → E c od H'
/-- the wish of a def's body: what is raised leaves -/
def xrOf (N : List Str) (E : XK) : XR := ⟨fun c od _ H => E c od H, List.replicate N.length .any⟩
theorem fn_jx {P : Program} {w : World} {K : PySem.W.Frag} {mg : Str → Option Value} {base : Heap} {k : Nat} {x qual : Str} {st : Stmt} {f : Addr} {fd : FuncData} {N ps : List Str} {F : List Sl → m D} (Fu : Fun K x qual st f fd) (S : FnScope N ps (defScope st))
    (hb : ∀ (as : List Sl) (n : Wd) (φ : D → Wd → Prop) (ξ : Exn → Wd → Prop), Mo.sat (F as) n φ ξ → as.length = ps.length ∧ ∀ (cdv : Value) (A : Around) (outer : List Env) (s : Shared) (H : Hp) (E : XK), Room k (A.deeper (envOfC qual (defScope st) s.heap.objs.size f cdv)) → A.guards = some [] →
      FJ (cxOf (L2N.CX P w) P w K mg base N qual (defScope st) f cdv A outer s H E) (xrOf N E) true (defBody st) (as ++ List.replicate (N.length - as.length) .any) (F as)) : FnX P w K mg base (k + 1) f fd ps (spX K mg F) := by
  refine fnx_of Fu S (fun vs H Q E ⟨G, n, dk, as, φ, ξ, a, _, s, _⟩ => a.length.trans (hb as n φ ξ s).1) fun cdv A outer s H vs Q E hr gu ⟨G, n, dk, as, φ, ξ, a, fm, st, q, qx⟩ => ⟨_, (hb as n φ ξ st).2 cdv A outer s H E hr gu, ⟨H, G, dk, G⟩, G, n, φ, ξ, ok_start a fm, st, q, fun _ σ' H' G' n' f' p => q .non H' G' .none n' f' .non p, fun e n' σ' H' G' c od he o ex => qx e c od H' G' n' o.fm ex he⟩
theorem takesX {P : Program} {w : World} {K : PySem.W.Frag} {mg : Str → Option Value} {base : Heap} {N : List Str} {qual : Str} {scope : Scope} {f : Addr} {cd : Value} {A : Around} {outer : List Env} {s : Shared} {H : Hp} {E : XK} : L2N.Takes (cxOf (L2N.CX P w) P w K mg base N qual scope f cd A outer s H E) (xrOf N E).w := L2N.takes_of rfl rfl rfl rfl
/-! ### calls of them -/
variable {X : Cx} {EX : XR} {g : List Sl} {k : Nat} {f : Addr} {fd : FuncData} {ps : List Str}
end
end DD
namespace DD
open PySem PySem.Spec PyProof.Rows L2
theorem sub_any : ∀ {g h : List Sl}, (h.all fun s => match s with | .any => true | _ => false) = true → h.length = g.length → Sub g h
  | [], [], _, _ => trivial
  | _ :: _, [], _, e => by simp at e
  | [], _ :: _, _, e => by simp at e
  | a :: g, b :: h, e, l => by
    rw [List.all_cons, Bool.and_eq_true] at e
    refine ⟨.inl ?_, sub_any e.2 (by simpa using l)⟩
    cases b with
    | any => rfl
    | _ => cases e.1
/-! ### raise C(e), C with an __init__ that stores one field -/
def spInit (C : Addr) (fl : Str) : Sp := fun vs H Q _ => ∃ a y, vs = [.ref a, y] ∧ H a = some (exo a C none) ∧ ∀ dx, H dx = none → dx ≠ a → Q .non (upd (upd H dx (exd dx [(fl, y)])) a (exo a C (some dx)))
theorem init_ok {P : Program} {w : World} {K : PySem.W.Frag} {mg : Str → Option Value} {base : Heap} {qual : Str} {st : Stmt} {f C : Addr} {fd : FuncData} {p0 p1 fl : Str} {q1 q2 q3 q4 : Pos} (F : Fun K "__init__" qual st f fd) (S : FnScope [p0, p1] [p0, p1] (defScope st)) (hb : defBody st = [.Assign [.Attribute (.Name p0 q1) fl q2] (.Name p1 q3) q4])
    (T : OexC K C) (hno : PySem.W.findIn K (.ref C) fl = some none)
    (hp : ∀ (cdv : Value) (A : Around) (outer : List Env) (s : Shared) (H : Hp) (E : XK), PSs (cxOf CX0 P w K mg base [p0, p1] qual (defScope st) f cdv A outer s H E).nox (defBody st) (fun D σ H => tOst K fl (tVar 0) (tVar 1) D σ H)) : FnOk P w K mg base CX0 1 f fd [p0, p1] (spInit C fl) := by
  refine F.ok S (fun vs H Q E ⟨a, y, e, _⟩ => by rw [e]; rfl) fun cdv A outer s H vs Q E _ ⟨a, y, e, ha, q⟩ => ⟨_, hp cdv A outer s H E, ?_⟩
  subst e
  refine ⟨y, rfl, .ref a, rfl, a, C, rfl, T, hno, .inl ⟨ha, fun dx h1 h2 => q dx h1 h2⟩⟩
/-- what the law's text says of an error's class with one field -/
structure Er1 (P : Program) (w : World) (K : PySem.W.Frag) (mg : Str → Option Value) (base : Heap) (c fl : Str) (C : Addr) : Prop where
  nm : mg c = some (.ref C)
  T : OexC K C
  ini : ∃ fI fd ps, PySem.W.findIn K (.ref C) "__init__" = some (some (.ref fI)) ∧ PySem.W.typeIn K (.ref fI) = some (.type "function") ∧ FnOk P w K mg base CX0 1 fI fd ps (spInit C fl) ∧ Binds K fd ps []
section
variable {m : Type → Type} [Mo m] [MoX m] {A : Type} {X : Cx} {EX : XR} {g : List Sl} {fall : Bool}
theorem raise1 {c fl : Str} {C : Addr} {e : Expr} {p pos pos2 : Pos} {y : m D} (R : Er1 X.prog X.w X.K X.mg X.base c fl C) (hr : Room 2 X.A) (hc : X.calm = true) (tk : L2N.Takes X EX.w) (sb : Sub g EX.g) (he : EJ X EX e g y) (hg : Gl X c) (hd : (c == ("__debug__" : Str)) = false) (hs : starEach [e] X.env = (false, eval e X.env) :: starEach [] X.env) (hpl : (backTo pos (starEach [] X.env)).any (·.1) = false)
    {σ : L2.St} {H : Hp} {De : Ends} {α : Type} (h : ∃ B G n φ ξ, Ok X.K B g σ H G n ∧ Mo.sat (y >>= fun d => (MoX.throw ⟨c, [(fl, d)]⟩ : m α)) n φ ξ ∧ Xw X B EX ξ) : ∃ t, PS X (.Raise (some (.Call (.Name c p) [e] [] pos)) none pos2) t ∧ t De σ H := by
  obtain ⟨fI, fd, ps, i1, i2, i3, i4⟩ := R.ini
  refine ⟨_, L2N.ps_raise hc tk (pmk_oexN R.T i1 i2 i3 hr i4 .nil pass0 hg R.nm (pa_cons he pa_nil hs) hd hs hpl), ?_⟩
  obtain ⟨B, G, n, φ, ξ, o, s, xw⟩ := h
  refine te_one o s (fun v H1 G1 d n1 o1 g1 d1 s1 => ⟨by simp, fun a ha => ⟨a, v, rfl, upd_same, fun dx hdx hne => ⟨rfl, dx, [(fl, v)], upd_same, ?_, ?_, ?_⟩⟩⟩) xw
  · rw [upd_ne hne, upd_same]
  · rw [upd_ne hne] at hdx; exact hdx
  · have hd1 : H1 dx = none := by rw [upd_ne hne] at hdx; exact hdx
    have eH : (upd (del (upd (upd (upd H1 a (exo a C none)) dx (exd dx [(fl, v)])) a (exo a C (some dx))) a) dx (.xd [(fl, v)])) = upd H1 dx (.xd [(fl, v)]) := by
      funext b
      by_cases hb : b = dx
      · rw [hb, upd_same, upd_same]
      · rw [upd_ne hb, upd_ne hb]
        by_cases hba : b = a
        · rw [hba, del_same, ha]
        · rw [del_ne hba, upd_ne hba, upd_ne hb, upd_ne hba]
    show EX.w (.ref C) (some dx) σ _
    rw [eH]
    obtain ⟨o2, g2⟩ := o1.alloc (u := .xd [(fl, v)]) hd1
    exact xw ⟨c, [(fl, d)]⟩ n1 σ _ _ (.ref C) (some dx) (MoX.sat_throw s1) (o2.forget sb) ⟨C, R.nm, rfl, .inr ⟨dx, _, rfl, upd_same, rfl, .cons (d1.mono g2) .nil⟩⟩
theorem fj_raise1 {c fl : Str} {C : Addr} {e : Expr} {p pos pos2 : Pos} {rest : List Stmt} {y : m D} (R : Er1 X.prog X.w X.K X.mg X.base c fl C) (hr : Room 2 X.A) (hc : X.calm = true) (tk : L2N.Takes X EX.w) (sb : Sub g EX.g) (he : EJ X EX e g y) (hg : Gl X c := by rfl) (hd : (c == ("__debug__" : Str)) = false := by decide) (hs : starEach [e] X.env = (false, eval e X.env) :: starEach [] X.env := by rfl) (hpl : (backTo pos (starEach [] X.env)).any (·.1) = false := by rfl) :
    FJ X EX fall (.Raise (some (.Call (.Name c p) [e] [] pos)) none pos2 :: rest) g (y >>= fun d => MoX.throw ⟨c, [(fl, d)]⟩) :=
  ⟨fun pins s σ H De I ⟨B, G, n, φ, ξ, o, st, q1, q2, xw⟩ => by
    obtain ⟨t, h1, h2⟩ := raise1 (α := D) (De := { De with nx := fun _ _ => False }) R hr hc tk sb he hg hd hs hpl ⟨B, G, n, φ, ξ, o, st, xw⟩
    exact (pss_cons h1 (u := tNever) ⟨fun _ _ _ _ _ _ h => h.elim⟩).run pins s σ H De I h2⟩
theorem bj_raise1 {c fl : Str} {C : Addr} {e : Expr} {p pos pos2 : Pos} {rest : List Stmt} {y : m D} {P : A → List Sl} (R : Er1 X.prog X.w X.K X.mg X.base c fl C) (hr : Room 2 X.A) (hc : X.calm = true) (tk : L2N.Takes X EX.w) (sb : Sub g EX.g) (he : EJ X EX e g y) (hg : Gl X c := by rfl) (hd : (c == ("__debug__" : Str)) = false := by decide) (hs : starEach [e] X.env = (false, eval e X.env) :: starEach [] X.env := by rfl) (hpl : (backTo pos (starEach [] X.env)).any (·.1) = false := by rfl) :
    BJ X EX (.Raise (some (.Call (.Name c p) [e] [] pos)) none pos2 :: rest) g (y >>= fun d => (MoX.throw ⟨c, [(fl, d)]⟩ : m (Fl A))) P :=
  ⟨fun pins s σ H De I ⟨B, G, n, φ, ξ, o, st, q1, q2, xw⟩ => by
    obtain ⟨t, h1, h2⟩ := raise1 (α := Fl A) (De := { De with nx := fun _ _ => False }) R hr hc tk sb he hg hd hs hpl ⟨B, G, n, φ, ξ, o, st, xw⟩
    exact (pss_cons h1 (u := tNever) ⟨fun _ _ _ _ _ _ h => h.elim⟩).run pins s σ H De I h2⟩
end
/-! ### try: body, except C as n: suite -/
section
variable {K : PySem.W.Frag} {B : Bs} {g : List Sl} {σ : L2.St} {H G : Hp} {n : Wd}
theorem Ok.setX (o : Ok K B g σ H G n) {i : Nat} {a : Addr} {od : Option Addr} {fs : List (Str × D)} (h : XdAt K G od fs) : Ok K B (g.set i (.exn a od fs)) (σ.set i (some (.ref a))) H G n where
  fm := o.fm
  len := by rw [List.length_set, List.length_set, o.len]
  val := fun j e he => by
    by_cases hj : i = j
    · subst hj
      by_cases hl : i < g.length
      · rw [List.getElem?_set_self hl] at he; cases he
      · rw [List.getElem?_eq_none (by rw [List.length_set]; omega)] at he; cases he
    · rw [List.getElem?_set_ne hj] at he ⊢
      exact o.val j e he
  own := by
    obtain ⟨f, h1, h2⟩ := o.own
    have out : ∀ (j : Nat) (ds : List D), (g.set i (.exn a od fs))[j]? = some (Sl.own ds) → i ≠ j ∧ g[j]? = some (Sl.own ds) := fun j ds e => by
      by_cases hj : i = j
      · subst hj
        by_cases hl : i < g.length
        · rw [List.getElem?_set_self hl] at e; cases e
        · rw [List.getElem?_eq_none (by rw [List.length_set]; omega)] at e; cases e
      · rw [List.getElem?_set_ne hj] at e
        exact ⟨hj, e⟩
    refine ⟨f, fun j k ds es a b => h1 j k ds es (out j ds a).2 (out k es b).2, fun j ds e => ?_⟩
    obtain ⟨hj, e⟩ := out j ds e
    rw [List.getElem?_set_ne hj]
    exact h2 j ds e
  dck := fun j e => by
    by_cases hj : i = j
    · subst hj
      by_cases hl : i < g.length
      · rw [List.getElem?_set_self hl] at e; cases e
      · rw [List.getElem?_eq_none (by rw [List.length_set]; omega)] at e; cases e
    · rw [List.getElem?_set_ne hj] at e ⊢
      exact o.dck j e
  adr := fun j b od' fs' e => by
    by_cases hj : i = j
    · subst hj
      by_cases hl : i < g.length
      · rw [List.getElem?_set_self hl] at e
        cases e
        exact ⟨by rw [List.getElem?_set_self (by rw [← o.len]; exact hl)], h⟩
      · rw [List.getElem?_eq_none (by rw [List.length_set]; omega)] at e; cases e
    · rw [List.getElem?_set_ne hj] at e ⊢
      exact o.adr j b od' fs' e
/-- the data that stand now are remembered -/
abbrev Bs.tag (B : Bs) (T : Hp) : Bs := { B with tG := T }
theorem Fm.tag (f : Fm K B H G n) {T : Hp} (h : Same T G) : Fm K (B.tag T) H G n := ⟨f.keep, f.sub, f.old, f.obs, f.bt, h, f.new, f.deck⟩
theorem Fm.untag {T : Hp} (f : Fm K (B.tag T) H G n) (h : Same B.tG G) : Fm K B H G n := ⟨f.keep, f.sub, f.old, f.obs, f.bt, h, f.new, f.deck⟩
theorem Ok.tag (o : Ok K B g σ H G n) {T : Hp} (h : Same T G) : Ok K (B.tag T) g σ H G n := ⟨o.fm.tag h, o.len, o.val, o.own, o.dck, o.adr⟩
theorem Ok.untag {T : Hp} (o : Ok K (B.tag T) g σ H G n) (h : Same B.tG G) : Ok K B g σ H G n := ⟨o.fm.untag h, o.len, o.val, o.own, o.dck, o.adr⟩
/-- a slot of which nothing is known goes -/
theorem Ok.unset (o : Ok K B g σ H G n) {i : Nat} (h : g[i]? = some Sl.any) : Ok K B g (σ.set i none) H G n where
  fm := o.fm
  len := by rw [List.length_set, o.len]
  val := fun j e he => by
    have : i ≠ j := by rintro rfl; rw [h] at he; cases he
    rw [List.getElem?_set_ne this]
    exact o.val j e he
  own := by
    obtain ⟨f, h1, h2⟩ := o.own
    refine ⟨f, h1, fun j ds e => ?_⟩
    have : i ≠ j := by rintro rfl; rw [h] at e; cases e
    rw [List.getElem?_set_ne this]
    exact h2 j ds e
  dck := fun j e => by
    have : i ≠ j := by rintro rfl; rw [h] at e; cases e
    rw [List.getElem?_set_ne this]
    exact o.dck j e
  adr := fun j b od fs e => by
    have : i ≠ j := by rintro rfl; rw [h] at e; cases e
    rw [List.getElem?_set_ne this]
    exact o.adr j b od fs e
end
section
variable {m₁ m : Type → Type} [Mo m₁] [Mo m] [Tr m₁ m] {A : Type} {X : Cx} {EX : XR} {g gk : List Sl}
/-- the suite's mirrors, by the error's class -/
def exc1 {α : Type} (c f : Str) (e : Exn) (h : D → m α) (r : m α) : m α := if e.cls = c then (match e.fs with
  | [(f', d)] => if f' = f then h d else Mo.lift none
  | _ => Mo.lift none) else r
theorem exc1_pick {α : Type} {c f : Str} {e : Exn} {h : D → m α} {r : m α} {n : Wd} {φ : α → Wd → Prop} {ξ : Exn → Wd → Prop} {Q : Prop} (s : Mo.sat (exc1 c f e h r) n φ ξ) (h1 : e.cls = c → Q) (h2 : Mo.sat r n φ ξ → Q) : Q := by
  unfold exc1 at s
  split at s
  · rename_i z; exact h1 z
  · exact h2 s
theorem no_sat {α : Type} {n : Wd} {φ : α → Wd → Prop} {ξ : Exn → Wd → Prop} {Q : Prop} (s : Mo.sat (Mo.lift none : m α) n φ ξ) : Q := by
  obtain ⟨_, e, _⟩ := Mo.sat_lift s
  cases e
theorem bj_exc1 {c f : Str} {e : Exn} {ss : List Stmt} {h : D → m (Fl A)} {r : m (Fl A)} {P : A → List Sl} {EX : XR} {X : Cx} (h1 : ∀ d, e.cls = c → e.fs = [(f, d)] → BJ X EX ss g (h d) P) (h2 : BJ X EX ss g r P) : BJ X EX ss g (exc1 c f e h r) P := by
  unfold exc1
  by_cases z : e.cls = c
  · rw [if_pos z]
    obtain ⟨cl, fs⟩ := e
    match fs with
    | [(f', d)] =>
      dsimp only
      by_cases zf : f' = f
      · rw [if_pos zf]; exact h1 d z (by rw [zf])
      · rw [if_neg zf]
        exact ⟨fun pins s σ H De I ⟨B, G, n, φ, ξ, o, st, _⟩ => no_sat st⟩
    | [] => exact ⟨fun pins s σ H De I ⟨B, G, n, φ, ξ, o, st, _⟩ => no_sat st⟩
    | _ :: _ :: _ => exact ⟨fun pins s σ H De I ⟨B, G, n, φ, ξ, o, st, _⟩ => no_sat st⟩
  · rw [if_neg z]; exact h2
theorem bj_no {ss : List Stmt} {P : A → List Sl} {EX : XR} {X : Cx} : BJ X EX ss g (Mo.lift none : m (Fl A)) P := ⟨fun pins s σ H De I ⟨B, G, n, φ, ξ, o, st, _⟩ => no_sat st⟩
/-- what a suite may lean on -/
structure Held (X : Cx) (e : Exn) (a : Addr) (oe : Obj) (od : Option Addr) (C : Addr) : Prop where
  nm : X.mg e.cls = some (.ref C)
  zc : L2N.Zn (.ref C) od oe
  da : ∃ vs, oe.data = .fields vs
theorem try_as (i : Nat) {x n : Str} {cv : Value} {body suite : List Stmt} {b₀ : Stmt} {np pos pos' : Pos} {P : A → List Sl} {y : m₁ (Fl A)} {h : Exn → m (Fl A)}
    (hs : X.stack = X.env :: X.outer) (hf : X.env.frame = some X.env.locals) (hN : X.N.Nodup) (hi : X.N[i]? = some n) (hln : X.env.kindOf n = some .local) (hc : Names X x cv) (tk : L2N.Takes X EX.w)
    (hct : ∀ (e : Exn) (n : Wd) (φ : Fl A → Wd → Prop) (ξ : Exn → Wd → Prop), Mo.sat (h e) n φ ξ → ∀ C, X.mg e.cls = some (.ref C) → PySem.W.exmOne X.K (.ref C) cv = some true)
    (hP : ∀ a, (P a)[i]? = some Sl.any)
    (hb : ∀ (W : WX) (pn : List (Addr × Obj)) (xe : Value → Shared → Prop), L2N.Takes (X.tr pn xe) W → PassesOwn (model X.prog X.w) X.A X.env xe → BJ (X.tr pn xe) ⟨W, gk⟩ body g y P)
    (hsu : ∀ (e : Exn) (a : Addr) (oe : Obj) (od : Option Addr) (C : Addr) (pn : List (Addr × Obj)), Held X e a oe od C → BJ (X.suite a ((a, oe) :: pn)) X0 (b₀ :: suite) (gk.set i (.exn a od e.fs)) (h e) P) [Calm m] :
    PS X (.Try body [.ExceptHandler (some (.Name x np)) (some n) (b₀ :: suite) pos'] [] [] pos) (tbJ X EX g (Tr.try_ y h) P) := by
  refine (L2N.ps_try_as (tb := fun W => tbJ X ⟨W, gk⟩ g y P) (ts := fun a cls od De σ H => ∃ t : { t : Exn × Addr // X.mg t.1.cls = some (.ref t.2) ∧ cls = .ref t.2 }, tbJ X X0 (gk.set i (.exn a od t.1.1.fs)) (h t.1.1) P De σ H) hs hf hN hi hln hc tk (fun W pn xe t p => hb W pn xe t p)
    fun a oe cls od pn hz hd => pss_any fun t => ?_).weak fun De σ H ⟨B, G, n, φ, ξ, o, s, q1, q2, xw⟩ => ⟨B.tag G, G, n, φ, _, o.tag (Same.refl _), Tr.sat_try s, fun b τ H2 G2 n2 o2 g2 p2 => q1 b τ H2 G2 n2 (o2.untag (o.fm.tg.trans g2)) g2 p2, fun v H2 G2 d n2 f2 dv p2 => q2 v H2 G2 d n2 (f2.untag (o.fm.tg.trans f2.tg)) dv p2, fun e n' σ' H' G' c od he o' ex => ?_⟩
  · obtain ⟨⟨e, C⟩, h1, h2⟩ := t
    dsimp only at h1 h2
    subst h2
    exact hsu e a oe od C pn ⟨h1, hz, hd⟩
  · obtain ⟨C, k1, k2, k3⟩ := ex
    subst k2
    have gg : Same G G' := o'.fm.tg
    have o'' := o'.untag (B := B) (o.fm.tg.trans gg)
    refine ⟨true, hct e n' φ ξ he C k1, fun _ a ha => ⟨⟨(e, C), k1, rfl⟩, B, G', n', φ, fun _ _ => False, o''.setX k3, Calm.calm he, fun b τ H2 G2 n2 o2 g2 p2 => ?_, q2, fun _ _ _ _ _ _ _ z => z.elim⟩, fun z => by cases z⟩
    exact q1 b _ H2 G2 n2 (o2.unset (hP b)) (gg.trans g2) p2
end
end DD
namespace DD
open PySem PySem.Spec PyProof.Rows L2
/-! ### in an except suite: isinstance, the error's fields -/
/-- what the written part says of an error's class -/
structure ErK (K : PySem.W.Frag) (C : Addr) : Prop where
  hcl : (PySem.W.clsIn K C).isSome = true
  hga : PySem.W.findIn K (.ref C) "__getattribute__" = some (some (.builtin "BaseException.__getattribute__"))
  hgt : PySem.W.findIn K (.ref C) "__getattr__" = some none
  hsub : PySem.W.subIn K (.ref C) (.type "BaseException") = some true
  hdC : PySem.W.hasDictIn K C = true
  ha : PySem.W.findIn K (.ref C) "__class__" = some (some (.builtin "object.__class__"))
  hn : PySem.W.specialIn K (.builtin "object.__class__") "__get__" = some (some (.builtin "getset_descriptor.__get__"))
  ht : PySem.W.takesIn K (.builtin "object.__class__") = some true
  hm : PySem.W.mroIn K C (.type "object") = some true
section
variable {X : Cx} {a C : Addr} {oe : Obj} {od : Option Addr} {pn : List (Addr × Obj)}
/-- the held error as an instance -/
theorem held_inst {pins : List (Addr × Obj)} {σ : L2.St} {H : Hp} {s : Shared} (I : Inv (X.suite a ((a, oe) :: pn)) pins σ H s) (hz : L2N.Zn (.ref C) od oe) (hf : ∃ vs, oe.data = .fields vs) (hd : od = none ∨ ∃ dx vs, od = some dx ∧ H dx = some (.xd vs)) : ∃ o, PySem.W.InstAt s.heap a oe C o := by
  obtain ⟨ha, _⟩ := I.pin (a, oe) (List.mem_append.mpr (.inl List.mem_cons_self))
  obtain ⟨vs, hv⟩ := hf
  have no : PySem.W.notCls oe = true := by unfold PySem.W.notCls; rw [hv] <;> rfl
  rcases hd with rfl | ⟨dx, fs, rfl, hx⟩
  · exact ⟨none, ha, hz.1, no, by rw [hz.2.1]; trivial⟩
  · obtain ⟨mA, hns, _⟩ := (show ObjOk X.prog X.w H s.heap dx (.xd fs) from I.hok dx _ hx)
    obtain ⟨o, es, ep, e1, _⟩ := hns
    exact ⟨some o, ha, hz.1, no, by rw [hz.2.1]; exact e1⟩
def rIsX (K : PySem.W.Frag) (C a : Addr) (od : Option Addr) : List V → Hp → VK → Prop := fun xs H Q => ∃ (c : V) (u : Value) (b : Bool), xs = [.ref a, c] ∧ ClsV c u ∧ PySem.W.kitOne K (.ref C) u = some b ∧ (od = none ∨ ∃ dx vs, od = some dx ∧ H dx = some (.xd vs)) ∧ Q (.bl b) H
def rIsXT (K : PySem.W.Frag) (C a : Addr) (od : Option Addr) : List V → Hp → VK → Prop := fun xs H Q => ∃ (tp : Addr) (cs : List V) (us : List Value) (b : Bool), xs = [.ref a, .ref tp] ∧ H tp = some (.tup cs) ∧ Paired ClsV cs us ∧ PySem.W.kitAny K (.ref C) us = some b ∧ (od = none ∨ ∃ dx vs, od = some dx ∧ H dx = some (.xd vs)) ∧ Q (.bl b) H
theorem call_isX (T : ErK X.K C) (hz : L2N.Zn (.ref C) od oe) (hf : ∃ vs, oe.data = .fields vs) : CallR (X.suite a ((a, oe) :: pn)) (.builtin "isinstance") (rIsX X.K C a od) := by
  intro pins s σ H xs us Q I r ⟨c, u, b, e, k, hk, hd, q⟩
  subst e
  obtain ⟨u1, u2, rfl, r1, r2⟩ := vals2 r
  have e2 := k.eq r2
  subst e2
  cases r1
  obtain ⟨o, J⟩ := held_inst I hz hf hd
  exact PySem.W.kia_one (PySem.W.kitx_exc T.hcl T.hga T.hgt T.hsub T.ha T.hn T.ht T.hm) I.kIn J hk (fun z => nomatch z) fun tk => ⟨.bl b, H, I.tok tk, rfl, q⟩
theorem call_isXT (T : ErK X.K C) (hz : L2N.Zn (.ref C) od oe) (hf : ∃ vs, oe.data = .fields vs) : CallR (X.suite a ((a, oe) :: pn)) (.builtin "isinstance") (rIsXT X.K C a od) := by
  intro pins s σ H xs us Q I r ⟨tp, cs, ws, b, e, hT, k, hk, hd, q⟩
  subst e
  obtain ⟨u1, u2, rfl, r1, r2⟩ := vals2 r
  cases (show u2 = Value.ref tp from r2)
  cases r1
  obtain ⟨o, J⟩ := held_inst I hz hf hd
  obtain ⟨_, its, rv, ob, h1, h2, n, h3⟩ := (show ObjOk X.prog X.w H s.heap tp (.tup cs) from I.hok tp _ hT)
  have e3 := ClsV.all k rv
  subst e3
  obtain ⟨oc, odd, dt, sl⟩ := ob
  simp only at h2 h3
  subst h2 h3
  exact PySem.W.kia_tup (PySem.W.kitx_exc T.hcl T.hga T.hgt T.hsub T.ha T.hn T.ht T.hm) I.kIn J h1 hk (fun z => nomatch z) fun tk => ⟨.bl b, H, I.tok tk, rfl, q⟩
end
/-- a class by its name -/
def clsV : Value → V
  | .type T => .ty T
  | .ref C => .ref C
  | _ => .non
theorem cls_pe {X : Cx} {x : Str} {u : Value} {pos : Pos} (h : Names X x u) (hu : ClsV (clsV u) u) : PE X (.Name x pos) (tC (clsV u)) := by
  obtain ⟨hg, hd, h | ⟨h1, h2, h3⟩⟩ := h
  · cases hu' : u with
    | ref C =>
      subst hu'
      exact pe_glob (v := .ref C) hg h rfl hd
    | type T =>
      subst hu'
      exact pe_glob (v := .ty T) hg h rfl hd
    | _ => subst hu'; cases hu
  · cases hu' : u with
    | ref C =>
      subst hu'
      exact pe_bltn (v := .ref C) hg h1 h2 rfl h3 hd
    | type T =>
      subst hu'
      exact pe_bltn (v := .ty T) hg h1 h2 rfl h3 hd
    | _ => subst hu'; cases hu
theorem ClsV.ofT (T : String) : ClsV (clsV (.type T)) (.type T) := .ty T
theorem ClsV.ofC (C : Addr) : ClsV (clsV (.ref C)) (.ref C) := .own C
inductive PClss (X : Cx) : List Expr → List Value → Prop
  | nil : PClss X [] []
  | cons {x : Str} {pos : Pos} {es : List Expr} {u : Value} {us : List Value} : Names X x u → ClsV (clsV u) u → starEach (.Name x pos :: es) X.env = (false, eval (.Name x pos) X.env) :: starEach es X.env → PClss X es us → PClss X (.Name x pos :: es) (u :: us)
def tClss : List Value → TA
  | [] => tNil
  | u :: us => tCons (tC (clsV u)) (tClss us)
theorem PClss.pa {X : Cx} : ∀ {es : List Expr} {us : List Value}, PClss X es us → PA X es (tClss us)
  | _, _, .nil => pa_nil
  | _, _, .cons h k s r => pa_cons (cls_pe h k) r.pa s
theorem PClss.vs {X : Cx} : ∀ {es : List Expr} {us : List Value}, PClss X es us → Paired ClsV (us.map clsV) us
  | _, _, .nil => .nil
  | _, _, .cons _ k _ r => .cons k r.vs
theorem tClss_run {us : List Value} {σ : L2.St} {H : Hp} {Q : List V → Hp → Prop} (q : Q (us.map clsV) H) : tClss us σ H Q := by
  induction us generalizing Q with
  | nil => exact q
  | cons u us ih => exact ih (Q := fun vs H' => Q (clsV u :: vs) H') q
theorem clss_suite {X : Cx} {a : Addr} {q : List (Addr × Obj)} : ∀ {es : List Expr} {us : List Value}, PClss X es us → PClss (X.suite a q) es us
  | _, _, .nil => .nil
  | _, _, .cons h k s r => .cons h k s (clss_suite r)
section
variable {m : Type → Type} [Mo m] {X : Cx} {EX : XR} {g : List Sl} {e : Exn} {a C : Addr} {oe : Obj} {od : Option Addr} {pn : List (Addr × Obj)}
theorem XdAt.inH {K : PySem.W.Frag} {G H : Hp} {fs : List (Str × D)} (h : XdAt K G od fs) (s : SubM G H) : od = none ∨ ∃ dx vs, od = some dx ∧ H dx = some (.xd vs) := by
  rcases h with ⟨_, h⟩ | ⟨dx, vs, h1, h2, _⟩
  · exact .inl h
  · exact .inr ⟨dx, vs, h1, s.h _ _ h2 rfl⟩
/-- isinstance(e, c) -/
theorem ej_isX (i : Nat) {fs : List (Str × D)} {b : Bool} {n cx : Str} {u : Value} {p p1 p2 pos : Pos} (hh : Held X e a oe od C) (T : ErK X.K C) (hk : PySem.W.kitOne X.K (.ref C) u = some b) (hc : Names X cx u) (hu : ClsV (clsV u) u) (hm : X.mg "isinstance" = none) (hs : g[i]? = some (Sl.exn a od fs) := by rfl) (hN : X.N[i]? = some n := by rfl) (hv : Vis X.env.scope n := by first | exact Or.inl rfl | exact Or.inr (Or.inl rfl) | exact Or.inr (Or.inr rfl)) (hd : (n == ("__debug__" : Str)) = false := by decide)
    (hcd : (n == ("__classdict__" : Str)) = false := by decide) (hg : Gl X "isinstance" := by rfl) (s1 : starEach [.Name n p1, .Name cx p2] X.env = (false, eval (.Name n p1) X.env) :: starEach [.Name cx p2] X.env := by rfl) (s2 : starEach [.Name cx p2] X.env = (false, eval (.Name cx p2) X.env) :: starEach [] X.env := by rfl) :
    EJ (m := m) (X.suite a ((a, oe) :: pn)) EX (.Call (.Name "isinstance" p) [.Name n p1, .Name cx p2] [] pos) g (pure (.bool b)) :=
  (pe_callB (X := X.suite a ((a, oe) :: pn)) (call_isX T hh.zc hh.da) hg hm (by decide +kernel) (pa_cons (pe_var (X := X.suite a ((a, oe) :: pn)) hN hv hd hcd) (pa_cons (cls_pe (X := X.suite a ((a, oe) :: pn)) hc hu) pa_nil s2) s1) (by decide) (by decide) s1 (by rw [s2]; rfl)).weak fun σ H Q ⟨B, G, n, φ, ξ, o, s, q, _⟩ => by
    obtain ⟨e1, e2⟩ := o.adr i a od fs hs
    exact ⟨.ref a, e1, clsV u, u, b, rfl, hu, hk, e2.inH o.fm.sub, q _ H G _ n o (Same.refl _) (.bl b) (Mo.sat_pure s)⟩
/-- isinstance(e, (c, ..)) -/
theorem ej_isXT (i : Nat) {fs : List (Str × D)} {b : Bool} {n : Str} {es : List Expr} {us : List Value} {p p1 p2 pos : Pos} {j} (hh : Held X e a oe od C) (T : ErK X.K C) (hk : PySem.W.kitAny X.K (.ref C) us = some b) (hc : PClss X es us) (hm : X.mg "isinstance" = none) (hl : us.length ≤ 1000 := by simp) (hs : g[i]? = some (Sl.exn a od fs) := by rfl) (hN : X.N[i]? = some n := by rfl) (hv : Vis X.env.scope n := by first | exact Or.inl rfl | exact Or.inr (Or.inl rfl) | exact Or.inr (Or.inr rfl)) (hd : (n == ("__debug__" : Str)) = false := by decide)
    (hcd : (n == ("__classdict__" : Str)) = false := by decide) (hg : Gl X "isinstance" := by rfl) (s1 : starEach [.Name n p1, .Tuple es j p2] X.env = (false, eval (.Name n p1) X.env) :: starEach [.Tuple es j p2] X.env := by rfl) (s2 : starEach [.Tuple es j p2] X.env = (false, eval (.Tuple es j p2) X.env) :: starEach [] X.env := by rfl) :
    EJ (m := m) (X.suite a ((a, oe) :: pn)) EX (.Call (.Name "isinstance" p) [.Name n p1, .Tuple es j p2] [] pos) g (pure (.bool b)) :=
  (pe_callB (X := X.suite a ((a, oe) :: pn)) (call_isXT T hh.zc hh.da) hg hm (by decide +kernel) (pa_cons (pe_var (X := X.suite a ((a, oe) :: pn)) hN hv hd hcd) (pa_cons (pe_tup (X := X.suite a ((a, oe) :: pn)) (PClss.pa (X := X.suite a ((a, oe) :: pn)) (clss_suite hc))) pa_nil s2) s1) (by decide) (by decide) s1 (by rw [s2]; rfl)).weak fun σ H Q ⟨B, G, n, φ, ξ, o, s, q, _⟩ => by
    obtain ⟨e1, e2⟩ := o.adr i a od fs hs
    refine ⟨.ref a, e1, tClss_run ⟨by rw [List.length_map]; exact le_line (Nat.le_trans hl (by decide)), fun tp hp => ?_⟩⟩
    obtain ⟨o2, g2⟩ := o.alloc (u := .tup (us.map clsV)) hp
    exact ⟨tp, us.map clsV, us, b, rfl, upd_same, hc.vs, hk, (e2.mono g2).inH o2.fm.sub, q _ _ _ _ n o2 g2 (.bl b) (Mo.sat_pure s)⟩
/-- e.f -/
theorem ej_xf (i : Nat) {f n : Str} {d : D} {p pos : Pos} (hh : Held X e a oe od C) (T : ErK X.K C) (hno : PySem.W.findIn X.K (.ref C) f = some none) (hs : g[i]? = some (Sl.exn a od [(f, d)]) := by rfl) (hN : X.N[i]? = some n := by rfl) (hv : Vis X.env.scope n := by first | exact Or.inl rfl | exact Or.inr (Or.inl rfl) | exact Or.inr (Or.inr rfl)) (hd : (n == ("__debug__" : Str)) = false := by decide)
    (hcd : (n == ("__classdict__" : Str)) = false := by decide) (hb : attributeBase (.Name n p) f X.env (eval (.Name n p) X.env) = eval (.Name n p) X.env := by rfl) :
    EJ (m := m) (X.suite a ((a, oe) :: pn)) EX (.Attribute (.Name n p) f pos) g (pure d) :=
  (pe_xf (X := X) (n := f) ⟨T.hga, T.hgt, T.hsub, T.hdC⟩ hno hh.zc.zc hh.da (pe_var (X := X.suite a ((a, oe) :: pn)) hN hv hd hcd) hb).weak fun σ H Q ⟨B, G, n, φ, ξ, o, s, q, _⟩ => by
    obtain ⟨e1, e2⟩ := o.adr i a od _ hs
    rcases e2 with ⟨e3, _⟩ | ⟨dx, vs, h1, h2, h3, h4⟩
    · cases e3
    · match vs, h3, h4 with
      | [(f', v)], h3, .cons h5 _ =>
        have : f' = f := by simpa using h3
        subst this
        exact ⟨.ref a, e1, rfl, rfl, dx, [(f', v)], v, h1, o.fm.sub.h _ _ h2 rfl, by simp [List.lookup], q v H G d n o (Same.refl _) h5 (Mo.sat_pure s)⟩
end
end DD
namespace DD
open PySem PySem.Spec PyProof.Rows L2
/-! ### raising defs with a star parameter -/
section
variable {m : Type → Type} [Mo m] {X : Cx} {EX : XR} {g : List Sl} {k : Nat} {f : Addr} {ps : List Str}
/-! ### what does not raise, within a mirror that may -/
variable {m' : Type → Type} [Mo m'] [Up m' m] {A : Type}
theorem ej_up {e : Expr} {x : m' D} (h : EJ X EX e g x) : EJ (m := m) X EX e g (Up.up x) := PE.weak h fun σ H Q ⟨B, G, n, φ, ξ, o, s, q, xw⟩ => ⟨B, G, n, φ, ξ, o, Up.sat_up s, q, xw⟩
theorem tj_up {e : Expr} {x : m' Bool} (h : TJ X EX e g x) : TJ (m := m) X EX e g (Up.up x) := PT.weak h fun σ H Q ⟨B, G, n, φ, ξ, o, s, q, xw⟩ => ⟨B, G, n, φ, ξ, o, Up.sat_up s, q, xw⟩
abbrev upX {α : Type} (o : Option α) : Xo α := Up.up (m' := Option) (m := Xo) o
/-- the suite for one class of errors -/
theorem suite1 {i : Nat} {gk : List Sl} {c f : Str} {e : Exn} {a C C' : Addr} {oe : Obj} {od : Option Addr} {X' : Cx} {ss : List Stmt} {h : D → m (Fl A)} {r : m (Fl A)} {P : A → List Sl} (hh : Held X e a oe od C) (hm : X.mg c = some (.ref C')) (h1 : ∀ d, Held X ⟨c, [(f, d)]⟩ a oe od C' → BJ X' X0 ss (gk.set i (.exn a od [(f, d)])) (h d) P) (h2 : BJ X' X0 ss (gk.set i (.exn a od e.fs)) r P) :
    BJ X' X0 ss (gk.set i (.exn a od e.fs)) (exc1 c f e h r) P := by
  refine bj_exc1 (fun d hc hf => ?_) h2
  obtain ⟨cl, fs⟩ := e
  dsimp only at hc hf
  subst hc hf
  have := hh.nm
  dsimp only at this
  rw [hm] at this
  cases this
  exact h1 d hh
/-- which class it is -/
theorem pick_cls {mg : Str → Option Value} {c d : Str} {C C' : Addr} {Q : Addr → Prop} (z : d = c) (h : mg c = some (.ref C')) (hC : mg d = some (.ref C)) (q : Q C') : Q C := by
  rw [z, h] at hC
  cases hC
  exact q
end
section
variable {P : Program} {w : World} {K : PySem.W.Frag} {mg : Str → Option Value} {base : Heap} {k : Nat} {x qual : Str} {st : Stmt} {f : Addr} {fd : FuncData} {N ps : List Str} {m : Type → Type} [Mo m]
theorem fnx_ar2 {F : D → D → m D} (Fu : Fun K x qual st f fd) (S : FnScope N ps (defScope st)) (hl : ps.length = 2)
    (hb : ∀ (a0 a1 : D), ∀ (cdv : Value) (A : Around) (outer : List Env) (s : Shared) (H : Hp) (E : XK), Room k (A.deeper (envOfC qual (defScope st) s.heap.objs.size f cdv)) → A.guards = some [] →
      FJ (cxOf (L2N.CX P w) P w K mg base N qual (defScope st) f cdv A outer s H E) (xrOf N E) true (defBody st) ([Sl.val a0, Sl.val a1] ++ List.replicate (N.length - 2) .any) (F a0 a1)) : FnX P w K mg base (k + 1) f fd ps (spX K mg (ar2 F)) := by
  refine fn_jx Fu S fun as n φ ξ s => ?_
  unfold ar2 at s
  split at s
  · exact ⟨hl.symm, hb _ _⟩
  · exact no_sat s
theorem fnx_ar3 {F : D → D → D → m D} (Fu : Fun K x qual st f fd) (S : FnScope N ps (defScope st)) (hl : ps.length = 3)
    (hb : ∀ (a0 a1 a2 : D), ∀ (cdv : Value) (A : Around) (outer : List Env) (s : Shared) (H : Hp) (E : XK), Room k (A.deeper (envOfC qual (defScope st) s.heap.objs.size f cdv)) → A.guards = some [] →
      FJ (cxOf (L2N.CX P w) P w K mg base N qual (defScope st) f cdv A outer s H E) (xrOf N E) true (defBody st) ([Sl.val a0, Sl.val a1, Sl.val a2] ++ List.replicate (N.length - 3) .any) (F a0 a1 a2)) : FnX P w K mg base (k + 1) f fd ps (spX K mg (ar3 F)) := by
  refine fn_jx Fu S fun as n φ ξ s => ?_
  unfold ar3 at s
  split at s
  · exact ⟨hl.symm, hb _ _ _⟩
  · exact no_sat s
end
end DD
namespace DD
open PySem PySem.Spec PyProof.Rows L2
def clsBody : Stmt → List Stmt
  | .ClassDef (body := b) .. => b
  | _ => []
def oexC0 (K : PySem.W.Frag) (C : Addr) : Bool := match K.lookup C with
  | some ⟨.type "type", _, .cls cd, sl⟩ => (match cd.mro, sl.toList with
    | .ref C' :: bm, [_, _, _, _, some (.builtin n), _] => C' == C && n == "ValueError.__new__" && cd.hasDict && !cd.hasDel && PySem.HandSPX.refsVE bm
    | _, _ => false)
  | _ => false
theorem oexC0_ok {K : PySem.W.Frag} {C : Addr} (h : oexC0 K C = true) : ∃ nm q N bs bm sn sub ab col dd k0 k1 k2 k3 k5, K.lookup C = some (excClassObj nm q C N bs bm true sn sub ab col dd k0 k1 k2 k3 k5 "ValueError.__new__") ∧ PySem.HandSPX.refsVE bm = true := by
  unfold oexC0 at h
  split at h
  · rename_i dd cd sl hl
    split at h
    · rename_i C' bm k0 k1 k2 k3 n k5 hm hs
      simp only [Bool.and_eq_true, beq_iff_eq, Bool.not_eq_true'] at h
      obtain ⟨⟨⟨⟨h1, h2⟩, h3⟩, h4⟩, h5⟩ := h
      subst h1 h2
      obtain ⟨nm, bs, mro, ns, qn, hd, sn, sb, ab, col, del⟩ := cd
      dsimp only at hm h3 h4
      subst hm h3 h4
      have hs' : sl = #[k0, k1, k2, k3, some (.builtin "ValueError.__new__"), k5] := by
        apply Array.toList_inj.mp
        rw [hs]
      subst hs'
      exact ⟨_, _, _, _, _, _, _, _, _, _, _, _, _, _, _, hl, h5⟩
    · cases h
  · cases h
theorem oex_mk {K : PySem.W.Frag} {C : Addr} (h : oexC0 K C = true) (h1 : PySem.W.findIn K (.ref C) "__setattr__" = some (some (.builtin "object.__setattr__"))) (h2 : PySem.W.subIn K (.ref C) (.type "BaseException") = some true) (h3 : PySem.W.typeIn K (.ref C) = some (.type "type")) (h4 : PySem.W.keepIn K (.ref C) = true) : OexC K C := ⟨oexC0_ok h, h1, h2, h3, h4⟩
theorem er1_mk {P : Program} {w : World} {K : PySem.W.Frag} {mg : Str → Option Value} {base : Heap} {c fl : Str} {C fI : Addr} {fd : FuncData} {ps : List Str} (nm : mg c = some (.ref C)) (T : OexC K C) (i1 : PySem.W.findIn K (.ref C) "__init__" = some (some (.ref fI))) (i2 : PySem.W.typeIn K (.ref fI) = some (.type "function")) (i3 : FnOk P w K mg base CX0 1 fI fd ps (spInit C fl)) (i4 : Binds K fd ps []) : Er1 P w K mg base c fl C := ⟨nm, T, fI, fd, ps, i1, i2, i3, i4⟩
end DD
namespace DD
open PySem PySem.Spec PyProof.Rows L2
/-! ### texts -/
def listO : D → Option (List D)
  | .list ds => some ds
  | _ => none
end DD
namespace DD
open PySem PySem.Spec PyProof.Rows L2
/-! ### instances that do not change any more: attributes, methods, properties -/
def insOf : D → Option (Str × List (D × D))
  | .dict ((.bool true, .int _) :: (.none, .str c) :: r) => some (c, r)
  | _ => none
def keyIs (f : Str) : D → Bool
  | .str x => f == x
  | _ => false
def lookD (f : Str) (r : List (D × D)) : Option D := (r.find? fun q => keyIs f q.1).map (·.2)
/-- the attribute f of an instance of the class c -/
def fldD (c f : Str) (d : D) : Option D := (insOf d).bind fun p => if p.1 = c then lookD f p.2 else none
section
variable {K : PySem.W.Frag} {G : Hp}
theorem Da.insI {v : V} {d : D} {c : Str} {r : List (D × D)} (h : Da K G v d) (e : insOf d = some (c, r)) : ∃ (a C dx : Addr) (vs : List (Str × V)) (fs : List (Str × D)), v = .ref a ∧ G a = some (.ins C dx vs) ∧ ClsOk K c C ∧ vs.map (·.1) = fs.map (·.1) ∧ DaAll K G (vs.map (·.2)) (fs.map (·.2)) ∧ r = fs.map fun p => (.str p.1, p.2) := by
  cases h with
  | fin h ck l da =>
    cases e
    exact ⟨_, _, _, _, _, rfl, h, ck, l, da, rfl⟩
  | @dct a kvs h _ =>
    cases kvs with
    | nil => cases e
    | cons p r =>
      obtain ⟨key, w⟩ := p
      cases key <;> cases e
  | _ => cases e
theorem look_da {f : Str} : ∀ {vs : List (Str × V)} {fs : List (Str × D)}, vs.map (·.1) = fs.map (·.1) → DaAll K G (vs.map (·.2)) (fs.map (·.2)) → (∀ d, lookD f (fs.map fun p => (.str p.1, p.2)) = some d → ∃ v, vs.lookup f = some v ∧ Da K G v d) ∧ (lookD f (fs.map fun p => (.str p.1, p.2)) = none → vs.lookup f = none)
  | [], [], _, _ => ⟨fun d h => (by cases h), fun _ => rfl⟩
  | [], _ :: _, h, _ => by cases h
  | _ :: _, [], h, _ => by cases h
  | (k, v) :: vs, (k', d') :: fs, h, .cons a b => by
    have hk : k = k' := by injection h
    have ht : vs.map (·.1) = fs.map (·.1) := by injection h
    subst hk
    obtain ⟨i1, i2⟩ := look_da (f := f) ht b
    have e1 : lookD f (((k, d') :: fs).map fun p => (PyData.str p.1, p.2)) = if (f == k) = true then some d' else lookD f (fs.map fun p => (PyData.str p.1, p.2)) := by
      unfold lookD
      rw [List.map_cons, List.find?_cons]
      show Option.map _ (match f == k with | true => _ | false => _) = _
      cases f == k <;> rfl
    have e2 : ((k, v) :: vs).lookup f = if (f == k) = true then some v else vs.lookup f := by
      rw [List.lookup_cons]
      cases f == k <;> rfl
    rw [e1, e2]
    by_cases z : (f == k) = true
    · rw [if_pos z, if_pos z]
      exact ⟨fun d hd => (by cases hd; exact ⟨v, rfl, a⟩), fun hd => (by cases hd)⟩
    · rw [if_neg z, if_neg z]
      exact ⟨i1, i2⟩
theorem ClsOk.one {c : Str} {C C' : Addr} (h : ClsOk K c C) (h' : ClsOk K c C') : C' = C := by
  have e := h.nm
  rw [h'.nm] at e
  cases e
  rfl
end
section
variable {m : Type → Type} [Mo m] {X : Cx} {EX : XR} {g : List Sl} {k : Nat} {f C : Addr} {fd : FuncData} {ps : List Str} {pos apos : Pos}
/-- e.f, an attribute of the instance itself -/
theorem ej_fld {c fl : Str} {e : Expr} {x : m D} (hcl : ClsOk X.K c C) (hn : NoAttr X.K C fl) (he : EJ X EX e g x) (hb : attributeBase e fl X.env (eval e X.env) = eval e X.env := by rfl) : EJ X EX (.Attribute e fl pos) g (x >>= fun d => Mo.lift (fldD c fl d)) :=
  (pe_fld he hb).weak fun σ H Q ⟨B, G, n, φ, ξ, o, s, q, xw⟩ => te_one o s (fun v H1 G1 d n1 o1 g1 d1 s1 => by
    obtain ⟨z, ez, pz⟩ := Mo.sat_lift s1
    obtain ⟨⟨c', r⟩, e1, e2⟩ := Option.bind_eq_some_iff.mp ez
    split at e2
    · rename_i hc
      have hc : c' = c := hc
      subst hc
      obtain ⟨a, C', dx, vs, fs, rfl, ha, ck, hl, da, rfl⟩ := d1.insI e1
      obtain rfl := hcl.one ck
      obtain ⟨v', lk, dv⟩ := (look_da hl da).1 z e2
      exact ⟨a, _, dx, vs, v', rfl, o1.fm.sub.h _ _ ha rfl, hcl.cl, hn, lk, q v' H1 G1 z n1 o1 g1 dv pz⟩
    · cases e2) xw
/-! ### methods -/
/-! ### properties -/
theorem getprop_g {pins : List (Addr × Obj)} {σ : L2.St} {H : Hp} {s : Shared} {Q : VK} {b : Bool} {E' : Value → Shared → Prop} {a dx p : Addr} {vs : List (Str × V)} {fl : Str} {sp : Sp} (I : Inv X pins σ H s) (ea : H a = some (.ins C dx vs)) (c : Cls X.K C) (hp : PropOf X.K C fl p f)
    (F : FnG X.prog X.w X.K X.mg X.base k f fd ps sp) (hr : Room (k + 1) X.A) (gu : X.A.guards = some []) (hb : Binds X.K fd ps []) (h : sp [.ref a] H Q E0) :
    wpAny (model X.prog X.w) X.A (getAttr (.ref a) fl b) (EP X pins σ Q) E' s := by
  obtain ⟨mA, O, _, _, _, _⟩ := ins_get I.hok ea
  obtain ⟨od, J, _⟩ := O.look
  obtain ⟨rest, hrec⟩ := hp.rec_
  have I1 := I.tok (s.toks + 1)
  have hl : ([Value.ref a] ++ []).length = ps.length := by
    rw [← F.len _ _ _ _ h]
    rfl
  have hb' := hb { s with toks := s.toks + 1 } [.ref a] I1.kIn hl
  rw [List.append_nil] at hb'
  have hc : (PySem.W.clsIn X.K C).isSome = true := by
    obtain ⟨cd, hc, _⟩ := PySem.W.any_some c.hd
    rw [hc]
    rfl
  refine PySem.W.get_bind I.kIn J (PySem.W.plainGet_of (c.get fl)).1 (PySem.W.findObj_data hc hp.at_ hp.get hp.tak) (PySem.W.plainGet_of (c.get fl)).2 (wpAny_call (PySem.W.prop_get (s := { s with toks := s.toks + 1 }) I.kIn hrec ?_))
  refine codeAny_mono (F.run X.A.in1 X.stack { s with toks := s.toks + 1 } H ⟨[.ref a], []⟩ [.ref a] [.ref a] Q E0 hr.in1 gu I1.env0.in1 hb' (.cons rfl .nil) h) fun r s' hq => ?_
  cases r with
  | error er => exact False.elim hq
  | ok fl =>
    cases fl with
    | ret u =>
      obtain ⟨v, H', I3, rv, q3⟩ := I1.after hq
      show wpAny _ _ (handedOut u) _ _ _
      rw [PySem.W.handedOut_of (handed_of rv)]
      exact wpAny_pure ⟨v, H', I3, rv, q3⟩
    | next => exact False.elim hq
    | brk => exact False.elim hq
    | cont => exact False.elim hq
def isCls (c : Str) (d : D) : Option Unit := (insOf d).bind fun p => if p.1 = c then some () else none
theorem isCls_some {c : Str} {d : D} {u : Unit} (h : isCls c d = some u) : ∃ r, insOf d = some (c, r) := by
  obtain ⟨⟨c', r⟩, e1, e2⟩ := Option.bind_eq_some_iff.mp h
  split at e2
  · rename_i hc
    have hc : c' = c := hc
    subst hc
    exact ⟨r, e1⟩
  · cases e2
theorem pe_propG {fl : Str} {p : Addr} {e : Expr} {ta : TE} {sp : Sp} (he : PE X e ta) (c : Cls X.K C) (hp : PropOf X.K C fl p f) (F : FnG X.prog X.w X.K X.mg X.base k f fd ps sp) (hr : Room (k + 1) X.A) (gu : X.A.guards = some []) (hb : Binds X.K fd ps [])
    (hab : attributeBase e fl X.env (eval e X.env) = eval e X.env) : PE X (.Attribute e fl pos) (fun σ H Q => ta σ H fun x H1 => ∃ a dx fs, x = .ref a ∧ H1 a = some (.ins C dx fs) ∧ sp [.ref a] H1 Q E0) := by
  refine ⟨fun pins s σ H Q I h => ?_⟩
  refine attr_of hab (thn (he.run pins s σ H _ I h) fun u s1 ⟨x, H1, I1, rx, a, dx, fs, ex, ea, q⟩ => ?_)
  subst ex
  obtain rfl : u = Value.ref a := rx
  exact getprop_g I1 ea c hp F hr gu hb q
end
end DD
namespace DD
open PySem PySem.Spec PyProof.Rows L2
/-! ### new instances -/
section
variable {K : PySem.W.Frag} {B : Bs} {H G : Hp} {n : Wd}
/-- an instance is finished: it is data from now on -/
theorem Fm.addG (f : Fm K B H G n) {x : Addr} {u : HO} (hx : H x = some u) (hg : G x = none) (hB : B.H x = none) (hu : isMk u = false) : Fm K B H (upd G x u) n where
  keep := f.keep
  sub := ⟨fun a o e m => by
    by_cases z : a = x
    · subst z
      rw [upd_same] at e
      cases e
      exact hx
    · rw [upd_ne z] at e
      exact f.sub.h a o e m, fun a e => by
    by_cases z : a = x
    · subst z
      rw [hx] at e
      cases e
    · rw [upd_ne z]
      exact f.sub.t a e⟩
  old := f.old.trans (same_upd hg)
  obs := f.obs.grow (Same.refl _) (same_upd hg) fun a w m e => by
    by_cases z : a = x
    · subst z
      rw [upd_same] at e
      cases e
      rw [hu] at m
      cases m
    · rw [upd_ne z] at e
      exact e
  bt := f.bt
  tg := f.tg.trans (same_upd hg)
  new := fun a h1 h2 => by
    have z : a ≠ x := fun z => h1 (z ▸ hB)
    rw [upd_ne z]
    exact f.new a h1 h2
  deck := fun a b e => f.deck a b e
end
/-- C(..): a new instance and its dict, then __init__, which may raise -/
theorem run_makeX {X : Cx} {k : Nat} {C f : Addr} {fd : FuncData} {ps : List Str} {sp : Sp} {W : WX} {pins : List (Addr × Obj)} {σ : L2.St} {H : Hp} {s : Shared} {Q : VK} {us : List Value} {vs : List V} (M : Mk X.K C f) (F : FnX X.prog X.w X.K X.mg X.base k f fd ps sp) (hr : Room (k + 1) X.A) (gu : X.A.guards = some []) (tk : L2N.Takes X W) (hb : Binds X.K fd ps [])
    (I : Inv X pins σ H s) (r : Vals vs us)
    (h : ∀ x dx, H x = none → H dx = none → dx ≠ x → sp (.ref x :: vs) (upd (upd H dx (.own x)) x (.ins C dx [])) (fun v H2 => v = .non ∧ Q (.ref x) H2) (WE W σ)) :
    wpAny (model X.prog X.w) X.A (call (.ref C) us) (EP X pins σ Q) X.xe s := by
  have hq := h (s.heap.objs.size + 1) s.heap.objs.size (I.hok.fresh (Nat.le_succ _)) (I.hok.fresh (Nat.le_refl _)) (Nat.ne_of_lt (Nat.lt_succ_self _))
  have I2 := Inv.made (C := C) I
  have r2 : Vals (V.ref (s.heap.objs.size + 1) :: vs) (Value.ref (s.heap.objs.size + 1) :: us) := .cons rfl r
  have hl : ((Value.ref (s.heap.objs.size + 1) :: us) ++ []).length = ps.length := by
    have e := r2.length
    rw [F.len _ _ _ _ hq] at e
    rw [List.append_nil]
    exact e.symm
  have hb' := hb _ (Value.ref (s.heap.objs.size + 1) :: us) I2.kIn hl
  rw [List.append_nil] at hb'
  refine wpAny_call (make_map (f := f) I.kIn M.makes M.init (beq_iff_eq.mp M.fn) (codeAny_mono (F.run _ X.stack _ _ ⟨Value.ref (s.heap.objs.size + 1) :: us, []⟩ (Value.ref (s.heap.objs.size + 1) :: us) _ _ (WE W σ) (hr.make C us []) gu
    (I2.env0.make C us []) hb' r2 hq) fun r s' hq' => ?_))
  cases r with
  | error e => exact L2N.passAt tk σ pins _ _ e s' I2 hq'
  | ok fl =>
    cases fl with
    | ret u =>
      obtain ⟨v, H', I3, rv, ev, q3⟩ := I2.after hq'
      subst ev
      exact ⟨rv, ⟨V.ref (s.heap.objs.size + 1), H', I3, rfl, q3⟩⟩
    | next => exact False.elim hq'
    | brk => exact False.elim hq'
    | cont => exact False.elim hq'
theorem pe_makeX {X : Cx} {k : Nat} {C f : Addr} {fd : FuncData} {ps : List Str} {sp : Sp} {W : WX} {x : Str} {p pos : Pos} {e : Expr} {es : List Expr} {t : TA} (M : Mk X.K C f) (F : FnX X.prog X.w X.K X.mg X.base k f fd ps sp) (hr : Room (k + 1) X.A) (gu : X.A.guards = some []) (tk : L2N.Takes X W) (hg : Gl X x) (hm : X.mg x = some (.ref C)) (hb : Binds X.K fd ps [])
    (ha : PA X (e :: es) t) (hd : (x == ("__debug__" : Str)) = false) (he : starEach (e :: es) X.env = (false, eval e X.env) :: starEach es X.env) (hpl : (backTo pos (starEach es X.env)).any (·.1) = false) :
    PE X (.Call (.Name x p) (e :: es) [] pos) (fun σ H Q => t σ H fun vs H1 => ∀ x dx, H1 x = none → H1 dx = none → dx ≠ x → sp (.ref x :: vs) (upd (upd H1 dx (.own x)) x (.ins C dx [])) (fun v H2 => v = .non ∧ Q (.ref x) H2) (WE W σ)) :=
  ⟨fun pins s σ H Q I h => wpAny_Call_Name_kw (ld_glob I hg hm (PySem.W.callWith_K (h₀ := X.base) I.ok.mod.kin M.kp (thn (ha.run pos pins s σ H _ I h) fun us s1 ⟨vs, H1, I1, r, q⟩ => ⟨I1.kIn, run_makeX M F hr gu tk hb I1 r q⟩) he hpl) hd)⟩
section
variable {m : Type → Type} [Mo m]
/-- the promise of an __init__: what the new instance holds -/
def spI (K : PySem.W.Frag) (mg : Str → Option Value) (c : Str) (F : List Sl → m (List (Str × D))) : Sp := fun vs H Q E => ∃ (x C dx : Addr) (us : List V) (H1 G : Hp) (n : Wd) (dk : Option (Addr × Addr)) (as : List Sl) (φ : List (Str × D) → Wd → Prop) (ξ : Exn → Wd → Prop),
  vs = .ref x :: us ∧ ClsOk K c C ∧ H1 x = none ∧ H1 dx = none ∧ dx ≠ x ∧ H = upd (upd H1 dx (.own x)) x (.ins C dx []) ∧ ArgsOk K ⟨H1, G, dk, G⟩ G us as ∧ Fm K ⟨H1, G, dk, G⟩ H1 G n ∧ Mo.sat (F as) n φ ξ ∧
  (∀ H' G' n' ws fs, Fm K ⟨H1, G, dk, G⟩ H' G' n' → H' x = some (.ins C dx ws) → G' x = none → ws.map (·.1) = fs.map (·.1) → DaAll K G' (ws.map (·.2)) (fs.map (·.2)) → φ fs n' → Q .non H') ∧
  ∀ e c od H' G' n', Fm K ⟨H1, G, dk, G⟩ H' G' n' → ExA K mg e G' c od → ξ e n' → E c od H'
variable {X : Cx} {EX : XR} {g : List Sl} {k : Nat} {C f : Addr} {fd : FuncData} {ps : List Str} {p pos : Pos}
/-- C(..), finished behind its __init__ -/
theorem ej_makeX {c cn : Str} {e : Expr} {es : List Expr} {F : List Sl → m (List (Str × D))} {y : m (List Sl)} (hcl : ClsOk X.K c C) (M : Mk X.K C f) (Fn : FnX X.prog X.w X.K X.mg X.base k f fd ps (spI X.K X.mg c F)) (hr : Room (k + 1) X.A) (gu : X.A.guards = some []) (tk : L2N.Takes X EX.w) (sb : Sub g EX.g) (hm : X.mg cn = some (.ref C)) (hb : Binds X.K fd ps [])
    (ha : AJ X EX (e :: es) g y) (hg : Gl X cn := by rfl) (hd : (cn == ("__debug__" : Str)) = false := by decide) (he : starEach (e :: es) X.env = (false, eval e X.env) :: starEach es X.env := by rfl) (hpl : (backTo pos (starEach es X.env)).any (·.1) = false := by rfl) :
    EJ X EX (.Call (.Name cn p) (e :: es) [] pos) g (y >>= fun as => F as >>= fun fs => pure (insD c fs)) :=
  (pe_makeX M Fn hr gu tk hg hm hb ha hd he hpl).weak fun σ H Q ⟨B, G, n, φ, ξ, o, s, q, xw⟩ => ⟨B, G, n, _, ξ, o, Mo.sat_bind s, fun us H1 G1 as n1 o1 g1 a1 s1 => fun x dx hx hdx hne => by
    refine ⟨x, C, dx, us, H1, G1, n1, B.dk, as, _, ξ, rfl, hcl, hx, hdx, hne, rfl, ArgsOk.base (B := B) (B' := ⟨H1, G1, B.dk, G1⟩) rfl a1, o1.fm.at_call, Mo.sat_bind s1, fun H' G' n' ws fs f' h1 h2 h3 h4 p => ?_, fun e' c' od H' G' n' f' ex hx => ?_⟩
    · have f2 := f'.addG (u := .ins C dx ws) h1 h2 hx rfl
      obtain ⟨o2, g2⟩ := Fm.back o1 (.inr rfl) f2
      refine ⟨rfl, q _ H' _ _ n' o2 (g1.trans g2) (.fin (vs := ws) (fs := fs) upd_same hcl h3 (h4.mono (same_upd h2))) (Mo.sat_pure p)⟩
    · obtain ⟨o2, g2⟩ := Fm.back o1 (.inr rfl) f'
      exact xw e' n' σ H' G' c' od hx (o2.forget sb) ex, xw⟩
end
end DD
namespace DD
open PySem PySem.Spec PyProof.Rows L2
/-! ### the body of an __init__: checks, then attributes of self -/
def Bs.at (B : Bs) (x : Addr) (u : HO) : Bs := ⟨upd B.H x u, B.G, B.dk, B.tG⟩
theorem upd_self {H : Hp} {x : Addr} {u : HO} (h : H x = some u) : upd H x u = H := by
  funext a
  by_cases z : a = x
  · rw [z, upd_same, h]
  · rw [upd_ne z]
theorem upd_upd {H : Hp} {x : Addr} {u w : HO} : upd (upd H x u) x w = upd H x w := by
  funext a
  by_cases z : a = x
  · rw [z, upd_same, upd_same]
  · rw [upd_ne z, upd_ne z, upd_ne z]
theorem Bs.at_at {B : Bs} {x : Addr} {u w : HO} : (B.at x u).at x w = B.at x w := by
  unfold Bs.at
  dsimp only
  rw [upd_upd]
theorem Bs.at_self {B : Bs} {x : Addr} {u : HO} (h : B.H x = some u) : B.at x u = B := by
  unfold Bs.at
  rw [upd_self h]
section
variable {K : PySem.W.Frag} {B : Bs} {g : List Sl} {σ : L2.St} {H G : Hp} {n : Wd}
/-- an object of the base is changed, base and heap alike -/
theorem Ok.rebase (o : Ok K B g σ H G n) {x : Addr} {u : HO} (hx : B.H x ≠ none) (hg : G x = none) (hf : ¬ B.fp x) : Ok K (B.at x u) g σ (upd H x u) G n := by
  have ne : ∀ b w, G b = some w → b ≠ x := fun b w e z => by rw [z, hg] at e; cases e
  have bg : B.G x = none := by
    cases e : B.G x with
    | none => rfl
    | some w => rw [o.fm.old _ _ e] at hg; cases hg
  refine ⟨⟨fun b w e q => ?_, ⟨fun b w e m => ?_, fun b e => ?_⟩, o.fm.old, ⟨fun b w j e m => ?_, o.fm.obs.inj, fun j c e => ?_⟩, fun b e => ?_, o.fm.tg, fun b e1 e2 => ?_, fun y z e => ?_⟩, o.len, o.val, ?_, o.dck, o.adr⟩
  · by_cases hb : b = x
    · subst hb
      have e' : upd B.H b u b = some w := e
      rw [upd_same] at e' ⊢
      exact e'
    · have e' : upd B.H x u b = some w := e
      rw [upd_ne hb] at e' ⊢
      exact o.fm.keep b w e' q
  · rw [upd_ne (ne b w e)]
    exact o.fm.sub.h b w e m
  · by_cases hb : b = x
    · rw [hb, upd_same] at e; cases e
    · rw [upd_ne hb] at e
      exact o.fm.sub.t b e
  · obtain ⟨c, h1, h2⟩ := o.fm.obs.at_ b w j e m
    exact ⟨c, h1, h2.mono (Same.refl _) fun y hy => by rw [upd_ne (ne b w e)]; exact hy⟩
  · obtain ⟨b, hb⟩ := o.fm.obs.all j c e
    obtain ⟨w, hw, _⟩ := hb.mark
    exact ⟨b, hb.mono (Same.refl _) fun y hy => by rw [upd_ne (ne b w hw)]; exact hy⟩
  · have e' : upd B.H x u b = none := e
    by_cases hb : b = x
    · subst hb
      exact bg
    · rw [upd_ne hb] at e'
      exact o.fm.bt b e'
  · have e1' : upd B.H x u b ≠ none := e1
    by_cases hb : b = x
    · subst hb
      exact hg
    · rw [upd_ne hb] at e1'
      exact o.fm.new b e1' e2
  · obtain ⟨⟨cs, c, e1, e2, r⟩, h1, h2, h3, h4⟩ := o.fm.deck y z e
    have ny : y ≠ x := fun w => hf (.inl ⟨y, z, e, .inl w.symm⟩)
    have nz : z ≠ x := fun w => hf (.inl ⟨y, z, e, .inr w.symm⟩)
    refine ⟨⟨cs, c, by rw [upd_ne ny]; exact e1, by rw [upd_ne nz]; exact e2, r⟩, ?_, ?_, h3, h4⟩
    · show upd B.H x u y ≠ none
      rw [upd_ne ny]; exact h1
    · show upd B.H x u z ≠ none
      rw [upd_ne nz]; exact h2
  · obtain ⟨f, h1, h2⟩ := o.own
    refine ⟨f, h1, fun i es e => ?_⟩
    obtain ⟨q1, q2, q3, ys, q4, q5⟩ := h2 i es e
    have nf : f i ≠ x := fun z => hx (z ▸ q3)
    refine ⟨q1, q2, ?_, ys, by rw [upd_ne nf]; exact q4, q5⟩
    show upd B.H x u (f i) = none
    rw [upd_ne nf]; exact q3
end
section
variable {m : Type → Type} [Mo m] {X : Cx} {EX : XR} {g : List Sl} {C f : Addr} {A : Type}
/-- self is at x and has the attributes fs0 so far; y: what it has in the end -/
def tnJ (X : Cx) (EX : XR) (g : List Sl) (C : Addr) (fs0 : List (Str × D)) (y : m (List (Str × D))) : TS := fun De σ H => ∃ (B : Bs) (G : Hp) (n : Wd) (φ : List (Str × D) → Wd → Prop) (ξ : Exn → Wd → Prop) (x dx : Addr) (ws : List (Str × V)),
  Ok X.K B (.exn x none [] :: g) σ H G n ∧ B.H x = some (.ins C dx ws) ∧ G x = none ∧ ¬ B.fp x ∧ ws.map (·.1) = fs0.map (·.1) ∧ DaAll X.K G (ws.map (·.2)) (fs0.map (·.2)) ∧ Mo.sat y n φ ξ ∧
  (∀ σ' H' G' n' ws' fs, Fm X.K (B.at x (.ins C dx ws')) H' G' n' → H' x = some (.ins C dx ws') → G' x = none → ws'.map (·.1) = fs.map (·.1) → DaAll X.K G' (ws'.map (·.2)) (fs.map (·.2)) → φ fs n' → De.nx σ' H') ∧
  ∀ ws', Xw X (B.at x (.ins C dx ws')) EX ξ
def NJ (X : Cx) (EX : XR) (C : Addr) (ss : List Stmt) (g : List Sl) (fs0 : List (Str × D)) (y : m (List (Str × D))) : Prop := PSs X ss (tnJ X EX g C fs0 y)
theorem nj_nil {fs0 : List (Str × D)} : NJ (m := m) X EX C [] g fs0 (pure fs0) := pss_nil.weak fun De σ H ⟨B, G, n, φ, ξ, x, dx, ws, o, hx, hg, hf, hn, hd, s, q, xw⟩ =>
  q σ H G n ws fs0 (by rw [Bs.at_self hx]; exact o.fm) (o.fm.keep _ _ hx hf) hg hn hd (Mo.sat_pure s)
theorem putF_new {fl : Str} {v : V} : ∀ {ws : List (Str × V)}, (ws.map (·.1)).contains fl = false → putF fl v ws = ws ++ [(fl, v)]
  | [], _ => rfl
  | (k, y) :: ws, h => by
    rw [List.map_cons, List.contains_cons, Bool.or_eq_false_iff] at h
    show (if k = fl then _ else _) = _
    rw [if_neg (fun z => by rw [z] at h; simp at h), putF_new h.2]
    rfl
/-- self.f = e -/
theorem nj_store {self fl : Str} {e : Expr} {rest : List Stmt} {p1 p2 pos : Pos} {fs0 : List (Str × D)} {y : m D} {z : D → m (List (Str × D))} (hc : Cls X.K C) (hn : NoAttr X.K C fl) (he : ∀ x, EJ X EX e (.exn x none [] :: g) y) (hr : ∀ d, NJ X EX C rest g (fs0 ++ [(fl, d)]) (z d))
    (hfr : (fs0.map (·.1)).contains fl = false := by rfl) (hl : fs0.length < 1000 := by decide) (hN : X.N[0]? = some self := by rfl) (hv : Vis X.env.scope self := by first | exact Or.inl rfl | exact Or.inr (Or.inl rfl) | exact Or.inr (Or.inr rfl)) (hd : (self == ("__debug__" : Str)) = false := by decide)
    (hcd : (self == ("__classdict__" : Str)) = false := by decide) (hs : swapsWith e (some (.Attribute (.Name self p1) fl p2)) pos.line X.env = pure false := by rfl) :
    NJ X EX C (.Assign [.Attribute (.Name self p1) fl p2] e pos :: rest) g fs0 (y >>= z) := by
  refine (pss_cons (u := fun De σ H => ∃ d, tnJ X EX g C (fs0 ++ [(fl, d)]) (z d) De σ H) (PS.weak (t := sFld X.K (tVar 0) (fun σ H Q => ∃ x, teJ X EX (.exn x none [] :: g) y σ H Q) fl) (ps_fld (pe_var hN hv hd hcd) ⟨fun pins s σ H Q I ⟨x, h⟩ => (he x).run pins s σ H Q I h⟩ hs) fun De σ H h => h) ⟨fun pins s σ H De I ⟨d, q⟩ => (hr d).run pins s σ H De I q⟩).weak fun De σ H ⟨B, G, n, φ, ξ, x, dx, ws, o, hx, hg, hf, hnm, hda, s, q, xw⟩ => ?_
  have xw0 : Xw X B EX ξ := by
    have := xw ws
    rwa [Bs.at_self hx] at this
  refine ⟨x, B, G, n, _, ξ, o, Mo.sat_bind s, fun v H1 G1 d n1 o1 g1 d1 s1 => ?_, xw0⟩
  have hx1 : H1 x = some (.ins C dx ws) := o1.fm.keep _ _ hx hf
  have hg1 : G1 x = none := o1.fm.new x (by rw [hx]; simp) (by
    cases e : B.G x with
    | none => rfl
    | some w => rw [o.fm.old _ _ e] at hg; cases hg)
  have hlw : ws.length = fs0.length := by
    have := congrArg List.length hnm
    simpa using this
  have hput := putF_new (v := v) (ws := ws) (fl := fl) (by rw [hnm]; exact hfr)
  have hself : σ[0]? = some (some (V.ref x)) := (o1.adr 0 x none [] rfl).1
  refine ⟨.ref x, hself, x, C, dx, ws, rfl, hx1, hc, hn, by omega, d, B.at x (.ins C dx (ws ++ [(fl, v)])), G1, n1, φ, ξ, x, dx, ws ++ [(fl, v)], ?_, upd_same, hg1, hf, ?_, ?_, s1, fun σ' H' G' n' ws' fs f' => ?_, fun ws' => ?_⟩
  · rw [hput]
    exact o1.rebase (by rw [hx]; simp) hg1 hf
  · rw [List.map_append, List.map_append, hnm]
    rfl
  · rw [List.map_append, List.map_append]
    exact (hda.mono g1).append (.one d1)
  · rw [Bs.at_at] at f'
    exact q σ' H' G' n' ws' fs f'
  · rw [Bs.at_at]
    exact xw ws'
/-- if c: raise .. -/
theorem nj_if {c : Expr} {thn rest : List Stmt} {pos : Pos} {fs0 : List (Str × D)} {t : m Bool} {x1 : m (Fl Empty)} {z : m (List (Str × D))} (hc : ∀ x, TJ X EX c (.exn x none [] :: g) t) (h1 : ∀ x, BJ X EX thn (.exn x none [] :: g) x1 (fun a => a.elim)) (h2 : NJ X EX C rest g fs0 z) :
    NJ X EX C (.If c thn [] pos :: rest) g fs0 (t >>= fun k => if k = true then (x1 >>= fun _ => Mo.lift none) else z) :=
  (pss_cons (ps_if (pt_any hc) (pss_any h1) pss_nil) h2).weak fun De σ H ⟨B, G, n, φ, ξ, x, dx, ws, o, hx, hg, hf, hnm, hda, s, q, xw⟩ => by
    have xw0 : Xw X B EX ξ := by
      have := xw ws
      rwa [Bs.at_self hx] at this
    refine ⟨x, tt_one o s (fun b H1 G1 n1 o1 g1 s1 => ?_) xw0⟩
    have hg1 : G1 x = none := o1.fm.new x (by rw [hx]; simp) (by
      cases e : B.G x with
      | none => rfl
      | some w => rw [o.fm.old _ _ e] at hg; cases hg)
    cases b with
    | true =>
      rw [if_pos rfl] at s1 ⊢
      exact ⟨x, B, G1, n1, _, ξ, o1, Mo.sat_bind s1, fun a => a.elim, fun v H' G' d n' f' d' p => no_sat p, xw0⟩
    | false =>
      rw [if_neg Bool.false_ne_true] at s1 ⊢
      exact ⟨B, G1, n1, φ, ξ, x, dx, ws, o1, hx, hg1, hf, hnm, hda.mono g1, s1, q, xw⟩
theorem Fm.down {K : PySem.W.Frag} {B : Bs} {H' G' H1 : Hp} {n' : Wd} (f : Fm K B H' G' n') (hs : ∀ a o, H1 a = some o → B.H a = some o) (hb : ∀ a, H1 a = none → B.G a = none) (hd : ∀ a b, B.dk = some (a, b) → H1 a ≠ none ∧ H1 b ≠ none) : Fm K ⟨H1, B.G, B.dk, B.tG⟩ H' G' n' where
  keep := fun a o e q => f.keep a o (hs a o e) q
  sub := f.sub
  old := f.old
  obs := f.obs
  bt := hb
  tg := f.tg
  new := fun a e1 e2 => f.new a (by
    have e1 : H1 a ≠ none := e1
    cases e : H1 a with
    | none => exact absurd e e1
    | some o => rw [hs a o e]; simp) e2
  deck := fun a b e => by
    obtain ⟨d, _, _, h3, h4⟩ := f.deck a b e
    obtain ⟨d1, d2⟩ := hd a b e
    exact ⟨d, d1, d2, h3, h4⟩
/-- the promise of an __init__, by its body -/
theorem fnx_init {P : Program} {w : World} {K : PySem.W.Frag} {mg : Str → Option Value} {base : Heap} {k : Nat} {x qual c : Str} {st : Stmt} {fd : FuncData} {N ps : List Str} {F : List Sl → m (List (Str × D))} (Fu : Fun K x qual st f fd) (S : FnScope N ps (defScope st)) (hcl : ClsOk K c C)
    (hb : ∀ (as : List Sl) (n : Wd) (φ : List (Str × D) → Wd → Prop) (ξ : Exn → Wd → Prop), Mo.sat (F as) n φ ξ → as.length + 1 = ps.length ∧ ∀ (cdv : Value) (A : Around) (outer : List Env) (s : Shared) (H : Hp) (E : XK), Room k (A.deeper (envOfC qual (defScope st) s.heap.objs.size f cdv)) → A.guards = some [] →
      NJ (cxOf (L2N.CX P w) P w K mg base N qual (defScope st) f cdv A outer s H E) (xrOf N E) C (defBody st) (as ++ List.replicate (N.length - (as.length + 1)) .any) [] (F as)) : FnX P w K mg base (k + 1) f fd ps (spI K mg c F) := by
  refine fnx_of Fu S (fun vs H Q E ⟨x, C', dx, us, H1, G, n, dk, as, φ, ξ, e, _, _, _, _, _, a, _, s, _⟩ => ?_) fun cdv A outer s H vs Q E hr gu ⟨x, C', dx, us, H1, G, n, dk, as, φ, ξ, e, ck, hx, hdx, hne, eH, a, fm, st, q, qx⟩ => ⟨_, (hb as n φ ξ st).2 cdv A outer s H E hr gu, ?_⟩
  · rw [e, ← (hb as n φ ξ s).1, List.length_cons, a.length]
  · subst e eH
    obtain rfl := hcl.one ck
    have oo := ((ok_start (N := N) a fm).raw (u := .own x) hdx).raw (p := x) (u := .ins C' dx []) (by rw [upd_ne (Ne.symm hne)]; exact hx)
    have fB := oo.fm.at_call
    have hgx : G x = none := fm.sub.t x hx
    have o0 := ok_start (N := N) (vs := .non :: us) (as := .val .none :: as) (.cons .non (ArgsOk.base (B := ⟨H1, G, dk, G⟩) (B' := ⟨upd (upd H1 dx (.own x)) x (.ins C' dx []), G, dk, G⟩) rfl a)) fB
    have o1 := o0.setX (i := 0) (a := x) (od := none) (fs := []) (.inl ⟨rfl, rfl⟩)
    have dn : ∀ (ws' : List (Str × V)) (H' G' : Hp) (n' : Wd), Fm K ((⟨upd (upd H1 dx (.own x)) x (.ins C' dx []), G, dk, G⟩ : Bs).at x (.ins C' dx ws')) H' G' n' → Fm K ⟨H1, G, dk, G⟩ H' G' n' := fun ws' H' G' n' f' => f'.down (H1 := H1) (fun b o e => by
        show upd (upd (upd H1 dx (.own x)) x (.ins C' dx [])) x (.ins C' dx ws') b = some o
        have nx : b ≠ x := fun z => by rw [z, hx] at e; cases e
        have nd : b ≠ dx := fun z => by rw [z, hdx] at e; cases e
        rw [upd_ne nx, upd_ne nx, upd_ne nd]
        exact e) fm.bt fun y z e => by
        obtain ⟨_, h1, h2, _⟩ := fm.deck y z e
        exact ⟨h1, h2⟩
    refine ⟨⟨upd (upd H1 dx (.own x)) x (.ins C' dx []), G, dk, G⟩, G, n, φ, ξ, x, dx, [], o1, upd_same, hgx, ?_, rfl, .nil, st, fun σ' H' G' n' ws' fs f' h1 h2 h3 h4 p => q H' G' n' ws' fs (dn ws' H' G' n' f') h1 h2 h3 h4 p, fun ws' e n' σ' H' G' c' od he o ex => qx e c' od H' G' n' (dn ws' H' G' n' o.fm) ex he⟩
    rintro (⟨y, z, e, h⟩ | ⟨w', e, _⟩)
    · obtain ⟨_, h1, h2, _⟩ := fm.deck y z e
      rcases h with h | h
      · exact h1 (h ▸ hx)
      · exact h2 (h ▸ hx)
    · have e : G x = some w' := e
      rw [hgx] at e
      cases e
end
end DD
namespace DD
open PySem PySem.Spec PyProof.Rows L2
/-! ### classes of one's own: what is known of their defs -/
section
variable (P : Program) (w : World) (K : PySem.W.Frag) (mg : Str → Option Value) (base : Heap) (k : Nat) (c mn : Str) (ps : List Str)
structure MthG (sp : Sp) : Prop where
  ex : ∃ C f fd, ClsOk K c C ∧ Meth K C mn f ∧ FnG P w K mg base k f fd ps sp ∧ Binds K fd ps []
structure PrpG (sp : Sp) : Prop where
  ex : ∃ C p f fd, ClsOk K c C ∧ PropOf K C mn p f ∧ FnG P w K mg base k f fd ps sp ∧ Binds K fd ps []
structure MkX (sp : Sp) : Prop where
  ex : ∃ C f fd, ClsOk K c C ∧ mg c = some (.ref C) ∧ Mk K C f ∧ FnX P w K mg base k f fd ps sp ∧ Binds K fd ps []
structure HasNo : Prop where
  ex : ∃ C, ClsOk K c C ∧ NoAttr K C mn
end
section
variable {m : Type → Type} [Mo m] {X : Cx} {EX : XR} {g : List Sl} {k : Nat} {ps : List Str} {p pos apos : Pos} {c mn : Str} {ob e : Expr} {es : List Expr} {x : m D}
theorem ej_fldD (h : HasNo X.K c mn) (he : EJ X EX e g x) (hb : attributeBase e mn X.env (eval e X.env) = eval e X.env := by rfl) : EJ X EX (.Attribute e mn pos) g (x >>= fun d => Mo.lift (fldD c mn d)) := by
  obtain ⟨C, h1, h2⟩ := h.ex
  exact ej_fld h1 h2 he hb
theorem ej_makeXD {F : List Sl → m (List (Str × D))} {y : m (List Sl)} (Fn : MkX X.prog X.w X.K X.mg X.base k c ps (spI X.K X.mg c F)) (hr : Room (k + 1) X.A) (gu : X.A.guards = some []) (tk : L2N.Takes X EX.w) (sb : Sub g EX.g)
    (ha : AJ X EX (e :: es) g y) (hg : Gl X c := by rfl) (hd : (c == ("__debug__" : Str)) = false := by decide) (he : starEach (e :: es) X.env = (false, eval e X.env) :: starEach es X.env := by rfl) (hpl : (backTo pos (starEach es X.env)).any (·.1) = false := by rfl) :
    EJ X EX (.Call (.Name c p) (e :: es) [] pos) g (y >>= fun as => F as >>= fun fs => pure (insD c fs)) := by
  obtain ⟨C, f, fd, h1, h2, h3, h4, h5⟩ := Fn.ex
  exact ej_makeX h1 h3 h4 hr gu tk sb h2 h5 ha hg hd he hpl
end
/-! __init__ with a given number of parameters beside self -/
section
variable {m : Type → Type} [Mo m] {P : Program} {w : World} {K : PySem.W.Frag} {mg : Str → Option Value} {base : Heap} {k : Nat} {f C : Addr} {x qual c : Str} {st : Stmt} {fd : FuncData} {N ps : List Str}
def ia1 (F : D → m (List (Str × D))) : List Sl → m (List (Str × D))
  | [.val a0] => F a0
  | _ => Mo.lift none
theorem fni_ia1 {F : D → m (List (Str × D))} (Fu : Fun K x qual st f fd) (S : FnScope N ps (defScope st)) (hcl : ClsOk K c C) (hl : ps.length = 2)
    (hb : ∀ (a0 : D), ∀ (cdv : Value) (A : Around) (outer : List Env) (s : Shared) (H : Hp) (E : XK), Room k (A.deeper (envOfC qual (defScope st) s.heap.objs.size f cdv)) → A.guards = some [] →
      NJ (cxOf (L2N.CX P w) P w K mg base N qual (defScope st) f cdv A outer s H E) (xrOf N E) C (defBody st) ([Sl.val a0] ++ List.replicate (N.length - 2) .any) [] (F a0)) : FnX P w K mg base (k + 1) f fd ps (spI K mg c (ia1 F)) := by
  refine fnx_init Fu S hcl fun as n φ ξ s => ?_
  unfold ia1 at s
  split at s
  · exact ⟨hl.symm, hb _⟩
  · exact no_sat s
end
end DD
namespace DD
open PySem PySem.Spec PyProof.Rows L2
/-! ### xs.count(b), xs a list of bools -/
def blOf : List D → Option (List Bool)
  | [] => some []
  | .bool b :: r => (blOf r).map (b :: ·)
  | _ => none
theorem blOf_da {K : PySem.W.Frag} {G : Hp} : ∀ {ds : List D} {bs : List Bool} {xs : List V}, blOf ds = some bs → DaAll K G xs ds → xs = bs.map V.bl
  | [], _, _, e, .nil => by cases e; rfl
  | .bool b :: ds, _, _, e, .cons a r => by
    obtain ⟨bs, e1, rfl⟩ := Option.map_eq_some_iff.mp e
    cases a
    rw [blOf_da e1 r]
    rfl
theorem vals_bl : ∀ {bs : List Bool} {us : List Value}, Vals (bs.map V.bl) us → us = bs.map Value.bool
  | [], _, .nil => rfl
  | b :: bs, _, .cons r rr => by
    rw [vals_bl rr]
    cases r
    rfl
def rCntB (K : PySem.W.Frag) : V → List V → Hp → VK → Prop := fun x xs H Q => ∃ (p : Addr) (bs : List Bool) (k : Bool), x = .ref p ∧ xs = [.bl k] ∧ SqL K H p (bs.map V.bl) ∧ Q (.int (bs.count k : Nat)) H
def isB (k : Bool) : Value → Bool
  | .bool b => b == k
  | _ => false
theorem mt_lcountB {X : Cx} : MtR X "list.count" (rCntB X.K) := by
  intro pins s σ H x xs v us Q I rx rxs h
  obtain ⟨p, bs, k, rfl, rfl, hs, q⟩ := h
  cases rx
  obtain ⟨u, rfl, ru⟩ := rxs.one
  cases ru
  obtain ⟨its, rv, ⟨⟨cls, dd, data, sl⟩, n, ho, hc, hdn, hd⟩, hlen⟩ := I.list hs
  simp only at hc hd
  subst hc hd
  have hi := vals_bl rv
  subst hi
  refine call_meets PySem.F.slot_list_count ⟨_, ho, rfl⟩ PySem.F.entry_list_count (PySem.F.args_list_count_2 _ _)
    (SeqAt.list_countAt p (bs.map Value.bool).toArray n dd sl (.bool k) (isB k)) ⟨ho, fun y hy => ?_, ?_⟩
  · have hy' : y ∈ bs.map Value.bool := by simpa using hy
    obtain ⟨b, _, rfl⟩ := List.mem_map.mp hy'
    exact PySem.SeqAt.EqAt.bool_bool b k
  · have ec : (bs.map Value.bool).toArray.toList.countP (isB k) = bs.count k := by
      show (bs.map Value.bool).countP (isB k) = bs.countP (· == k)
      rw [List.countP_map]
      rfl
    refine ⟨.int (bs.count k : Nat), H, I.tok _, ⟨s.toks, ?_⟩, q⟩
    show Value.int (((bs.map Value.bool).toArray.toList.countP (isB k) : Nat) : Int) s.toks = Value.int ((bs.count k : Nat) : Int) s.toks
    rw [ec]
def countD : D → D → Option D
  | .list ds, .bool k => (blOf ds).map fun bs => .int (bs.count k : Nat)
  | _, _ => none
section
variable {m : Type → Type} [Mo m] {X : Cx} {EX : XR} {g : List Sl}
theorem ej_count {o e : Expr} {apos cpos : Pos} {x : m D} {y : m D} (ho : EJ X EX o g x) (he : EJ X EX e g y)
    (hbase : attributeBase o "count" X.env (eval o X.env) = eval o X.env := by rfl)
    (hfew : ((backTo cpos (starEach [e] X.env)).all (fun x => !x.1) && (backToKw cpos (keywordEach [] X.env)).all (fun x => x.1.isSome) && decide ([e].length + ([] : List Keyword).length + (if ([] : List Keyword).isEmpty then 0 else 1) < 30)) = true := by rfl)
    (hline : (apos.endLine == cpos.line) = true := by rfl) (hs : starEach [e] X.env = (false, eval e X.env) :: starEach [] X.env := by rfl) (hpl : (backTo cpos (starEach [] X.env)).any (·.1) = false := by rfl) :
    EJ X EX (.Call (.Attribute o "count" apos) [e] [] cpos) g (x >>= fun d => Mo.lift (listO d) >>= fun ds => y >>= fun e => Mo.lift (countD (.list ds) e)) :=
  (pe_bm PySem.F.plainAttrs_list PySem.F.slot_list_count PySem.F.type_list_count mt_lcountB ho (pa_cons he pa_nil hs) hbase hfew hline hs hpl).weak fun σ H Q ⟨B, G, n, φ, ξ, o, s, q, xw⟩ => te_one o s (fun v H1 G1 d n1 o1 g1 d1 s1 => by
    obtain ⟨ds, ed, s1'⟩ := Mo.sat_lift (Mo.sat_bind s1)
    unfold listO at ed
    split at ed
    · cases ed
      obtain ⟨a, xs, rfl, ha, da⟩ := d1.toL
      refine ⟨.inl ⟨rfl, xs, .inl (.inl (o1.fm.sub.h _ _ ha rfl))⟩, te_one o1 s1' (fun w H2 G2 e n2 o2 g2 d2 s2 => ?_) xw⟩
      obtain ⟨z, ez, pz⟩ := Mo.sat_lift s2
      unfold countD at ez
      split at ez
      · rename_i ds' k ed'
        cases ed'
        obtain ⟨bs, es, rfl⟩ := Option.map_eq_some_iff.mp ez
        have hx := blOf_da es da
        subst hx
        cases d2
        exact ⟨a, bs, k, rfl, rfl, .of (o2.fm.sub.h _ _ (g2 _ _ ha) rfl), q _ H2 G2 _ n2 o2 (g1.trans g2) (.int _) pz⟩
      · cases ez
    · cases ed) xw
end
end DD
namespace DD
open PySem PySem.Spec PyProof.Rows L2
/-! ### what may raise, where it does not -/
def calmO {α : Type} (x : Xo α) : Option α := match x with
  | some (.ok a) => some a
  | _ => none
theorem calm_some {α : Type} {x : Xo α} {a : α} (h : calmO x = some a) : x = some (.ok a) := by
  unfold calmO at h
  split at h
  · cases h; rfl
  · cases h
abbrev XN (g : List Sl) : XR := ⟨fun _ _ _ _ => False, g⟩
theorem sub_self : ∀ g : List Sl, Sub g g
  | [] => trivial
  | _ :: g => ⟨.inr rfl, sub_self g⟩
theorem takes00 {X : Cx} : L2N.Takes X (fun _ _ _ _ => False) := fun u s' ⟨a, B, sI, pins, σ, H, cls, d, e, I, nb, up, sky, na, os, ag, w⟩ => False.elim w
section
variable {X : Cx} {EX : XR} {g : List Sl}
theorem calm_sat {α : Type} {x : Xo α} {n : Wd} {φ : α → Wd → Prop} {ξ : Exn → Wd → Prop} (h : Mo.sat (calmO x) n φ ξ) (ξ' : Exn → Wd → Prop) : Mo.sat x n φ ξ' := by
  obtain ⟨h0, a, e, q⟩ := h
  exact ⟨h0, .inl ⟨a, calm_some e, q⟩⟩
theorem ej_calm {e : Expr} {x : Xo D} (h : EJ (m := Xo) X (XN g) e g x) : EJ (m := Option) X EX e g (calmO x) :=
  PE.weak h fun σ H Q ⟨B, G, n, φ, ξ, o, s, q, _⟩ => ⟨B, G, n, φ, fun _ _ => False, o, calm_sat s _, q, fun _ _ _ _ _ _ _ h => False.elim h⟩
end
end DD
namespace DD
open PySem PySem.Spec PyProof.Rows L2
/-! ### isinstance of a class of one's own; == and != of its instances; str of them -/
def isOf (c : Str) (d : D) : Option D := if isRf d = true then (insOf d).bind fun p => if p.1 = c then some (.bool true) else none else some (.bool false)
structure IsC (K : PySem.W.Frag) (mg : Str → Option Value) (c : Str) : Prop where
  ex : ∃ C, ClsOk K c C ∧ mg c = some (.ref C) ∧ PySem.W.kitOne K (.ref C) (.ref C) = some true ∧ (["NoneType", "bool", "int", "str", "list", "tuple", "dict"].all fun T => PySem.W.kitOne K (.type T) (.ref C) == some false) = true ∧ (["NoneType", "bool", "int", "str", "list", "tuple", "dict"].all fun T => PySem.W.subIn K (.ref C) (.type T) == some false) = true ∧ (["NoneType", "bool", "int", "str", "list", "tuple", "dict"].all fun T => PySem.W.subIn K (.type T) (.ref C) == some false) = true
section
variable {K : PySem.W.Frag} {B : Bs} {G H : Hp} {n : Wd} {v : V} {d : D}
theorem rl_rf {d : D} (h : isRl d = true) : isRf d = true := by
  unfold isRl at h
  split at h
  · rfl
  · cases h
theorem Da.ty0 (fm : Fm K B H G n) (h : Da K G v d) (hr : isRf d = false) : TyX K H v (.type (typeN d)) := by
  rcases h.ty fm with ⟨t, _⟩ | ⟨t0, _⟩ | ⟨_, _, _, _, _, _⟩
  · exact t
  · rw [rl_rf t0] at hr
    cases hr
  · cases h with
    | non => exact .base .non
    | bl b => exact .base (.bl b)
    | int i => exact .base (.int i)
    | str x => exact .base (.str x)
    | lst e _ => exact .base (.lst (fm.sub.h _ _ e rfl))
    | tup e _ =>
      rcases sameT fm.sub e with (e | ⟨o, e⟩) | ⟨o, its, n, hk, hc, _⟩
      · exact .base (.tup e)
      · exact .fTuple e
      · exact .kTuple hk hc
    | dct e _ => exact .base (.dK (fm.sub.h _ _ e rfl))
    | obj e => cases hr
    | cel e => cases hr
    | fin e _ _ _ => cases hr
end
section
variable {m : Type → Type} [Mo m] {X : Cx} {EX : XR} {g : List Sl} {c : Str} {a : Expr} {p p2 pos : Pos} {x : m D}
theorem ej_isO (hc : IsC X.K X.mg c) (ha : EJ X EX a g x) (hm : X.mg "isinstance" = none) (hgc : Gl X c := by rfl) (hdc : (c == ("__debug__" : Str)) = false := by decide) (hg : Gl X "isinstance" := by rfl)
    (hs : starEach [a, .Name c p2] X.env = (false, eval a X.env) :: starEach [.Name c p2] X.env := by rfl) (hs2 : starEach [.Name c p2] X.env = (false, eval (.Name c p2) X.env) :: starEach [] X.env := by rfl) :
    EJ X EX (.Call (.Name "isinstance" p) [a, .Name c p2] [] pos) g (x >>= fun d => Mo.lift (isOf c d)) := by
  obtain ⟨C, h1, h2, h3, h4, _⟩ := hc.ex
  refine (pe_callB call_isi hg hm (by decide +kernel) (pa_cons ha (pa_cons (cls_pe (u := .ref C) ⟨hgc, hdc, .inl h2⟩ (ClsV.ofC _)) pa_nil hs2) hs) (by decide) (by decide) hs (by rw [hs2]; rfl)).weak fun σ H Q ⟨B, G, n, φ, ξ, o, s, q, xw⟩ => te_one o s (fun v H1 G1 d n1 o1 g1 d1 s1 => ?_) xw
  obtain ⟨z, ez, s2⟩ := Mo.sat_lift s1
  by_cases hr : isRf d = true
  · unfold isOf at ez
    rw [if_pos hr] at ez
    obtain ⟨⟨c', r⟩, e1, e2⟩ := Option.bind_eq_some_iff.mp ez
    by_cases e3 : c' = c
    · rw [if_pos e3] at e2
      cases e2
      subst e3
      obtain ⟨a', C', dx, vs, fs, rfl, hG, ck, hl, da, rfl⟩ := d1.insI e1
      obtain rfl := h1.one ck
      exact ⟨_, _, _, .ref C', true, rfl, ClsV.own C', .base (.ins (o1.fm.sub.h _ _ hG rfl) ck.cl ck.ha ck.hn ck.ht ck.hm), h3, q _ H1 G1 _ n1 o1 g1 (.bl true) s2⟩
    · rw [if_neg e3] at e2
      cases e2
  · have hr : isRf d = false := by simpa using hr
    have ez : some (PyData.bool false) = some z := by rw [← ez]; unfold isOf; rw [hr]; rfl
    cases ez
    exact ⟨_, _, _, .ref C, false, rfl, ClsV.own C, d1.ty0 o1.fm hr, eq_of_beq (List.all_eq_true.mp h4 _ (typeN_mem d)), q _ H1 G1 _ n1 o1 g1 (.bl false) s2⟩
end
/-! == -/
section
variable {X : Cx} {pins : List (Addr × Obj)} {σ : L2.St} {H : Hp} {s : Shared} {B : Bs} {G : Hp} {n : Wd} {v : V} {u : Value} {d : D}
/-- the type of a value that is data -/
theorem typ_of (I : Inv X pins σ H s) (r : RelV v u) {T : String} (ty : TyX X.K H v (.type T)) (hT : T ∈ ["NoneType", "bool", "int", "str", "list", "tuple", "dict"]) : s.TypeIs u T := by
  cases ty with
  | base b =>
    cases b with
    | non => cases (show u = Value.none from r); rfl
    | bl y => cases (show u = Value.bool y from r); rfl
    | int i => obtain ⟨t, q⟩ := (show ∃ t, u = Value.int i t from r); cases q; exact typeIs_int _ _ _
    | str y => obtain ⟨t, q⟩ := (show ∃ t, u = Value.str y t from r); cases q; exact typeIs_str _ _ _
    | flt y => simp at hT
    | @lst a xs ea =>
      cases (show u = Value.ref a from r)
      obtain ⟨_, _, n, _, h1⟩ := I.hok a _ ea
      exact ⟨_, h1, rfl⟩
    | @frz a ob xs ea =>
      cases (show u = Value.ref a from r)
      obtain ⟨_, _, _, n, _, h1⟩ := I.hok a _ ea
      exact ⟨_, h1, rfl⟩
    | @tup a xs ea =>
      cases (show u = Value.ref a from r)
      obtain ⟨_, _, _, o, h1, h2, _⟩ := I.hok a _ ea
      exact ⟨o, h1, h2⟩
    | @dK a kvs ea =>
      cases (show u = Value.ref a from r)
      obtain ⟨_, _, vs, _, o, es, ep, h1, h2, _⟩ := I.hok a _ ea
      exact ⟨o, h1, h2.1⟩
    | @dT a kvs ea =>
      cases (show u = Value.ref a from r)
      obtain ⟨_, _, xs, _, o, es, ep, h1, h2, _⟩ := I.hok a _ ea
      exact ⟨o, h1, h2.1⟩
  | byt y => simp at hT
  | set ea => simp at hT
  | @kList a o e c => cases (show u = Value.ref a from r); exact ⟨o, I.kIn a o e, c⟩
  | @kTuple a o e c => cases (show u = Value.ref a from r); exact ⟨o, I.kIn a o e, c⟩
  | @kDict a o e c => cases (show u = Value.ref a from r); exact ⟨o, I.kIn a o e, c⟩
  | @fTuple a ob xs ea =>
    cases (show u = Value.ref a from r)
    obtain ⟨_, _, _, _, o, h1, h2, _⟩ := I.hok a _ ea
    exact ⟨o, h1, h2⟩
  | @fDict a ob kvs ea =>
    cases (show u = Value.ref a from r)
    obtain ⟨_, _, _, vs, _, o, es, ep, h1, h2, _⟩ := I.hok a _ ea
    exact ⟨o, h1, h2.1⟩
end
section
variable {prog : Program} {w : World} {A : Around} {E : Value → Shared → Prop} {s : Shared} {K : PySem.W.Frag} {x C f : Addr} {ox : Obj} {od : Option Obj} {u : Value} {T : String}
theorem looks_ty {M : Model} (h : s.TypeIs u T) : PySem.W.Looks M s.heap (typeOf u) (.type T) := fun A Q E s' k q => by
  have e : s'.TypeIs u T := by
    cases u with
    | ref a =>
      obtain ⟨o, h1, h2⟩ := h
      exact ⟨o, k _ _ h1, h2⟩
    | _ => exact h
  exact wpAny_typeOf e q
end
end DD
namespace DD
open PySem PySem.Spec PyProof.Rows L2
section
variable {X : Cx} {k : Nat} {f C : Addr} {fd : FuncData} {ps : List Str} {sp : Sp}
def T7 : List String := ["NoneType", "bool", "int", "str", "list", "tuple", "dict"]
/-- what stands beside an instance in == -/
def Besid (K : PySem.W.Frag) (C : Addr) (y : V) (H : Hp) : Prop := (∃ T, T ∈ T7 ∧ TyX K H y (.type T)) ∨ ∃ b dy gs, y = .ref b ∧ H b = some (.ins C dy gs)
theorem besid_of {pins : List (Addr × Obj)} {σ : L2.St} {H : Hp} {s : Shared} {y : V} {u : Value} (I : Inv X pins σ H s) (r : RelV y u) (h : Besid X.K C y H) (ns : (T7.all fun T => PySem.W.subIn X.K (.type T) (.ref C) == some false) = true) : ∃ tb, PySem.W.Looks (model X.prog X.w) s.heap (typeOf u) tb ∧ PySem.W.notFirst X.K C tb = true := by
  rcases h with ⟨T, hT, ty⟩ | ⟨b, dy, gs, rfl, hb⟩
  · refine ⟨.type T, looks_ty (typ_of I r ty hT), ?_⟩
    have e := eq_of_beq (List.all_eq_true.mp ns T hT)
    unfold PySem.W.notFirst
    rw [e]
    simp
  · obtain rfl : u = Value.ref b := r
    obtain ⟨mB, O, _⟩ := ins_get I.hok hb
    obtain ⟨od, J, _⟩ := O.look
    refine ⟨.ref C, J.type, ?_⟩
    unfold PySem.W.notFirst
    simp
def rEqO (K : PySem.W.Frag) (C : Addr) (sp : Sp) (n : Bool) : R2 := fun x y H Q => ∃ a dx fs, x = .ref a ∧ H a = some (.ins C dx fs) ∧ Besid K C y H ∧ sp [x, y] H (fun v H' => ∃ b : Bool, v = .bl b ∧ Q (.bl (b != n)) H') E0
end
end DD
namespace DD
open PySem PySem.Spec PyProof.Rows L2
/-! ### the rules: a == b, a != b, str(a) -/
def besO (c : Str) (j : D) : Option Unit := if isRf j = true then isCls c j else some ()
section
variable {m : Type → Type} [Mo m] {X : Cx} {EX : XR} {g : List Sl} {k : Nat} {ps : List Str} {pos p : Pos} {c : Str} {a b : Expr} {x y : m D} {F : List Sl → m D}
theorem bes_da {B : Bs} {H G : Hp} {n : Wd} {C : Addr} {v : V} {j : D} {u : Unit} (fm : Fm X.K B H G n) (h1 : ClsOk X.K c C) (d : Da X.K G v j) (e : besO c j = some u) : Besid X.K C v H := by
  unfold besO at e
  by_cases hr : isRf j = true
  · rw [if_pos hr] at e
    obtain ⟨r, ei⟩ := isCls_some e
    obtain ⟨a, C', dx, vs, fs, rfl, hG, ck, hl, da, rfl⟩ := d.insI ei
    obtain rfl := h1.one ck
    exact .inr ⟨a, dx, vs, rfl, fm.sub.h _ _ hG rfl⟩
  · exact .inl ⟨typeN j, typeN_mem j, d.ty0 fm (by simpa using hr)⟩
end
end DD
/-! list comprehensions within an except suite -/
namespace DD
open PySem PySem.Spec PySem.Calls PyProof.Rows HotX L2
/-- an iterator whose end is met while an exception is handled -/
structure TurnY (P : Program) (w : World) (K : PySem.W.Frag) (tg : Expr) (J : It) (fp : List Addr) (it : Addr) (tn : Nat → Heap → Prop) : Prop where
  mem : it ∈ fp
  obj : ∀ i h, tn i h → ∀ b ∈ fp, ∃ o, h.get? b = some o ∧ ∀ v, o.data ≠ .cell v
  keep : ∀ i h h', tn i h → (∀ b ∈ fp, ∀ o, h.get? b = some o → h'.get? b = some o) → tn i h'
  item : ∀ (X : Cx), X.prog = P → X.w = w → X.K = K → ∀ (i : Nat) (pins : List (Addr × Obj)) (s : Shared) (σ : L2.St) (H : Hp) (E : Value → Shared → Prop), Inv X pins σ H s → (∀ b ∈ fp, FpOk X pins H b) → tn i s.heap → J.go i H →
    wpAny (model P w) X.A (pyNext (.ref it)) (fun r s1 => ∃ u, r = some u ∧
      wpAny (model P w) X.A (letOwnedTupleGo tg (.ref it) u) (fun _ s2 => ∃ x H', Inv X pins σ H' s2 ∧ RelV x u ∧ J.yld i H x H' ∧ tn (i + 1) s2.heap ∧ ∀ b ∈ fp, H' b = none) E s1) E s
  done : ∀ (X : Cx), X.prog = P → X.w = w → X.K = K → ∀ (y : Addr) (i : Nat) (pins : List (Addr × Obj)) (s : Shared) (σ : L2.St) (H : Hp) (E : Value → Shared → Prop), HotAt X.A y s.heap → y ∉ fp → Inv X pins σ H s → (∀ b ∈ fp, FpOk X pins H b) → tn i s.heap → J.stop i H →
    wpAny (model P w) X.A (pyNext (.ref it)) (fun r s1 => r = none ∧ Inv X pins σ H s1) E s
  self : ∀ (A : Around) (i : Nat) (s : Shared) (Q : Value → Shared → Prop) (E : Value → Shared → Prop), tn i s.heap → Q (.ref it) s → wpAny (model P w) A (pyIter (.ref it)) Q E s
def PIEY (X : Cx) (pins : List (Addr × Obj)) (σ : L2.St) (tg : Expr) (R : It → Hp → Prop) (itv : Value) (s2 : Shared) : Prop :=
  ∃ (it : Addr) (fp : List Addr) (tn : Nat → Heap → Prop) (J : It) (H' : Hp), itv = .ref it ∧ Inv X pins σ H' s2 ∧ TurnY X.prog X.w X.K tg J fp it tn ∧ tn 0 s2.heap ∧ (∀ b ∈ fp, FpOk X pins H' b) ∧ R J H'
structure PIY (X : Cx) (tg iter : Expr) (wi : TI) : Prop where
  run : ∀ (pins : List (Addr × Obj)) (s : Shared) (σ : L2.St) (H : Hp) (R : It → Hp → Prop), Inv X pins σ H s → wi σ H R →
    wpAny (model X.prog X.w) X.A (eval iter X.env) (fun v s1 => wpAny (model X.prog X.w) X.A (pyIter v) (PIEY X pins σ tg R) X.xe s1) X.xe s
theorem PIY.weak {X : Cx} {tg e : Expr} {t t' : TI} (h : PIY X tg e t) (w : ∀ σ H R, t' σ H R → t σ H R) : PIY X tg e t' := ⟨fun pins s σ H R I q => h.run pins s σ H R I (w _ _ _ q)⟩
end DD
namespace DD
open PySem PySem.Spec PyProof.Rows L2
/-! ### mirrors over worlds: wishes about a value and the world behind it -/
def Z (α : Type) : Type := Wd → (α → Wd → Prop) → Prop
instance : Mo Z where
  pure := fun a n φ => φ a n
  bind := fun x f n φ => x n (fun a n' => f a n' φ)
  sat := fun z n φ _ => z n φ
  lift := fun o n φ => ∃ a, o = some a ∧ φ a n
  sat_pure := fun h => h
  sat_bind := fun h => h
  sat_lift := fun ⟨a, e, h⟩ => ⟨a, e, h⟩
instance : Calm Z := ⟨fun h => h⟩
theorem zl_some {α : Type} (a : α) : (Mo.lift (some a) : Z α) = Pure.pure a := by
  funext n φ
  exact propext ⟨fun ⟨b, e, h⟩ => by cases e; exact h, fun h => ⟨a, rfl, h⟩⟩
instance : MoL Z := ⟨fun _ _ => rfl, fun _ _ _ => rfl, zl_some⟩
/-! ### the things that may change, hidden -/
def hid (G : Hp) : Hp := fun a => match G a with
  | some u => if isMk u = true then none else some u
  | none => none
theorem hid_some {G : Hp} {a : Addr} {u : HO} (h : hid G a = some u) : G a = some u ∧ isMk u = false := by
  unfold hid at h
  split at h
  · rename_i w e
    split at h
    · cases h
    · rename_i hm
      cases h
      exact ⟨e, by simpa using hm⟩
  · cases h
theorem hid_of {G : Hp} {a : Addr} {u : HO} (h : G a = some u) (m : isMk u = false) : hid G a = some u := by
  unfold hid
  rw [h]
  dsimp only
  rw [m, if_neg Bool.false_ne_true]
theorem hid_none {G : Hp} {a : Addr} (h : G a = none) : hid G a = none := by unfold hid; rw [h]
theorem hid_mk {G : Hp} {a : Addr} {u : HO} (h : G a = some u) (m : isMk u = true) : hid G a = none := by
  unfold hid
  rw [h]
  dsimp only
  rw [m, if_pos rfl]
theorem hid_sub {G H : Hp} (s : SubM G H) : SubM (hid G) H := ⟨fun a o e _ => s.h a o (hid_some e).1 (hid_some e).2, fun a e => hid_none (s.t a e)⟩
theorem same_hid {G G' : Hp} (s : Same G G') : Same (DD.hid G) (DD.hid G') := fun a o e => hid_of (s _ _ (hid_some e).1) (hid_some e).2
/-! data that may be hidden: nothing in it changes (instances that do not change are among it) -/
mutual
def okH : D → Bool
  | .none => true
  | .bool _ => true
  | .int _ => true
  | .str _ => true
  | .list ds => okHs ds
  | .tuple ds => okHs ds
  | .dict kvs => okHK kvs
def okHs : List D → Bool
  | [] => true
  | d :: ds => okH d && okHs ds
def okHK : List (D × D) → Bool
  | [] => true
  | (.none, _) :: _ => false
  | (.bool true, _) :: r => okHv r
  | (.bool false, _) :: _ => false
  | (.int _, _) :: _ => true
  | (.str _, _) :: _ => true
  | (.list _, _) :: _ => true
  | (.tuple _, _) :: _ => true
  | (.dict _, _) :: _ => true
def okHv : List (D × D) → Bool
  | [] => true
  | (_, v) :: r => okH v && okHv r
end
theorem okHv_map : ∀ fs : List (Str × D), okHv (fs.map fun p => (.str p.1, p.2)) = okHs (fs.map (·.2))
  | [] => by simp [okHv, okHs]
  | p :: r => by
    rw [List.map_cons, List.map_cons, okHv, okHs, okHv_map r]
theorem okH_ins (c : Str) (fs : List (Str × D)) : okH (insD c fs) = okHs (fs.map (·.2)) := by
  unfold insD
  rw [okH, okHK, okHv, okH, okHv_map]
  rfl
section
variable {K : PySem.W.Frag} {G : Hp}
theorem SqT.hid {a : Addr} {xs : List V} (h : SqT K G a xs) : SqT K (DD.hid G) a xs := by
  rcases h with (h | ⟨o, h⟩) | h
  · exact .inl (.inl (hid_of h rfl))
  · exact .inl (.inr ⟨o, hid_of h rfl⟩)
  · exact .inr h
mutual
theorem Da.hid : ∀ {d : D} {v : V}, Da K G v d → okH d = true → Da K (DD.hid G) v d
  | _, _, .non, _ => .non
  | _, _, .bl b, _ => .bl b
  | _, _, .int i, _ => .int i
  | _, _, .str x, _ => .str x
  | _, _, .lst h a, ok => .lst (hid_of h rfl) (DaAll.hid a (by rw [okH] at ok; exact ok))
  | _, _, .tup h a, ok => .tup (SqT.hid h) (DaAll.hid a (by rw [okH] at ok; exact ok))
  | _, _, .dct h a, _ => .dct (hid_of h rfl) a
  | _, _, .obj h, ok => by simp [okH, okHK] at ok
  | _, _, .cel h, ok => by simp [okH, okHK] at ok
  | _, _, .fin (c := c) (fs := fs) h k l a, ok => .fin (hid_of h rfl) k l (DaAll.hid a (by rw [← okH_ins c fs]; exact ok))
theorem DaAll.hid : ∀ {ds : List D} {vs : List V}, DaAll K G vs ds → okHs ds = true → DaAll K (DD.hid G) vs ds
  | _, _, .nil, _ => .nil
  | _, _, .cons a b, ok => by
    simp only [okHs, Bool.and_eq_true] at ok
    exact .cons (Da.hid a ok.1) (DaAll.hid b ok.2)
end
end
/-- slots without things that may change -/
def okSl : List Sl → Bool
  | [] => true
  | .val d :: r => okH d && okSl r
  | .own ds :: r => okHs ds && okSl r
  | .deck :: r => okSl r
  | .any :: r => okSl r
  | .exn _ _ fs :: r => okHs (fs.map (·.2)) && okSl r
theorem okSl_get : ∀ {g : List Sl} {i : Nat} {s : Sl}, okSl g = true → g[i]? = some s → (∀ d, s = .val d → okH d = true) ∧ (∀ ds, s = .own ds → okHs ds = true) ∧ ∀ a od fs, s = .exn a od fs → okHs (fs.map (·.2)) = true
  | [], i, s, _, e => by simp at e
  | x :: g, 0, s, h, e => by
    simp at e
    subst e
    cases x with
    | val d => simp only [okSl, Bool.and_eq_true] at h; exact ⟨fun d' z => by cases z; exact h.1, fun ds z => (by cases z), fun _ _ _ z => by cases z⟩
    | own ds => simp only [okSl, Bool.and_eq_true] at h; exact ⟨fun d' z => (by cases z), fun ds z => by cases z; exact h.1, fun _ _ _ z => by cases z⟩
    | deck => exact ⟨fun d' z => (by cases z), fun ds z => (by cases z), fun _ _ _ z => by cases z⟩
    | any => exact ⟨fun d' z => (by cases z), fun ds z => (by cases z), fun _ _ _ z => by cases z⟩
    | exn a b c => simp only [okSl, Bool.and_eq_true] at h; exact ⟨fun d' z => (by cases z), fun ds z => (by cases z), fun _ _ _ z => by cases z; exact h.1⟩
  | x :: g, i + 1, s, h, e => by
    have h' : okSl g = true := by
      cases x with
      | val d => simp only [okSl, Bool.and_eq_true] at h; exact h.2
      | own ds => simp only [okSl, Bool.and_eq_true] at h; exact h.2
      | deck => exact h
      | any => exact h
      | exn a b c => simp only [okSl, Bool.and_eq_true] at h; exact h.2
    exact okSl_get h' (by simpa using e)
def hideZ {α : Type} (g : List Sl) (x : Option α) : Z α := fun n φ => okSl g = true ∧ ∃ a, x = some a ∧ φ a n
section
variable {K : PySem.W.Frag} {B : Bs} {g g' : List Sl} {σ : L2.St} {H G : Hp} {n : Wd}
theorem nomk {n : Nat} (o : Obs K H G ⟨n, []⟩) {a : Addr} {u : HO} (e : G a = some u) : isMk u = false := by
  cases hm : mkOf u with
  | none => unfold isMk; rw [hm]; rfl
  | some k =>
    obtain ⟨c, e2, _⟩ := o.at_ a u k e hm
    cases e2
theorem obs_no {n : Nat} (h : ∀ a u, G a = some u → isMk u = false) : Obs K H G ⟨n, []⟩ :=
  ⟨(fun a u k e hm => by have := h a u e; unfold isMk at this; rw [hm] at this; cases this), (fun a b u w k e _ hm => by have := h a u e; unfold isMk at this; rw [hm] at this; cases this), fun k c e => by cases e⟩
theorem hid_nomk {a : Addr} {u : HO} (e : hid G a = some u) : isMk u = false := (hid_some e).2
theorem Fm.alive (f : Fm K B H G n) {a : Addr} (h : B.H a ≠ none) : H a ≠ none := by
  by_cases hp : B.fp a
  · exact f.fpThere hp
  · cases hb : B.H a with
    | none => exact absurd hb h
    | some z => rw [f.keep a z hb hp]; simp
/-- the base of a hidden run: what stood at the def's entry, as it is now -/
noncomputable def Bs.now (B : Bs) (H G : Hp) : Bs := ⟨fun a => open Classical in if B.H a = none then none else H a, hid B.G, B.dk, hid B.tG⟩
theorem now_none {a : Addr} (h : B.H a = none) : (B.now H G).H a = none := by show (open Classical in if B.H a = none then none else H a) = none; rw [if_pos h]
theorem now_some {a : Addr} (h : B.H a ≠ none) : (B.now H G).H a = H a := by show (open Classical in if B.H a = none then none else H a) = H a; rw [if_neg h]
theorem now_in {a : Addr} (h : (B.now H G).H a ≠ none) : B.H a ≠ none := fun e => h (now_none e)
theorem Ok.hide (o : Ok K B g σ H G n) (sb : Sub g g') (hs : okSl g' = true) : Ok K (B.now H G) g' σ H (hid G) ⟨n.n, []⟩ := by
  have o' := o.forget sb
  refine ⟨⟨fun a u e _ => ?_, hid_sub o.fm.sub, same_hid o.fm.old, obs_no fun a u e => hid_nomk e, fun a e => ?_, same_hid o.fm.tg, fun a e q => ?_, fun a b e => ?_⟩, o'.len, fun i d e => ?_, ?_, o'.dck, fun i a od fs e => ?_⟩
  · by_cases h : B.H a = none
    · rw [now_none h] at e; cases e
    · rw [now_some h] at e; exact e
  · by_cases h : B.H a = none
    · exact hid_none (o.fm.bt a h)
    · rw [now_some h] at e
      exact absurd e (o.fm.alive h)
  · have h := now_in e
    cases eb : B.G a with
    | none => exact hid_none (o.fm.new a h eb)
    | some u =>
      cases m : isMk u with
      | false =>
        have : hid B.G a = none := q
        rw [hid_of eb m] at this
        cases this
      | true => exact hid_mk (o.fm.old _ _ eb) m
  · obtain ⟨d1, h1, h2, h3, h4⟩ := o.fm.deck a b e
    exact ⟨d1, by rw [now_some h1]; exact o.fm.alive h1, by rw [now_some h2]; exact o.fm.alive h2, hid_none h3, hid_none h4⟩
  · obtain ⟨v, h1, h2⟩ := o'.val i d e
    exact ⟨v, h1, h2.hid ((okSl_get hs e).1 d rfl)⟩
  · obtain ⟨f, h1, h2⟩ := o'.own
    refine ⟨f, h1, fun i ds e => ?_⟩
    obtain ⟨q1, q2, q3, xs, q4, q5⟩ := h2 i ds e
    exact ⟨q1, hid_none q2, now_none q3, xs, q4, q5.hid ((okSl_get hs e).2.1 ds rfl)⟩
  · obtain ⟨h1, h2⟩ := o'.adr i a od fs e
    refine ⟨h1, ?_⟩
    rcases h2 with ⟨k1, k2⟩ | ⟨dx, vs, k1, k2, k3, k4⟩
    · exact .inl ⟨k1, k2⟩
    · exact .inr ⟨dx, vs, k1, hid_of k2 rfl, k3, DaAll.hid k4 ((okSl_get hs e).2.2 a od fs rfl)⟩
/-- the data that came, beside the marks -/
def mrk (G Gc : Hp) : Hp := fun a => match G a with
  | some u => some u
  | none => Gc a
theorem mrk_l {G Gc : Hp} {a : Addr} {u : HO} (h : G a = some u) : mrk G Gc a = some u := by unfold mrk; rw [h]
theorem mrk_r {G Gc : Hp} {a : Addr} (h : G a = none) : mrk G Gc a = Gc a := by unfold mrk; rw [h]
theorem Ok.unhide (o : Ok K B g σ H G n) {G1 H' G' Gc : Hp} {n' : Wd} (f : Fm K ⟨H, G1, B.dk, G1⟩ H' G' n') (g1 : ∀ a u, G1 a = some u → isMk u = false) (c1 : Same (hid G) Gc) (c2 : ∀ a, hid G a = none → H a ≠ none → Gc a = none) (c3 : SubM Gc H') (c4 : ∀ a u, Gc a = some u → isMk u = false) :
    Ok K B g σ H' (mrk G Gc) ⟨n'.n, n.ob⟩ ∧ Same G (mrk G Gc) ∧ Same Gc (mrk G Gc) := by
  have sG : Same G (mrk G Gc) := fun a u e => mrk_l e
  have sC : Same Gc (mrk G Gc) := fun a u e => by
    cases eg : G a with
    | none => rw [mrk_r eg]; exact e
    | some w =>
      rw [mrk_l eg]
      cases m : isMk w with
      | false => have := c1 a w (hid_of eg m); rw [this] at e; exact e
      | true =>
        have hH : H a ≠ none := o.fm.there eg
        rw [c2 a (hid_mk eg m) hH] at e
        cases e
  have fp : ∀ a, (⟨H, G1, B.dk, G1⟩ : Bs).fp a → ∃ x y, B.dk = some (x, y) ∧ (a = x ∨ a = y) := fun a h => by
    rcases h with h | ⟨u, e, m⟩
    · exact h
    · have := g1 a u e
      rw [m] at this; cases this
  have kp : ∀ a u, B.H a = none ∨ (∃ w, G a = some w) → H a = some u → H' a = some u := fun a u hb e => f.keep a u e fun h => by
    obtain ⟨x, y, ed, hxy⟩ := fp a h
    obtain ⟨_, h1, h2, h3, h4⟩ := o.fm.deck x y ed
    rcases hb with hb | ⟨w, hb⟩
    · rcases hxy with rfl | rfl
      · exact h1 hb
      · exact h2 hb
    · rcases hxy with rfl | rfl
      · rw [o.fm.new a h1 h3] at hb; cases hb
      · rw [o.fm.new a h2 h4] at hb; cases hb
  have alive : ∀ a, H a ≠ none → H' a ≠ none := fun a h => f.alive h
  refine ⟨⟨⟨fun a u e q => ?_, ⟨fun a u e m => ?_, fun a e => ?_⟩, o.fm.old.trans sG, ⟨fun a u k e m => ?_, fun a b u w k e e2 m m2 => ?_, fun k c e => ?_⟩, o.fm.bt, o.fm.tg.trans sG, fun a e q => ?_, fun a b e => ?_⟩, o.len, fun i d e => ?_, ?_, o.dck, fun i a od fs e => ⟨(o.adr i a od fs e).1, (o.adr i a od fs e).2.mono sG⟩⟩, sG, sC⟩
  · refine f.keep a u (o.fm.keep a u e q) fun h => q ?_
    obtain ⟨x, y, ed, hxy⟩ := fp a h
    exact .inl ⟨x, y, ed, hxy⟩
  · cases eg : G a with
    | none => rw [mrk_r eg] at e; exact c3.h a u e m
    | some w =>
      rw [mrk_l eg] at e
      cases e
      exact c3.h a u (c1 a u (hid_of eg m)) m
  · cases eg : G a with
    | none => rw [mrk_r eg]; exact c3.t a e
    | some w => exact absurd e (alive a (o.fm.there eg))
  · cases eg : G a with
    | none =>
      rw [mrk_r eg] at e
      have := c4 a u e
      unfold isMk at this
      rw [m] at this; cases this
    | some w =>
      rw [mrk_l eg] at e
      cases e
      obtain ⟨c, h1, h2⟩ := o.fm.obs.at_ a u k eg m
      exact ⟨c, h1, h2.mono sG fun x hx => kp a x (.inr ⟨u, eg⟩) hx⟩
  · have lft : ∀ z v j, mrk G Gc z = some v → mkOf v = some j → G z = some v := fun z v j ez mz => by
      cases eg : G z with
      | none =>
        rw [mrk_r eg] at ez
        have := c4 z v ez
        unfold isMk at this
        rw [mz] at this; cases this
      | some w => rw [mrk_l eg] at ez; exact ez
    exact o.fm.obs.inj a b u w k (lft _ _ _ e m) (lft _ _ _ e2 m2) m m2
  · obtain ⟨a, h⟩ := o.fm.obs.all k c e
    obtain ⟨u, hu, _⟩ := h.mark
    exact ⟨a, h.mono sG fun x hx => kp a x (.inr ⟨u, hu⟩) hx⟩
  · have ga := o.fm.new a e q
    rw [mrk_r ga]
    exact c2 a (hid_none ga) (o.fm.alive e)
  · obtain ⟨_, h1, h2, h3, h4⟩ := o.fm.deck a b e
    exact ⟨(f.deck a b e).1, h1, h2, h3, h4⟩
  · obtain ⟨v, h1, h2⟩ := o.val i d e
    exact ⟨v, h1, h2.mono sG⟩
  · obtain ⟨fn, h1, h2⟩ := o.own
    refine ⟨fn, h1, fun i ds e => ?_⟩
    obtain ⟨q1, q2, q3, xs, q4, q5⟩ := h2 i ds e
    exact ⟨q1, by rw [mrk_r q2]; exact c2 _ (hid_none q2) (by rw [q4]; simp), q3, xs, kp _ _ (.inl q3) q4, q5.mono sG⟩
end
theorem WalkD.down {K : PySem.W.Frag} {G G' : Hp} {J : It} {ds : List D} (w : WalkD K G J ds) (s : Same G G') : WalkD K G' J ds where
  goes := fun i H hi sb => w.goes i H hi (s.subm sb)
  stops := fun H sb => w.stops H (s.subm sb)
  yields := fun i H G1 x H' hi s1 sb y => w.yields i H G1 x H' hi (s.trans s1) sb y
end DD
namespace DD
open PySem PySem.Spec PyProof.Rows L2
/-! ### what sees no thing that may change, within a mirror over worlds -/
def noOwns (g : List Sl) : Bool := g.all fun s => match s with
  | .own _ => false
  | _ => true
section
variable {K : PySem.W.Frag} {B : Bs} {g g' : List Sl} {σ : L2.St} {H G : Hp} {n : Wd}
/-- without lists of one's own the base is the present heap -/
theorem Ok.hide0 (o : Ok K B g σ H G n) (sb : Sub g g') (hs : okSl g' = true) (ho : noOwns g' = true) : Ok K ⟨H, hid G, B.dk, hid G⟩ g' σ H (hid G) ⟨n.n, []⟩ := by
  have oh := o.hide sb hs
  refine ⟨⟨fun a u e _ => e, oh.fm.sub, Same.refl _, oh.fm.obs, oh.fm.sub.t, Same.refl _, fun a _ q => q, fun a b e => ?_⟩, oh.len, oh.val, ⟨fun _ => 0, fun i j ds es e => ?_, fun i ds e => ?_⟩, oh.dck, oh.adr⟩
  · obtain ⟨d1, h1, h2, h3, h4⟩ := oh.fm.deck a b e
    exact ⟨d1, oh.fm.alive h1, oh.fm.alive h2, oh.fm.new a h1 h3, oh.fm.new b h2 h4⟩
  · have := List.all_eq_true.mp ho _ (List.mem_of_getElem? e)
    cases this
  · have := List.all_eq_true.mp ho _ (List.mem_of_getElem? e)
    cases this
end
/-! .. lists of one's own lent -/
end DD
namespace DD
open PySem PySem.Spec PyProof.Rows L2
/-! ### lists that may change: cells of the world -/
def celOf : D → Option Nat
  | .dict [(.bool false, .int i)] => if bigI ≤ i then some (i - bigI).toNat else none
  | _ => none
theorem cel_ref (k : Nat) : celOf (refL k) = some k := by
  show (if bigI ≤ bigI + (k : Int) then some (bigI + (k : Int) - bigI).toNat else none) = _
  rw [if_pos (by omega)]
  congr 1
  omega
def cellZ (k : Nat) : Z (List D) := fun n φ => ∃ ds, n.ob[k]? = some (.lst ds) ∧ φ ds n
def putZ (k : Nat) (ds : List D) : Z Unit := fun n φ => φ () ⟨n.n, n.ob.set k (.lst ds)⟩
section
variable {K : PySem.W.Frag} {B : Bs} {g : List Sl} {σ : L2.St} {H G : Hp} {n : Wd}
theorem Da.cell {v : V} {d : D} {k : Nat} (h : Da K G v d) (e : celOf d = some k) : ∃ a, v = .ref a ∧ G a = some (.met k k) := by
  cases h with
  | cel h =>
    rename_i a j
    have : celOf (refL j) = some k := e
    rw [cel_ref] at this
    cases this
    exact ⟨_, rfl, h⟩
  | @dct a kvs h _ =>
    unfold celOf at e
    split at e
    · rename_i z
      cases kvs with
      | nil => cases z
      | cons p r =>
        rw [List.map_cons] at z
        injection z with z
        injection z with z z2
        obtain ⟨key, w⟩ := p
        have z3 := congrArg Prod.fst z
        cases key <;> cases z3
    · cases e
  | obj h =>
    cases e
  | _ => cases e
theorem Obs.cell {a : Addr} {k : Nat} (o : Obs K H G n) (e : G a = some (.met k k)) : ∃ ds xs, n.ob[k]? = some (.lst ds) ∧ H a = some (.lst xs) ∧ DaAll K G xs ds := by
  obtain ⟨c, h1, h2⟩ := o.at_ a _ k e rfl
  cases c with
  | ins cl fs =>
    obtain ⟨q, _⟩ := h2
    rw [e] at q
    cases q
  | lst ds =>
    obtain ⟨_, xs, h3, h4⟩ := h2
    exact ⟨ds, xs, h1, h3, h4⟩
theorem Ok.cellAt (o : Ok K B g σ H G n) {v : V} {d : D} {k : Nat} (h : Da K G v d) (e : celOf d = some k) : ∃ a ds xs, v = .ref a ∧ G a = some (.met k k) ∧ n.ob[k]? = some (.lst ds) ∧ H a = some (.lst xs) ∧ DaAll K G xs ds := by
  obtain ⟨a, rfl, ha⟩ := h.cell e
  obtain ⟨ds, xs, h1, h2, h3⟩ := o.fm.obs.cell ha
  exact ⟨a, ds, xs, rfl, ha, h1, h2, h3⟩
/-- a cell is given new items -/
theorem Ok.putC (o : Ok K B g σ H G n) {a : Addr} {k : Nat} {xs : List V} {ds : List D} (ha : G a = some (.met k k)) (hd : DaAll K G xs ds) : Ok K B g σ (upd H a (.lst xs)) G ⟨n.n, n.ob.set k (.lst ds)⟩ := by
  obtain ⟨ds0, xs0, hk, hH, _⟩ := o.fm.obs.cell ha
  have klt : k < n.ob.length := (List.getElem?_eq_some_iff.mp hk).1
  have ne : ∀ b, G b = none → b ≠ a := fun b h e => by rw [e, ha] at h; cases h
  refine ⟨⟨fun b u e q => ?_, ⟨fun b u e m => ?_, fun b e => ?_⟩, o.fm.old, ⟨fun b u j e m => ?_, o.fm.obs.inj, fun j c e => ?_⟩, o.fm.bt, o.fm.tg, o.fm.new, fun x y e => ?_⟩, o.len, o.val, ?_, o.dck, o.adr⟩
  · have : b ≠ a := by
      rintro rfl
      cases eb : B.G b with
      | none => rw [o.fm.new b (by rw [e]; simp) eb] at ha; cases ha
      | some w =>
        have := o.fm.old b w eb
        rw [ha] at this
        cases this
        exact q (.inr ⟨_, eb, rfl⟩)
    rw [upd_ne this]
    exact o.fm.keep b u e q
  · have : b ≠ a := by
      rintro rfl
      rw [ha] at e
      cases e
      cases m
    rw [upd_ne this]
    exact o.fm.sub.h b u e m
  · by_cases hb : b = a
    · rw [hb, upd_same] at e; cases e
    · rw [upd_ne hb] at e; exact o.fm.sub.t b e
  · by_cases hb : b = a
    · subst hb
      rw [ha] at e
      cases e
      have hj : k = j := by simpa [mkOf] using m
      subst hj
      refine ⟨.lst ds, ?_, ha, xs, upd_same, hd⟩
      show (n.ob.set k (.lst ds))[k]? = _
      rw [List.getElem?_set_self klt]
    · have hj : k ≠ j := fun z => hb (o.fm.obs.inj b a u _ k e ha (z ▸ m) rfl)
      obtain ⟨c, h1, h2⟩ := o.fm.obs.at_ b u j e m
      refine ⟨c, ?_, h2.mono (Same.refl _) ?_⟩
      · show (n.ob.set k (.lst ds))[j]? = _
        rw [List.getElem?_set_ne hj]; exact h1
      · intro x hx
        rw [upd_ne hb]; exact hx
  · by_cases hj : k = j
    · subst hj
      have e' : (n.ob.set k (.lst ds))[k]? = some c := e
      rw [List.getElem?_set_self klt] at e'
      cases e'
      exact ⟨a, ha, xs, upd_same, hd⟩
    · have e' : (n.ob.set k (.lst ds))[j]? = some c := e
      rw [List.getElem?_set_ne hj] at e'
      obtain ⟨b, hb⟩ := o.fm.obs.all j c e'
      obtain ⟨u, hu, hm⟩ := hb.mark
      have hba : b ≠ a := by
        rintro rfl
        rw [ha] at hu
        cases hu
        exact hj (by simpa [mkOf] using hm)
      refine ⟨b, hb.mono (Same.refl _) ?_⟩
      intro x hx
      rw [upd_ne hba]; exact hx
  · obtain ⟨⟨cs, c, e1, e2, r⟩, h1, h2, h3, h4⟩ := o.fm.deck x y e
    exact ⟨⟨cs, c, by rw [upd_ne (ne x (o.fm.new x h1 h3))]; exact e1, by rw [upd_ne (ne y (o.fm.new y h2 h4))]; exact e2, r⟩, h1, h2, h3, h4⟩
  · obtain ⟨f, h1, h2⟩ := o.own
    refine ⟨f, h1, fun i es e => ?_⟩
    obtain ⟨q1, q2, q3, ys, q4, q5⟩ := h2 i es e
    exact ⟨q1, q2, q3, ys, by rw [upd_ne (ne _ q2)]; exact q4, q5⟩
end
end DD
namespace DD
open PySem PySem.Spec PyProof.Rows L2
/-! ### rules for lists that may change -/
def ixZ (d j : D) : Z D := match celOf d with
  | some k => cellZ k >>= fun ds => Mo.lift (getD (.list ds) j)
  | none => Mo.lift (getD d j)
def lenZ (d : D) : Z D := match celOf d with
  | some k => cellZ k >>= fun ds => pure (.int ds.length)
  | none => Mo.lift (lenD d)
def onlyZ (d : D) : Z Nat := Mo.lift (celOf d)
def setZ (d j v : D) : Z Unit := onlyZ d >>= fun k => cellZ k >>= fun ds => Mo.lift (putD ds j v) >>= fun es => putZ k es
def tripZ (d : D) : Z (D × D × D) := match celOf d with
  | some k => cellZ k >>= fun ds => Mo.lift (tripD (.tuple ds))
  | none => Mo.lift (tripD d)
section
variable {X : Cx} {EX : XR} {g : List Sl}
theorem ej_ixZ {a b : Expr} {pos : Pos} {x y : Z D} (ha : EJ X EX a g x) (hb : EJ X EX b g y) (hs : PlainIx b) : EJ X EX (.Subscript a b pos) g (x >>= fun d => y >>= fun j => ixZ d j) :=
  (pe_ix ix_seq ha hb hs).weak fun σ H Q ⟨B, G, n, φ, ξ, o, s, q, xw⟩ => te_one o s (fun v H1 G1 d n1 o1 g1 d1 s1 => te_one o1 s1 (fun w H2 G2 j n2 o2 g2 d2 s2 => by
    have s2 : ixZ d j n2 φ := s2
    unfold ixZ at s2
    rcases ek : celOf d with _ | k
    rotate_left
    · rw [ek] at s2
      obtain ⟨a, ds, xs, ev, ga, hk, hH, da⟩ := o2.cellAt (d1.mono g2) ek
      obtain ⟨ds', e1, z, ez, pz⟩ := s2
      rw [hk] at e1
      cases e1
      unfold getD at ez
      split at ez
      · rename_i e2
        cases e2
        obtain ⟨v', h1, h2⟩ := da.atI ez
        exact .inl ⟨a, xs, _, v', ev, d2.toI, .of hH, h1, q v' H2 G2 z n2 o2 (g1.trans g2) h2 pz⟩
      · rename_i e2; cases e2
      · rename_i e2; cases e2
      · cases ez
    · rw [ek] at s2
      obtain ⟨z, ez, pz⟩ := s2
      exact rd_ix v w d j z H2 G2 Q (d1.mono g2) d2 o2.fm.sub ez fun u H3 G3 gr du => q u H3 G3 z n2 (o2.gr gr) ((g1.trans g2).trans gr.g) du pz) xw) xw
theorem ej_lenZ {p pos : Pos} {a : Expr} {x : Z D} (hm : X.mg "len" = none) (ha : EJ X EX a g x) (hg : Gl X "len" := by rfl) (hs : starEach [a] X.env = (false, eval a X.env) :: starEach [] X.env := by rfl) :
    EJ X EX (.Call (.Name "len" p) [a] [] pos) g (x >>= fun d => lenZ d) :=
  (pe_callB call_lenD' hg hm (by decide +kernel) (pa_cons ha pa_nil hs) (by decide) (by decide) hs rfl).weak fun σ H Q ⟨B, G, n, φ, ξ, o, s, q, xw⟩ => te_one o s (fun v H1 G1 d n1 o1 g1 d1 s1 => by
    have s1 : lenZ d n1 φ := s1
    unfold lenZ at s1
    rcases ek : celOf d with _ | k
    rotate_left
    · rw [ek] at s1
      obtain ⟨a, ds, xs, ev, ga, hk, hH, da⟩ := o1.cellAt d1 ek
      obtain ⟨ds', e1, pz⟩ := s1
      rw [hk] at e1
      cases e1
      refine .inl ⟨a, xs, by rw [ev], .inl (.of hH), ?_⟩
      rw [da.length]
      exact q _ H1 G1 _ n1 o1 g1 (.int _) pz
    · rw [ek] at s1
      obtain ⟨z, ez, pz⟩ := s1
      exact rc_len v d z H1 G1 Q d1 o1.fm.sub ez fun u H3 G3 gr du => q u H3 G3 z n1 (o1.gr gr) (g1.trans gr.g) du pz) xw
/-- o[k] = e -/
theorem sj_putZ {o0 k e : Expr} {p2 pos : Pos} {x y z : Z D} (h : EJ X EX e g x) (ho : EJ X EX o0 g y) (hk : EJ X EX k g z)
    (ha : ∀ v, assign (.Subscript o0 k p2) X.env v = (do
      let ov ← holding [v] (eval o0 X.env)
      let iv ← holding [v, ov] (eval k X.env)
      standAt p2
      holding [v, ov, iv] (setItem ov iv v)
      release [v, ov, iv] []) := by intro _; rfl)
    (hs : swapsWithSole [.Subscript o0 k p2] e pos.line X.env = pure false := by kernel_rfl) (hw : swappedStores [.Subscript o0 k p2] e X.env = pure none := by kernel_rfl)
    (h1 : (assignEach [.Subscript o0 k p2] X.env).map (·.2) = [assign (.Subscript o0 k p2) X.env] := by rfl) :
    SJ X EX (.Assign [.Subscript o0 k p2] e pos) g (x >>= fun v => y >>= fun d => z >>= fun j => setZ d j v) (fun _ => g) :=
  (ps_asg h (pg_sub ho hk set_list ha) hs hw h1).weak fun De σ H ⟨B, G, n, φ, ξ, o, s, q, xw⟩ => te_one o s (fun v H1 G1 dv n1 o1 g1 d1 s1 => te_one o1 s1 (fun w H2 G2 d n2 o2 g2 d2 s2 => te_one o2 s2 (fun u H3 G3 j n3 o3 g3 d3 s3 => by
    obtain ⟨k, ek, ds', e1, es, ee, pe⟩ := (show setZ d j dv n3 φ from s3)
    obtain ⟨a, ds, xs, ev, ga, hk, hH, da⟩ := o3.cellAt (d2.mono g3) ek
    rw [hk] at e1
    cases e1
    unfold putD at ee
    cases j with
    | int j =>
      obtain ⟨t, et, rfl⟩ := Option.map_eq_some_iff.mp ee
      cases d3
      exact ⟨a, xs, j, t, ev, rfl, hH, by rw [da.length]; exact et, q () _ _ G3 _ (o3.putC ga (da.set ((d1.mono g2).mono g3) t)) ((g1.trans g2).trans g3) pe⟩
    | _ => cases ee) xw) xw) xw
/-- a, b, c = e -/
theorem sj_unp3Z (i j l : Nat) {elts : List Expr} {kk : Nat} {tpos : Pos} {e : Expr} {pos : Pos} {x : Z D} (h : EJ X EX e g x) (h1t : PG X (.Tuple elts kk tpos) (gTup X.K 3 (gCons (gName i) (gCons (gName j) (gCons (gName l) gNil))))) (h1l : PG X (.Tuple elts kk tpos) (gUnl X.K 3 (gCons (gName i) (gCons (gName j) (gCons (gName l) gNil)))))
    (hs : swapsWithSole [.Tuple elts kk tpos] e pos.line X.env = pure false := by kernel_rfl) (hw : swappedStores [.Tuple elts kk tpos] e X.env = pure none := by kernel_rfl)
    (h1 : (assignEach [.Tuple elts kk tpos] X.env).map (·.2) = [assign (.Tuple elts kk tpos) X.env] := by rfl) : SJ X EX (.Assign [.Tuple elts kk tpos] e pos) g (x >>= fun d => tripZ d) (fun de => ((g.set i (.val de.1)).set j (.val de.2.1)).set l (.val de.2.2)) := by
  have hor : PG X (.Tuple elts kk tpos) (fun v σ H Q => gTup X.K 3 (gCons (gName i) (gCons (gName j) (gCons (gName l) gNil))) v σ H Q ∨ gUnl X.K 3 (gCons (gName i) (gCons (gName j) (gCons (gName l) gNil))) v σ H Q) :=
    ⟨fun pins s σ H v u Q I r hw => hw.elim (fun hw => h1t.run pins s σ H v u Q I r hw) fun hw => h1l.run pins s σ H v u Q I r hw⟩
  refine (ps_asg h hor hs hw h1).weak fun De σ H ⟨B, G, n, φ, ξ, o, s, q, xw⟩ => te_one o s (fun v H1 G1 d n1 o1 g1 d1 s1 => ?_) xw
  have s1 : tripZ d n1 φ := s1
  unfold tripZ at s1
  rcases ek : celOf d with _ | k
  rotate_left
  · rw [ek] at s1
    obtain ⟨a, ds, xs, ev, ga, hk, hH, da⟩ := o1.cellAt d1 ek
    subst ev
    obtain ⟨ds', e1, de, ed, pd⟩ := s1
    rw [hk] at e1
    cases e1
    unfold tripD at ed
    split at ed
    · rename_i e2
      cases e2
      cases ed
      cases da with
      | cons e1 r =>
        cases r with
        | cons e2 r =>
          cases r with
          | cons e3 r =>
            cases r
            exact .inr ⟨_, _, rfl, .of hH, rfl, _, _, rfl, _, _, rfl, _, _, rfl, rfl, q _ _ _ G1 n1 (((o1.setV e1).setV e2).setV e3) g1 pd⟩
    · cases ed
  · rw [ek] at s1
    obtain ⟨de, ed, pd⟩ := s1
    unfold tripD at ed
    split at ed
    · cases ed
      cases d1 with
      | tup h da =>
        cases da with
        | cons e1 r =>
          cases r with
          | cons e2 r =>
            cases r with
            | cons e3 r =>
              cases r
              exact .inl ⟨_, _, rfl, sameT o1.fm.sub h, rfl, _, _, rfl, _, _, rfl, _, _, rfl, rfl, q _ _ _ G1 n1 (((o1.setV e1).setV e2).setV e3) g1 pd⟩
    · cases ed
end
end DD
namespace DD
open PySem PySem.Spec PyProof.Rows L2
/-! ### the deck of three parts, as cells -/
def deck3 (c : Int) (cs rs : List Int) : List Cell := [.lst [refL 1, .int c, refL 2], .lst (cs.map .int), .lst (rs.map .int)]
def spDeckZ (K : PySem.W.Frag) : Sp := fun vs H Q _ => ∃ (a : Addr) (ns : List Int), vs = [.ref a] ∧ SqL K H a (ns.map V.int) ∧
  ∀ (x y z : Addr) (H' : Hp) (cs rs : List Int), Same H H' → x ≠ y → x ≠ z → y ≠ z → H' x = some (.lst [.ref y, .int 0, .ref z]) → H' y = some (.lst (cs.map V.int)) → H' z = some (.lst (rs.map V.int)) → cs.length = rs.length → 0 < cs.length → cs.length ≤ 64 → (∀ r ∈ rs, 0 ≤ r) → Q (.ref x) H'
def deckG (x y z : Addr) : Hp := fun a => if a = x then some (.met 0 0) else if a = y then some (.met 1 1) else if a = z then some (.met 2 2) else none
theorem deckG_cases {x y z a : Addr} {u : HO} (h : deckG x y z a = some u) : (a = x ∧ u = .met 0 0) ∨ (a ≠ x ∧ a = y ∧ u = .met 1 1) ∨ (a ≠ x ∧ a ≠ y ∧ a = z ∧ u = .met 2 2) := by
  unfold deckG at h
  split at h
  · rename_i e; cases h; exact .inl ⟨e, rfl⟩
  · rename_i e1
    split at h
    · rename_i e; cases h; exact .inr (.inl ⟨e1, e, rfl⟩)
    · rename_i e2
      split at h
      · rename_i e; cases h; exact .inr (.inr ⟨e1, e2, e, rfl⟩)
      · cases h
theorem deck_fm {K : PySem.W.Frag} {x y z : Addr} {H : Hp} {cs rs : List Int} (h1 : x ≠ y) (h2 : x ≠ z) (h3 : y ≠ z) (hx : H x = some (.lst [.ref y, .int 0, .ref z])) (hy : H y = some (.lst (cs.map V.int))) (hz : H z = some (.lst (rs.map V.int))) :
    Fm K ⟨H, deckG x y z, none, deckG x y z⟩ H (deckG x y z) ⟨0, deck3 0 cs rs⟩ := by
  have gx : deckG x y z x = some (.met 0 0) := if_pos rfl
  have gy : deckG x y z y = some (.met 1 1) := by unfold deckG; rw [if_neg (Ne.symm h1), if_pos rfl]
  have gz : deckG x y z z = some (.met 2 2) := by unfold deckG; rw [if_neg (Ne.symm h2), if_neg (Ne.symm h3), if_pos rfl]
  have cx : CellAt K (deckG x y z) H x 0 (.lst [refL 1, .int 0, refL 2]) := ⟨gx, _, hx, .cons (.cel gy) (.cons (.int 0) (.cons (.cel gz) .nil))⟩
  have cy : CellAt K (deckG x y z) H y 1 (.lst (cs.map .int)) := ⟨gy, _, hy, daInts cs⟩
  have cz : CellAt K (deckG x y z) H z 2 (.lst (rs.map .int)) := ⟨gz, _, hz, daInts rs⟩
  have nn : ∀ a, H a = none → deckG x y z a = none := fun a e => by
    cases q : deckG x y z a with
    | none => rfl
    | some u =>
      rcases deckG_cases q with ⟨rfl, _⟩ | ⟨_, rfl, _⟩ | ⟨_, _, rfl, _⟩
      · rw [hx] at e; cases e
      · rw [hy] at e; cases e
      · rw [hz] at e; cases e
  refine ⟨fun a u e _ => e, ⟨fun a u e m => ?_, nn⟩, Same.refl _, ⟨fun a u k e m => ?_, fun a b u w k e1 e2 m1 m2 => ?_, fun k c e => ?_⟩, nn, Same.refl _, fun a _ q => q, fun a b e => by cases e⟩
  · rcases deckG_cases e with ⟨_, rfl⟩ | ⟨_, _, rfl⟩ | ⟨_, _, _, rfl⟩ <;> cases m
  · rcases deckG_cases e with ⟨rfl, rfl⟩ | ⟨_, rfl, rfl⟩ | ⟨_, _, rfl, rfl⟩
    · obtain rfl : 0 = k := by simpa [mkOf] using m
      exact ⟨_, rfl, cx⟩
    · obtain rfl : 1 = k := by simpa [mkOf] using m
      exact ⟨_, rfl, cy⟩
    · obtain rfl : 2 = k := by simpa [mkOf] using m
      exact ⟨_, rfl, cz⟩
  · rcases deckG_cases e1 with ⟨rfl, rfl⟩ | ⟨_, rfl, rfl⟩ | ⟨_, _, rfl, rfl⟩ <;> rcases deckG_cases e2 with ⟨rfl, rfl⟩ | ⟨_, rfl, rfl⟩ | ⟨_, _, rfl, rfl⟩ <;> first | rfl | (simp only [mkOf, Option.some.injEq] at m1 m2; omega)
  · match k, e with
    | 0, e => cases e; exact ⟨x, cx⟩
    | 1, e => cases e; exact ⟨y, cy⟩
    | 2, e => cases e; exact ⟨z, cz⟩
    | k + 3, e => cases e
/-- the law: its first statement makes the deck, the rest runs by a mirror over worlds -/
theorem law_jZ {P : Program} {w : World} {K : PySem.W.Frag} {mg : Str → Option Value} {base : Heap} {k : Nat} {x qual y z : Str} {st : Stmt} {f fk : Addr} {fd fkd : FuncData} {N : List Str} {px pn pc ps : Pos} {rest : List Stmt} {dx : Str} {pks : List Str} {M : Z D} (Fu : Fun K x qual st f fd) (S : FnScope N [y] (defScope st)) (Fk : FnG P w K mg base k fk fkd pks (spDeckZ K)) (bk : Binds K fkd pks []) (mk : mg dx = some (.ref fk))
    {pos : Pos} (hbody : defBody st = .Assign [.Name z px] (.Call (.Name dx pn) [.Name y pc] [] ps) pos :: rest) (hN0 : N[0]? = some y) (hN1 : N[1]? = some z)
    (hset : ∀ (cdv : Value) (A : Around) (outer : List Env) (s : Shared) (H : Hp) (E : XK), Room k (A.deeper (envOfC qual (defScope st) s.heap.objs.size f cdv)) → A.guards = some [] →
      PS (cxOf CX0 P w K mg base N qual (defScope st) f cdv A outer s H E).nox (.Assign [.Name z px] (.Call (.Name dx pn) [.Name y pc] [] ps) pos) (tAsg (fun σ H Q => tCons (tVar 0) tNil σ H fun vs H1 => spDeckZ K vs H1 Q E0) (gName 1)))
    (hrest : ∀ (cdv : Value) (A : Around) (outer : List Env) (s : Shared) (H : Hp) (E : XK), Room k (A.deeper (envOfC qual (defScope st) s.heap.objs.size f cdv)) → A.guards = some [] →
      FJ (cxOf CX0 P w K mg base N qual (defScope st) f cdv A outer s H E).nox X0 true rest (.any :: .val (refL 0) :: List.replicate (N.length - 2) .any) M)
    (hM : ∀ cs rs : List Int, cs.length = rs.length → 0 < cs.length → cs.length ≤ 64 → (∀ r ∈ rs, 0 ≤ r) → M ⟨0, deck3 0 cs rs⟩ (fun d _ => d = .bool true)) : FnG P w K mg base (k + 1) f fd [y] (spLaw K) := by
  refine fng_of Fu S (fun vs H Q E ⟨a, ns, e, _⟩ => by rw [e]; rfl) fun cdv A outer s H vs Q E hr gu ⟨a, ns, e, hS, hQ⟩ => ?_
  subst e
  rw [hbody]
  refine ⟨_, pss_cons (hset cdv A outer s H E hr gu) (hrest cdv A outer s H E hr gu), ?_⟩
  refine ⟨.ref a, ?_, a, ns, rfl, hS, fun x1 y1 z1 H' cs rs sm h1 h2 h3 hx hy hz hl h0 h64 hr0 => ?_⟩
  · unfold L2.start
    cases N with
    | nil => cases hN0
    | cons _ _ => rfl
  · have gx : deckG x1 y1 z1 x1 = some (.met 0 0) := if_pos rfl
    refine ⟨⟨H', deckG x1 y1 z1, none, deckG x1 y1 z1⟩, deckG x1 y1 z1, ⟨0, deck3 0 cs rs⟩, _, fun _ _ => False, ⟨deck_fm h1 h2 h3 hx hy hz, ?_, fun i d e => ?_, ⟨fun _ => 0, fun i j ds es e => ?_, fun i ds e => ?_⟩, fun i e => ?_, fun i _ _ _ e2 => ?_⟩, hM cs rs hl h0 h64 hr0, fun v H2 G2 d n2 _ dv p => ?_, fun _ σ2 H2 G2 n2 _ p => ?_, fun _ _ _ _ _ _ _ z => z.elim⟩
    · match N, hN1 with
      | n0 :: n1 :: N', _ => simp [L2.start]
    · match i with
      | 0 => cases e
      | 1 =>
        cases e
        refine ⟨.ref x1, ?_, .cel gx⟩
        match N, hN1 with
        | n0 :: n1 :: N', _ => simp [L2.start]
      | i + 2 =>
        simp only [List.getElem?_cons_succ] at e
        rw [List.getElem?_replicate] at e
        split at e <;> cases e
    · match i with
      | 0 => cases e
      | 1 => cases e
      | i + 2 =>
        simp only [List.getElem?_cons_succ] at e
        rw [List.getElem?_replicate] at e
        split at e <;> cases e
    · match i with
      | 0 => cases e
      | 1 => cases e
      | i + 2 =>
        simp only [List.getElem?_cons_succ] at e
        rw [List.getElem?_replicate] at e
        split at e <;> cases e
    · match i with
      | 0 => cases e
      | 1 => cases e
      | i + 2 =>
        simp only [List.getElem?_cons_succ] at e
        rw [List.getElem?_replicate] at e
        split at e <;> cases e
    · match i with
      | 0 => cases e2
      | 1 => cases e2
      | i + 2 =>
        simp only [List.getElem?_cons_succ] at e2
        rw [List.getElem?_replicate] at e2
        split at e2 <;> cases e2
    · subst p
      cases dv
      exact hQ H2
    · cases p
end DD
namespace DD
open PySem PySem.Spec PyProof.Rows L2
theorem cut63_eq (ns : List Int) : cutV (ns.map V.int) none (some 63) = (ns.take 63).map V.int := by
  unfold cutV
  rw [HT.sIx_none, List.drop_zero, Nat.sub_zero, List.map_take]
  have : HT.sIx (ns.map V.int).length (ns.map V.int).length (some 63) = min 63 (ns.map V.int).length := by
    show (if (63 : Int) < 0 then (63 + ((ns.map V.int).length : Int)).toNat else min (63 : Int).toNat (ns.map V.int).length) = _
    rw [if_neg (by decide)]
    rfl
  rw [this]
  exact List.take_eq_take_min.symm
/-- the cells: what is cut out, and one 0 where there is nothing -/
def csOf (f : Int → Int) (ns : List Int) : List Int := (ns.take 63).map f ++ (if ns.length = 0 then [0] else [])
theorem csOf_len (f : Int → Int) (ns : List Int) : 0 < (csOf f ns).length ∧ (csOf f ns).length ≤ 64 := by
  unfold csOf
  rw [List.length_append, List.length_map, List.length_take]
  split
  · rename_i h; simp; omega
  · rename_i h; simp; omega
def big18 (x : Int) : Int := x * (if decide ((10 : Int) ^ 18 ≤ x) = true then 1 else 0)
theorem big18_ge (x : Int) : 0 ≤ big18 x := by
  unfold big18
  split
  · rename_i h
    have h' : (10 : Int) ^ 18 ≤ x := of_decide_eq_true h
    have : (10 : Int) ^ 18 = 1000000000000000000 := by decide
    omega
  · omega
end DD
namespace DD
open PySem PySem.Spec PyProof.Rows L2
/-! ### reasoning about mirrors over worlds: the deck of three parts stands, other things may stand beside it -/
theorem zb_assoc {α β γ : Type} (x : Z α) (f : α → Z β) (g : β → Z γ) : (x >>= f) >>= g = x >>= fun a => f a >>= g := rfl
theorem zb_pure {α β : Type} (a : α) (f : α → Z β) : (Pure.pure a >>= f) = f a := rfl
theorem zb_some {α β : Type} (a : α) (f : α → Z β) : ((Mo.lift (some a) : Z α) >>= f) = f a := by rw [zl_some]; rfl
/-- the deck with room for b draws, then the other things -/
def DkZ (b : Nat) (E : List Cell) (n : Wd) : Prop := ∃ (c : Int) (cs rs : List Int), n.ob = deck3 c cs rs ++ E ∧ cs.length = rs.length ∧ 0 < cs.length ∧ cs.length ≤ 64 ∧ (∀ r ∈ rs, 0 ≤ r) ∧ 0 ≤ c ∧ c + b ≤ 2 ^ 24
theorem DkZ.le {b c : Nat} {E : List Cell} {n : Wd} (h : DkZ b E n) (hc : c ≤ b) : DkZ c E n := by
  obtain ⟨c0, cs, rs, h1, h2, h3, h4, h5, h6, h7⟩ := h
  exact ⟨c0, cs, rs, h1, h2, h3, h4, h5, h6, by omega⟩
def TrZ {α : Type} (b : Nat) (x : Z α) (φ : α → Prop) : Prop := ∀ (d : Nat) (E : List Cell) (n : Wd) (ψ : α → Wd → Prop), DkZ (b + d) E n → (∀ a E' n', DkZ d (E ++ E') n' → φ a → ψ a n') → x n ψ
section
variable {α β : Type} {b c d : Nat}
theorem TrZ.pure {a : α} {φ : α → Prop} (h : φ a) : TrZ 0 (Pure.pure a : Z α) φ := fun d E n ψ hn q => q a [] n (by rw [List.append_nil]; exact hn.le (by omega)) h
theorem TrZ.bind {x : Z α} {f : α → Z β} {φ : α → Prop} {χ : β → Prop} (h : TrZ b x φ) (hf : ∀ a, φ a → TrZ c (f a) χ) : TrZ (b + c) (x >>= f) χ := fun d E n ψ hn q =>
  h (c + d) E n (fun a n' => f a n' ψ) (hn.le (by omega)) fun a E' n' hn' ha => hf a ha d (E ++ E') n' ψ hn' fun a2 E2 n2 h2 p2 => q a2 (E' ++ E2) n2 (by rw [← List.append_assoc]; exact h2) p2
theorem TrZ.lift {o : Option α} {a : α} {φ : α → Prop} (e : o = some a) (h : φ a) : TrZ 0 (Mo.lift o : Z α) φ := fun d E n ψ hn q => ⟨a, e, q a [] n (by rw [List.append_nil]; exact hn.le (by omega)) h⟩
theorem TrZ.mono {x : Z α} {φ χ : α → Prop} (h : TrZ b x φ) (hb : b ≤ c) (hp : ∀ a, φ a → χ a) : TrZ c x χ := fun d E n ψ hn q => h d E n ψ (hn.le (by omega)) fun a E' n' hn' ha => q a E' n' hn' (hp a ha)
theorem TrZ.le {x : Z α} {φ : α → Prop} (h : TrZ b x φ) (hb : b ≤ c) : TrZ c x φ := h.mono hb fun _ z => z
/-- what sees no thing that may change -/
theorem TrZ.hide {g' : List Sl} {o : Option α} {a : α} {φ : α → Prop} (hs : okSl g' = true) (e : o = some a) (h : φ a) : TrZ 0 (hideZ g' o) φ := fun d E n ψ hn q => ⟨hs, a, e, q a [] n (by rw [List.append_nil]; exact hn.le (by omega)) h⟩
theorem TrZ.ite {t : Bool} {x y : Z α} {φ : α → Prop} (h1 : t = true → TrZ b x φ) (h2 : t = false → TrZ b y φ) : TrZ b (if t = true then x else y) φ := by
  cases t with
  | true => rw [if_pos rfl]; exact h1 rfl
  | false => rw [if_neg Bool.false_ne_true]; exact h2 rfl
theorem TrZ.comp {f : D → Z D} {P : D → D → Prop} : ∀ (ds acc : List D), (∀ d ∈ ds, TrZ c (f d) (P d)) → TrZ (ds.length * c) (lcA (fun d => someM (f d)) ds acc) (fun out => ∃ es, out = acc ++ es ∧ es.length = ds.length ∧ ∀ (i : Nat) (d e : D), ds[i]? = some d → es[i]? = some e → P d e)
  | [], acc, _ => by
    have : TrZ 0 (Pure.pure acc : Z (List D)) (fun out => ∃ es, out = acc ++ es ∧ es.length = 0 ∧ ∀ (i : Nat) (d e : D), ([] : List D)[i]? = some d → es[i]? = some e → P d e) := TrZ.pure ⟨[], by simp, rfl, fun i d e h => by simp at h⟩
    exact this.le (by omega)
  | d :: ds, acc, h => by
    have h1 : TrZ c (someM (f d)) (fun o => ∃ e, o = some e ∧ P d e) := ((h d List.mem_cons_self).bind (c := 0) fun e he => TrZ.pure ⟨e, rfl, he⟩).le (Nat.le_of_eq (Nat.add_zero c))
    refine (h1.bind (c := ds.length * c) fun o ⟨e, eo, he⟩ => ?_).le (by rw [List.length_cons, Nat.succ_mul]; omega)
    subst eo
    refine (TrZ.comp ds (acc ++ (some e).toList) fun d hd => h d (List.mem_cons_of_mem _ hd)).mono (Nat.le_refl _) ?_
    rintro out ⟨es, rfl, el, q⟩
    refine ⟨e :: es, by simp, by simp [el], fun i d' e' h1 h2 => ?_⟩
    cases i with
    | zero => simp at h1 h2; subst h1 h2; exact he
    | succ i => exact q i d' e' (by simpa using h1) (by simpa using h2)
theorem TrZ.loop {A : Type} {f : D → A → Z (Fl A)} {I : List D → A → Prop} {R : D → Prop} (ds : List D) : ∀ a : A, I ds a → (∀ d r a, I (d :: r) a → TrZ c (f d a) (Post (I r) R)) → TrZ (ds.length * c) (loopM f ds a) (Post (I []) R) := by
  induction ds with
  | nil => exact fun a h _ => (TrZ.pure (φ := Post (I []) R) (a := Fl.nx a) h).le (by omega)
  | cons d r ih =>
    intro a h hf
    refine ((hf d r a h).bind (c := r.length * c) fun z hz => ?_).le (by rw [List.length_cons, Nat.succ_mul]; omega)
    cases z with
    | nx a' => exact ih a' hz hf
    | rt v => exact (TrZ.pure (φ := Post (I []) R) (a := Fl.rt v) hz).le (by omega)
theorem TrZ.thenB {A A' : Type} {x : Z (Fl A)} {y : A → Z (Fl A')} {I : A → Prop} {χ : Fl A' → Prop} (h : TrZ b x (Post I fun _ => False)) (hy : ∀ a, I a → TrZ c (y a) χ) : TrZ (b + c) (x >>= fun f => DD.thenB f y) χ := h.bind fun z hz => by
  cases z with
  | nx a => exact hy a hz
  | rt v => exact hz.elim
theorem TrZ.thenM {A : Type} {x : Z (Fl A)} {y : A → Z D} {I : A → Prop} {χ : D → Prop} (h : TrZ b x (Post I fun _ => False)) (hy : ∀ a, I a → TrZ c (y a) χ) : TrZ (b + c) (x >>= fun f => DD.thenM f y) χ := h.bind fun z hz => by
  cases z with
  | nx a => exact hy a hz
  | rt v => exact hz.elim
theorem TrZ.bindL {α β : Type} {c : Nat} {o : Option α} {a : α} {f : α → Z β} {χ : β → Prop} (e : o = some a) (h : TrZ c (f a) χ) : TrZ c ((Mo.lift o : Z α) >>= f) χ :=
  ((TrZ.lift (φ := fun z => z = a) e rfl).bind fun z hz => hz ▸ h).le (Nat.le_of_eq (Nat.zero_add c))
theorem TrZ.st {x : Z α} {f : α → Z β} {φ : α → Prop} {χ : β → Prop} (h : TrZ b x φ) (hf : ∀ a, φ a → TrZ (d - b) (f a) χ) (hd : b ≤ d := by decide) : TrZ d (x >>= f) χ := (h.bind hf).le (by omega)
theorem TrZ.loopR {A : Type} {f : D → A → Z (Fl A)} {I : Nat → A → Prop} {R : D → Prop} {lo : Int} {n : Nat} {a : A} (h0 : I 0 a) (h : ∀ i a, i < n → I i a → TrZ c (f (.int (lo + (i : Nat))) a) (Post (I (i + 1)) R)) : TrZ (n * c) (loopM f (rangeL lo n) a) (Post (I n) R) := by
  have := TrZ.loop (c := c) (f := f) (R := R) (I := fun ds a => ∃ i, i ≤ n ∧ ds = (rangeL lo n).drop i ∧ I i a) (rangeL lo n) a ⟨0, Nat.zero_le _, rfl, h0⟩ fun e r a ⟨i, hi, ei, hI⟩ => by
    have hl : i < n := by
      by_cases z : i < n
      · exact z
      · rw [List.drop_eq_nil_of_le (by rw [rangeL_length]; omega)] at ei
        cases ei
    rw [List.drop_eq_getElem_cons (by rw [rangeL_length]; exact hl)] at ei
    obtain ⟨e1, e2⟩ := List.cons.inj ei
    have e3 : (rangeL lo n)[i]'(by rw [rangeL_length]; exact hl) = .int (lo + (i : Nat)) := by simp [rangeL]
    rw [e1, e3]
    refine (h i a hl hI).mono (Nat.le_refl _) fun z hz => ?_
    cases z with
    | nx a' => exact ⟨i + 1, hl, e2, hz⟩
    | rt v => exact hz
  rw [rangeL_length] at this
  refine this.mono (Nat.le_refl _) fun z hz => ?_
  cases z with
  | nx a' =>
    obtain ⟨i, hi, ei, hI⟩ := hz
    have : n ≤ i := by
      have e := congrArg List.length ei
      rw [List.length_drop, rangeL_length] at e
      simp at e
      omega
    obtain rfl : i = n := by omega
    exact hI
  | rt v => exact hz
theorem TrZ.thB {A A' : Type} {x : Z (Fl A)} {y : A → Z (Fl A')} {I : A → Prop} {χ : Fl A' → Prop} (h : TrZ b x (Post I fun _ => False)) (hy : ∀ a, I a → TrZ (d - b) (y a) χ) (hd : b ≤ d := by decide) : TrZ d (x >>= fun f => DD.thenB f y) χ := (TrZ.thenB h hy).le (by omega)
theorem TrZ.thM {A : Type} {x : Z (Fl A)} {y : A → Z D} {I : A → Prop} {χ : D → Prop} (h : TrZ b x (Post I fun _ => False)) (hy : ∀ a, I a → TrZ (d - b) (y a) χ) (hd : b ≤ d := by decide) : TrZ d (x >>= fun f => DD.thenM f y) χ := (TrZ.thenM h hy).le (by omega)
theorem TrZ.nx {A : Type} {a : A} {I : A → Prop} {R : D → Prop} (h : I a) : TrZ d (Pure.pure (Fl.nx a) : Z (Fl A)) (Post I R) := (TrZ.pure (φ := Post I R) (a := Fl.nx a) h).le (Nat.zero_le _)
theorem TrZ.rt {A : Type} {v : D} {I : A → Prop} {R : D → Prop} (h : R v) : TrZ d (Pure.pure (Fl.rt v) : Z (Fl A)) (Post I R) := (TrZ.pure (φ := Post I R) (a := Fl.rt v) h).le (Nat.zero_le _)
theorem TrZ.li {α : Type} {o : Option α} {a : α} {φ : α → Prop} (e : o = some a) (h : φ a) : TrZ d (Mo.lift o : Z α) φ := (TrZ.lift e h).le (Nat.zero_le _)
theorem TrZ.eq {α : Type} {b : Nat} {x : Z α} {a : α} {φ : α → Prop} (e : x = Pure.pure a) (h : φ a) : TrZ b x φ := by
  rw [e]
  exact (TrZ.pure h).le (Nat.zero_le _)
end
/-! worlds step by step -/
section
variable {α β : Type} {n : Wd} {ψ : β → Wd → Prop}
theorem zL {o : Option α} {a : α} {f : α → Z β} (e : o = some a) (h : f a n ψ) : ((Mo.lift o : Z α) >>= f) n ψ := ⟨a, e, h⟩
theorem zIx {k : Nat} {ds : List D} {j d : D} {f : D → Z β} (e : n.ob[k]? = some (.lst ds)) (ej : getD (.list ds) j = some d) (h : f d n ψ) : (ixZ (refL k) j >>= f) n ψ := by
  unfold ixZ
  rw [cel_ref]
  exact ⟨ds, e, d, ej, h⟩
theorem zLen {k : Nat} {ds : List D} {f : D → Z β} (e : n.ob[k]? = some (.lst ds)) (h : f (.int ds.length) n ψ) : (lenZ (refL k) >>= f) n ψ := by
  unfold lenZ
  rw [cel_ref]
  exact ⟨ds, e, h⟩
theorem zTrip {k : Nat} {x y z : D} {f : D × D × D → Z β} (e : n.ob[k]? = some (.lst [x, y, z])) (h : f (x, y, z) n ψ) : (tripZ (refL k) >>= f) n ψ := by
  unfold tripZ
  rw [cel_ref]
  exact ⟨_, e, _, rfl, h⟩
theorem zSet {k : Nat} {ds es : List D} {j v : D} {f : Unit → Z β} (e : n.ob[k]? = some (.lst ds)) (ep : putD ds j v = some es) (h : f () ⟨n.n, n.ob.set k (.lst es)⟩ ψ) : (setZ (refL k) j v >>= f) n ψ := by
  unfold setZ onlyZ
  rw [cel_ref]
  exact ⟨k, rfl, ds, e, es, ep, h⟩
end
end DD
namespace DD
open PySem PySem.Spec PyProof.Rows L2
/-! ### a plain mirror (also one that draws) within a mirror over worlds -/
/-- monads over worlds -/
class OverZ (m : Type → Type) [Mo m] where
  up : {α : Type} → Z α → m α
  sat_up : ∀ {α : Type} {z : Z α} {n : Wd} {φ : α → Wd → Prop} {ξ : Exn → Wd → Prop}, Mo.sat (up z) n φ ξ → z n φ
instance : OverZ Z := ⟨fun z => z, fun h => h⟩
def hidP {m' : Type → Type} [Mo m'] {α : Type} (g : List Sl) (x : m' α) : Z α := fun n φ => okSl g = true ∧ Mo.sat x ⟨n.n, []⟩ (fun a n' => φ a ⟨n'.n, n.ob⟩) (fun _ _ => False)
section
variable {K : PySem.W.Frag} {B : Bs} {g g' : List Sl} {σ : L2.St} {H G : Hp} {n : Wd}
theorem hidP_back (o : Ok K B g σ H G n) {H' G' : Hp} {n' : Wd} (hn : n'.ob = []) (f : Fm K ⟨H, hid G, B.dk, hid G⟩ H' G' n') : Ok K B g σ H' (mrk G G') ⟨n'.n, n.ob⟩ ∧ Same G (mrk G G') ∧ Same G' (mrk G G') := by
  obtain ⟨k, ob⟩ := n'
  dsimp only at hn
  subst hn
  exact o.unhide (n' := ⟨k, []⟩) f (fun a u e => hid_nomk e) f.old (fun a e h => f.new a h e) f.sub fun a u e => nomk f.obs e
theorem Ok.hidPL (o : Ok K B g σ H G n) (sb : Sub g g') (hs : okSl g' = true) : ∃ G1 : Hp, Ok K ⟨H, G1, B.dk, G1⟩ (lendG g') σ H G1 ⟨n.n, []⟩ ∧
    ∀ (H' G' : Hp) (n' : Wd), n'.ob = [] → Fm K ⟨H, G1, B.dk, G1⟩ H' G' n' → (Ok K B g σ H' (mrk G (cutB H (hid G) G')) ⟨n'.n, n.ob⟩ ∧ Same G (mrk G (cutB H (hid G) G')) ∧ Same (cutB H (hid G) G') (mrk G (cutB H (hid G) G'))) ∧ ∀ a o, G' a = some o → hid G a = none → H a ≠ none → ∃ xs, o = .lst xs := by
  have oh := o.hide sb hs
  obtain ⟨G1, o1, back⟩ := oh.lend rfl
  refine ⟨G1, o1, fun H' G' n' hn f => ?_⟩
  obtain ⟨k, ob⟩ := n'
  dsimp only at hn
  subst hn
  obtain ⟨⟨o2, s2⟩, lst⟩ := back H' G' _ rfl f
  exact ⟨o.unhide (n' := ⟨k, []⟩) f (fun a u e => nomk o1.fm.obs e) s2 (fun a e h => cutB_out e h) o2.fm.sub fun a u e => nomk o2.fm.obs e, lst⟩
end
section
variable {m m' : Type → Type} [Mo m] [OverZ m] [Mo m'] [Plain m'] {X : Cx} {EX : XR} {g : List Sl}
theorem ej_hidP (g' : List Sl) {e : Expr} {x : m' D} (h : EJ (m := m') X X0 e g' x) (sb : Sub g g') (ho : noOwns g' = true := by rfl) : EJ (m := m) X EX e g (OverZ.up (hidP g' x)) :=
  PE.weak h fun σ H Q ⟨B, G, n, φ, ξ, o, s, q, xw⟩ => by
    obtain ⟨hs, sx⟩ := OverZ.sat_up s
    exact ⟨⟨H, hid G, B.dk, hid G⟩, hid G, ⟨n.n, []⟩, _, _, o.hide0 sb hs ho, (Plain.plain sx).2, fun v H' G' d n' o' g1 dv ⟨hn, p⟩ => by
      obtain ⟨o2, g2, g3⟩ := hidP_back o hn o'.fm
      exact q v H' _ d _ o2 g2 (dv.mono g3) p, fun _ _ _ _ _ _ _ z => z.2.elim⟩
theorem tj_hidP (g' : List Sl) {e : Expr} {x : m' Bool} (h : TJ (m := m') X X0 e g' x) (sb : Sub g g') (ho : noOwns g' = true := by rfl) : TJ (m := m) X EX e g (OverZ.up (hidP g' x)) :=
  PT.weak h fun σ H Q ⟨B, G, n, φ, ξ, o, s, q, xw⟩ => by
    obtain ⟨hs, sx⟩ := OverZ.sat_up s
    exact ⟨⟨H, hid G, B.dk, hid G⟩, hid G, ⟨n.n, []⟩, _, _, o.hide0 sb hs ho, (Plain.plain sx).2, fun b H' G' n' o' g1 ⟨hn, p⟩ => by
      obtain ⟨o2, g2, g3⟩ := hidP_back o hn o'.fm
      exact q b H' _ _ o2 g2 p, fun _ _ _ _ _ _ _ z => z.2.elim⟩
/-! .. lists of one's own lent -/
theorem ej_hidPL (g' : List Sl) {e : Expr} {x : m' D} (h : EJ (m := m') X X0 e (lendG g') x) (sb : Sub g g') : EJ (m := m) X EX e g (OverZ.up (hidP g' (x >>= fun d => Mo.lift (flatO d)))) :=
  PE.weak h fun σ H Q ⟨B, G, n, φ, ξ, o, s, q, xw⟩ => by
    obtain ⟨hs, sx⟩ := OverZ.sat_up s
    obtain ⟨G1, o1, back⟩ := o.hidPL sb hs
    refine ⟨⟨H, G1, B.dk, G1⟩, G1, ⟨n.n, []⟩, _, _, o1, Mo.sat_bind (Plain.plain sx).2, fun v H' G' d n' o' g1 dv s' => ?_, fun _ _ _ _ _ _ _ z => z.2.elim⟩
    obtain ⟨z, ez, hn, pz⟩ := Mo.sat_lift s'
    obtain ⟨rfl, hz⟩ := flatO_eq ez
    obtain ⟨⟨o2, g2, g3⟩, hl⟩ := back H' G' n' hn o'.fm
    exact q v H' _ _ _ o2 g2 ((dv.cut hl hz).mono g3) pz
theorem tj_hidPL (g' : List Sl) {e : Expr} {x : m' Bool} (h : TJ (m := m') X X0 e (lendG g') x) (sb : Sub g g') : TJ (m := m) X EX e g (OverZ.up (hidP g' x)) :=
  PT.weak h fun σ H Q ⟨B, G, n, φ, ξ, o, s, q, xw⟩ => by
    obtain ⟨hs, sx⟩ := OverZ.sat_up s
    obtain ⟨G1, o1, back⟩ := o.hidPL sb hs
    refine ⟨⟨H, G1, B.dk, G1⟩, G1, ⟨n.n, []⟩, _, _, o1, (Plain.plain sx).2, fun b H' G' n' o' g1 ⟨hn, p⟩ => ?_, fun _ _ _ _ _ _ _ z => z.2.elim⟩
    obtain ⟨⟨o2, g2, g3⟩, hl⟩ := back H' G' n' hn o'.fm
    exact q b H' _ _ o2 g2 p
end
end DD
namespace DD
open PySem PySem.Spec PyProof.Rows L2
/-! ### instances that change: cells of the world -/
def ownOf : D → Option Nat
  | .dict [(.none, .int i)] => if bigI ≤ i then some (i - bigI).toNat else none
  | _ => none
theorem own_ref (k : Nat) : ownOf (refD k) = some k := by
  show (if bigI ≤ bigI + (k : Int) then some (bigI + (k : Int) - bigI).toNat else none) = _
  rw [if_pos (by omega)]
  congr 1
  omega
def insZ (k : Nat) : Z (Str × List (Str × D)) := fun n φ => ∃ c fs, n.ob[k]? = some (.ins c fs) ∧ φ (c, fs) n
def putI (k : Nat) (c : Str) (fs : List (Str × D)) : Z Unit := fun n φ => φ () ⟨n.n, n.ob.set k (.ins c fs)⟩
def newI (c : Str) : Z D := fun n φ => φ (refD n.ob.length) ⟨n.n, n.ob ++ [.ins c []]⟩
/-- the class of an instance that changes -/
def clsZ (c : Str) (d : D) : Z (List (Str × D)) := Mo.lift (ownOf d) >>= fun k => insZ k >>= fun p => Mo.lift (if p.1 = c then some p.2 else none)
def attrZ (c f : Str) (d : D) : Z D := clsZ c d >>= fun fs => Mo.lift (fs.lookup f)
def putL (f : Str) (v : D) : List (Str × D) → List (Str × D)
  | [] => [(f, v)]
  | (g, x) :: r => if g = f then (g, v) :: r else (g, x) :: putL f v r
def setAZ (c f : Str) (d v : D) : Z Unit := Mo.lift (ownOf d) >>= fun k => insZ k >>= fun p => Mo.lift (if p.1 = c ∧ p.2.length < 900 then some () else none) >>= fun _ => putI k c (putL f v p.2)
/-- an instance of the class that has no attribute of the method's name -/
def selfZ (c mn : Str) (d : D) : Z Unit := clsZ c d >>= fun fs => Mo.lift (if (fs.lookup mn).isNone = true then some () else none)
section
variable {K : PySem.W.Frag} {B : Bs} {g : List Sl} {σ : L2.St} {H G : Hp} {n : Wd}
theorem Da.own {v : V} {d : D} {k : Nat} (h : Da K G v d) (e : ownOf d = some k) : ∃ a, v = .ref a ∧ G a = some (.own k) := by
  cases h with
  | obj h =>
    rename_i a j
    have : ownOf (refD j) = some k := e
    rw [own_ref] at this
    cases this
    exact ⟨_, rfl, h⟩
  | @dct a kvs h _ =>
    unfold ownOf at e
    split at e
    · rename_i z
      cases kvs with
      | nil => cases z
      | cons p r =>
        rw [List.map_cons] at z
        injection z with z
        injection z with z z2
        obtain ⟨key, w⟩ := p
        have z3 := congrArg Prod.fst z
        cases key <;> cases z3
    · cases e
  | cel h =>
    cases e
  | _ => cases e
theorem lkp_da {f : Str} : ∀ {vs : List (Str × V)} {fs : List (Str × D)}, vs.map (·.1) = fs.map (·.1) → DaAll K G (vs.map (·.2)) (fs.map (·.2)) → (∀ d, fs.lookup f = some d → ∃ v, vs.lookup f = some v ∧ Da K G v d) ∧ (fs.lookup f = none → vs.lookup f = none)
  | [], [], _, _ => ⟨fun d h => (by cases h), fun _ => rfl⟩
  | [], _ :: _, h, _ => by cases h
  | _ :: _, [], h, _ => by cases h
  | (k, v) :: vs, (k', d') :: fs, h, .cons a b => by
    have hk : k = k' := by injection h
    have ht : vs.map (·.1) = fs.map (·.1) := by injection h
    subst hk
    obtain ⟨i1, i2⟩ := lkp_da (f := f) ht b
    rw [List.lookup_cons, List.lookup_cons]
    cases z : (f == k)
    · exact ⟨i1, i2⟩
    · exact ⟨fun d hd => (by cases hd; exact ⟨v, rfl, a⟩), fun hd => (by cases hd)⟩
theorem put_da {f : Str} {w : V} {y : D} (hw : Da K G w y) : ∀ {vs : List (Str × V)} {fs : List (Str × D)}, vs.map (·.1) = fs.map (·.1) → DaAll K G (vs.map (·.2)) (fs.map (·.2)) → (putF f w vs).map (·.1) = (putL f y fs).map (·.1) ∧ DaAll K G ((putF f w vs).map (·.2)) ((putL f y fs).map (·.2))
  | [], [], _, _ => ⟨rfl, .cons hw .nil⟩
  | [], _ :: _, h, _ => by cases h
  | _ :: _, [], h, _ => by cases h
  | (k, v) :: vs, (k', d') :: fs, h, .cons a b => by
    have hk : k = k' := by injection h
    have ht : vs.map (·.1) = fs.map (·.1) := by injection h
    subst hk
    obtain ⟨i1, i2⟩ := put_da (f := f) hw ht b
    show ((if k = f then (k, w) :: vs else (k, v) :: putF f w vs).map (·.1) = (if k = f then (k, y) :: fs else (k, d') :: putL f y fs).map (·.1)) ∧ DaAll K G ((if k = f then (k, w) :: vs else (k, v) :: putF f w vs).map (·.2)) ((if k = f then (k, y) :: fs else (k, d') :: putL f y fs).map (·.2))
    by_cases z : k = f
    · rw [if_pos z, if_pos z]
      exact ⟨by rw [List.map_cons, List.map_cons, ht], .cons hw b⟩
    · rw [if_neg z, if_neg z]
      exact ⟨by rw [List.map_cons, List.map_cons, i1], .cons a i2⟩
theorem Ok.insAt (o : Ok K B g σ H G n) {v : V} {d : D} {k : Nat} {c : Str} {fs : List (Str × D)} (h : Da K G v d) (e : ownOf d = some k) (hk : n.ob[k]? = some (.ins c fs)) : ∃ a C dx vs, v = .ref a ∧ G a = some (.own k) ∧ ClsOk K c C ∧ H a = some (.ins C dx vs) ∧ vs.map (·.1) = fs.map (·.1) ∧ DaAll K G (vs.map (·.2)) (fs.map (·.2)) := by
  obtain ⟨a, rfl, ga⟩ := h.own e
  obtain ⟨c', h1, h2⟩ := o.fm.obs.at_ a _ k ga rfl
  rw [hk] at h1
  cases h1
  obtain ⟨_, C, dx, vs, q1, q2, q3, q4⟩ := h2
  exact ⟨a, C, dx, vs, rfl, ga, q1, q2, q3, q4⟩
/-- a thing that may change is changed -/
theorem Ok.putG (o : Ok K B g σ H G n) {a : Addr} {k : Nat} {u w : HO} {c : Cell} (ha : G a = some u) (hm : mkOf u = some k) (hc : CellAt K G (upd H a w) a k c) : Ok K B g σ (upd H a w) G ⟨n.n, n.ob.set k c⟩ := by
  obtain ⟨c0, hk, h0⟩ := o.fm.obs.at_ a u k ha hm
  have klt : k < n.ob.length := (List.getElem?_eq_some_iff.mp hk).1
  have um : isMk u = true := by unfold isMk; rw [hm]; rfl
  have ne : ∀ b, G b = none → b ≠ a := fun b h e => by rw [e, ha] at h; cases h
  refine ⟨⟨fun b z e q => ?_, ⟨fun b z e m => ?_, fun b e => ?_⟩, o.fm.old, ⟨fun b z j e m => ?_, o.fm.obs.inj, fun j d e => ?_⟩, o.fm.bt, o.fm.tg, o.fm.new, fun x y e => ?_⟩, o.len, o.val, ?_, o.dck, o.adr⟩
  · have : b ≠ a := by
      rintro rfl
      cases eb : B.G b with
      | none => rw [o.fm.new b (by rw [e]; simp) eb] at ha; cases ha
      | some x =>
        have := o.fm.old b x eb
        rw [ha] at this
        cases this
        exact q (.inr ⟨_, eb, um⟩)
    rw [upd_ne this]
    exact o.fm.keep b z e q
  · have : b ≠ a := by
      rintro rfl
      rw [ha] at e
      cases e
      rw [um] at m
      cases m
    rw [upd_ne this]
    exact o.fm.sub.h b z e m
  · by_cases hb : b = a
    · rw [hb, upd_same] at e; cases e
    · rw [upd_ne hb] at e; exact o.fm.sub.t b e
  · by_cases hb : b = a
    · subst hb
      rw [ha] at e
      cases e
      have hj : k = j := Option.some.inj (hm.symm.trans m)
      subst hj
      refine ⟨c, ?_, hc⟩
      show (n.ob.set k c)[k]? = _
      rw [List.getElem?_set_self klt]
    · have hj : k ≠ j := fun x => hb (o.fm.obs.inj b a z u k e ha (x ▸ m) hm)
      obtain ⟨d, h1, h2⟩ := o.fm.obs.at_ b z j e m
      refine ⟨d, ?_, h2.mono (Same.refl _) ?_⟩
      · show (n.ob.set k c)[j]? = _
        rw [List.getElem?_set_ne hj]; exact h1
      · intro x hx
        rw [upd_ne hb]; exact hx
  · by_cases hj : k = j
    · subst hj
      have e' : (n.ob.set k c)[k]? = some d := e
      rw [List.getElem?_set_self klt] at e'
      cases e'
      exact ⟨a, hc⟩
    · have e' : (n.ob.set k c)[j]? = some d := e
      rw [List.getElem?_set_ne hj] at e'
      obtain ⟨b, hb⟩ := o.fm.obs.all j d e'
      obtain ⟨x, hu, hm'⟩ := hb.mark
      have hba : b ≠ a := by
        rintro rfl
        rw [ha] at hu
        cases hu
        exact hj (Option.some.inj (hm.symm.trans hm'))
      refine ⟨b, hb.mono (Same.refl _) ?_⟩
      intro x hx
      rw [upd_ne hba]; exact hx
  · obtain ⟨⟨cs, i, e1, e2, r⟩, h1, h2, h3, h4⟩ := o.fm.deck x y e
    exact ⟨⟨cs, i, by rw [upd_ne (ne x (o.fm.new x h1 h3))]; exact e1, by rw [upd_ne (ne y (o.fm.new y h2 h4))]; exact e2, r⟩, h1, h2, h3, h4⟩
  · obtain ⟨f, h1, h2⟩ := o.own
    refine ⟨f, h1, fun i es e => ?_⟩
    obtain ⟨q1, q2, q3, ys, q4, q5⟩ := h2 i es e
    exact ⟨q1, q2, q3, ys, by rw [upd_ne (ne _ q2)]; exact q4, q5⟩
/-- a new object is marked as a thing that may change -/
theorem Ok.mark (o : Ok K B g σ H G n) {p : Addr} {u w : HO} {c : Cell} (hb : B.H p = none) (hg : G p = none) (hh : H p = some w) (hf : ∀ (i : Nat) (es : List D) (f : Addr), g[i]? = some (Sl.own es) → σ[i]? = some (some (V.ref f)) → f ≠ p)
    (hm : mkOf u = some n.ob.length) (hc : CellAt K (upd G p u) H p n.ob.length c) : Ok K B g σ H (upd G p u) ⟨n.n, n.ob ++ [c]⟩ ∧ Same G (upd G p u) := by
  have sg : Same G (upd G p u) := same_upd hg
  have um : isMk u = true := by unfold isMk; rw [hm]; rfl
  have old : ∀ b z, b ≠ p → upd G p u b = some z → G b = some z := fun b z h e => by rw [upd_ne h] at e; exact e
  have low : ∀ b z j, b ≠ p → upd G p u b = some z → mkOf z = some j → j < n.ob.length := fun b z j h e m => by
    obtain ⟨d, h1, _⟩ := o.fm.obs.at_ b z j (old b z h e) m
    exact (List.getElem?_eq_some_iff.mp h1).1
  refine ⟨⟨⟨o.fm.keep, ⟨fun a z e m => ?_, fun a e => ?_⟩, o.fm.old.trans sg, ⟨fun b z j e m => ?_, fun b b' z z' j e1 e2 m1 m2 => ?_, fun j d e => ?_⟩, o.fm.bt, o.fm.tg.trans sg, fun a e q => ?_, o.fm.deck⟩, o.len, fun i d e => ?_, ?_, o.dck, fun i a od fs e => ⟨(o.adr i a od fs e).1, (o.adr i a od fs e).2.mono sg⟩⟩, sg⟩
  · by_cases ha : a = p
    · rw [ha, upd_same] at e; cases e; rw [um] at m; cases m
    · exact o.fm.sub.h a z (old a z ha e) m
  · have : a ≠ p := by rintro rfl; rw [hh] at e; cases e
    rw [upd_ne this]; exact o.fm.sub.t a e
  · by_cases hbp : b = p
    · subst hbp
      rw [upd_same] at e
      cases e
      have hj : n.ob.length = j := Option.some.inj (hm.symm.trans m)
      subst hj
      exact ⟨c, by simp, hc⟩
    · obtain ⟨d, h1, h2⟩ := o.fm.obs.at_ b z j (old b z hbp e) m
      have hl := (List.getElem?_eq_some_iff.mp h1).1
      exact ⟨d, by show (n.ob ++ [c])[j]? = _; rw [List.getElem?_append_left hl]; exact h1, h2.mono sg fun _ z => z⟩
  · by_cases hbp : b = p <;> by_cases hcp : b' = p
    · rw [hbp, hcp]
    · subst hbp
      rw [upd_same] at e1
      cases e1
      have hj : n.ob.length = j := Option.some.inj (hm.symm.trans m1)
      have := low b' z' j hcp e2 m2
      omega
    · subst hcp
      rw [upd_same] at e2
      cases e2
      have hj : n.ob.length = j := Option.some.inj (hm.symm.trans m2)
      have := low b z j hbp e1 m1
      omega
    · exact o.fm.obs.inj b b' z z' j (old b z hbp e1) (old b' z' hcp e2) m1 m2
  · have e' : (n.ob ++ [c])[j]? = some d := e
    by_cases hl : j < n.ob.length
    · rw [List.getElem?_append_left hl] at e'
      obtain ⟨b, h⟩ := o.fm.obs.all j d e'
      exact ⟨b, h.mono sg fun _ z => z⟩
    · have hl' : n.ob.length ≤ j := Nat.le_of_not_lt hl
      rw [List.getElem?_append_right hl'] at e'
      have hj : j = n.ob.length := by
        have h3 : j - n.ob.length < 1 := (List.getElem?_eq_some_iff.mp e').1
        exact Nat.le_antisymm (Nat.le_of_sub_eq_zero (Nat.lt_one_iff.mp h3)) hl'
      subst hj
      rw [Nat.sub_self] at e'
      cases e'
      exact ⟨p, hc⟩
  · have : a ≠ p := by rintro rfl; exact e hb
    rw [upd_ne this]; exact o.fm.new a e q
  · obtain ⟨v, h1, h2⟩ := o.val i d e
    exact ⟨v, h1, h2.mono sg⟩
  · obtain ⟨f, h1, h2⟩ := o.own
    refine ⟨f, h1, fun i es e => ?_⟩
    obtain ⟨a, b, x, ys, d, da'⟩ := h2 i es e
    exact ⟨a, by rw [upd_ne (hf i es _ e a)]; exact b, x, ys, d, da'.mono sg⟩
/-- a new instance -/
theorem Ok.insN (o : Ok K B g σ H G n) {x dx C : Addr} {c : Str} (hx : H x = none) (hdx : H dx = none) (hne : dx ≠ x) (hc : ClsOk K c C) :
    Ok K B g σ (upd (upd H dx (.own x)) x (.ins C dx [])) (upd G x (.own n.ob.length)) ⟨n.n, n.ob ++ [.ins c []]⟩ ∧ Same G (upd G x (.own n.ob.length)) := by
  obtain ⟨f1, f2⟩ := o.fresh hx
  have o1 := (o.raw (u := .own x) hdx).raw (p := x) (u := .ins C dx []) (by rw [upd_ne (Ne.symm hne)]; exact hx)
  exact o1.mark f1 (o.fm.sub.t x hx) upd_same f2 rfl ⟨upd_same, C, dx, [], hc, upd_same, rfl, .nil⟩
end
theorem clsZ_out {c : Str} {d : D} {n : Wd} {φ : List (Str × D) → Wd → Prop} (h : clsZ c d n φ) : ∃ k fs, ownOf d = some k ∧ n.ob[k]? = some (.ins c fs) ∧ φ fs n := by
  obtain ⟨k, ek, c', fs, hk, fs', hc, p⟩ := h
  dsimp only at hc
  split at hc
  · rename_i z
    subst z
    cases hc
    exact ⟨k, fs, ek, hk, p⟩
  · cases hc
section
variable {m : Type → Type} [Mo m] [OverZ m] {X : Cx} {EX : XR} {g : List Sl} {k : Nat} {ps : List Str} {p pos apos : Pos} {c mn : Str} {ob e : Expr} {es : List Expr} {x : m D}
/-- e.f -/
theorem ej_attrZ {fl : Str} (h : HasNo X.K c fl) (he : EJ X EX e g x) (hb : attributeBase e fl X.env (eval e X.env) = eval e X.env := by rfl) : EJ X EX (.Attribute e fl pos) g (x >>= fun d => OverZ.up (attrZ c fl d)) := by
  obtain ⟨C, hcl, hno⟩ := h.ex
  exact (pe_fld he hb).weak fun σ H Q ⟨B, G, n, φ, ξ, o, s, q, xw⟩ => te_one o s (fun v H1 G1 d n1 o1 g1 d1 s1 => by
    have s2 : attrZ c fl d n1 φ := OverZ.sat_up s1
    obtain ⟨k, fs, ek, hk, z, ez, pz⟩ := clsZ_out (show clsZ c d n1 (fun fs n' => (Mo.lift (fs.lookup fl) : Z D) n' φ) from s2)
    obtain ⟨a, C', dx, vs, rfl, ga, ck, ea, hl, da⟩ := o1.insAt d1 ek hk
    obtain rfl := hcl.one ck
    obtain ⟨v, hv, dv⟩ := (lkp_da hl da).1 z ez
    exact ⟨a, C', dx, vs, v, rfl, ea, hcl.cl, hno, hv, q v H1 G1 z n1 o1 g1 dv pz⟩) xw
/-- o.f = e -/
theorem sj_attrZ {fl : Str} {o0 : Expr} {p' : Pos} {y : m D} (h : HasNo X.K c fl) (he : EJ X EX e g x) (ho : EJ X EX o0 g y) (hs : swapsWith e (some (.Attribute o0 fl p')) pos.line X.env = pure false := by rfl) :
    SJ X EX (.Assign [.Attribute o0 fl p'] e pos) g (x >>= fun v => y >>= fun d => OverZ.up (setAZ c fl d v)) (fun _ => g) := by
  obtain ⟨C, hcl, hno⟩ := h.ex
  exact (ps_fld ho he hs).weak fun De σ H ⟨B, G, n, φ, ξ, o, s, q, xw⟩ => te_one o s (fun v H1 G1 dv n1 o1 g1 d1 s1 => te_one o1 s1 (fun w H2 G2 d n2 o2 g2 d2 s2 => by
    obtain ⟨k, ek, c', fs, hk, u, hu, pe⟩ := OverZ.sat_up s2
    dsimp only at hu
    split at hu
    · rename_i hc
      obtain ⟨z, h9⟩ := hc
      have z : c' = c := z
      subst z
      obtain ⟨a, C', dx, vs, rfl, ga, ck, ea, hl, da⟩ := o2.insAt d2 ek hk
      obtain rfl := hcl.one ck
      obtain ⟨q1, q2⟩ := put_da (f := fl) (d1.mono g2) hl da
      have hlen : vs.length < 1000 := by
        have e1 : vs.length = fs.length := by simpa using congrArg List.length hl
        have h9 : fs.length < 900 := h9
        omega
      refine ⟨a, C', dx, vs, rfl, ea, hcl.cl, hno, hlen, ?_⟩
      exact q () _ _ G2 _ (o2.putG (c := .ins c' (putL fl dv fs)) ga rfl ⟨ga, C', dx, _, hcl, upd_same, q1, q2⟩) (g1.trans g2) pe
    · cases hu) xw) xw
end
end DD
namespace DD
open PySem PySem.Spec PyProof.Rows L2
/-! ### instances that change: making, methods, properties, len, str -/
def nonO : D → Option Unit
  | .none => some ()
  | _ => none
theorem Da.nonO {K : PySem.W.Frag} {G : Hp} {v : V} {d : D} {u : Unit} (h : Da K G v d) (e : DD.nonO d = some u) : v = .non := by
  cases d with
  | none => cases h; rfl
  | _ => cases e
theorem selfZ_out {c mn : Str} {d : D} {n : Wd} {φ : Unit → Wd → Prop} (h : selfZ c mn d n φ) : ∃ k fs, ownOf d = some k ∧ n.ob[k]? = some (.ins c fs) ∧ fs.lookup mn = none ∧ φ () n := by
  obtain ⟨k, fs, ek, hk, u, hu, p⟩ := clsZ_out (show clsZ c d n (fun fs n' => (Mo.lift (if (fs.lookup mn).isNone = true then some () else none) : Z Unit) n' φ) from h)
  split at hu
  · rename_i z
    exact ⟨k, fs, ek, hk, Option.isNone_iff_eq_none.mp z, p⟩
  · cases hu
/-- an instance of the class -/
def thisZ (c : Str) (d : D) : Z Unit := clsZ c d >>= fun _ => pure ()
theorem thisZ_out {c : Str} {d : D} {n : Wd} {φ : Unit → Wd → Prop} (h : thisZ c d n φ) : ∃ k fs, ownOf d = some k ∧ n.ob[k]? = some (.ins c fs) ∧ φ () n :=
  clsZ_out (show clsZ c d n (fun _ n' => φ () n') from h)
section
variable {m : Type → Type} [Mo m] [Calm m] [OverZ m] {X : Cx} {EX : XR} {g : List Sl} {k : Nat} {ps : List Str} {p pos apos : Pos} {c mn : Str} {ob e a : Expr} {es : List Expr} {x : m D} {F : List Sl → m D}
/-- o.p, a property -/
theorem ej_propZ (Fn : PrpG X.prog X.w X.K X.mg X.base k c mn ps (spJ X.K F)) (hr : Room (k + 1) X.A) (gu : X.A.guards = some []) (ho : EJ X EX ob g x) (hab : attributeBase ob mn X.env (eval ob X.env) = eval ob X.env := by rfl) :
    EJ X EX (.Attribute ob mn pos) g (x >>= fun d => OverZ.up (thisZ c d) >>= fun _ => F [.val d]) := by
  obtain ⟨C, pr, f, fd, hcl, hp, Fn, hb⟩ := Fn.ex
  exact (pe_propG ho hcl.cl hp Fn hr gu hb hab).weak fun σ H Q ⟨B, G, n, φ, ξ, o, s, q, xw⟩ => te_one o s (fun v H1 G1 d n1 o1 g1 d1 s1 => by
    have s2 : thisZ c d n1 _ := OverZ.sat_up (Mo.sat_bind s1)
    obtain ⟨k, fs, ek, hk, s2⟩ := thisZ_out s2
    obtain ⟨a, C', dx, vs, rfl, ga, ck, ea, hl, da⟩ := o1.insAt d1 ek hk
    obtain rfl := hcl.one ck
    refine ⟨a, dx, vs, rfl, ea, G1, n1, B.dk, [.val d], φ, .cons d1 .nil, o1.fm.at_call, Calm.calm s2, fun v H' G' d' n' f' dv p => ?_⟩
    obtain ⟨o3, g3⟩ := Fm.back o1 (.inr rfl) f'
    exact q v H' G' d' n' o3 (g1.trans g3) dv p) xw
end
end DD
namespace DD
open PySem PySem.Spec PyProof.Rows L2
/-! ### match over texts -/
section
variable {m : Type → Type} [Mo m] {A : Type}
inductive MC (X : Cx) (EX : XR) (g : List Sl) (P : A → List Sl) : List MatchCase → (Str → m (Fl A)) → Prop
  | last {body : List Stmt} {y : m (Fl A)} {p : Pos} : BJ X EX body g y P → MC X EX g P [⟨.MatchAs none none p, none, body⟩] fun _ => y
  | one {c : Str} {k : Nat} {p1 p2 : Pos} {body : List Stmt} {y : m (Fl A)} {rest : List MatchCase} {f : Str → m (Fl A)} : BJ X EX body g y P → MC X EX g P rest f → MC X EX g P (⟨.MatchValue (.Constant (.str c) k p1) p2, none, body⟩ :: rest) fun s => if s = c then y else f s
theorem MC.run {X : Cx} {EX : XR} {g : List Sl} {P : A → List Sl} {cs : List MatchCase} {f : Str → m (Fl A)} (h : MC X EX g P cs f) : ∀ (pins : List (Addr × Obj)) (s : Shared) (σ : L2.St) (H : Hp) (De : Ends) (z : Str) (t : Tok) (b : Bool), Inv X pins σ H s → tbJ X EX g (f z) P De σ H → wpAny (model X.prog X.w) X.A (matchCases cs X.env (.str z t) b) (SP X pins De) X.xe s := by
  induction h with
  | last hb =>
    intro pins s σ H De z t b I q
    refine wpAny_matchCases_cons (wpAny_matchPattern_Capture ?_)
    show wpAny _ _ (pure ()) _ _ _
    exact wpAny_pure (hb.run pins s σ H De I q)
  | @one c k p1 p2 body y rest f hb _ ih =>
    intro pins s σ H De z t b I q
    refine wpAny_matchCases_cons (wpAny_matchPattern_Value (thn ((pe_str (X := X) (j := k) (pos := p1)).run pins s σ H (fun v H1 => v = .str c ∧ H1 = H) I ⟨rfl, rfl⟩) fun u s1 ⟨v, H1, I1, r1, e1, e2⟩ => ?_))
    subst e1 e2
    obtain ⟨t2, rfl⟩ := r1
    refine PyProof.Rows.eq_str (wpAny_truthy_bool ?_)
    by_cases hz : z = c
    · rw [beq_iff_eq.mpr hz, if_pos rfl]
      show wpAny _ _ (pure ()) _ _ _
      have q : tbJ X EX g (if z = c then y else f z) P De σ H1 := q
      rw [if_pos hz] at q
      exact wpAny_pure (hb.run pins s1 σ H1 De I1 q)
    · rw [beq_eq_false_iff_ne.mpr hz, if_neg Bool.false_ne_true]
      have q : tbJ X EX g (if z = c then y else f z) P De σ H1 := q
      rw [if_neg hz] at q
      exact ih pins s1 σ H1 De z t false I1 q
end
/-! ### if (x := e) op c: a block that does not come to its end -/
end DD
namespace DD
open PySem PySem.Spec PyProof.Rows L2
/-! ### pass; {a: i, b: -j}[e]; o.pop() -/
theorem argsHid {K : PySem.W.Frag} {B B' : Bs} {G : Hp} (h : B'.dk = B.dk) : ∀ {vs : List V} {as : List Sl}, ArgsOk K B G vs as → okSl as = true → ArgsOk K B' (hid G) vs as
  | _, _, .nil, _ => .nil
  | _, _, .cons (a := .val d) q r, ok => by
    simp only [okSl, Bool.and_eq_true] at ok
    exact .cons (Da.hid (show Da _ _ _ _ from q) ok.1) (argsHid h r ok.2)
  | _, _, .cons (a := .deck) ⟨a, b, e, ev⟩ r, ok => .cons ⟨a, b, h.trans e, ev⟩ (argsHid h r ok)
  | _, _, .cons (a := .own _) q _, _ => q.elim
  | _, _, .cons (a := .any) q _, _ => q.elim
  | _, _, .cons (a := .exn _ _ _) q _, _ => q.elim
theorem okSl_any : ∀ g : List Sl, okSl (g.map fun _ => Sl.any) = true
  | [] => rfl
  | _ :: g => okSl_any g
theorem noOwns_any (g : List Sl) : noOwns (g.map fun _ => Sl.any) = true := by
  unfold noOwns
  rw [List.all_map, List.all_eq_true]
  intro x _
  rfl
theorem all_any (g : List Sl) : ((g.map fun _ => Sl.any).all fun s => match s with | .any => true | _ => false) = true := by
  rw [List.all_map, List.all_eq_true]
  intro x _
  rfl
section
variable {m m' : Type → Type} [Mo m] [OverZ m] [Mo m'] [Plain m'] [Calm m'] {X : Cx} {EX : XR} {g : List Sl}
/-- f(..), a plain def, of arguments that things that may change have given -/
theorem ej_callH {k : Nat} {ps : List Str} {x : Str} {p pos : Pos} {e : Expr} {es : List Expr} {F : List Sl → m' D} {y : m (List Sl)} (Fn : Def X.prog X.w X.K X.mg X.base k x ps (spJ X.K F)) (hr : Room k X.A) (gu : X.A.guards = some [])
    (ha : AJ X EX (e :: es) g y) (hg : Gl X x := by rfl) (hd : (x == ("__debug__" : Str)) = false := by decide) (he : starEach (e :: es) X.env = (false, eval e X.env) :: starEach es X.env := by rfl) (hpl : (backTo pos (starEach es X.env)).any (·.1) = false := by rfl) :
    EJ X EX (.Call (.Name x p) (e :: es) [] pos) g (y >>= fun as => OverZ.up (hidP as (F as))) := by
  obtain ⟨f, fd, Fn, hm, hk, hb⟩ := Fn.ex
  exact (pe_g Fn hr gu hg hm hk hb ha hd he hpl).weak fun σ H Q ⟨B, G, n, φ, ξ, o, s, q, xw⟩ => ⟨B, G, n, _, ξ, o, Mo.sat_bind s, fun vs H1 G1 as n1 o1 g1 a1 s1 => by
    obtain ⟨hs, sx⟩ := OverZ.sat_up s1
    have oh := o1.hide0 (g' := g.map fun _ => Sl.any) (sub_any (all_any g) (by rw [List.length_map])) (okSl_any g) (noOwns_any g)
    exact ⟨hid G1, ⟨n1.n, []⟩, B.dk, as, _, argsHid (B := B) (B' := ⟨H1, hid G1, B.dk, hid G1⟩) rfl a1 hs, oh.fm, Calm.calm (Plain.plain sx).2, fun v H' G' d n' f' dv ⟨hn, p⟩ => by
      obtain ⟨o2, g2, g3⟩ := hidP_back o1 hn f'
      exact q v H' _ d _ o2 (g1.trans g2) (dv.mono g3) p⟩, xw⟩
end
end DD
namespace DD
open PySem PySem.Spec PyProof.Rows L2
/-! ### reasoning about cells: what a mirror without draws does -/
def Run {α : Type} (x : Z α) (ob : List Cell) (a : α) (ob' : List Cell) : Prop := ∀ (n : Nat) (φ : α → Wd → Prop), φ a ⟨n, ob'⟩ → x ⟨n, ob⟩ φ
section
variable {α β : Type} {ob ob1 ob2 : List Cell} {k : Nat} {c f mn : Str} {v w : D} {ds : List D} {fs : List (Str × D)}
theorem Run.pure {a : α} : Run (Pure.pure a) ob a ob := fun n φ h => h
theorem Run.bind {x : Z α} {f : α → Z β} {a : α} {b : β} (h : Run x ob a ob1) (hf : Run (f a) ob1 b ob2) : Run (x >>= f) ob b ob2 := fun n φ q => h n _ (hf n φ q)
theorem Run.lift {o : Option α} {a : α} (e : o = some a) : Run (Mo.lift o) ob a ob := fun n φ q => ⟨a, e, q⟩
theorem Run.bL {o : Option α} {a : α} {f : α → Z β} {b : β} (e : o = some a) (hf : Run (f a) ob b ob2) : Run ((Mo.lift o : Z α) >>= f) ob b ob2 := (Run.lift e).bind hf
theorem Run.hid {g : List Sl} {o : Option α} {a : α} (hs : okSl g = true) (e : o = some a) : Run (OverZ.up (hidP g o)) ob a ob := fun n φ q => ⟨hs, rfl, a, e, q⟩
theorem run_cls (h : ob[k]? = some (.ins c fs)) : Run (clsZ c (refD k)) ob fs ob := fun n φ q => ⟨k, own_ref k, c, fs, h, fs, if_pos rfl, q⟩
theorem run_attr (h : ob[k]? = some (.ins c fs)) (hf : fs.lookup f = some v) : Run (OverZ.up (attrZ c f (refD k))) ob v ob := (run_cls h).bind (Run.lift hf)
theorem run_this (h : ob[k]? = some (.ins c fs)) : Run (OverZ.up (thisZ c (refD k))) ob () ob := (run_cls h).bind Run.pure
theorem run_self (h : ob[k]? = some (.ins c fs)) (hf : fs.lookup mn = none) : Run (OverZ.up (selfZ c mn (refD k))) ob () ob := (run_cls h).bind (Run.lift (by rw [hf]; rfl))
theorem run_setA (h : ob[k]? = some (.ins c fs)) (hl : fs.length < 900) : Run (OverZ.up (setAZ c f (refD k) v)) ob () (ob.set k (.ins c (putL f v fs))) := fun n φ q => ⟨k, own_ref k, c, fs, h, (), if_pos ⟨rfl, hl⟩, q⟩
theorem run_newI : Run (OverZ.up (newI c)) ob (refD ob.length) (ob ++ [.ins c []]) := fun n φ q => q
/-! with draws -/
def TrA (b : Nat) (ob : List Cell) (x : Z α) (Q : α → List Cell → Prop) : Prop := ∀ (n : Nat) (ψ : α → Wd → Prop), n + b ≤ 2 ^ 40 → (∀ a n' ob', n' ≤ n + b → Q a ob' → ψ a ⟨n', ob'⟩) → x ⟨n, ob⟩ ψ
theorem TrA.run {x : Z α} {a : α} {Q : α → List Cell → Prop} {b : Nat} (h : Run x ob a ob1) (q : Q a ob1) : TrA b ob x Q := fun n ψ _ hq => h n ψ (hq a n ob1 (by omega) q)
theorem TrA.bind {x : Z α} {f : α → Z β} {b c : Nat} {Q : α → List Cell → Prop} {R : β → List Cell → Prop} (h : TrA b ob x Q) (hf : ∀ a ob', Q a ob' → TrA c ob' (f a) R) : TrA (b + c) ob (x >>= f) R := fun n ψ hn q =>
  h n _ (by omega) fun a n' ob' hn' ha => hf a ob' ha n' ψ (by omega) fun a2 n2 ob2 h2 p2 => q a2 n2 ob2 (by omega) p2
theorem TrA.mono {x : Z α} {b c : Nat} {Q R : α → List Cell → Prop} (h : TrA b ob x Q) (hb : b ≤ c) (hp : ∀ a ob', Q a ob' → R a ob') : TrA c ob x R := fun n ψ hn q => h n ψ (by omega) fun a n' ob' hn' ha => q a n' ob' (by omega) (hp a ob' ha)
theorem TrA.le {x : Z α} {b c : Nat} {Q : α → List Cell → Prop} (h : TrA b ob x Q) (hb : b ≤ c) : TrA c ob x Q := h.mono hb fun _ _ z => z
theorem TrA.st {x : Z α} {f : α → Z β} {b d : Nat} {Q : α → List Cell → Prop} {R : β → List Cell → Prop} (h : TrA b ob x Q) (hf : ∀ a ob', Q a ob' → TrA (d - b) ob' (f a) R) (hd : b ≤ d := by decide) : TrA d ob (x >>= f) R := (h.bind hf).le (by omega)
/-- a step without draws -/
theorem TrA.r {x : Z α} {f : α → Z β} {a : α} {b : Nat} {R : β → List Cell → Prop} (h : Run x ob a ob1) (hf : TrA b ob1 (f a) R) : TrA b ob (x >>= f) R := fun n ψ hn q => h n _ (hf n ψ hn q)
theorem TrA.pure {a : α} {Q : α → List Cell → Prop} {b : Nat} (q : Q a ob) : TrA b ob (Pure.pure a) Q := TrA.run Run.pure q
def PostA {A : Type} (I : A → List Cell → Prop) (R : D → Prop) : Fl A → List Cell → Prop
  | .nx a, ob => I a ob
  | .rt d, _ => R d
theorem TrA.sat {x : Z D} {b : Nat} (h : TrA b [] x fun d _ => d = .bool true) (hb : b ≤ 2 ^ 40) : Mo.sat x 0 (fun d _ => d = .bool true) (fun _ _ => False) := h 0 (fun d _ => d = .bool true) (by omega) fun _ _ _ _ z => z
end
end DD
namespace DD
open PySem PySem.Spec PyProof.Rows L2
/-! ### mirrors over worlds that raise -/
def ZX (α : Type) : Type := Wd → (α → Wd → Prop) → (Exn → Wd → Prop) → Prop
instance : Mo ZX where
  pure := fun a n φ _ => φ a n
  bind := fun x f n φ ξ => x n (fun a n' => f a n' φ ξ) ξ
  sat := fun z n φ ξ => z n φ ξ
  lift := fun o n φ _ => ∃ a, o = some a ∧ φ a n
  sat_pure := fun h => h
  sat_bind := fun h => h
  sat_lift := fun ⟨a, e, h⟩ => ⟨a, e, h⟩
instance : OverZ ZX := ⟨fun z n φ _ => z n φ, fun h => h⟩
instance : MoX ZX := ⟨fun e n _ ξ => ξ e n, fun h => h⟩
instance : Up Z ZX := ⟨fun z n φ _ => z n φ, fun h => h⟩
instance : Tr ZX Z := ⟨fun x h n φ => x n φ fun e n' => h e n' φ, fun s => s⟩
abbrev upZ {α : Type} (z : Z α) : ZX α := Up.up (m' := Z) (m := ZX) z
def calmZ {α : Type} (x : ZX α) : Z α := fun n φ => x n φ fun _ _ => False
def hidX {α : Type} (g : List Sl) (x : Xo α) : ZX α := fun n φ ξ => okSl g = true ∧ ((∃ a, x = some (.ok a) ∧ φ a n) ∨ ∃ e, x = some (.error e) ∧ ξ e n)
section
variable {X : Cx} {EX : XR} {g : List Sl}
theorem ej_calmZ {e : Expr} {x : ZX D} (h : EJ (m := ZX) X (XN g) e g x) : EJ (m := Z) X EX e g (calmZ x) :=
  PE.weak h fun σ H Q ⟨B, G, n, φ, ξ, o, s, q, _⟩ => ⟨B, G, n, φ, fun _ _ => False, o, s, q, fun _ _ _ _ _ _ _ h => False.elim h⟩
theorem sj_up {m' m : Type → Type} [Mo m'] [Mo m] [Up m' m] {A : Type} {s : Stmt} {x : m' A} {P : A → List Sl} (h : SJ X EX s g x P) : SJ (m := m) X EX s g (Up.up x) P :=
  PS.weak h fun De σ H ⟨B, G, n, φ, ξ, o, s, q, xw⟩ => ⟨B, G, n, φ, ξ, o, Up.sat_up s, q, xw⟩
end
/-! methods that raise -/
section
variable {m : Type → Type} [Mo m] [OverZ m] {X : Cx} {EX : XR} {g : List Sl} {k : Nat} {ps : List Str} {p pos apos : Pos} {c mn : Str} {ob e a : Expr} {es : List Expr} {x : m D} {F : List Sl → m D}
theorem ej_newZX {y : m (List Sl)} (Fn : MkX X.prog X.w X.K X.mg X.base k c ps (spX X.K X.mg F)) (hr : Room (k + 1) X.A) (gu : X.A.guards = some []) (tk : L2N.Takes X EX.w) (sb : Sub g EX.g)
    (ha : AJ X EX (e :: es) g y) (hg : Gl X c := by rfl) (hd : (c == ("__debug__" : Str)) = false := by decide) (he : starEach (e :: es) X.env = (false, eval e X.env) :: starEach es X.env := by rfl) (hpl : (backTo pos (starEach es X.env)).any (·.1) = false := by rfl) :
    EJ X EX (.Call (.Name c p) (e :: es) [] pos) g (y >>= fun as => OverZ.up (newI c) >>= fun d => F (.val d :: as) >>= fun r => Mo.lift (nonO r) >>= fun _ => pure d) := by
  obtain ⟨C, f, fd, hcl, hm, M, Fn, hb⟩ := Fn.ex
  exact (pe_makeX M Fn hr gu tk hg hm hb ha hd he hpl).weak fun σ H Q ⟨B, G, n, φ, ξ, o, s, q, xw⟩ => ⟨B, G, n, _, ξ, o, Mo.sat_bind s, fun us H1 G1 as n1 o1 g1 a1 s1 => fun x dx hx hdx hne => by
    have s2 := OverZ.sat_up (Mo.sat_bind s1)
    have s2 : Mo.sat (F (.val (refD n1.ob.length) :: as) >>= fun r => Mo.lift (nonO r) >>= fun _ => pure (refD n1.ob.length)) ⟨n1.n, n1.ob ++ [.ins c []]⟩ φ ξ := s2
    obtain ⟨o2, g2⟩ := o1.insN hx hdx hne hcl
    refine ⟨_, _, B.dk, .val (refD n1.ob.length) :: as, _, ξ, .cons (.obj upd_same) (ArgsOk.base (B := B) (B' := ⟨upd (upd H1 dx (.own x)) x (.ins C dx []), upd G1 x (.own n1.ob.length), B.dk, upd G1 x (.own n1.ob.length)⟩) rfl (a1.mono g2)), o2.fm.at_call, Mo.sat_bind s2, fun v H' G' d' n' f' dv p => ?_, fun e' c' od H' G' n' f' ex hx => ?_⟩
    · obtain ⟨u, eu, p⟩ := Mo.sat_lift (Mo.sat_bind p)
      obtain ⟨o3, g3⟩ := Fm.back o2 (.inr rfl) f'
      exact ⟨dv.nonO eu, q _ H' G' _ n' o3 ((g1.trans g2).trans g3) (.obj (g3 _ _ upd_same)) (Mo.sat_pure p)⟩
    · obtain ⟨o3, g3⟩ := Fm.back o2 (.inr rfl) f'
      exact xw e' n' σ H' G' c' od hx (o3.forget sb) ex, xw⟩
end
/-! raise C(), C without an __init__ of its own -/
end DD
namespace DD
open PySem PySem.Spec PyProof.Rows L2
/-! ### reasoning about cells: mirrors that raise -/
def RunX {α : Type} (x : ZX α) (ob : List Cell) (a : α) (ob' : List Cell) : Prop := ∀ (n : Nat) (φ : α → Wd → Prop) (ξ : Exn → Wd → Prop), φ a ⟨n, ob'⟩ → x ⟨n, ob⟩ φ ξ
def ThrX {α : Type} (x : ZX α) (ob : List Cell) (e : Exn) (ob' : List Cell) : Prop := ∀ (n : Nat) (φ : α → Wd → Prop) (ξ : Exn → Wd → Prop), ξ e ⟨n, ob'⟩ → x ⟨n, ob⟩ φ ξ
section
variable {α β : Type} {ob ob1 ob2 : List Cell} {e : Exn}
theorem Run.rx {x : Z α} {a : α} (h : Run x ob a ob1) : RunX (upZ x) ob a ob1 := fun n φ ξ q => h n φ q
theorem Run.ox {x : Z α} {a : α} (h : Run x ob a ob1) : RunX (OverZ.up x) ob a ob1 := fun n φ ξ q => h n φ q
theorem RunX.pure {a : α} : RunX (Pure.pure a) ob a ob := fun n φ ξ h => h
theorem RunX.bind {x : ZX α} {f : α → ZX β} {a : α} {b : β} (h : RunX x ob a ob1) (hf : RunX (f a) ob1 b ob2) : RunX (x >>= f) ob b ob2 := fun n φ ξ q => h n _ ξ (hf n φ ξ q)
theorem RunX.lift {o : Option α} {a : α} (e : o = some a) : RunX (Mo.lift o) ob a ob := fun n φ ξ q => ⟨a, e, q⟩
theorem RunX.bL {o : Option α} {a : α} {f : α → ZX β} {b : β} (e : o = some a) (hf : RunX (f a) ob b ob2) : RunX ((Mo.lift o : ZX α) >>= f) ob b ob2 := (RunX.lift e).bind hf
theorem RunX.bU {x : Z α} {f : α → ZX β} {a : α} {b : β} (h : Run x ob a ob1) (hf : RunX (f a) ob1 b ob2) : RunX (upZ x >>= f) ob b ob2 := h.rx.bind hf
theorem RunX.bO {x : Z α} {f : α → ZX β} {a : α} {b : β} (h : Run x ob a ob1) (hf : RunX (f a) ob1 b ob2) : RunX (OverZ.up x >>= f) ob b ob2 := h.ox.bind hf
theorem ThrX.throw : ThrX (MoX.throw e : ZX α) ob e ob := fun n φ ξ h => h
theorem ThrX.here {x : ZX α} {f : α → ZX β} (h : ThrX x ob e ob1) : ThrX (x >>= f) ob e ob1 := fun n φ ξ q => h n _ ξ q
theorem RunX.thr {x : ZX α} {f : α → ZX β} {a : α} (h : RunX x ob a ob1) (hf : ThrX (f a) ob1 e ob2) : ThrX (x >>= f) ob e ob2 := fun n φ ξ q => h n _ ξ (hf n φ ξ q)
theorem ThrX.bU {x : Z α} {f : α → ZX β} {a : α} (h : Run x ob a ob1) (hf : ThrX (f a) ob1 e ob2) : ThrX (upZ x >>= f) ob e ob2 := h.rx.thr hf
theorem ThrX.bO {x : Z α} {f : α → ZX β} {a : α} (h : Run x ob a ob1) (hf : ThrX (f a) ob1 e ob2) : ThrX (OverZ.up x >>= f) ob e ob2 := h.ox.thr hf
theorem RunX.hid {g : List Sl} {x : Xo α} {a : α} (hs : okSl g = true) (e : x = some (.ok a)) : RunX (hidX g x) ob a ob := fun n φ ξ q => ⟨hs, .inl ⟨a, e, q⟩⟩
theorem ThrX.hid {g : List Sl} {x : Xo α} (hs : okSl g = true) (h : x = some (.error e)) : ThrX (hidX g x) ob e ob := fun n φ ξ q => ⟨hs, .inr ⟨e, h, q⟩⟩
theorem RunX.calm {x : ZX α} {a : α} (h : RunX x ob a ob1) : Run (calmZ x) ob a ob1 := fun n φ q => h n φ _ q
theorem RunX.try_ {x : ZX α} {a : α} {H : Exn → Z α} (h : RunX x ob a ob1) : Run (Tr.try_ x H) ob a ob1 := fun n φ q => h n φ _ q
theorem ThrX.try_ {x : ZX α} {a : α} {H : Exn → Z α} (h : ThrX x ob e ob1) (hh : Run (H e) ob1 a ob2) : Run (Tr.try_ x H) ob a ob2 := fun n φ q => h n φ _ (hh n φ q)
theorem TrA.calm {x : ZX α} {a : α} {f : α → Z β} {b : Nat} {R : β → List Cell → Prop} (h : RunX x ob a ob1) (hf : TrA b ob1 (f a) R) : TrA b ob (calmZ x >>= f) R := TrA.r h.calm hf
/-- what a mirror that raises does: the value and the cells, or the error, the cells as they were -/
def OutX (x : ZX α) (ob : List Cell) : Except Exn (α × List Cell) → Prop
  | .ok (a, ob') => RunX x ob a ob'
  | .error e => ThrX x ob e ob
theorem OutX.bind {x : ZX α} {f : α → ZX β} {a : α} {r : Except Exn (β × List Cell)} (h : RunX x ob a ob) (hf : OutX (f a) ob r) : OutX (x >>= f) ob r := by
  cases r with
  | ok p => exact h.bind hf
  | error e => exact h.thr hf
end
/-! two steps in order, for binds in Z written with the monad's own bind -/
section
variable {m : Type → Type}
theorem zx_assoc {α β γ : Type} (x : ZX α) (f : α → ZX β) (g : β → ZX γ) : (x >>= f) >>= g = x >>= fun a => f a >>= g := rfl
theorem zx_pure {α β : Type} (a : α) (f : α → ZX β) : (Pure.pure a >>= f) = f a := rfl
theorem zx_some {α β : Type} (a : α) (f : α → ZX β) : ((Mo.lift (some a) : ZX α) >>= f) = f a := by
  funext n φ ξ
  exact propext ⟨fun ⟨b, e, h⟩ => by cases e; exact h, fun h => ⟨a, rfl, h⟩⟩
theorem upz_pure {α : Type} (a : α) : (upZ (Pure.pure a) : ZX α) = Pure.pure a := rfl
end
end DD
namespace DD
open PySem PySem.Spec PyProof.Rows L2
/-! ### a, b = a tuple or a list -/
def pairA : D → Option (D × D)
  | .tuple [a, b] => some (a, b)
  | .list [a, b] => some (a, b)
  | _ => none
def tripA : D → Option (D × D × D)
  | .tuple [a, b, c] => some (a, b, c)
  | .list [a, b, c] => some (a, b, c)
  | _ => none
def quadA : D → Option (D × D × D × D)
  | .tuple [a, b, c, d] => some (a, b, c, d)
  | .list [a, b, c, d] => some (a, b, c, d)
  | _ => none
section
variable {m : Type → Type} [Mo m] {X : Cx} {EX : XR} {g : List Sl}
abbrev unp2A (x : m D) : m (D × D) := x >>= fun d => Mo.lift (pairA d)
abbrev unp3A (x : m D) : m (D × D × D) := x >>= fun d => Mo.lift (tripA d)
abbrev unp4A (x : m D) : m (D × D × D × D) := x >>= fun d => Mo.lift (quadA d)
theorem sj_unp2A (i j : Nat) {elts : List Expr} {kk : Nat} {tpos : Pos} {e : Expr} {pos : Pos} {x : m D} (h : EJ X EX e g x) (h1t : PG X (.Tuple elts kk tpos) (gTup X.K 2 (gCons (gName i) (gCons (gName j) gNil)))) (h1l : PG X (.Tuple elts kk tpos) (gUnl X.K 2 (gCons (gName i) (gCons (gName j) gNil))))
    (hs : swapsWithSole [.Tuple elts kk tpos] e pos.line X.env = pure false := by kernel_rfl) (hw : swappedStores [.Tuple elts kk tpos] e X.env = pure none := by kernel_rfl)
    (h1 : (assignEach [.Tuple elts kk tpos] X.env).map (·.2) = [assign (.Tuple elts kk tpos) X.env] := by rfl) : SJ X EX (.Assign [.Tuple elts kk tpos] e pos) g (unp2A x) (fun de => (g.set i (.val de.1)).set j (.val de.2)) := by
  have hor : PG X (.Tuple elts kk tpos) (fun v σ H Q => gTup X.K 2 (gCons (gName i) (gCons (gName j) gNil)) v σ H Q ∨ gUnl X.K 2 (gCons (gName i) (gCons (gName j) gNil)) v σ H Q) :=
    ⟨fun pins s σ H v u Q I r hw => hw.elim (fun hw => h1t.run pins s σ H v u Q I r hw) fun hw => h1l.run pins s σ H v u Q I r hw⟩
  refine (ps_asg h hor hs hw h1).weak fun De σ H ⟨B, G, n, φ, ξ, o, s, q, xw⟩ => te_one o s (fun v H1 G1 d n1 o1 g1 d1 s1 => ?_) xw
  obtain ⟨de, ed, pd⟩ := Mo.sat_lift s1
  unfold pairA at ed
  split at ed
  · cases ed
    cases d1 with
    | tup h da =>
        cases da with
        | cons e1 da =>
          cases da with
          | cons e2 da =>
            cases da
            exact .inl ⟨_, _, rfl, sameT o1.fm.sub h, rfl, _, _, rfl, _, _, rfl, rfl, q _ _ _ G1 n1 ((o1.setV e1).setV e2) g1 pd⟩
  · cases ed
    cases d1 with
    | lst h da =>
        cases da with
        | cons e1 da =>
          cases da with
          | cons e2 da =>
            cases da
            exact .inr ⟨_, _, rfl, .of (o1.fm.sub.h _ _ h rfl), rfl, _, _, rfl, _, _, rfl, rfl, q _ _ _ G1 n1 ((o1.setV e1).setV e2) g1 pd⟩
  · cases ed
end
end DD
namespace DD
open PySem PySem.Spec PyProof.Rows L2
/-! ### try: body, several clauses: except C as n, except (C, C2) as n -/
/-- the test of a clause -/
inductive ClT (X : Cx) : Expr → List Value → Prop
  | one {x : Str} {c : Value} {p : Pos} : Names X x c → ClT X (.Name x p) [c]
  | two {x1 x2 : Str} {c1 c2 : Value} {p1 p2 p : Pos} {j : Nat} : Names X x1 c1 → Names X x2 c2 → ClT X (.Tuple [.Name x1 p1, .Name x2 p2] j p) [c1, c2]
  | three {x1 x2 x3 : Str} {c1 c2 c3 : Value} {p1 p2 p3 p : Pos} {j : Nat} : Names X x1 c1 → Names X x2 c2 → Names X x3 c3 → ClT X (.Tuple [.Name x1 p1, .Name x2 p2, .Name x3 p3] j p) [c1, c2, c3]
  | four {x1 x2 x3 x4 : Str} {c1 c2 c3 c4 : Value} {p1 p2 p3 p4 p : Pos} {j : Nat} : Names X x1 c1 → Names X x2 c2 → Names X x3 c3 → Names X x4 c4 → ClT X (.Tuple [.Name x1 p1, .Name x2 p2, .Name x3 p3, .Name x4 p4] j p) [c1, c2, c3, c4]
/-- what a clause's name holds behind its suite: nothing -/
def off (i : Nat) (De : Ends) : Ends := { nx := fun τ H => De.nx (τ.set i none) H, rt := De.rt, bk := fun τ H => De.bk (τ.set i none) H, ct := fun τ H => De.ct (τ.set i none) H }
abbrev Cls : Type := List Value × Nat × (Addr → Value → Option Addr → TS)
inductive HdL (X : Cx) : List ExceptHandler → List Cls → Prop
  | nil : HdL X [] []
  | cons {te : Expr} {cs : List Value} {n : Str} {i : Nat} {ts : Addr → Value → Option Addr → TS} {b0 : Stmt} {bs : List Stmt} {p : Pos} {hds : List ExceptHandler} {l : List Cls} (t : ClT X te cs) (hi : X.N[i]? = some n) (hl : X.env.kindOf n = some .local)
      (su : ∀ (a : Addr) (ob : Obj) (cls : Value) (d : Option Addr) (pn : List (Addr × Obj)), L2N.Zn cls d ob → (∃ vs, ob.data = .fields vs) → PSs (X.suite a ((a, ob) :: pn)) (b0 :: bs) (ts a cls d)) (r : HdL X hds l) :
      HdL X (.ExceptHandler (some te) (some n) (b0 :: bs) p :: hds) ((cs, i, ts) :: l)
end DD
namespace DD
open PySem PySem.Spec PyProof.Rows L2
/-! ### mirrors of try with several clauses -/
section
variable {m₁ m : Type → Type} [Mo m₁] [Mo m] [Tr m₁ m] {A : Type} {X : Cx} {EX : XR} {g gk : List Sl}
inductive HdJ (X : Cx) (i : Nat) (gk : List Sl) (h : Exn → m (Fl A)) (P : A → List Sl) : List ExceptHandler → List (List Value) → Prop
  | nil : HdJ X i gk h P [] []
  | cons {te : Expr} {cs : List Value} {n : Str} {b0 : Stmt} {bs : List Stmt} {p : Pos} {hds : List ExceptHandler} {css : List (List Value)} (t : ClT X te cs) (hi : X.N[i]? = some n) (hl : X.env.kindOf n = some .local)
      (su : ∀ (e : Exn) (a : Addr) (oe : Obj) (od : Option Addr) (C : Addr) (pn : List (Addr × Obj)), Held X e a oe od C → PySem.W.exmAny X.K (.ref C) cs = some true → BJ (X.suite a ((a, oe) :: pn)) X0 (b0 :: bs) (gk.set i (.exn a od e.fs)) (h e) P) (r : HdJ X i gk h P hds css) :
      HdJ X i gk h P (.ExceptHandler (some te) (some n) (b0 :: bs) p :: hds) (cs :: css)
def tsJ2 (X : Cx) (i : Nat) (gk : List Sl) (h : Exn → m (Fl A)) (P : A → List Sl) (cs : List Value) : Addr → Value → Option Addr → TS := fun a cls od De σ H =>
  ∃ t : { t : Exn × Addr // X.mg t.1.cls = some (.ref t.2) ∧ cls = .ref t.2 ∧ PySem.W.exmAny X.K cls cs = some true }, tbJ X X0 (gk.set i (.exn a od t.1.1.fs)) (h t.1.1) P De σ H
theorem HdJ.list {i : Nat} {h : Exn → m (Fl A)} {P : A → List Sl} : ∀ {hds : List ExceptHandler} {css : List (List Value)}, HdJ X i gk h P hds css → HdL X hds (css.map fun cs => (cs, i, tsJ2 X i gk h P cs))
  | _, _, .nil => .nil
  | _, _, .cons t hi hl su r => .cons t hi hl (fun a ob cls od pn hz hd => pss_any fun t => by
    obtain ⟨⟨e, C⟩, h1, h2, h3⟩ := t
    dsimp only at h1 h2
    subst h2
    exact su e a ob od C pn ⟨h1, hz, hd⟩ h3) r.list
end
/-! x.pop(), x a list of one's own -/
end DD
namespace DD
open PySem PySem.Spec PyProof.Rows L2
/-! ### try whose body raises nothing; finally -/
/-! ### isinstance(x, (list, tuple)) -/
/-! ### a dict of the module: texts to ints -/
def cellE (e : DictEntry) : Option ((Str × Int) × Int) := match e.key, e.val with
  | .str x _, .int i _ => some ((x, e.hash), i)
  | _, _ => none
def tabW (K : PySem.W.Frag) (a : Addr) : Option (List (Option ((Str × Int) × Int))) := match K.lookup a with
  | some ⟨.type c, none, .dict es _, sl⟩ => (match decide (c = "dict") && (sl.isEmpty && !(a == sysModules)) with
    | true => some (es.toList.map cellE)
    | false => none)
  | _ => none
def tabIn (P : Params) (kvs : List (Str × Int)) : List (Option ((Str × Int) × Int)) := kvs.map fun p => some ((p.1, PyData.keyHash P p.1), p.2)
structure TabK (K : PySem.W.Frag) (w : World) (a : Addr) (kvs : List (Str × Int)) : Prop where
  ex : ∃ es n, K.lookup a = some ⟨.type "dict", none, .dict es n, #[]⟩ ∧ PySem.W.KeysLit w.params es.toList ∧ (a == sysModules) = false ∧
    ∀ x, (∀ i, kvs.lookup x = some i → ∃ t, findBy Value.isStrOf es x = some (.int i t)) ∧ (kvs.lookup x = none → findBy Value.isStrOf es x = none)
theorem cellE_some {e : DictEntry} {x : Str} {h i : Int} (q : cellE e = some ((x, h), i)) : (∃ t, e.key = .str x t) ∧ e.hash = h ∧ ∃ t, e.val = .int i t := by
  unfold cellE at q
  split at q
  · rename_i x' t' i' t2 h1 h2
    cases q
    exact ⟨⟨_, h1⟩, rfl, _, h2⟩
  · cases q
theorem tab_lit {P : Params} : ∀ {l : List DictEntry} {kvs : List (Str × Int)}, l.map cellE = tabIn P kvs → PySem.W.KeysLit P l
  | [], _, _ => trivial
  | e :: r, [], h => by cases h
  | e :: r, p :: ks, h => by
    have h1 : cellE e :: r.map cellE = some ((p.1, PyData.keyHash P p.1), p.2) :: tabIn P ks := h
    injection h1 with h2 h3
    obtain ⟨⟨t, h4⟩, h5, _⟩ := cellE_some h2
    exact ⟨⟨_, t, h4, h5⟩, tab_lit h3⟩
theorem tab_find {P : Params} (x : Str) : ∀ {l : List DictEntry} {kvs : List (Str × Int)}, l.map cellE = tabIn P kvs →
    (∀ i, kvs.lookup x = some i → ∃ t, (l.find? fun d => d.key.isStr x).map (·.val) = some (.int i t)) ∧ (kvs.lookup x = none → (l.find? fun d => d.key.isStr x).map (·.val) = none)
  | [], [], _ => ⟨fun i h => (by cases h), fun _ => rfl⟩
  | [], _ :: _, h => by cases h
  | e :: r, [], h => by cases h
  | e :: r, (k, j) :: ks, h => by
    have h1 : cellE e :: r.map cellE = some ((k, PyData.keyHash P k), j) :: tabIn P ks := h
    injection h1 with h2 h3
    obtain ⟨⟨t, h4⟩, _, t2, h6⟩ := cellE_some h2
    have ih := tab_find x h3
    have hk : e.key.isStr x = (x == k) := by
      rw [h4]
      show (k == x) = (x == k)
      exact Bool.beq_comm
    rw [List.find?_cons, List.lookup_cons, hk]
    cases hx : x == k with
    | true =>
      refine ⟨fun i hi => ?_, fun hi => (by cases hi)⟩
      cases hi
      exact ⟨t2, by rw [← h6]; rfl⟩
    | false => exact ih
theorem TabK.of {K : PySem.W.Frag} {w : World} {a : Addr} {kvs : List (Str × Int)} (h : tabW K a = some (tabIn w.params kvs)) : TabK K w a kvs := by
  unfold tabW at h
  split at h
  · rename_i c es n sl hl
    split at h
    · rename_i hz
      have hz := hz
      simp only [Bool.and_eq_true, decide_eq_true_eq, Bool.not_eq_true'] at hz
      obtain ⟨z1, z2, z3⟩ := hz
      have e2 : sl = #[] := Array.isEmpty_iff.mp z2
      subst z1 e2
      have h := Option.some.inj h
      refine ⟨es, n, hl, tab_lit h, z3, fun x => ?_⟩
      have := tab_find x h
      have ef : findBy Value.isStrOf es x = (es.toList.find? fun d => d.key.isStr x).map (·.val) := by
        obtain ⟨l⟩ := es
        unfold findBy
        have q : (fun d : DictEntry => Value.isStrOf x d.key) = fun d => d.key.isStr x := funext fun d => (PySem.W.isStr_of x d.key).symm
        rw [List.find?_toArray, q]
      rw [ef]
      exact this
    · cases h
  · cases h
/-! ### o.m(a, ..), the last parameters by their defaults -/
theorem ArgsOk.app {K : PySem.W.Frag} {B : Bs} {G : Hp} : ∀ {vs : List V} {as : List Sl} {ws : List V} {bs : List Sl}, ArgsOk K B G vs as → ArgsOk K B G ws bs → ArgsOk K B G (vs ++ ws) (as ++ bs)
  | [], [], _, _, _, h => h
  | _ :: _, _ :: _, _, _, .cons a r, h => .cons a (r.app h)
/-! ### range(a, -1, -1) -/
end DD
/-! == of two instances that change, by their class's own __eq__; isinstance of their class -/
namespace DD
open PySem PySem.Spec PyProof.Rows L2
/-! xs.index(b), xs a list of bools -/
def findB (k : Bool) : List Bool → Option Nat
  | [] => none
  | b :: bs => if b = k then some 0 else (findB k bs).map (· + 1)
theorem findB_at {k : Bool} : ∀ {bs : List Bool} {i : Nat}, findB k bs = some i → bs[i]? = some k ∧ ∀ m y, m < i → bs[m]? = some y → y ≠ k
  | [], _, e => by cases e
  | b :: bs, i, e => by
    unfold findB at e
    split at e
    · rename_i h
      cases e
      exact ⟨by rw [h]; rfl, fun m y hm => by omega⟩
    · rename_i h
      obtain ⟨j, ej, rfl⟩ := Option.map_eq_some_iff.mp e
      obtain ⟨h1, h2⟩ := findB_at ej
      refine ⟨h1, fun m y hm hy => ?_⟩
      cases m with
      | zero => cases hy; exact h
      | succ m => exact h2 m y (by omega) hy
def indexB : D → D → Option D
  | .list ds, .bool k => (blOf ds).bind fun bs => (findB k bs).map fun i => .int (i : Nat)
  | _, _ => none
theorem flat_bls : ∀ bs : List Bool, (bs.map V.bl).all flatV = true
  | [] => rfl
  | _ :: bs => by rw [List.map_cons, List.all_cons, flat_bls bs]; rfl
section
variable {m : Type → Type} [Mo m] {X : Cx} {EX : XR} {g : List Sl}
theorem ej_indexB {o e : Expr} {apos cpos : Pos} {x : m D} {y : m D} (ho : EJ X EX o g x) (he : EJ X EX e g y)
    (hbase : attributeBase o "index" X.env (eval o X.env) = eval o X.env := by rfl)
    (hfew : ((backTo cpos (starEach [e] X.env)).all (fun x => !x.1) && (backToKw cpos (keywordEach [] X.env)).all (fun x => x.1.isSome) && decide ([e].length + ([] : List Keyword).length + (if ([] : List Keyword).isEmpty then 0 else 1) < 30)) = true := by rfl)
    (hline : (apos.endLine == cpos.line) = true := by rfl) (hs : starEach [e] X.env = (false, eval e X.env) :: starEach [] X.env := by rfl) (hpl : (backTo cpos (starEach [] X.env)).any (·.1) = false := by rfl) :
    EJ X EX (.Call (.Attribute o "index" apos) [e] [] cpos) g (x >>= fun d => Mo.lift (listO d) >>= fun ds => y >>= fun e => Mo.lift (indexB (.list ds) e)) :=
  (pe_bm PySem.F.plainAttrs_list PySem.F.slot_list_index PySem.F.type_list_index mt_index ho (pa_cons he pa_nil hs) hbase hfew hline hs hpl).weak fun σ H Q ⟨B, G, n, φ, ξ, o, s, q, xw⟩ => te_one o s (fun v H1 G1 d n1 o1 g1 d1 s1 => by
    obtain ⟨ds, ed, s1'⟩ := Mo.sat_lift (Mo.sat_bind s1)
    unfold listO at ed
    split at ed
    · cases ed
      obtain ⟨a, xs, rfl, ha, da⟩ := d1.toL
      refine ⟨.inl ⟨rfl, xs, .inl (.inl (o1.fm.sub.h _ _ ha rfl))⟩, te_one o1 s1' (fun w H2 G2 e n2 o2 g2 d2 s2 => ?_) xw⟩
      obtain ⟨z, ez, pz⟩ := Mo.sat_lift s2
      unfold indexB at ez
      split at ez
      · rename_i ds' k ed'
        cases ed'
        obtain ⟨bs, es, ez⟩ := Option.bind_eq_some_iff.mp ez
        obtain ⟨i, ei, rfl⟩ := Option.map_eq_some_iff.mp ez
        obtain ⟨h1, h2⟩ := findB_at ei
        have hx := blOf_da es da
        subst hx
        cases d2
        refine ⟨a, bs.map V.bl, .bl k, i, .bl k, rfl, rfl, .of (o2.fm.sub.h _ _ (g2 _ _ ha) rfl), rfl, flat_bls bs, by rw [List.getElem?_map, h1]; rfl, by cases k <;> rfl, fun m z' hm hz => ?_, q _ H2 G2 _ n2 o2 (g1.trans g2) (.int _) pz⟩
        rw [List.getElem?_map] at hz
        obtain ⟨y', hy', rfl⟩ := Option.map_eq_some_iff.mp hz
        have := h2 m y' hm hy'
        cases y' <;> cases k <;> first | rfl | exact absurd rfl this
      · cases ez
    · cases ed) xw
end
end DD
/-! for in a generator's body -/
namespace DD
open PySem PySem.Spec PyProof.Rows L2 GenW
open Sem (wp)
/-! ### defs whose calls ask nothing of the stack's guards (a generator may be woken anywhere) -/
/-! ### generator methods -/
section
variable {X : Cx} {st : Stmt} {rest : List Stmt}
theorem _root_.L2.GSs.weak {t t' : TGn} (h : GSs X rest t) (w : ∀ D ys σ H, t' D ys σ H → t D ys σ H) : GSs X rest t' := ⟨fun A S ip R n ys s₀ c fs K J gd lv s σ H D gc hn k hI ht => h.run A S ip R n ys s₀ c fs K J gd lv s σ H D gc hn k hI (w _ _ _ _ ht)⟩
end
end DD
/-! classmethods that raise; class constants through an instance; isinstance of another class -/
/-! if a or (x := e) op c; for a, (b, c) in .. -/
namespace DD
open PySem PySem.Spec PyProof.Rows L2
/-! ### a, *b = l of a list -/
namespace UnL
open StX
end UnL
open UnL
/-! ### defs with a deck that raise -/
/-! ### triples of mirrors that may raise, but do not -/
def TrX {α : Type} (b : Nat) (ob : List Cell) (x : ZX α) (Q : α → List Cell → Prop) : Prop := ∀ (n : Nat) (ψ : α → Wd → Prop) (ξ : Exn → Wd → Prop), n + b ≤ 2 ^ 40 → (∀ a n' ob', n' ≤ n + b → Q a ob' → ψ a ⟨n', ob'⟩) → x ⟨n, ob⟩ ψ ξ
section
variable {α β : Type} {ob ob1 : List Cell}
theorem TrX.run {x : ZX α} {a : α} {Q : α → List Cell → Prop} {b : Nat} (h : RunX x ob a ob1) (q : Q a ob1) : TrX b ob x Q := fun n ψ ξ _ hq => h n ψ ξ (hq a n ob1 (by omega) q)
theorem TrX.bind {x : ZX α} {f : α → ZX β} {b c : Nat} {Q : α → List Cell → Prop} {R : β → List Cell → Prop} (h : TrX b ob x Q) (hf : ∀ a ob', Q a ob' → TrX c ob' (f a) R) : TrX (b + c) ob (x >>= f) R := fun n ψ ξ hn q =>
  h n _ ξ (by omega) fun a n' ob' hn' ha => hf a ob' ha n' ψ ξ (by omega) fun a2 n2 ob2 h2 p2 => q a2 n2 ob2 (by omega) p2
theorem TrX.mono {x : ZX α} {b c : Nat} {Q R : α → List Cell → Prop} (h : TrX b ob x Q) (hb : b ≤ c) (hp : ∀ a ob', Q a ob' → R a ob') : TrX c ob x R := fun n ψ ξ hn q => h n ψ ξ (by omega) fun a n' ob' hn' ha => q a n' ob' (by omega) (hp a ob' ha)
theorem TrX.le {x : ZX α} {b c : Nat} {Q : α → List Cell → Prop} (h : TrX b ob x Q) (hb : b ≤ c) : TrX c ob x Q := h.mono hb fun _ _ z => z
theorem TrX.st {x : ZX α} {f : α → ZX β} {b d : Nat} {Q : α → List Cell → Prop} {R : β → List Cell → Prop} (h : TrX b ob x Q) (hf : ∀ a ob', Q a ob' → TrX (d - b) ob' (f a) R) (hd : b ≤ d := by decide) : TrX d ob (x >>= f) R := (h.bind hf).le (by omega)
theorem TrX.r {x : ZX α} {f : α → ZX β} {a : α} {b : Nat} {R : β → List Cell → Prop} (h : RunX x ob a ob1) (hf : TrX b ob1 (f a) R) : TrX b ob (x >>= f) R := fun n ψ ξ hn q => h n _ ξ (hf n ψ ξ hn q)
theorem TrX.pure {a : α} {Q : α → List Cell → Prop} {b : Nat} (q : Q a ob) : TrX b ob (Pure.pure a) Q := TrX.run RunX.pure q
theorem TrX.up {x : Z α} {b : Nat} {Q : α → List Cell → Prop} (h : TrA b ob x Q) : TrX b ob (upZ x) Q := fun n ψ ξ hn q => h n ψ hn q
end
end DD
/-! super().m(..) in a method of a class of one's own -/
namespace DD
open PySem PySem.Spec PyProof.Rows L2 ClX NdefX
/-! ### judgements at the frame's own code -/
/-! ### a def that captures its class -/
/-! ### C.m(self, ..): a def read off its class -/
/-! ### one of two mirrors -/
class OrM (m : Type → Type) [Mo m] where
  or : {α : Type} → m α → m α → m α
  sat_or : ∀ {α : Type} {x y : m α} {n : Wd} {φ : α → Wd → Prop} {ξ : Exn → Wd → Prop}, Mo.sat (or x y) n φ ξ → Mo.sat x n φ ξ ∨ Mo.sat y n φ ξ
instance : OrM Z := ⟨fun x y n φ => x n φ ∨ y n φ, fun h => h⟩
instance : OrM ZX := ⟨fun x y n φ ξ => x n φ ξ ∨ y n φ ξ, fun h => h⟩
end DD
/-! defs that an except suite calls with the error -/
namespace DD
open PySem PySem.Spec PyProof.Rows L2
/-- what such a def promises, by its mirror -/
def spE (K : PySem.W.Frag) (F : Exn → Option D) (e : Exn) (a : Addr) (od : Option Addr) : Sp := fun vs H Q _ => ∃ G n dk φ, vs = [V.ref a] ∧ XdAt K G od e.fs ∧ Fm K ⟨H, G, dk, G⟩ H G n ∧ Mo.sat (F e) n φ (fun _ _ => False) ∧
  ∀ v H' G' d n', Fm K ⟨H, G, dk, G⟩ H' G' n' → Da K G' v d → φ d n' → Q v H'
structure FnE (P : Program) (w : World) (K : PySem.W.Frag) (mg : Str → Option Value) (base : Heap) (k : Nat) (f : Addr) (fd : FuncData) (ps : List Str) (F : Exn → Option D) : Prop where
  len : ps.length = 1
  run : ∀ (A : Around) (outer : List Env) (s : Shared) (H : Hp) (args : Args) (us : List Value) (vs : List V) (Q : VK) (E : XK) (e : Exn) (a C : Addr) (oe : Obj) (od : Option Addr),
    L2H.RoomH k A → A.guards = some [] → A.handled = some (.ref a) → L2H.PinOk outer H s (a, oe) → mg e.cls = some (.ref C) → L2N.Zn (.ref C) od oe → (∃ vs, oe.data = .fields vs) →
    Env0 P w K mg base A outer s H → BindsTo s fd args (ps.zip us) → Vals vs us → spE K F e a od vs H Q E → codeAny (model P w) A (.call (.ref f) args) (CR CX0 outer P w H s Q E) s
theorem unitsH {A : Around} {k : Nat} {h : Option Value} (r : L2H.RoomH k A) : (A.mark h).units + 64 < cLine := by
  have := r.un
  show A.units + 64 < cLine
  omega
theorem start_one {N : List Str} {v : V} : start N [v] = some v :: List.replicate (N.length - 1) none := rfl
theorem ok_startE {K : PySem.W.Frag} {B : Bs} {H G : Hp} {n : Wd} {N : List Str} {a : Addr} {od : Option Addr} {fs : List (Str × D)} (f : Fm K B H G n) (x : XdAt K G od fs) : Ok K B (Sl.exn a od fs :: List.replicate (N.length - 1) .any) (start N [.ref a]) H G n where
  fm := f
  len := by rw [start_one]; simp
  val := fun i d e => by
    cases i with
    | zero => cases e
    | succ i => rw [List.getElem?_cons_succ, List.getElem?_replicate] at e; split at e <;> cases e
  own := by
    have no : ∀ (i : Nat) (ds : List D), (Sl.exn a od fs :: List.replicate (N.length - 1) Sl.any)[i]? ≠ some (Sl.own ds) := fun i ds e => by
      cases i with
      | zero => cases e
      | succ i => rw [List.getElem?_cons_succ, List.getElem?_replicate] at e; split at e <;> cases e
    exact ⟨fun _ => 0, fun i j ds es e => absurd e (no _ _), fun i ds e => absurd e (no _ _)⟩
  dck := fun i e => by
    cases i with
    | zero => cases e
    | succ i => rw [List.getElem?_cons_succ, List.getElem?_replicate] at e; split at e <;> cases e
  adr := fun i b od' fs' e => by
    cases i with
    | zero => cases e; exact ⟨rfl, x⟩
    | succ i => rw [List.getElem?_cons_succ, List.getElem?_replicate] at e; split at e <;> cases e
theorem fne_j {P : Program} {w : World} {K : PySem.W.Frag} {mg : Str → Option Value} {base : Heap} {k : Nat} {x qual : Str} {st : Stmt} {f : Addr} {fd : FuncData} {N ps : List Str} {F : Exn → Option D} (Fu : Fun K x qual st f fd) (S : FnScope N ps (defScope st)) (hl : ps.length = 1)
    (hb : ∀ (e : Exn) (a : Addr) (oe : Obj) (od : Option Addr) (C : Addr) (cdv : Value) (A : Around) (outer : List Env) (s : Shared) (H : Hp) (E : XK), Held (cxOf CX0 P w K mg base N qual (defScope st) f cdv A outer s H E) e a oe od C → L2H.RoomH k (cxOf CX0 P w K mg base N qual (defScope st) f cdv A outer s H E).A → (cxOf CX0 P w K mg base N qual (defScope st) f cdv A outer s H E).A.guards = some [] →
      FJ ((cxOf CX0 P w K mg base N qual (defScope st) f cdv A outer s H E).suite a ((a, oe) :: [])) X0 true (defBody st) (Sl.exn a od e.fs :: List.replicate (N.length - 1) .any) (F e)) : FnE P w K mg base (k + 1) f fd ps F := by
  obtain ⟨oc, odf, kV, doc, pm, an, cdv, ct, osl, rfl, lk, hcd⟩ := Fu.ex
  refine ⟨hl, fun A outer s H args us vs Q E e a C oe od room gu hot pin nm zc da e0 bi rv ⟨G, n, dk, φ, hv, xd, fm, sa, q⟩ => ?_⟩
  subst hv
  have KH : K.In s.heap := e0.mod.kin.keeps fun b o z => (e0.bs b o z).1
  have kinds : ∀ y ∈ ps.zip us, (defScope st).names.lookup y.1 = some .local ∨ ((defScope st).names.lookup y.1 = some .cell ∧ ((cellsFrom (s.heap.objs.size + 1) (defScope st).names []).lookup y.1).isSome = true) := by
    rintro ⟨nm, _⟩ hy
    exact (S.par nm (List.of_mem_zip hy).1).imp id fun z => ⟨z, PySem.W.cellsFrom_some _ _ _ (.inl z)⟩
  refine codeAny_call_function room.depth (KH _ _ lk) rfl S.co S.gen rfl (PySem.W.codeRec_of KH hcd) (bi _ _ _ _ (wpAny_newFunctionEnv_cells S.kind kinds fun env he s1 nw => ?_))
  subst he
  refine ⟨(e0.mod.nolimit.keeps fun b o z => (e0.bs b o z).1).keeps nw.toInCall.keep, codeAny_func ?_⟩
  have body := hb e a oe od C cdv A outer s H E ⟨nm, zc, da⟩ (room.deeper _) gu
  have am : (A.deeper (envOfC qual (defScope st) s.heap.objs.size f cdv)).mark (some (Value.ref a)) = A.deeper (envOfC qual (defScope st) s.heap.objs.size f cdv) := by
    cases A
    dsimp only at hot
    subst hot
    rfl
  have cx : (cxOf CX0 P w K mg base N qual (defScope st) f cdv A outer s H E).suite a ((a, oe) :: []) = (L2H.cxH CX0 P w K mg base N qual (defScope st) f cdv A outer s H E (a, oe)).nox := by
    unfold Cx.suite Cx.nox Cx.wish L2H.cxH cxOf
    dsimp only
    rw [am]
  rw [cx] at body
  refine wpAny_mono (PSs.nox body |>.run [] s1 (start N [.ref a]) H { nx := fun _ H' => Q .non H', rt := Q } (L2H.inv_startH S pin e0 (by rw [hl]; rfl) rv nw) ⟨⟨H, G, dk, G⟩, G, n, φ, fun _ _ => False, ok_startE fm xd, sa, q, fun _ σ' H' G' n' f' p => q .non H' G' .none n' f' .non p, fun _ _ _ _ _ _ _ z => z.elim⟩) (fun fl s' h => ?_) fun _ _ z => z
  cases fl with
  | ret u =>
    obtain ⟨v, _, H', J, r', q⟩ := h
    exact ⟨v, H', J.os, J.bare, J.base, J.hok, r', q⟩
  | next =>
    obtain ⟨_, H', J, q⟩ := h
    exact ⟨.non, H', J.os, J.bare, J.base, J.hok, rfl, q⟩
  | brk => obtain ⟨_, _, _, q⟩ := h; exact q.elim
  | cont => obtain ⟨_, _, _, q⟩ := h; exact q.elim
structure DefE (P : Program) (w : World) (K : PySem.W.Frag) (mg : Str → Option Value) (base : Heap) (k : Nat) (x : Str) (ps : List Str) (F : Exn → Option D) : Prop where
  ex : ∃ f fd, FnE P w K mg base k f fd ps F ∧ mg x = some (.ref f) ∧ PySem.W.keepIn K (.ref f) = true ∧ Binds K fd ps []
theorem RoomH.of {A : Around} {j k : Nat} (r : Room k A) (h : j ≤ k) : L2H.RoomH j A := (L2H.roomH_of r).mono h
section
variable {m : Type → Type} [Mo m] [Up Option m] {X : Cx} {EX : XR} {g : List Sl} {e : Exn} {a C : Addr} {oe : Obj} {od : Option Addr} {pn : List (Addr × Obj)} {k : Nat} {ps : List Str}
/-- f(e), e the error of the suite -/
theorem ej_callE (i : Nat) {x n : Str} {F : Exn → Option D} {p p1 pos : Pos} (Fn : DefE X.prog X.w X.K X.mg X.base k x ps F) (hr : L2H.RoomH k X.A) (gu : X.A.guards = some []) (hh : Held X e a oe od C) (hs : g[i]? = some (Sl.exn a od e.fs) := by rfl) (hN : X.N[i]? = some n := by rfl)
    (hv : Vis X.env.scope n := by first | exact Or.inl rfl | exact Or.inr (Or.inl rfl) | exact Or.inr (Or.inr rfl)) (hd : (n == ("__debug__" : Str)) = false := by decide) (hcd : (n == ("__classdict__" : Str)) = false := by decide) (hg : Gl X x := by rfl) (hd2 : (x == ("__debug__" : Str)) = false := by decide)
    (he : starEach [.Name n p1] X.env = (false, eval (.Name n p1) X.env) :: starEach [] X.env := by rfl) (hpl : (backTo pos (starEach [] X.env)).any (·.1) = false := by rfl) :
    EJ (m := m) (X.suite a ((a, oe) :: pn)) EX (.Call (.Name x p) [.Name n p1] [] pos) g (Up.up (F e)) := by
  obtain ⟨f, fd, Fn, hm, hk, hb⟩ := Fn.ex
  have pv : PA (X.suite a ((a, oe) :: pn)) [.Name n p1] (tCons (tVar i) tNil) := pa_cons (pe_var (X := X.suite a ((a, oe) :: pn)) hN hv hd hcd) pa_nil he
  have pe : PE (X.suite a ((a, oe) :: pn)) (.Call (.Name x p) [.Name n p1] [] pos) (fun σ H Q => (tCons (tVar i) tNil) σ H fun vs H1 => spE X.K F e a od vs H1 Q E0) :=
    ⟨fun pins s σ H Q I h => wpAny_Call_Name_kw (ld_glob I hg hm (PySem.W.callWith_K (h₀ := X.base) I.ok.mod.kin hk (thn (pv.run pos pins s σ H _ I h) fun us s1 ⟨vs, H1, I1, r, q⟩ => ⟨I1.kIn, by
      have hl : us.length = ps.length := by
        rw [← r.length, Fn.len]
        obtain ⟨_, _, _, _, ev, _⟩ := q
        rw [ev]; rfl
      have hb' := hb s1 us I1.kIn (by rw [List.append_nil]; exact hl)
      rw [List.append_nil] at hb'
      have P1 := I1.pin (a, oe) (List.mem_append_left _ List.mem_cons_self)
      have hpin : L2H.PinOk (X.suite a ((a, oe) :: pn)).stack H1 s1 (a, oe) := ⟨P1.1, P1.2.1, fun hm => (List.mem_cons.mp (I1.stkSub a hm)).elim P1.2.2.1 P1.2.2.2.1, P1.2.2.2.2⟩
      refine wpAny_call (codeAny_mono (Fn.run (X.suite a ((a, oe) :: pn)).A (X.suite a ((a, oe) :: pn)).stack s1 H1 ⟨us, []⟩ us vs Q E0 e a C oe od ⟨hr.dp, hr.un⟩ gu rfl hpin hh.nm hh.zc hh.da I1.env0 hb' r q) fun z s' hq => ?_)
      cases z with
      | error e => exact False.elim hq
      | ok fl =>
        cases fl with
        | ret u => exact I1.after hq
        | next => exact False.elim hq
        | brk => exact False.elim hq
        | cont => exact False.elim hq⟩) he hpl) hd2)⟩
  refine pe.weak fun σ H Q ⟨B, G, n, φ, ξ, o, s, q, xw⟩ => ?_
  obtain ⟨e1, e2⟩ := o.adr i a od e.fs hs
  refine ⟨.ref a, e1, G, n, B.dk, φ, rfl, e2, o.fm.at_call, Calm.calm (Up.sat_up s), fun v H' G' d n' f' dv p => ?_⟩
  obtain ⟨o2, g2⟩ := Fm.back o (.inr rfl) f'
  exact q v H' G' d n' o2 g2 dv p
end
section
variable {m : Type → Type} [Mo m] {X X' : Cx} {EX : XR} {g r0 : List Sl} {fall : Bool} {ss : List Stmt} {e : Exn} {a C C' : Addr} {oe : Obj} {od : Option Addr}
/-- the body of such a def, for one class of errors -/
theorem fsuite1 {c f : Str} {h : D → m D} {r : m D} (hh : Held X e a oe od C) (hm : X.mg c = some (.ref C')) (h1 : ∀ d, Held X ⟨c, [(f, d)]⟩ a oe od C' → FJ X' X0 fall ss (Sl.exn a od [(f, d)] :: r0) (h d)) (h2 : FJ X' X0 fall ss (Sl.exn a od e.fs :: r0) r) :
    FJ X' X0 fall ss (Sl.exn a od e.fs :: r0) (exc1 c f e h r) := by
  unfold exc1
  split
  · rename_i z
    obtain ⟨cl, fs⟩ := e
    dsimp only at z
    subst z
    have nm := hh.nm
    dsimp only at nm
    rw [hm] at nm
    cases nm
    split
    · rename_i f' d ef
      dsimp only at ef
      subst ef
      split
      · rename_i zf
        subst zf
        exact h1 d hh
      · exact fj_dead
    · exact fj_dead
  · exact h2
end
end DD
/-! enumerate(zip(a, b)) -/
/-! an instance is called -/
namespace DD
open PySem PySem.Spec PyProof.Rows L2
section
variable (P : Program) (w : World) (K : PySem.W.Frag) (mg : Str → Option Value) (base : Heap) (k : Nat) (c : Str) (ps : List Str)
structure ICallX (sp : Sp) : Prop where
  ex : ∃ C f fd, ClsOk K c C ∧ StX.CallO K C f ∧ FnX P w K mg base k f fd ps sp ∧ Binds K fd ps []
end
abbrev CallAt (X : Cx) (o : Expr) (pos : Pos) (es : List Expr) : Prop := eval (.Call o es [] pos) X.env = (do callWith pos (← eval o X.env) [] (backTo pos (starEach es X.env)) (backToKw pos (keywordEach [] X.env)))
theorem pe_icX {X : Cx} {k : Nat} {C f : Addr} {fd : FuncData} {ps : List Str} {sp : Sp} {W : WX} {pos : Pos} {o e : Expr} {es : List Expr} {ta : TE} {t : TA} (he : PE X o ta) (c : StX.CallO X.K C f) (F : FnX X.prog X.w X.K X.mg X.base k f fd ps sp) (hr : Room k X.A) (gu : X.A.guards = some []) (tk : L2N.Takes X W) (hb : Binds X.K fd ps []) (ha : PA X (e :: es) t)
    (hst : starEach (e :: es) X.env = (false, eval e X.env) :: starEach es X.env) (hpl : (backTo pos (starEach es X.env)).any (·.1) = false) (ht : CallAt X o pos (e :: es)) :
    PE X (.Call o (e :: es) [] pos) (fun σ H Q => ta σ H fun x H1 => ∃ a, x = V.ref a ∧ t σ H1 fun vs H2 => (∃ dx fs, H2 a = some (.ins C dx fs)) ∧ sp (V.ref a :: vs) H2 Q (WE W σ)) := by
  refine ⟨fun pins s σ H Q I h => Call_ (thn (he.run pins s σ H _ I h) fun u s1 ⟨x, H1, I1, rx, a, ex, q⟩ => ?_) ht⟩
  subst ex
  obtain rfl : u = Value.ref a := rx
  refine StX.callO_with (thn (ha.run pos pins s1 σ H1 _ I1 q) fun us s2 ⟨vs, H2, I2, r, ⟨dx, fs, ea⟩, q2⟩ => ?_) hst hpl
  obtain ⟨ox, od, J, hd⟩ := StX.insC_at I2 (.inr ⟨dx, fs, ea⟩)
  refine ⟨⟨C, ox, od, J, hd⟩, ?_⟩
  have hl : (Value.ref a :: us).length = ps.length := by
    have := F.len _ _ _ _ q2
    rw [List.length_cons] at this ⊢
    rw [← r.length]
    exact this
  have bd := hb s2 (Value.ref a :: us) I2.kIn (by rw [List.append_nil]; exact hl)
  rw [List.append_nil] at bd
  refine wpAny_call (PySem.W.kco_code I2.kIn J hd c.at_ c.fn c.fi (codeAny_mono (F.run X.A X.stack s2 H2 ⟨Value.ref a :: us, []⟩ (Value.ref a :: us) (V.ref a :: vs) Q (WE W σ) hr gu I2.env0 bd (.cons rfl r) q2) fun z s' hq => ?_))
  cases z with
  | error e => exact L2N.passAt tk σ pins H2 s2 e s' I2 hq
  | ok fl =>
    cases fl with
    | ret u => exact I2.after hq
    | next => exact False.elim hq
    | brk => exact False.elim hq
    | cont => exact False.elim hq
section
variable {m : Type → Type} [Mo m] [OverZ m] {X : Cx} {EX : XR} {g : List Sl} {k : Nat} {ps : List Str} {pos : Pos} {c : Str} {ob e : Expr} {es : List Expr} {x : m D} {F : List Sl → m D}
/-- f(..), f an instance -/
theorem ej_icZX {y : m (List Sl)} (Fn : ICallX X.prog X.w X.K X.mg X.base k c ps (spX X.K X.mg F)) (hr : Room k X.A) (gu : X.A.guards = some []) (tk : L2N.Takes X EX.w) (sb : Sub g EX.g)
    (ho : EJ X EX ob g x) (ha : AJ X EX (e :: es) g y) (hst : starEach (e :: es) X.env = (false, eval e X.env) :: starEach es X.env := by rfl) (hpl : (backTo pos (starEach es X.env)).any (·.1) = false := by rfl) (ht : CallAt X ob pos (e :: es) := by rfl) :
    EJ X EX (.Call ob (e :: es) [] pos) g (x >>= fun d => OverZ.up (selfZ c "__call__" d) >>= fun _ => y >>= fun as => OverZ.up (selfZ c "__call__" d) >>= fun _ => F (.val d :: as)) := by
  obtain ⟨C, f, fd, hcl, hm, Fn, hb⟩ := Fn.ex
  exact (pe_icX ho hm Fn hr gu tk hb ha hst hpl ht).weak fun σ H Q ⟨B, G, n, φ, ξ, o, s, q, xw⟩ => te_one o s (fun v H1 G1 d n1 o1 g1 d1 s1 => by
    have s2 : selfZ c "__call__" d n1 _ := OverZ.sat_up (Mo.sat_bind s1)
    obtain ⟨k, fs, ek, hk, el, s2⟩ := selfZ_out s2
    obtain ⟨a, C', dx, vs, rfl, ga, ck, ea, hl, da⟩ := o1.insAt d1 ek hk
    refine ⟨a, rfl, B, G1, n1, _, ξ, o1, Mo.sat_bind s2, fun us H2 G2 as n2 o2 g2 a2 s3 => ?_, xw⟩
    have s4 : selfZ c "__call__" d n2 _ := OverZ.sat_up (Mo.sat_bind s3)
    obtain ⟨k', fs', ek', hk', el', s4⟩ := selfZ_out s4
    obtain ⟨a', C', dx', vs', ea', ga', ck', ea2, hl', da'⟩ := o2.insAt (d1.mono g2) ek' hk'
    cases ea'
    obtain rfl := hcl.one ck'
    refine ⟨⟨dx', vs', ea2⟩, G2, n2, B.dk, .val d :: as, φ, ξ, .cons (d1.mono g2) (ArgsOk.base (B := B) (B' := ⟨H2, G2, B.dk, G2⟩) rfl a2), o2.fm.at_call, s4, fun v H' G' d' n' f' dv p => ?_, fun e' c' od H' G' n' f' ex hx => ?_⟩
    · obtain ⟨o3, g3⟩ := Fm.back o2 (.inr rfl) f'
      exact q v H' G' d' n' o3 ((g1.trans g2).trans g3) dv p
    · obtain ⟨o3, g3⟩ := Fm.back o2 (.inr rfl) f'
      exact xw e' n' σ H' G' c' od hx (o3.forget sb) ex) xw
end
def incI : D → D → Option D
  | .int i, .int j => some (.int (i + j))
  | _, _ => none
section
variable {m : Type → Type} [Mo m] [OverZ m] {X : Cx} {EX : XR} {g : List Sl} {pos tpos : Pos} {c : Str} {e : Expr} {x : m D}
/-- o.f += e, numbers -/
theorem sj_augAZ {fl : Str} {o0 : Expr} {y : m D} (h : HasNo X.K c fl) (ho : EJ X EX o0 g y) (he : EJ X EX e g x) :
    SJ X EX (.AugAssign (.Attribute o0 fl tpos) .Add e pos) g (y >>= fun d => OverZ.up (attrZ c fl d) >>= fun v => x >>= fun w => Mo.lift (incI v w) >>= fun z => OverZ.up (setAZ c fl d z)) (fun _ => g) := by
  obtain ⟨C, hcl, hno⟩ := h.ex
  exact (ps_fldaug ho he in_add).weak fun De σ H ⟨B, G, n, φ, ξ, o, s, q, xw⟩ => te_one o s (fun v0 H1 G1 d n1 o1 g1 d1 s1 => by
    have s2 := OverZ.sat_up (Mo.sat_bind s1)
    obtain ⟨k, fs, ek, hk, z, ez, s3⟩ := clsZ_out (show clsZ c d n1 (fun fs n' => (Mo.lift (fs.lookup fl) : Z D) n' _) from s2)
    obtain ⟨a, C', dx, vs, rfl, ga, ck, ea, hl, da⟩ := o1.insAt d1 ek hk
    obtain rfl := hcl.one ck
    obtain ⟨v, hv, dv⟩ := (lkp_da hl da).1 z ez
    refine ⟨a, C', dx, vs, v, rfl, ea, hcl.cl, hno, hv, te_one o1 s3 (fun y2 H2 G2 w n2 o2 g2 d2 s4 => ?_) xw⟩
    obtain ⟨z2, ez2, s5⟩ := Mo.sat_lift (Mo.sat_bind s4)
    unfold incI at ez2
    split at ez2
    · rename_i i j
      cases ez2
      cases dv
      cases d2
      obtain ⟨k', ek', c', fs', hk', u, hu, pe⟩ := OverZ.sat_up s5
      dsimp only at hu
      split at hu
      · rename_i hc
        obtain ⟨zc, h9⟩ := hc
        have zc : c' = c := zc
        subst zc
        obtain ⟨a', C'', dx', vs', ea', ga', ck', ea2, hl', da'⟩ := o2.insAt (d1.mono g2) ek' hk'
        cases ea'
        obtain rfl := hcl.one ck'
        obtain ⟨q1, q2⟩ := put_da (f := fl) (w := V.int (i + j)) (y := PyData.int (i + j)) (.int _) hl' da'
        have hlen : vs'.length < 1000 := by
          have e1 : vs'.length = fs'.length := by simpa using congrArg List.length hl'
          have h9 : fs'.length < 900 := h9
          omega
        refine ⟨i, j, rfl, rfl, dx', vs', ea2, hlen, ?_⟩
        exact q () _ _ G2 _ (o2.putG (c := .ins c' (putL fl (.int (i + j)) fs')) ga' rfl ⟨ga', C'', dx', _, hcl, upd_same, q1, q2⟩) (g1.trans g2) pe
      · cases hu
    · cases ez2) xw
end
/-! the slots told as one list (for the slots of a comprehension) -/
end DD
namespace DD
open PySem PySem.Spec PyProof.Rows L2
/-! ### a == b whose parts may raise: the operator of the class does not -/
/-! ### C(..), finished behind its __init__, of arguments that things that may change have given -/
section
variable {X : Cx} {EX : XR} {g : List Sl}
theorem ej_makeHX {k : Nat} {ps : List Str} {c : Str} {p pos : Pos} {e : Expr} {es : List Expr} {F : List Sl → Xo (List (Str × D))} {y : ZX (List Sl)} (Fn : MkX X.prog X.w X.K X.mg X.base k c ps (spI X.K X.mg c F)) (hr : Room (k + 1) X.A) (gu : X.A.guards = some []) (tk : L2N.Takes X EX.w) (sb : Sub g EX.g)
    (ha : AJ X EX (e :: es) g y) (hg : Gl X c := by rfl) (hd : (c == ("__debug__" : Str)) = false := by decide) (he : starEach (e :: es) X.env = (false, eval e X.env) :: starEach es X.env := by rfl) (hpl : (backTo pos (starEach es X.env)).any (·.1) = false := by rfl) :
    EJ X EX (.Call (.Name c p) (e :: es) [] pos) g (y >>= fun as => hidX as (F as) >>= fun fs => pure (insD c fs)) := by
  obtain ⟨C, f, fd, hcl, hm, M, Fn, hb⟩ := Fn.ex
  exact (pe_makeX M Fn hr gu tk hg hm hb ha hd he hpl).weak fun σ H Q ⟨B, G, n, φ, ξ, o, s, q, xw⟩ => ⟨B, G, n, _, ξ, o, Mo.sat_bind s, fun us H1 G1 as n1 o1 g1 a1 s1 => fun x dx hx hdx hne => by
    obtain ⟨hs, sx⟩ := (show okSl as = true ∧ ((∃ a, F as = some (.ok a) ∧ φ (insD c a) n1) ∨ ∃ e, F as = some (.error e) ∧ ξ e n1) from s1)
    have oh := o1.hide0 (g' := g.map fun _ => Sl.any) (sub_any (all_any g) (by rw [List.length_map])) (okSl_any g) (noOwns_any g)
    have sat : Mo.sat (F as) ⟨n1.n, []⟩ (fun a n' => n' = ⟨n1.n, []⟩ ∧ φ (insD c a) n1) (fun e n' => n' = ⟨n1.n, []⟩ ∧ ξ e n1) := by
      refine ⟨rfl, ?_⟩
      rcases sx with ⟨a, ea, p⟩ | ⟨e, ee, p⟩
      · exact .inl ⟨a, ea, rfl, p⟩
      · exact .inr ⟨e, ee, rfl, p⟩
    refine ⟨x, C, dx, us, H1, hid G1, ⟨n1.n, []⟩, B.dk, as, _, _, rfl, hcl, hx, hdx, hne, rfl, argsHid (B := B) (B' := ⟨H1, hid G1, B.dk, hid G1⟩) rfl a1 hs, oh.fm, sat, fun H' G' n' ws fs f' h1 h2 h3 h4 ⟨hn, p⟩ => ?_, fun e' c' od H' G' n' f' ex ⟨hn, hx⟩ => ?_⟩
    · subst hn
      have f2 := f'.addG (u := .ins C dx ws) h1 h2 hx rfl
      obtain ⟨o2, g2, g3⟩ := hidP_back o1 rfl f2
      refine ⟨rfl, q _ H' _ _ n1 o2 (g1.trans g2) (.fin (vs := ws) (fs := fs) (g3 _ _ upd_same) hcl h3 ((h4.mono (same_upd h2)).mono g3)) p⟩
    · subst hn
      obtain ⟨o2, g2, g3⟩ := hidP_back o1 rfl f'
      obtain ⟨C', k1, k2, k3⟩ := ex
      exact xw e' n1 σ H' _ c' od hx (o2.forget sb) ⟨C', k1, k2, k3.mono g3⟩, xw⟩
end
end DD
/-! defs of data that an except suite calls; == of any data there -/
namespace DD
open PySem PySem.Spec PyProof.Rows L2
structure FnGH (P : Program) (w : World) (K : PySem.W.Frag) (mg : Str → Option Value) (base : Heap) (k : Nat) (f : Addr) (fd : FuncData) (ps : List Str) (sp : Sp) : Prop where
  len : ∀ vs H Q E, sp vs H Q E → vs.length = ps.length
  run : ∀ (A : Around) (outer : List Env) (s : Shared) (H : Hp) (args : Args) (us : List Value) (vs : List V) (Q : VK) (E : XK) (a : Addr) (oe : Obj),
    L2H.RoomH k A → A.guards = some [] → A.handled = some (.ref a) → L2H.PinOk outer H s (a, oe) → Env0 P w K mg base A outer s H → BindsTo s fd args (ps.zip us) → Vals vs us → sp vs H Q E → codeAny (model P w) A (.call (.ref f) args) (CR CX0 outer P w H s Q E) s
section
variable {m : Type → Type} [Mo m] {P : Program} {w : World} {K : PySem.W.Frag} {mg : Str → Option Value} {base : Heap} {k : Nat} {x qual : Str} {st : Stmt} {f : Addr} {fd : FuncData} {N ps : List Str}
theorem fngh_ar2 {F : D → D → m D} (Fu : Fun K x qual st f fd) (S : FnScope N ps (defScope st)) (hl : ps.length = 2)
    (hb : ∀ (a0 a1 : D) (a : Addr) (oe : Obj) (cdv : Value) (A : Around) (outer : List Env) (s : Shared) (H : Hp) (E : XK), L2H.RoomH k (cxOf CX0 P w K mg base N qual (defScope st) f cdv A outer s H E).A → (cxOf CX0 P w K mg base N qual (defScope st) f cdv A outer s H E).A.guards = some [] →
      FJ ((cxOf CX0 P w K mg base N qual (defScope st) f cdv A outer s H E).suite a ((a, oe) :: [])) X0 true (defBody st) ([Sl.val a0, Sl.val a1] ++ List.replicate (N.length - 2) .any) (F a0 a1)) : FnGH P w K mg base (k + 1) f fd ps (spJ K (ar2 F)) := by
  obtain ⟨oc, odf, kV, doc, pm, an, cdv, ct, osl, rfl, lk, hcd⟩ := Fu.ex
  have args2 : ∀ {as : List Sl} {n : Wd} {φ : D → Wd → Prop}, Mo.sat (ar2 F as) n φ (fun _ _ => False) → ∃ a0 a1, as = [.val a0, .val a1] := fun {as n φ} s => by
    unfold ar2 at s
    split at s
    · exact ⟨_, _, rfl⟩
    · obtain ⟨_, e, _⟩ := Mo.sat_lift s
      cases e
  refine ⟨fun vs H Q E ⟨G, n, dk, as, φ, ao, fm, sa, q⟩ => ?_, fun A outer s H args us vs Q E a oe room gu hot pin e0 bi rv ⟨G, n, dk, as, φ, ao, fm, sa, q⟩ => ?_⟩
  · obtain ⟨a0, a1, rfl⟩ := args2 sa
    rw [ao.length, hl]
    rfl
  obtain ⟨a0, a1, rfl⟩ := args2 sa
  have sa : Mo.sat (F a0 a1) n φ (fun _ _ => False) := sa
  have KH : K.In s.heap := e0.mod.kin.keeps fun b o z => (e0.bs b o z).1
  have kinds : ∀ y ∈ ps.zip us, (defScope st).names.lookup y.1 = some .local ∨ ((defScope st).names.lookup y.1 = some .cell ∧ ((cellsFrom (s.heap.objs.size + 1) (defScope st).names []).lookup y.1).isSome = true) := by
    rintro ⟨nm, _⟩ hy
    exact (S.par nm (List.of_mem_zip hy).1).imp id fun z => ⟨z, PySem.W.cellsFrom_some _ _ _ (.inl z)⟩
  refine codeAny_call_function room.depth (KH _ _ lk) rfl S.co S.gen rfl (PySem.W.codeRec_of KH hcd) (bi _ _ _ _ (wpAny_newFunctionEnv_cells S.kind kinds fun env he s1 nw => ?_))
  subst he
  refine ⟨(e0.mod.nolimit.keeps fun b o z => (e0.bs b o z).1).keeps nw.toInCall.keep, codeAny_func ?_⟩
  have body := hb a0 a1 a oe cdv A outer s H E (room.deeper _) gu
  have am : (A.deeper (envOfC qual (defScope st) s.heap.objs.size f cdv)).mark (some (Value.ref a)) = A.deeper (envOfC qual (defScope st) s.heap.objs.size f cdv) := by
    cases A
    dsimp only at hot
    subst hot
    rfl
  have cx : (cxOf CX0 P w K mg base N qual (defScope st) f cdv A outer s H E).suite a ((a, oe) :: []) = (L2H.cxH CX0 P w K mg base N qual (defScope st) f cdv A outer s H E (a, oe)).nox := by
    unfold Cx.suite Cx.nox Cx.wish L2H.cxH cxOf
    dsimp only
    rw [am]
  rw [cx] at body
  have lv : vs.length = ps.length := by rw [ao.length, hl]; rfl
  refine wpAny_mono (PSs.nox body |>.run [] s1 (start N vs) H { nx := fun _ H' => Q .non H', rt := Q } (L2H.inv_startH S pin e0 lv rv nw) ⟨⟨H, G, dk, G⟩, G, n, φ, fun _ _ => False, ok_start ao fm, sa, q, fun _ σ' H' G' n' f' p => q .non H' G' .none n' f' .non p, fun _ _ _ _ _ _ _ z => z.elim⟩) (fun fl s' h => ?_) fun _ _ z => z
  cases fl with
  | ret u =>
    obtain ⟨v, _, H', J, r', q⟩ := h
    exact ⟨v, H', J.os, J.bare, J.base, J.hok, r', q⟩
  | next =>
    obtain ⟨_, H', J, q⟩ := h
    exact ⟨.non, H', J.os, J.bare, J.base, J.hok, rfl, q⟩
  | brk => obtain ⟨_, _, _, q⟩ := h; exact q.elim
  | cont => obtain ⟨_, _, _, q⟩ := h; exact q.elim
end
structure MthGH (P : Program) (w : World) (K : PySem.W.Frag) (mg : Str → Option Value) (base : Heap) (k : Nat) (c mn : Str) (ps : List Str) (sp : Sp) : Prop where
  ex : ∃ C f fd, ClsOk K c C ∧ Meth K C mn f ∧ FnGH P w K mg base k f fd ps sp ∧ Binds K fd ps []
section
variable {X : Cx} {a : Addr} {oe : Obj} {pn : List (Addr × Obj)} {k : Nat} {f C : Addr} {fd : FuncData} {ps : List Str} {sp : Sp}
theorem run_gh {pins : List (Addr × Obj)} {σ : L2.St} {H : Hp} {s : Shared} {us : List Value} {vs : List V} {Q : VK} (F : FnGH X.prog X.w X.K X.mg X.base k f fd ps sp) (hr : L2H.RoomH k X.A) (gu : X.A.guards = some []) (hb : Binds X.K fd ps []) (I : Inv (X.suite a ((a, oe) :: pn)) pins σ H s) (r : Vals vs us) (q : sp vs H Q E0) :
    wpAny (model X.prog X.w) (X.suite a ((a, oe) :: pn)).A (call (.ref f) us) (EP (X.suite a ((a, oe) :: pn)) pins σ Q) (fun _ _ => False) s := by
  have hl : us.length = ps.length := by rw [← r.length, F.len _ _ _ _ q]
  have hb' := hb s us I.kIn (by rw [List.append_nil]; exact hl)
  rw [List.append_nil] at hb'
  have P1 := I.pin (a, oe) (List.mem_append_left _ List.mem_cons_self)
  have hpin : L2H.PinOk (X.suite a ((a, oe) :: pn)).stack H s (a, oe) := ⟨P1.1, P1.2.1, fun hm => (List.mem_cons.mp (I.stkSub a hm)).elim P1.2.2.1 P1.2.2.2.1, P1.2.2.2.2⟩
  refine wpAny_call (codeAny_mono (F.run (X.suite a ((a, oe) :: pn)).A (X.suite a ((a, oe) :: pn)).stack s H ⟨us, []⟩ us vs Q E0 a oe ⟨hr.dp, hr.un⟩ gu rfl hpin I.env0 hb' r q) fun z s' hq => ?_)
  cases z with
  | error e => exact False.elim hq
  | ok fl =>
    cases fl with
    | ret u => exact I.after hq
    | next => exact False.elim hq
    | brk => exact False.elim hq
    | cont => exact False.elim hq
theorem op_eqOH (hm : Meth X.K C "__eq__" f) (F : FnGH X.prog X.w X.K X.mg X.base k f fd ps sp) (hr : L2H.RoomH k X.A) (gu : X.A.guards = some []) (hb : Binds X.K fd ps []) (ns : (T7.all fun T => PySem.W.subIn X.K (.type T) (.ref C) == some false) = true) : OpR (X.suite a ((a, oe) :: pn)) (compareOp .Eq) (rEqO X.K C sp false) := by
  intro pins s σ H x y w u Q I rx ry ⟨b, dx, fs, ex, ea, be, q⟩
  subst ex
  obtain rfl : w = Value.ref b := rx
  obtain ⟨mA, O, _⟩ := ins_get I.hok ea
  obtain ⟨od, J, _⟩ := O.look
  obtain ⟨m0, hF⟩ := I.fr
  obtain ⟨tb, l1, l2⟩ := besid_of I ry be ns
  show wpAny (model X.prog X.w) (X.suite a ((a, oe) :: pn)).A (richCompare .Eq (.ref b) u) (EP (X.suite a ((a, oe) :: pn)) pins σ Q) (X.suite a ((a, oe) :: pn)).xe s
  refine PySem.W.cmp_K (by have := hr.un; show X.A.units < cLine; omega) hF I.ok.mod.kin J l1 l2 hm.at_ hm.fn (thn (run_gh (vs := [.ref b, y]) F hr gu hb I (.cons rfl (.cons ry .nil)) q) fun u' s' ⟨v, H', I', rv, k, ev, qq⟩ => ?_)
  subst ev
  obtain rfl : u' = Value.bool k := rv
  refine ⟨.bl k, H', I', rfl, ?_⟩
  cases k <;> exact qq
end
def noPairs : D → Bool
  | .dict [] => true
  | _ => false
theorem d_empty {K : PySem.W.Frag} {G : Hp} {v : V} {d : D} (h : Da K G v d) (e : noPairs d = true) : ∃ b, v = .ref b ∧ G b = some (.dK []) := by
  cases h with
  | dct k _ =>
    rename_i kvs _
    cases kvs with
    | nil => exact ⟨_, rfl, k⟩
    | cons p r => cases e
  | _ => cases e
/-- == of data, of instances of c, of empty dicts -/
def eqAny {m : Type → Type} [Mo m] (c : Str) (F : List Sl → m D) (d j : D) : m D := if (isCls c d).isSome = true then Mo.lift (isCls c d) >>= fun _ => Mo.lift (besO c j) >>= fun _ => F [.val d, .val j] >>= fun r => Mo.lift ((boolD r).map fun b => .bool (b != false))
  else if (noPairs d && noPairs j) = true then pure (.bool true) else Mo.lift (eqD d j)
section
variable {m : Type → Type} [Mo m] [Calm m] {X : Cx} {EX : XR} {g : List Sl} {a : Addr} {oe : Obj} {pn : List (Addr × Obj)} {k : Nat} {c : Str} {ps : List Str} {ea eb : Expr} {pos : Pos} {x y : m D} {F : List Sl → m D}
theorem eqAny_w {C : Addr} (h1 : ClsOk X.K c C) {σ : L2.St} {H : Hp} {Q : VK} (h : teJ X EX g (x >>= fun d => y >>= fun j => eqAny c F d j) σ H Q) : tOp (fun u v H Q => rEqO X.K C (spJ X.K F) false u v H Q ∨ rEqDA u v H Q ∨ rEqA X.K u v H Q) (teJ X EX g x) (teJ X EX g y) σ H Q := by
  obtain ⟨B, G, n, φ, ξ, o, s, q, xw⟩ := h
  refine te_one o s (fun v H1 G1 d n1 o1 g1 d1 s1 => te_one o1 s1 (fun w H2 G2 j n2 o2 g2 d2 s2 => ?_) xw) xw
  unfold eqAny at s2
  split at s2
  · obtain ⟨u, eu, s3⟩ := Mo.sat_lift (Mo.sat_bind s2)
    obtain ⟨u', eu', s4⟩ := Mo.sat_lift (Mo.sat_bind s3)
    have be := bes_da o2.fm h1 d2 eu'
    obtain ⟨r, ei⟩ := isCls_some eu
    obtain ⟨b, C', dx, vs, fs, rfl, hG, ck, hl, da, rfl⟩ := (d1.mono g2).insI ei
    obtain rfl := h1.one ck
    refine .inl ⟨b, dx, vs, rfl, o2.fm.sub.h _ _ hG rfl, be, G2, n2, B.dk, [.val _, .val j], _, .cons (d1.mono g2) (.cons d2 .nil), o2.fm.at_call, Calm.calm (Mo.sat_bind s4), fun v H' G' d' n' f' dv p => ?_⟩
    obtain ⟨o3, g3⟩ := Fm.back o2 (.inr rfl) f'
    obtain ⟨z, ez, pz⟩ := Mo.sat_lift p
    obtain ⟨b, eb, rfl⟩ := Option.map_eq_some_iff.mp ez
    exact ⟨b, dv.bool eb, q _ H' G' _ n' o3 ((g1.trans g2).trans g3) (.bl _) pz⟩
  · split at s2
    · rename_i hd
      obtain ⟨hd1, hd2⟩ := Bool.and_eq_true_iff.mp hd
      have p := Mo.sat_pure s2
      obtain ⟨b1, e1, k1⟩ := d_empty (d1.mono g2) hd1
      obtain ⟨b2, e2, k2⟩ := d_empty d2 hd2
      exact .inr (.inl ⟨b1, b2, [], [], e1, e2, o2.fm.sub.h _ _ k1 rfl, o2.fm.sub.h _ _ k2 rfl, rfl, fun _ z => absurd z (by simp), q _ H2 G2 _ n2 o2 (g1.trans g2) (.bl _) p⟩)
    · obtain ⟨z, ez, pz⟩ := Mo.sat_lift s2
      exact .inr (.inr (rd_eq v w d j z H2 G2 Q (d1.mono g2) d2 o2.fm.sub ez fun u H3 G3 gr du => q u H3 G3 z n2 (o2.gr gr) ((g1.trans g2).trans gr.g) du pz))
theorem ej_eqAny (Fn : MthGH X.prog X.w X.K X.mg X.base k c "__eq__" ps (spJ X.K F)) (hc : IsC X.K X.mg c) (hy : Sys (X.suite a ((a, oe) :: pn))) (hr : L2H.RoomH k X.A) (gu : X.A.guards = some []) (ha : EJ (X.suite a ((a, oe) :: pn)) EX ea g x) (hb : EJ (X.suite a ((a, oe) :: pn)) EX eb g y) (hk : behindInMarks .Eq eb = false := by exact nomark _) :
    EJ (X.suite a ((a, oe) :: pn)) EX (.Compare ea [.Eq] [eb] pos) g (x >>= fun d => y >>= fun j => eqAny c F d j) := by
  obtain ⟨C, f, fd, h1, h2, h3, h4⟩ := Fn.ex
  obtain ⟨C', k1, _, _, _, k5, k6⟩ := hc.ex
  obtain rfl := h1.one k1
  have hu := hr.un
  exact PE.weak (pe_cmpR (op_or (op_eqOH (a := a) (oe := oe) (pn := pn) h2 h3 hr gu h4 k6) (op_or (op_eq_dictA (X := X.suite a ((a, oe) :: pn)) (by show X.A.units < cLine; omega)) (op_eqA hy (by show X.A.units + 64 < cLine; omega)))) ha hb hk) fun _ _ _ h => eqAny_w (X := X.suite a ((a, oe) :: pn)) h1 h
end
section
variable {m m' : Type → Type} [Mo m] [OverZ m] [Mo m'] [Plain m'] {X : Cx} {EX : XR} {g : List Sl}
/-- hidden, the error's slot told without its address -/
theorem ej_hidPx (gm g' : List Sl) {e : Expr} {x : m' D} (h : EJ (m := m') X X0 e g' x) (sb : Sub g g') (hk : okSl gm = okSl g' := by rfl) (ho : noOwns g' = true := by rfl) : EJ (m := m) X EX e g (OverZ.up (hidP gm x)) := by
  have e1 : (hidP gm x : Z D) = hidP g' x := by unfold hidP; rw [hk]
  rw [e1]
  exact ej_hidP g' h sb ho
end
section
variable {m : Type → Type} [Mo m] [OverZ m] [Up Z m] {X : Cx} {EX : XR} {g : List Sl} {k : Nat} {c mn : Str} {ps : List Str} {ob : Expr} {pos : Pos} {x : m D} {F : List Sl → Z D}
/-- o.p, a property that raises nothing, of an expression that may -/
theorem ej_propUp (Fn : PrpG X.prog X.w X.K X.mg X.base k c mn ps (spJ X.K F)) (hr : Room (k + 1) X.A) (gu : X.A.guards = some []) (ho : EJ X EX ob g x) (hab : attributeBase ob mn X.env (eval ob X.env) = eval ob X.env := by rfl) :
    EJ X EX (.Attribute ob mn pos) g (x >>= fun d => OverZ.up (thisZ c d) >>= fun _ => Up.up (F [.val d])) := by
  obtain ⟨C, pr, f, fd, hcl, hp, Fn, hb⟩ := Fn.ex
  exact (pe_propG ho hcl.cl hp Fn hr gu hb hab).weak fun σ H Q ⟨B, G, n, φ, ξ, o, s, q, xw⟩ => te_one o s (fun v H1 G1 d n1 o1 g1 d1 s1 => by
    have s2 : thisZ c d n1 _ := OverZ.sat_up (Mo.sat_bind s1)
    obtain ⟨k, fs, ek, hk, s2⟩ := thisZ_out s2
    obtain ⟨a, C', dx, vs, rfl, ga, ck, ea, hl, da⟩ := o1.insAt d1 ek hk
    obtain rfl := hcl.one ck
    refine ⟨a, dx, vs, rfl, ea, G1, n1, B.dk, [.val d], φ, .cons d1 .nil, o1.fm.at_call, Calm.calm (Up.sat_up s2), fun v H' G' d' n' f' dv p => ?_⟩
    obtain ⟨o3, g3⟩ := Fm.back o1 (.inr rfl) f'
    exact q v H' G' d' n' o3 (g1.trans g3) dv p) xw
end
theorem rNeA_to {K : PySem.W.Frag} {x y : V} {H : Hp} {Q Q' : VK} (h : rNeA K x y H Q') (m : ∀ k, Q' (.bl k) H → Q (.bl k) H) : rNeA K x y H Q := by
  rcases h with ⟨d, e, h1, h2, h3, h4, q⟩ | ⟨k, h1, q⟩ | ⟨h1, q⟩
  · exact .inl ⟨d, e, h1, h2, h3, h4, m _ q⟩
  · exact .inr (.inl ⟨k, h1, m _ q⟩)
  · exact .inr (.inr ⟨h1, m _ q⟩)
section
variable {m : Type → Type} [Mo m] {X : Cx} {EX : XR} {g : List Sl} {a : Expr} {y : Str} {p pos : Pos} {x : m D}
/-- a != xs, xs a list of one's own -/
theorem tj_neOwn (i : Nat) {ds : List D} (hy : Sys X) (hu : X.A.units + 64 < cLine) (ha : EJ X EX a g x) (hg : g[i]? = some (Sl.own ds) := by rfl) (hN : X.N[i]? = some y := by rfl)
    (hv : Vis X.env.scope y := by first | exact Or.inl rfl | exact Or.inr (Or.inl rfl) | exact Or.inr (Or.inr rfl)) (hd : (y == ("__debug__" : Str)) = false := by decide) (hcd : (y == ("__classdict__" : Str)) = false := by decide) (hn : behindInMarks .NotEq (.Name y p) = false := by first | exact nobehind _ (by decide) (by decide) | rfl) :
    TJ X EX (.Compare a [.NotEq] [.Name y p] pos) g (x >>= fun d => Mo.lift ((neD d (.list ds)).bind boolD)) :=
  (pt_cmpR (op_neA hy hu) ha (pe_var hN hv hd hcd) hn).weak fun σ H Q ⟨B, G, n, φ, ξ, o, s, q, xw⟩ => te_one o s (fun v H1 G1 d n1 o1 g1 d1 s1 => by
    obtain ⟨b, eb, pb⟩ := Mo.sat_lift s1
    obtain ⟨z, ez, eb⟩ := Option.bind_eq_some_iff.mp eb
    obtain ⟨f, _, h2⟩ := o1.own
    obtain ⟨hσ, hG, _, xs, hH, da⟩ := h2 i ds hg
    refine ⟨.ref (f i), hσ, ?_⟩
    have sG : Same G1 (upd G1 (f i) (.lst xs)) := fun a u e => by
      rw [upd_ne (fun z => by rw [z, hG] at e; cases e)]
      exact e
    have sub : SubM (upd G1 (f i) (.lst xs)) H1 := ⟨fun a u e hm => by
      by_cases z : a = f i
      · subst z
        rw [upd_same] at e
        cases e
        exact hH
      · rw [upd_ne z] at e
        exact o1.fm.sub.h a u e hm, fun a h => by
      by_cases z : a = f i
      · subst z
        rw [hH] at h
        cases h
      · rw [upd_ne z]
        exact o1.fm.sub.t a h⟩
    have r := rd_ne v (.ref (f i)) d (.list ds) z H1 _ (fun u _ => ∃ k, u = .bl k ∧ z = .bool k) (d1.mono sG) (.lst upd_same (da.mono sG)) sub ez fun u H' G' gr du => by
      cases z with
      | bool k => cases du; exact ⟨_, rfl, rfl⟩
      | _ => cases eb
    refine rNeA_to r fun k ⟨k', e1, e2⟩ => ?_
    cases e1
    subst e2
    cases eb
    exact ⟨_, rfl, q _ H1 G1 n1 o1 g1 pb⟩) xw
end
end DD
namespace DD
open PySem PySem.Spec PyProof.Rows L2
def top (i : Nat) : Stmt := PySem.Challenge.pw_darkdrawers_k32_wishes_called.main.body.getD i (.Pass ⟨0, 0, 0, 0⟩)
abbrev i_BadWish : Stmt := (clsBody (top 11)).getD 0 (.Pass ⟨0, 0, 0, 0⟩)
theorem sci_BadWish : FnScope ["self", "value"] ["self", "value"] (defScope i_BadWish) := ⟨rfl, rfl, rfl, by decide +kernel, rfl, by decide +kernel, by decide +kernel⟩
abbrev i_BadKinds : Stmt := (clsBody (top 10)).getD 0 (.Pass ⟨0, 0, 0, 0⟩)
theorem sci_BadKinds : FnScope ["self", "value"] ["self", "value"] (defScope i_BadKinds) := ⟨rfl, rfl, rfl, by decide +kernel, rfl, by decide +kernel, by decide +kernel⟩
abbrev i_BadHeap : Stmt := (clsBody (top 12)).getD 0 (.Pass ⟨0, 0, 0, 0⟩)
theorem sci_BadHeap : FnScope ["self", "value"] ["self", "value"] (defScope i_BadHeap) := ⟨rfl, rfl, rfl, by decide +kernel, rfl, by decide +kernel, by decide +kernel⟩
abbrev i_BadCounts : Stmt := (clsBody (top 7)).getD 0 (.Pass ⟨0, 0, 0, 0⟩)
theorem sci_BadCounts : FnScope ["self", "value"] ["self", "value"] (defScope i_BadCounts) := ⟨rfl, rfl, rfl, by decide +kernel, rfl, by decide +kernel, by decide +kernel⟩
section
variable {P : Program} {w : World} {K : PySem.W.Frag} {mg : Str → Option Value} {base : Heap}
def absI (i : Int) : Int := if i < 0 then -i else i
abbrev s__law_draws : Stmt := top 29
theorem sc__law_draws : FnScope ["_law_script", "_law_cells", "_law_cell"] ["_law_script"] (defScope s__law_draws) := ⟨rfl, rfl, rfl, by decide +kernel, rfl, by decide +kernel, by decide +kernel⟩
theorem ok__law_draws {f : Addr} {fd : FuncData} (F : Fun K "_law_draws" "_law_draws" s__law_draws f fd) (ma : mg "abs" = none) (mi : mg "int" = none) (mn : mg "len" = none) : FnG P w K mg base 1 f fd ["_law_script"] (spDeckZ K) := by
  have sc := sc__law_draws
  refine fng_of F sc (fun vs H Q E ⟨a, ns, e, _⟩ => by rw [e]; rfl) fun cdv A outer s H vs Q E hr gu ⟨a, ns, e, hS, q⟩ => ?_
  subst e
  refine ⟨_, pss_cons (ps_set (i := 1) sc.nd rfl (by first | exact Or.inl rfl | exact Or.inr rfl)
    (pe_op op_cat (pe_lc (own := [("_law_cell", 2)]) rfl sc.nd (pi_list (pe_slice sl_list (pv 0) po_none (po_some pe_int))) (blk_of (by kernel_rfl)) (fun _ _ _ _ _ => pg_name (i := 2) sc.nd rfl (.inl rfl)) (fun _ _ _ _ _ => pts_nil)
      (fun _ _ _ _ _ => pe_callB call_abs (by rfl) ma (by decide +kernel) (pa_cons (pv 2) pa_nil)))
      (pe_op op_rep (pe_lst (pa_cons pe_int pa_nil)) (pe_callTy call_int1 (by rfl) mi (by decide +kernel) (pa_cons (pe_cmpR op_eq (pe_callB call_len_seq (by rfl) mn PySem.boot_len (pa_cons (pv 0) pa_nil)) pe_int (nomark _)) pa_nil)))))
    (pss_one (ps_ret (pe_lst (pa_cons (pv 1) (pa_cons pe_int (pa_cons (pe_lc (own := [("_law_cell", 2)]) rfl sc.nd (pi_list (pv 1)) (blk_of (by kernel_rfl)) (fun _ _ _ _ _ => pg_name (i := 2) sc.nd rfl (.inl rfl)) (fun _ _ _ _ _ => pts_nil)
      (fun _ _ _ _ _ => pe_op op_mul (pv 2) (pe_callTy call_int1 (by rfl) mi (by decide +kernel) (pa_cons (pe_cmpR op_ge (pv 2) (pe_op op_pow pe_int pe_int) (nomark _)) pa_nil)))) pa_nil)))))), ?_⟩
  refine ⟨.ref a, rfl, 63, rfl, a, _, rfl, hS, fun p hp => ?_⟩
  rw [cut63_eq]
  have smp := same_new hp (.lst ((ns.take 63).map V.int))
  generalize hHp : upd H p (HO.lst ((ns.take 63).map V.int)) = Hp0 at *
  have hpp : Hp0 p = some (.lst ((ns.take 63).map V.int)) := by rw [← hHp, upd_same]
  have e63 : (ns.take 63).length ≤ 63 := by rw [List.length_take]; omega
  generalize hcs0 : ns.take 63 = c0s at *
  refine ⟨p, rfl, ⟨_, SqL.of hpp⟩, fun l hl => ?_⟩
  have hpl : p ≠ l := fun e => by rw [← e, hpp] at hl; cases hl
  refine ⟨fun i m H2 => i ≤ c0s.length ∧ m + i = c0s.length ∧ H2 l = some (.lst (((c0s.take i).map absI).map V.int)) ∧ H2 p = some (.lst (c0s.map V.int)) ∧ Same H H2, ⟨c0s.length, Nat.zero_le _, rfl, upd_same, by rw [upd_ne hpl]; exact hpp, smp.trans (same_new hl _)⟩, ?_⟩
  rintro i m HL ⟨e0, e2, e4, e5, e6⟩
  by_cases hi : i = c0s.length
  · refine .inl ⟨⟨_, SqL.of e5, by rw [List.length_map]; omega⟩, ?_⟩
    rw [hi, List.take_length] at e4
    refine ⟨by show 1 ≤ sizeLine; decide, fun z hz => ?_⟩
    have sm2 := e6.trans (same_new hz (.lst [V.int 0]))
    refine ⟨.ref a, rfl, a, _, rfl, .inl (sm2.seq hS), ?_⟩
    refine ⟨rfl, .inr ⟨_, rfl, ?_⟩⟩
    have hk : (if decide (V.int ((ns.map V.int).length : Nat) = V.int 0) = true then (1 : Int) else 0) = if ns.length = 0 then 1 else 0 := by
      rw [List.length_map]
      by_cases h : ns.length = 0
      · rw [if_pos h, h]; rfl
      · rw [if_neg h, if_neg]
        intro h2
        have := of_decide_eq_true h2
        injection this with this
        omega
    rw [hk]
    have hne_lz : l ≠ z := fun e => by rw [← e, e4] at hz; cases hz
    refine ⟨z, _, [V.int 0], rfl, rfl, upd_same, by split <;> decide, by split <;> decide, by split <;> decide, fun r hr => ?_⟩
    have hrep : (List.replicate (if ns.length = 0 then (1 : Int) else 0).toNat [V.int 0]).flatten = (if ns.length = 0 then [(0 : Int)] else []).map V.int := by
      split <;> rfl
    rw [hrep]
    have hne_lr : l ≠ r := fun e => by rw [← e, upd_ne hne_lz, e4] at hr; cases hr
    have sm3 := sm2.trans (same_new hr (.lst ((if ns.length = 0 then [(0 : Int)] else []).map V.int)))
    refine ⟨l, r, (c0s.map absI).map V.int, (if ns.length = 0 then [(0 : Int)] else []).map V.int, rfl, rfl, by rw [upd_ne hne_lr, upd_ne hne_lz]; exact e4, upd_same, ?_, fun y hy => ?_⟩
    · rw [List.length_map, List.length_map, List.length_map]
      refine line63 ?_
      split <;> simp <;> omega
    have hcs : (c0s.map absI).map V.int ++ (if ns.length = 0 then [(0 : Int)] else []).map V.int = (csOf absI ns).map V.int := by unfold csOf; rw [hcs0, List.map_append]
    rw [hcs]
    have sm4 := sm3.trans (same_new hy (.lst ((csOf absI ns).map V.int)))
    obtain ⟨c0, c64⟩ := csOf_len absI ns
    generalize csOf absI ns = cs at *
    clear e4 e5 e6 e0 e2
    generalize hHH : upd _ y (HO.lst (cs.map V.int)) = HH at *
    have hyy : HH y = some (.lst (cs.map V.int)) := by rw [← hHH, upd_same]
    refine ⟨.ref y, rfl, .ref y, rfl, y, rfl, ⟨_, SqL.of hyy⟩, fun A hA => ?_⟩
    have hyA : y ≠ A := fun e => by rw [← e, hyy] at hA; cases hA
    refine ⟨fun i m H2 => i ≤ cs.length ∧ m + i = cs.length ∧ H2 A = some (.lst (((cs.take i).map big18).map V.int)) ∧ H2 y = some (.lst (cs.map V.int)) ∧ Same H H2, ⟨cs.length, Nat.zero_le _, rfl, upd_same, by rw [upd_ne hyA]; exact hyy, sm4.trans (same_new hA _)⟩, ?_⟩
    rintro i m H2 ⟨e0, e2, e4, e5, e6⟩
    by_cases hi : i = cs.length
    · refine .inl ⟨⟨_, SqL.of e5, by rw [List.length_map]; omega⟩, (by show 3 ≤ sizeLine; decide), fun x hx => ?_⟩
      have hxA : A ≠ x := fun e => by rw [← e, e4] at hx; cases hx
      have hxy : y ≠ x := fun e => by rw [← e, e5] at hx; cases hx
      rw [hi, List.take_length] at e4
      exact q x y A _ cs (cs.map big18) (e6.trans (same_new hx _)) hxy.symm hxA.symm hyA upd_same (by rw [upd_ne hxy]; exact e5) (by rw [upd_ne hxA]; exact e4) (by rw [List.length_map]) c0 c64 fun r hr => by
        obtain ⟨v, _, rfl⟩ := List.mem_map.mp hr
        exact big18_ge v
    · have hi' : i < cs.length := by omega
      refine .inr ⟨⟨_, .int cs[i], SqL.of e5, by rw [List.getElem?_map, List.getElem?_eq_getElem hi']; rfl⟩, fun H' => i + 1 ≤ cs.length ∧ (m - 1) + (i + 1) = cs.length ∧ H' A = some (.lst (((cs.take (i + 1)).map big18).map V.int)) ∧ H' y = some (.lst (cs.map V.int)) ∧ Same H H', fun H' h => ⟨m - 1, by omega, h⟩, ?_⟩
      rintro x H' ⟨rfl, hz'⟩
      have hx := hz' _ (SqL.of e5)
      rw [List.getElem?_map, List.getElem?_eq_getElem hi'] at hx
      cases hx
      refine ⟨by simp [wipe], ?_⟩
      refine ⟨.int cs[i], by simp [wipe, L2.start], .int cs[i], by simp [wipe, L2.start], 10, 18, rfl, rfl, ⟨by decide, by decide, by decide⟩, cs[i], _, rfl, rfl, .inr ⟨_, rfl, cs[i], _, rfl, rfl, .inr (by split <;> decide), ?_⟩⟩
      refine ⟨((cs.take i).map big18).map V.int, e4, ?_, by omega, by omega, ?_, by rw [upd_ne hyA]; exact e5, ?_⟩
      · rw [List.length_map, List.length_map, List.length_take]
        exact Nat.lt_of_lt_of_le (show _ < 1000 by omega) (line63 (Nat.le_refl _))
      · rw [upd_same, List.take_succ, List.getElem?_eq_getElem hi', List.map_append, List.map_append]
        rfl
      · intro b o hb
        by_cases hbA : b = A
        · subst hbA
          have := sm4 _ _ hb
          rw [hA] at this
          cases this
        · rw [upd_ne hbA]
          exact e6 b o hb
  · have hi' : i < c0s.length := by omega
    refine .inr ⟨⟨_, .int c0s[i], SqL.of e5, by rw [List.getElem?_map, List.getElem?_eq_getElem hi']; rfl⟩, fun H' => i + 1 ≤ c0s.length ∧ (m - 1) + (i + 1) = c0s.length ∧ H' l = some (.lst (((c0s.take (i + 1)).map absI).map V.int)) ∧ H' p = some (.lst (c0s.map V.int)) ∧ Same H H', fun H' h => ⟨m - 1, by omega, h⟩, ?_⟩
    rintro x H' ⟨rfl, hz'⟩
    have hx := hz' _ (SqL.of e5)
    rw [List.getElem?_map, List.getElem?_eq_getElem hi'] at hx
    cases hx
    refine ⟨by simp [wipe], ?_⟩
    refine ⟨.int c0s[i], by simp [wipe, L2.start], c0s[i], rfl, ?_⟩
    refine ⟨((c0s.take i).map absI).map V.int, e4, ?_, by omega, by omega, ?_, by rw [upd_ne hpl]; exact e5, ?_⟩
    · rw [List.length_map, List.length_map, List.length_take]
      exact Nat.lt_of_lt_of_le (show _ < 1000 by omega) (line63 (Nat.le_refl _))
    · rw [upd_same, List.take_succ, List.getElem?_eq_getElem hi', List.map_append, List.map_append]
      rfl
    · intro b o hb
      by_cases hbA : b = l
      · subst hbA
        have := smp _ _ hb
        rw [hl] at this
        cases this
      · rw [upd_ne hbA]
        exact e6 b o hb
abbrev s_is_number_stocks : Stmt := top 15
theorem sc_is_number_stocks : FnScope ["value", "low", "high"] ["value", "low", "high"] (defScope s_is_number_stocks) := ⟨rfl, rfl, rfl, by decide +kernel, rfl, by decide +kernel, by decide +kernel⟩
def m_is_number_stocks (p_value p_low p_high : D) : Option D := (andD (isiM "int" (pure p_value)) (andD (op1 notD (isiM "bool" (pure p_value))) (chain3 leD leD (pure p_low) (pure p_value) (pure p_high))))
def M_is_number_stocks : List Sl → Option D := ar3 m_is_number_stocks
theorem ok_is_number_stocks {f : Addr} {fd : FuncData} (F : Fun K "is_number" "is_number" s_is_number_stocks f fd) (hy : SysAt base) (mb_bool : mg "bool" = none) (mb_int : mg "int" = none) (mb_isinstance : mg "isinstance" = none) : FnG P w K mg base 1 f fd ["value", "low", "high"] (spJ K M_is_number_stocks) := by
  have sc := sc_is_number_stocks
  exact fn_ar3 F sc rfl fun p_value p_low p_high cdv A outer s H E hr gu => (fj_ret (ej_and (ej_isi "int" (ej_vk 0) mb_isinstance mb_int) (ej_and (ej_not (ej_isi "bool" (ej_vk 0) mb_isinstance mb_bool)) (ej_one (ej_chain op_le rd_le op_le rd_le (ej_vk 1) (ej_vk 0) (ej_vk 2))))))
abbrev s_contains : Stmt := top 21
theorem sc_contains : FnScope ["counts", "collection", "number", "needed"] ["counts", "collection"] (defScope s_contains) := ⟨rfl, rfl, rfl, by decide +kernel, rfl, by decide +kernel, by decide +kernel⟩
def m_contains (p_counts p_collection : D) : Option D := (op1 allD (lstM (comp2 (zip2M (pure p_counts) (pure p_collection)) (fun c86 c87 => (op2 geD (pure c86) (pure c87))))))
def M_contains : List Sl → Option D := ar2 m_contains
theorem ok_contains {f : Addr} {fd : FuncData} (F : Fun K "contains" "contains" s_contains f fd) (hy : SysAt base) (mb_all : mg "all" = none) (mb_zip : mg "zip" = none) : FnG P w K mg base 1 f fd ["counts", "collection"] (spJ K M_contains) := by
  have sc := sc_contains
  exact fn_ar2 F sc rfl fun p_counts p_collection cdv A outer s H E hr gu => (fj_ret (ej_call1 (cr_all rfl) rc_all mb_all (ej_l (LcP.expr (lj_lc2 [("number", 2), ("needed", 3)] 2 3 sc.nd (ij_zip2 mb_zip (ej_vk 0) (ej_vk 1)) (blk_of (by kernel_rfl)) (fun _ _ _ _ _ => pg_tup rfl (pgs_cons (pg_name (i := 2) sc.nd rfl (by first | exact Or.inl rfl | exact Or.inr rfl)) (pgs_cons (pg_name (i := 3) sc.nd rfl (by first | exact Or.inl rfl | exact Or.inr rfl)) pgs_nil))) (fun _ _ _ _ _ c86 c87 => (ej_cmp op_ge rd_ge (ej_vk 2) (ej_vk 3))))))))
abbrev s_is_number_values : Stmt := top 24
theorem sc_is_number_values : FnScope ["value", "low", "high"] ["value", "low", "high"] (defScope s_is_number_values) := ⟨rfl, rfl, rfl, by decide +kernel, rfl, by decide +kernel, by decide +kernel⟩
def m_is_number_values (p_value p_low p_high : D) : Option D := (andD (isiM "int" (pure p_value)) (andD (op1 notD (isiM "bool" (pure p_value))) (chain3 leD leD (pure p_low) (pure p_value) (pure p_high))))
def M_is_number_values : List Sl → Option D := ar3 m_is_number_values
theorem ok_is_number_values {f : Addr} {fd : FuncData} (F : Fun K "is_number" "is_number" s_is_number_values f fd) (hy : SysAt base) (mb_bool : mg "bool" = none) (mb_int : mg "int" = none) (mb_isinstance : mg "isinstance" = none) : FnG P w K mg base 1 f fd ["value", "low", "high"] (spJ K M_is_number_values) := by
  have sc := sc_is_number_values
  exact fn_ar3 F sc rfl fun p_value p_low p_high cdv A outer s H E hr gu => (fj_ret (ej_and (ej_isi "int" (ej_vk 0) mb_isinstance mb_int) (ej_and (ej_not (ej_isi "bool" (ej_vk 0) mb_isinstance mb_bool)) (ej_one (ej_chain op_le rd_le op_le rd_le (ej_vk 1) (ej_vk 0) (ej_vk 2))))))
abbrev s_Heap____eq__ : Stmt := (clsBody (top 26)).getD 8 (.Pass ⟨0, 0, 0, 0⟩)
theorem sc_Heap____eq__ : FnScope ["self", "other"] ["self", "other"] (defScope s_Heap____eq__) := ⟨rfl, rfl, rfl, by decide +kernel, rfl, by decide +kernel, by decide +kernel⟩
def m_Heap____eq__ (p_self p_other : D) : Option D := (andD ((pure p_other) >>= fun d => Mo.lift (isOf "Heap" d)) (op2 eqD ((pure p_self) >>= fun d => Mo.lift (fldD "Heap" "things" d)) ((pure p_other) >>= fun d => Mo.lift (fldD "Heap" "things" d))))
def M_Heap____eq__ : List Sl → Option D := ar2 m_Heap____eq__
theorem ok_Heap____eq__ {f : Addr} {fd : FuncData} (F : Fun K "__eq__" "Heap.__eq__" s_Heap____eq__ f fd) (hy : SysAt base) (hn_Heap_things : HasNo K "Heap" "things") (ic_Heap : IsC K mg "Heap") (mb_isinstance : mg "isinstance" = none) : FnG P w K mg base 1 f fd ["self", "other"] (spJ K M_Heap____eq__) := by
  have sc := sc_Heap____eq__
  exact fn_ar2 F sc rfl fun p_self p_other cdv A outer s H E hr gu => (fj_ret (ej_and (ej_isO ic_Heap (ej_vk 1) mb_isinstance) (ej_one (ej_cmp (by exact op_eqA hy (units_of hr)) rd_eq (ej_fldD hn_Heap_things (ej_vk 0)) (ej_fldD hn_Heap_things (ej_vk 1))))))
theorem okh_Heap____eq__ {f : Addr} {fd : FuncData} (F : Fun K "__eq__" "Heap.__eq__" s_Heap____eq__ f fd) (hy : SysAt base) (hn_Heap_things : HasNo K "Heap" "things") (ic_Heap : IsC K mg "Heap") (mb_isinstance : mg "isinstance" = none) : FnGH P w K mg base 1 f fd ["self", "other"] (spJ K M_Heap____eq__) := by
  have sc := sc_Heap____eq__
  exact fngh_ar2 F sc rfl fun p_self p_other a oe cdv A outer s H E hr gu => (fj_ret (ej_and (ej_isO ic_Heap (ej_vk 1) mb_isinstance) (ej_one (ej_cmp (by exact op_eqA hy (unitsH hr)) rd_eq (ej_fldD hn_Heap_things (ej_vk 0)) (ej_fldD hn_Heap_things (ej_vk 1))))))
abbrev s_Wish__asked : Stmt := (clsBody (top 27)).getD 1 (.Pass ⟨0, 0, 0, 0⟩)
theorem sc_Wish__asked : FnScope ["self"] ["self"] (defScope s_Wish__asked) := ⟨rfl, rfl, rfl, by decide +kernel, rfl, by decide +kernel, by decide +kernel⟩
def m_Wish__asked (p_self : D) : Z D := ((pure p_self) >>= fun d => OverZ.up (attrZ "Wish" "many" d))
def M_Wish__asked : List Sl → Z D := ar1 m_Wish__asked
theorem ok_Wish__asked {f : Addr} {fd : FuncData} (F : Fun K "asked" "Wish.asked" s_Wish__asked f fd) (hy : SysAt base) (hn_Wish_many : HasNo K "Wish" "many") : FnG P w K mg base 1 f fd ["self"] (spJ K M_Wish__asked) := by
  have sc := sc_Wish__asked
  exact fn_ar1 F sc rfl fun p_self cdv A outer s H E hr gu => (fj_ret (ej_attrZ hn_Wish_many (ej_vk 0)))
abbrev s__law_next : Stmt := top 30
theorem sc__law_next : FnScope ["_law_state", "_law_many", "_law_cells", "_law_count", "_law_rests", "_law_index", "_law_digit", "_law_mixed"] ["_law_state", "_law_many"] (defScope s__law_next) := ⟨rfl, rfl, rfl, by decide +kernel, rfl, by decide +kernel, by decide +kernel⟩
def m__law_next (p_deck p_many : D) : Z D := (((pure p_deck) >>= fun d => tripZ d) >>= fun v88 => ((op2 modD (pure v88.2.1) ((pure v88.1) >>= fun d => lenZ d)) >>= fun v89 => (((op2 addD (pure v88.2.1) (pure (.int 1))) >>= fun v => (pure p_deck) >>= fun d => (pure (.int 1)) >>= fun j => setZ d j v) >>= fun v90 => (iteM (cmp2 gtD ((pure v88.2.2) >>= fun d => (pure v89) >>= fun j => ixZ d j) (pure (.int 0))) ((op2 modD ((pure v88.2.2) >>= fun d => (pure v89) >>= fun j => ixZ d j) (pure p_many)) >>= fun v91 => (((op2 divD ((pure v88.2.2) >>= fun d => (pure v89) >>= fun j => ixZ d j) (pure p_many)) >>= fun v => (pure v88.2.2) >>= fun d => (pure v89) >>= fun j => setZ d j v) >>= fun v92 => (pure v91))) ((op2 modD (op2 powD (op2 addD (op2 addD (op2 modD ((pure v88.1) >>= fun d => (pure v89) >>= fun j => ixZ d j) (pure (.int 2147483629))) (op2 mulD (pure (.int 40037)) (pure v88.2.1))) (pure (.int 9203))) (pure (.int 3))) (pure (.int 2147483587))) >>= fun v93 => ((op2 modD (op2 powD (op2 addD (op2 addD (pure v93) (op2 mulD (op2 mulD (pure (.int 5039)) (pure v88.2.1)) (pure v88.2.1))) (pure (.int 43))) (pure (.int 3))) (pure (.int 2147483563))) >>= fun v94 => (op2 modD (op2 divD (op2 modD (op2 mulD (pure v94) (pure (.int 65537))) (pure (.int 2305843009213693951))) (pure (.int 8))) (pure p_many))))))))
def M__law_next : List Sl → Z D := ar2 m__law_next
theorem ok__law_next {f : Addr} {fd : FuncData} (F : Fun K "_law_next" "_law_next" s__law_next f fd) (hy : SysAt base) (mb_len : mg "len" = none) : FnG P w K mg base 1 f fd ["_law_state", "_law_many"] (spJ K M__law_next) := by
  have sc := sc__law_next
  exact fn_ar2 F sc rfl fun p_deck p_many cdv A outer s H E hr gu => (fj_seq (sj_unp3Z 2 3 4 (ej_vk 0) (pg_tup rfl (pgs_cons (pg_name (i := 2) sc.nd rfl (by first | exact Or.inl rfl | exact Or.inr rfl)) (pgs_cons (pg_name (i := 3) sc.nd rfl (by first | exact Or.inl rfl | exact Or.inr rfl)) (pgs_cons (pg_name (i := 4) sc.nd rfl (by first | exact Or.inl rfl | exact Or.inr rfl)) pgs_nil)))) (pg_unl rfl (pgs_cons (pg_name (i := 2) sc.nd rfl (by first | exact Or.inl rfl | exact Or.inr rfl)) (pgs_cons (pg_name (i := 3) sc.nd rfl (by first | exact Or.inl rfl | exact Or.inr rfl)) (pgs_cons (pg_name (i := 4) sc.nd rfl (by first | exact Or.inl rfl | exact Or.inr rfl)) pgs_nil))))) (fun v88 => (fj_seq (sj_set 5 sc.nd (ej_bin op_mod rd_mod (ej_vk 3) (ej_lenZ mb_len (ej_vk 2)))) (fun v89 => (fj_seq (sj_putZ (ej_bin op_addD rd_add (ej_vk 3) ej_int) (ej_vk 0) ej_int) (fun v90 => (fj_ifr (tj_cmp op_gt rd_gt (ej_ixZ (ej_vk 4) (ej_vk 5) (fun _ _ => rfl)) ej_int) (fj_seq (sj_set 6 sc.nd (ej_bin op_mod rd_mod (ej_ixZ (ej_vk 4) (ej_vk 5) (fun _ _ => rfl)) (ej_vk 1))) (fun v91 => (fj_seq (sj_putZ (ej_bin op_fdiv rd_div (ej_ixZ (ej_vk 4) (ej_vk 5) (fun _ _ => rfl)) (ej_vk 1)) (ej_vk 4) (ej_vk 5)) (fun v92 => (fj_ret (ej_vk 6)))))) (fj_seq (sj_set 7 sc.nd (ej_bin op_mod rd_mod (ej_bin op_pow rd_pow (ej_bin op_addD rd_add (ej_bin op_addD rd_add (ej_bin op_mod rd_mod (ej_ixZ (ej_vk 2) (ej_vk 5) (fun _ _ => rfl)) ej_int) (ej_bin op_mulD rd_mul ej_int (ej_vk 3))) ej_int) ej_int) ej_int)) (fun v93 => (fj_seq (sj_set 7 sc.nd (ej_bin op_mod rd_mod (ej_bin op_pow rd_pow (ej_bin op_addD rd_add (ej_bin op_addD rd_add (ej_vk 7) (ej_bin op_mulD rd_mul (ej_bin op_mulD rd_mul ej_int (ej_vk 3)) (ej_vk 3))) ej_int) ej_int) ej_int)) (fun v94 => (fj_ret (ej_bin op_mod rd_mod (ej_bin op_fdiv rd_div (ej_bin op_mod rd_mod (ej_bin op_mulD rd_mul (ej_vk 7) ej_int) ej_int) ej_int) (ej_vk 1))))))))))))))
abbrev s__law_fulfilled : Stmt := top 32
theorem sc__law_fulfilled : FnScope ["_law_collections_here", "_law_counts", "_law_index", "_law_need", "_law_many"] ["_law_collections_here", "_law_counts"] (defScope s__law_fulfilled) := ⟨rfl, rfl, rfl, by decide +kernel, rfl, by decide +kernel, by decide +kernel⟩
def m__law_fulfilled (p_collections_here p_counts : D) : Option D := (forM1 (rng1 (op1 lenD (pure p_collections_here))) () (fun x96 (a95 : Unit) => (iteM (cmp2 eqD (lstM (comp2i (zip2M (op2 getD (pure p_collections_here) (pure x96)) (pure p_counts)) (fun c97 c98 => (cmp2 gtD (pure c97) (pure c98))) (fun c97 c98 => (pure (.int 1))))) (lstM (pure []))) (rtM (pure x96)) (pure (.nx ())))) >>= fun f => thenM f fun (a99 : Unit) => (pure PyData.none))
def M__law_fulfilled : List Sl → Option D := ar2 m__law_fulfilled
theorem ok__law_fulfilled {f : Addr} {fd : FuncData} (F : Fun K "_law_fulfilled" "_law_fulfilled" s__law_fulfilled f fd) (hy : SysAt base) (mb_len : mg "len" = none) (mb_range : mg "range" = none) (mb_zip : mg "zip" = none) : FnG P w K mg base 1 f fd ["_law_collections_here", "_law_counts"] (spJ K M__law_fulfilled) := by
  have sc := sc__law_fulfilled
  exact fn_ar2 F sc rfl fun p_collections_here p_counts cdv A outer s H E hr gu => (fj_of_for (for1 2 (P := fun (a95 : Unit) => [.val p_collections_here, .val p_counts, .any, .any, .any]) (a0 := ()) PassesOwn.never (ij_range1 mb_range (ej_call1 call_lenD' rc_len mb_len (ej_vk 0))) (pg_name (i := 2) sc.nd rfl (by first | exact Or.inl rfl | exact Or.inr rfl)) (fun x96 a95 => (bj_ifr (tj_cmp (by exact op_eqA hy (units_of hr)) rd_eq (ej_l (LcP.expr (lj_lc2i [("_law_need", 3), ("_law_many", 4)] 3 4 sc.nd (ij_zip2 mb_zip (ej_ix ix_seq rd_ix (ej_vk 0) (ej_vk 2) (fun _ _ => rfl)) (ej_vk 1)) (blk_of (by kernel_rfl)) (fun _ _ _ _ _ => pg_tup rfl (pgs_cons (pg_name (i := 3) sc.nd rfl (by first | exact Or.inl rfl | exact Or.inr rfl)) (pgs_cons (pg_name (i := 4) sc.nd rfl (by first | exact Or.inl rfl | exact Or.inr rfl)) pgs_nil))) (fun _ _ _ _ _ c97 c98 => (tj_cmp op_gt rd_gt (ej_vk 3) (ej_vk 4))) (fun _ _ _ _ _ c97 c98 => ej_int)))) (ej_l (lj_lst dj_nil))) (fj_ret (ej_vk 2)) (bj_nil (a := ()) ⟨.inr rfl, .inr rfl, .inl rfl, .inl rfl, .inl rfl, trivial⟩))) ⟨.inr rfl, .inr rfl, .inl rfl, .inl rfl, .inl rfl, trivial⟩) (fun a99 => (fj_ret ej_non)))
abbrev s__law_word : Stmt := top 34
theorem sc__law_word : FnScope ["_law_error", "_law_flags"] ["_law_error"] (defScope s__law_word) := ⟨rfl, rfl, rfl, by decide +kernel, rfl, by decide +kernel, by decide +kernel⟩
def ME__law_word (e : Exn) : Option D := (exc1 "BadWish" "value" e (fun f104 => ((lstM (consM (pure (.bool false)) (consM (pure (.bool true)) (consM (pure (.bool false)) (pure []))))) >>= fun v105 => (iteM (orB (cmp2 neD ((pure v105) >>= fun d => Mo.lift (listO d) >>= fun ds => (pure (.bool true)) >>= fun e => Mo.lift (countD (.list ds) e)) (pure (.int 1))) (tst (pure (.bool false)))) (lstM (consM (pure (.str "other")) (pure []))) (lstM (consM (op2 getD (lstM (consM (pure (.str "kinds")) (consM (pure (.str "wish")) (consM (pure (.str "heap")) (pure []))))) ((pure v105) >>= fun d => Mo.lift (listO d) >>= fun ds => (pure (.bool true)) >>= fun e => Mo.lift (indexB (.list ds) e))) (consM (pure f104) (pure []))))))) (exc1 "BadKinds" "value" e (fun f102 => ((lstM (consM (pure (.bool true)) (consM (pure (.bool false)) (consM (pure (.bool false)) (pure []))))) >>= fun v103 => (iteM (orB (cmp2 neD ((pure v103) >>= fun d => Mo.lift (listO d) >>= fun ds => (pure (.bool true)) >>= fun e => Mo.lift (countD (.list ds) e)) (pure (.int 1))) (tst (pure (.bool false)))) (lstM (consM (pure (.str "other")) (pure []))) (lstM (consM (op2 getD (lstM (consM (pure (.str "kinds")) (consM (pure (.str "wish")) (consM (pure (.str "heap")) (pure []))))) ((pure v103) >>= fun d => Mo.lift (listO d) >>= fun ds => (pure (.bool true)) >>= fun e => Mo.lift (indexB (.list ds) e))) (consM (pure f102) (pure []))))))) (exc1 "BadHeap" "value" e (fun f100 => ((lstM (consM (pure (.bool false)) (consM (pure (.bool false)) (consM (pure (.bool true)) (pure []))))) >>= fun v101 => (iteM (orB (cmp2 neD ((pure v101) >>= fun d => Mo.lift (listO d) >>= fun ds => (pure (.bool true)) >>= fun e => Mo.lift (countD (.list ds) e)) (pure (.int 1))) (tst (pure (.bool false)))) (lstM (consM (pure (.str "other")) (pure []))) (lstM (consM (op2 getD (lstM (consM (pure (.str "kinds")) (consM (pure (.str "wish")) (consM (pure (.str "heap")) (pure []))))) ((pure v101) >>= fun d => Mo.lift (listO d) >>= fun ds => (pure (.bool true)) >>= fun e => Mo.lift (indexB (.list ds) e))) (consM (pure f100) (pure []))))))) (Mo.lift none))))
theorem oke__law_word {f : Addr} {fd : FuncData} (F : Fun K "_law_word" "_law_word" s__law_word f fd) (hy : SysAt base) {c_BadCounts c_BadHeap c_BadKinds c_BadWish c_OtherKinds : Addr} (er_BadHeap : ErK K c_BadHeap) (er_BadKinds : ErK K c_BadKinds) (er_BadWish : ErK K c_BadWish) (kit_BadHeap_BadCounts_OtherKinds_LookupError : PySem.W.kitAny K (.ref c_BadHeap) [(.ref c_BadCounts), (.ref c_OtherKinds), (.type "LookupError")] = some false) (kit_BadHeap_BadHeap : PySem.W.kitOne K (.ref c_BadHeap) (.ref c_BadHeap) = some true) (kit_BadHeap_BadKinds : PySem.W.kitOne K (.ref c_BadHeap) (.ref c_BadKinds) = some false) (kit_BadHeap_BadWish : PySem.W.kitOne K (.ref c_BadHeap) (.ref c_BadWish) = some false) (kit_BadKinds_BadCounts_OtherKinds_LookupError : PySem.W.kitAny K (.ref c_BadKinds) [(.ref c_BadCounts), (.ref c_OtherKinds), (.type "LookupError")] = some false) (kit_BadKinds_BadHeap : PySem.W.kitOne K (.ref c_BadKinds) (.ref c_BadHeap) = some false) (kit_BadKinds_BadKinds : PySem.W.kitOne K (.ref c_BadKinds) (.ref c_BadKinds) = some true) (kit_BadKinds_BadWish : PySem.W.kitOne K (.ref c_BadKinds) (.ref c_BadWish) = some false) (kit_BadWish_BadCounts_OtherKinds_LookupError : PySem.W.kitAny K (.ref c_BadWish) [(.ref c_BadCounts), (.ref c_OtherKinds), (.type "LookupError")] = some false) (kit_BadWish_BadHeap : PySem.W.kitOne K (.ref c_BadWish) (.ref c_BadHeap) = some false) (kit_BadWish_BadKinds : PySem.W.kitOne K (.ref c_BadWish) (.ref c_BadKinds) = some false) (kit_BadWish_BadWish : PySem.W.kitOne K (.ref c_BadWish) (.ref c_BadWish) = some true) (mC_BadCounts : mg "BadCounts" = some (.ref c_BadCounts)) (mC_BadHeap : mg "BadHeap" = some (.ref c_BadHeap)) (mC_BadKinds : mg "BadKinds" = some (.ref c_BadKinds)) (mC_BadWish : mg "BadWish" = some (.ref c_BadWish)) (mC_OtherKinds : mg "OtherKinds" = some (.ref c_OtherKinds)) (no_BadHeap_value : PySem.W.findIn K (.ref c_BadHeap) "value" = some none) (no_BadKinds_value : PySem.W.findIn K (.ref c_BadKinds) "value" = some none) (no_BadWish_value : PySem.W.findIn K (.ref c_BadWish) "value" = some none) (mb_LookupError : mg "LookupError" = none) (mb_isinstance : mg "isinstance" = none) : FnE P w K mg base 1 f fd ["_law_error"] ME__law_word := by
  have sc := sc__law_word
  exact fne_j F sc rfl fun e a oe od C cdv A outer s H E hh hr gu => (fsuite1 hh mC_BadWish (fun f104 hh => (fj_seq (sj_set 1 sc.nd (ej_l (lj_lst (dj_cons (by exact ej_isX 0 hh er_BadWish kit_BadWish_BadKinds ⟨rfl, by decide, .inl mC_BadKinds⟩ (ClsV.ofC _) mb_isinstance) (dj_cons (by exact ej_isX 0 hh er_BadWish kit_BadWish_BadWish ⟨rfl, by decide, .inl mC_BadWish⟩ (ClsV.ofC _) mb_isinstance) (dj_cons (by exact ej_isX 0 hh er_BadWish kit_BadWish_BadHeap ⟨rfl, by decide, .inl mC_BadHeap⟩ (ClsV.ofC _) mb_isinstance) dj_nil)))))) (fun v105 => (fj_ifr (tj_w (wj_or (tj_cmp (by exact op_neA hy (unitsH hr)) rd_ne (ej_count (ej_vk 1) ej_bl) ej_int) (wj_or1 (tj_val (ej_isXT 0 hh er_BadWish kit_BadWish_BadCounts_OtherKinds_LookupError (.cons ⟨rfl, by decide, .inl mC_BadCounts⟩ (ClsV.ofC _) rfl (.cons ⟨rfl, by decide, .inl mC_OtherKinds⟩ (ClsV.ofC _) rfl (.cons ⟨rfl, by decide, .inr ⟨mb_LookupError, by decide +kernel, by decide⟩⟩ (ClsV.ofT _) rfl .nil))) mb_isinstance))))) (fj_ret (ej_l (lj_lst (dj_cons ej_str dj_nil)))) (fj_ret (ej_l (lj_lst (dj_cons (ej_ix ix_seq rd_ix (ej_l (lj_lst (dj_cons ej_str (dj_cons ej_str (dj_cons ej_str dj_nil))))) (ej_indexB (ej_vk 1) ej_bl) (fun _ _ => rfl)) (dj_cons (ej_xf 0 hh er_BadWish no_BadWish_value) dj_nil))))))))) (fsuite1 hh mC_BadKinds (fun f102 hh => (fj_seq (sj_set 1 sc.nd (ej_l (lj_lst (dj_cons (by exact ej_isX 0 hh er_BadKinds kit_BadKinds_BadKinds ⟨rfl, by decide, .inl mC_BadKinds⟩ (ClsV.ofC _) mb_isinstance) (dj_cons (by exact ej_isX 0 hh er_BadKinds kit_BadKinds_BadWish ⟨rfl, by decide, .inl mC_BadWish⟩ (ClsV.ofC _) mb_isinstance) (dj_cons (by exact ej_isX 0 hh er_BadKinds kit_BadKinds_BadHeap ⟨rfl, by decide, .inl mC_BadHeap⟩ (ClsV.ofC _) mb_isinstance) dj_nil)))))) (fun v103 => (fj_ifr (tj_w (wj_or (tj_cmp (by exact op_neA hy (unitsH hr)) rd_ne (ej_count (ej_vk 1) ej_bl) ej_int) (wj_or1 (tj_val (ej_isXT 0 hh er_BadKinds kit_BadKinds_BadCounts_OtherKinds_LookupError (.cons ⟨rfl, by decide, .inl mC_BadCounts⟩ (ClsV.ofC _) rfl (.cons ⟨rfl, by decide, .inl mC_OtherKinds⟩ (ClsV.ofC _) rfl (.cons ⟨rfl, by decide, .inr ⟨mb_LookupError, by decide +kernel, by decide⟩⟩ (ClsV.ofT _) rfl .nil))) mb_isinstance))))) (fj_ret (ej_l (lj_lst (dj_cons ej_str dj_nil)))) (fj_ret (ej_l (lj_lst (dj_cons (ej_ix ix_seq rd_ix (ej_l (lj_lst (dj_cons ej_str (dj_cons ej_str (dj_cons ej_str dj_nil))))) (ej_indexB (ej_vk 1) ej_bl) (fun _ _ => rfl)) (dj_cons (ej_xf 0 hh er_BadKinds no_BadKinds_value) dj_nil))))))))) (fsuite1 hh mC_BadHeap (fun f100 hh => (fj_seq (sj_set 1 sc.nd (ej_l (lj_lst (dj_cons (by exact ej_isX 0 hh er_BadHeap kit_BadHeap_BadKinds ⟨rfl, by decide, .inl mC_BadKinds⟩ (ClsV.ofC _) mb_isinstance) (dj_cons (by exact ej_isX 0 hh er_BadHeap kit_BadHeap_BadWish ⟨rfl, by decide, .inl mC_BadWish⟩ (ClsV.ofC _) mb_isinstance) (dj_cons (by exact ej_isX 0 hh er_BadHeap kit_BadHeap_BadHeap ⟨rfl, by decide, .inl mC_BadHeap⟩ (ClsV.ofC _) mb_isinstance) dj_nil)))))) (fun v101 => (fj_ifr (tj_w (wj_or (tj_cmp (by exact op_neA hy (unitsH hr)) rd_ne (ej_count (ej_vk 1) ej_bl) ej_int) (wj_or1 (tj_val (ej_isXT 0 hh er_BadHeap kit_BadHeap_BadCounts_OtherKinds_LookupError (.cons ⟨rfl, by decide, .inl mC_BadCounts⟩ (ClsV.ofC _) rfl (.cons ⟨rfl, by decide, .inl mC_OtherKinds⟩ (ClsV.ofC _) rfl (.cons ⟨rfl, by decide, .inr ⟨mb_LookupError, by decide +kernel, by decide⟩⟩ (ClsV.ofT _) rfl .nil))) mb_isinstance))))) (fj_ret (ej_l (lj_lst (dj_cons ej_str dj_nil)))) (fj_ret (ej_l (lj_lst (dj_cons (ej_ix ix_seq rd_ix (ej_l (lj_lst (dj_cons ej_str (dj_cons ej_str (dj_cons ej_str dj_nil))))) (ej_indexB (ej_vk 1) ej_bl) (fun _ _ => rfl)) (dj_cons (ej_xf 0 hh er_BadHeap no_BadHeap_value) dj_nil))))))))) fj_dead)))
abbrev s__law_are_collections : Stmt := top 37
theorem sc__law_are_collections : FnScope ["_law_kinds", "_law_value", "_law_needed", "_law_one"] ["_law_kinds", "_law_value"] (defScope s__law_are_collections) := ⟨rfl, rfl, rfl, by decide +kernel, rfl, by decide +kernel, by decide +kernel⟩
def m__law_are_collections (p_kinds p_value : D) : Option D := (iteM (orB (notB (tst (isiM "tuple" (pure p_value)))) (notB (tst (chain3 ltD ltD (pure (.int 0)) (op1 lenD (pure p_value)) (pure (.int 5)))))) (pure (.bool false)) (forM1 (seqM (pure p_value)) () (fun x107 (a106 : Unit) => (iteM (orB (notB (tst (isiM "tuple" (pure x107)))) (cmp2 neD (op1 lenD (pure x107)) (pure p_kinds))) (rtM (pure (.bool false))) (forM1 (seqM (pure x107)) () (fun x109 (a108 : Unit) => (iteM (orB (tst (isiM "bool" (pure x109))) (orB (notB (tst (isiM "int" (pure x109)))) (notB (tst (chain3 leD leD (pure (.int 0)) (pure x109) (pure (.int 50))))))) (rtM (pure (.bool false))) (pure (.nx ())))) >>= fun f => thenB f fun (a110 : Unit) => (iteM (cmp2 eqD (pure x107) (op2 mulD (tupM (consM (pure (.int 0)) (pure []))) (pure p_kinds))) (rtM (pure (.bool false))) (pure (.nx ())))))) >>= fun f => thenM f fun (a111 : Unit) => (pure (.bool true))))
def M__law_are_collections : List Sl → Option D := ar2 m__law_are_collections
theorem ok__law_are_collections {f : Addr} {fd : FuncData} (F : Fun K "_law_are_collections" "_law_are_collections" s__law_are_collections f fd) (hy : SysAt base) (mb_bool : mg "bool" = none) (mb_int : mg "int" = none) (mb_isinstance : mg "isinstance" = none) (mb_len : mg "len" = none) (mb_tuple : mg "tuple" = none) : FnG P w K mg base 1 f fd ["_law_kinds", "_law_value"] (spJ K M__law_are_collections) := by
  have sc := sc__law_are_collections
  exact fn_ar2 F sc rfl fun p_kinds p_value cdv A outer s H E hr gu => (fj_ifr (tj_w (wj_or (tj_not (tj_val (ej_isi "tuple" (ej_vk 1) mb_isinstance mb_tuple))) (wj_or1 (tj_not (tj_chain op_lt rd_lt op_lt rd_lt ej_int (ej_call1 call_lenD' rc_len mb_len (ej_vk 1)) ej_int))))) (fj_ret ej_bl) (fj_of_for (for1 2 (P := fun (a106 : Unit) => [.val p_kinds, .val p_value, .any, .any]) (a0 := ()) PassesOwn.never (ij_seq (ej_vk 1)) (pg_name (i := 2) sc.nd rfl (by first | exact Or.inl rfl | exact Or.inr rfl)) (fun x107 a106 => (bj_ifr (tj_w (wj_or (tj_not (tj_val (ej_isi "tuple" (ej_vk 2) mb_isinstance mb_tuple))) (wj_or1 (tj_cmp (by exact op_neA hy (units_of hr)) rd_ne (ej_call1 call_lenD' rc_len mb_len (ej_vk 2)) (ej_vk 0))))) (fj_ret ej_bl) (bj_of_for (for1 3 (P := fun (a108 : Unit) => [.val p_kinds, .val p_value, .val x107, .any]) (a0 := ()) PassesOwn.never (ij_seq (ej_vk 2)) (pg_name (i := 3) sc.nd rfl (by first | exact Or.inl rfl | exact Or.inr rfl)) (fun x109 a108 => (bj_ifr (tj_w (wj_or (tj_val (ej_isi "bool" (ej_vk 3) mb_isinstance mb_bool)) (wj_or (tj_not (tj_val (ej_isi "int" (ej_vk 3) mb_isinstance mb_int))) (wj_or1 (tj_not (tj_chain op_le rd_le op_le rd_le ej_int (ej_vk 3) ej_int)))))) (fj_ret ej_bl) (bj_nil (a := ()) ⟨.inr rfl, .inr rfl, .inr rfl, .inl rfl, trivial⟩))) ⟨.inr rfl, .inr rfl, .inr rfl, .inl rfl, trivial⟩) (fun a110 => (bj_ifr (tj_cmp (by exact op_eqA hy (units_of hr)) rd_eq (ej_vk 2) (ej_bin op_mulD rd_mul (ej_tup (dj_cons ej_int dj_nil)) (ej_vk 0))) (fj_ret ej_bl) (bj_nil (a := ()) ⟨.inr rfl, .inr rfl, .inl rfl, .inl rfl, trivial⟩)))))) ⟨.inr rfl, .inr rfl, .inl rfl, .inl rfl, trivial⟩) (fun a111 => (fj_ret ej_bl))))
abbrev s_are_numbers : Stmt := top 17
theorem sc_are_numbers : FnScope ["value", "count", "high", "number"] ["value", "count", "high"] (defScope s_are_numbers) := ⟨rfl, rfl, rfl, by decide +kernel, rfl, by decide +kernel, by decide +kernel⟩
def m_are_numbers (p_value p_count p_high : D) : Option D := (iteM (orB (notB (tst (isiM "tuple" (pure p_value)))) (cmp2 neD (op1 lenD (pure p_value)) (pure p_count))) (pure (.bool false)) (op1 allD (lstM (comp1 (seqM (pure p_value)) (fun c112 => ((argV (pure c112) (argV (pure (.int 0)) (argV (pure p_high) (pure [])))) >>= M_is_number_stocks))))))
def M_are_numbers : List Sl → Option D := ar3 m_are_numbers
theorem ok_are_numbers {f : Addr} {fd : FuncData} (F : Fun K "are_numbers" "are_numbers" s_are_numbers f fd) (hy : SysAt base) (d_is_number_stocks : Def P w K mg base 1 "is_number_stocks" ["value", "low", "high"] (spJ K M_is_number_stocks)) (mb_all : mg "all" = none) (mb_isinstance : mg "isinstance" = none) (mb_len : mg "len" = none) (mb_tuple : mg "tuple" = none) : FnG P w K mg base 2 f fd ["value", "count", "high"] (spJ K M_are_numbers) := by
  have sc := sc_are_numbers
  exact fn_ar3 F sc rfl fun p_value p_count p_high cdv A outer s H E hr gu => (fj_ifr (tj_w (wj_or (tj_not (tj_val (ej_isi "tuple" (ej_vk 0) mb_isinstance mb_tuple))) (wj_or1 (tj_cmp (by exact op_neA hy (units_of hr)) rd_ne (ej_call1 call_lenD' rc_len mb_len (ej_vk 0)) (ej_vk 1))))) (fj_ret ej_bl) (fj_ret (ej_call1 (cr_all rfl) rc_all mb_all (ej_l (LcP.expr (lj_lc1 [("number", 3)] 3 sc.nd (ij_seq (ej_vk 0)) (blk_of (by kernel_rfl)) (fun _ _ _ _ _ => pg_name (i := 3) sc.nd rfl (by first | exact Or.inl rfl | exact Or.inr rfl)) (fun _ _ _ _ _ c112 => (ej_callD d_is_number_stocks (hr.mono (by decide)) gu (aj_cons (ej_vk 3) (aj_cons ej_int (aj_cons (ej_vk 2) aj_nil)))))))))))
abbrev s_fulfilled_by : Stmt := top 22
theorem sc_fulfilled_by : FnScope ["collections", "counts", "index", "collection"] ["collections", "counts"] (defScope s_fulfilled_by) := ⟨rfl, rfl, rfl, by decide +kernel, rfl, by decide +kernel, by decide +kernel⟩
def m_fulfilled_by (p_collections p_counts : D) : Option D := (forM2 (enumM (pure p_collections)) () (fun x114 x115 (a113 : Unit) => (iteM (tst ((argV (pure p_counts) (argV (pure x115) (pure []))) >>= M_contains)) (rtM (pure x114)) (pure (.nx ())))) >>= fun f => thenM f fun (a116 : Unit) => (pure PyData.none))
def M_fulfilled_by : List Sl → Option D := ar2 m_fulfilled_by
theorem ok_fulfilled_by {f : Addr} {fd : FuncData} (F : Fun K "fulfilled_by" "fulfilled_by" s_fulfilled_by f fd) (hy : SysAt base) (d_contains : Def P w K mg base 1 "contains" ["counts", "collection"] (spJ K M_contains)) (mb_enumerate : mg "enumerate" = none) : FnG P w K mg base 2 f fd ["collections", "counts"] (spJ K M_fulfilled_by) := by
  have sc := sc_fulfilled_by
  exact fn_ar2 F sc rfl fun p_collections p_counts cdv A outer s H E hr gu => (fj_of_for (for2 2 3 (P := fun (a113 : Unit) => [.val p_collections, .val p_counts, .any, .any]) (a0 := ()) PassesOwn.never (ij_enum mb_enumerate (ej_vk 0)) (pg_tup rfl (pgs_cons (pg_name (i := 2) sc.nd rfl (by first | exact Or.inl rfl | exact Or.inr rfl)) (pgs_cons (pg_name (i := 3) sc.nd rfl (by first | exact Or.inl rfl | exact Or.inr rfl)) pgs_nil))) (fun x114 x115 a113 => (bj_ifr (tj_val (ej_callD d_contains (hr.mono (by decide)) gu (aj_cons (ej_vk 1) (aj_cons (ej_vk 3) aj_nil)))) (fj_ret (ej_vk 2)) (bj_nil (a := ()) ⟨.inr rfl, .inr rfl, .inl rfl, .inl rfl, trivial⟩))) ⟨.inr rfl, .inr rfl, .inl rfl, .inl rfl, trivial⟩) (fun a116 => (fj_ret ej_non)))
abbrev s__law_collections : Stmt := top 31
theorem sc__law_collections : FnScope ["_law_state", "_law_kinds", "_law_most", "_law_found", "_law_k", "_law_needed", "_law_spot", "_law_kind"] ["_law_state", "_law_kinds", "_law_most"] (defScope s__law_collections) := ⟨rfl, rfl, rfl, by decide +kernel, rfl, by decide +kernel, by decide +kernel⟩
def m__law_collections (p_deck p_kinds p_most : D) : Z D := ((pure []) >>= fun v117 => (forM1 (rng1 (op2 addD (pure (.int 1)) ((argV (pure p_deck) (argV (pure (.int 4)) (pure []))) >>= M__law_next))) v117 (fun x119 (a118 : List D) => ((comp1 (rng1 (pure p_kinds)) (fun c121 => (op2 mulD ((argV (pure p_deck) (argV (op2 addD (pure p_most) (pure (.int 1))) (pure []))) >>= M__law_next) (op1 intD (op2 gtD ((argV (pure p_deck) (argV (pure (.int 3)) (pure []))) >>= M__law_next) (pure (.int 0))))))) >>= fun v120 => ((OverZ.up (hidP (m' := Option) [.any, .val p_kinds, .any, .any, .any, .own v120, .any, .any] (cmp2 eqD (pure (PyData.list v120)) (op2 mulD (lstM (consM (pure (.int 0)) (pure []))) (pure p_kinds))))) >>= fun k => (if k = true then (((argV (pure p_deck) (argV (pure p_kinds) (pure []))) >>= M__law_next) >>= fun v123 => (((op2 addD (pure (.int 1)) ((argV (pure p_deck) (argV (pure p_most) (pure []))) >>= M__law_next)) >>= fun d => (pure v123) >>= fun j => Mo.lift (putD v120 j d)) >>= fun v124 => (pure (.nx v124)))) else (pure (.nx v120))) >>= fun f => thenB f fun (a122 : List D) => (((op1 tupleD (pure (PyData.list a122))) >>= fun d => Mo.lift (fits a118.length) >>= fun _ => pure d) >>= fun v125 => (pure (.nx (a118 ++ [v125]))))))) >>= fun f => thenM f fun (a126 : List D) => (op1 tupleD (pure (PyData.list a126)))))
def M__law_collections : List Sl → Z D := ar3 m__law_collections
theorem ok__law_collections {f : Addr} {fd : FuncData} (F : Fun K "_law_collections" "_law_collections" s__law_collections f fd) (hy : SysAt base) (d__law_next : Def P w K mg base 1 "_law_next" ["_law_state", "_law_many"] (spJ K M__law_next)) (mb_int : mg "int" = none) (mb_range : mg "range" = none) (mb_tuple : mg "tuple" = none) : FnG P w K mg base 2 f fd ["_law_state", "_law_kinds", "_law_most"] (spJ K M__law_collections) := by
  have sc := sc__law_collections
  exact fn_ar3 F sc rfl fun p_deck p_kinds p_most cdv A outer s H E hr gu => (fj_seq (sj_setO 3 sc.nd (lj_lst dj_nil)) (fun v117 => (fj_of_for (for1 4 (P := fun (a118 : List D) => [.val p_deck, .val p_kinds, .val p_most, .own a118, .any, .any, .any, .any]) (a0 := v117) PassesOwn.never (ij_range1 mb_range (ej_bin op_addD rd_add ej_int (ej_callD d__law_next (hr.mono (by decide)) gu (aj_cons (ej_vk 0) (aj_cons ej_int aj_nil))))) (pg_name (i := 4) sc.nd rfl (by first | exact Or.inl rfl | exact Or.inr rfl)) (fun x119 a118 => (bj_seq (sj_lcO 5 sc.nd (lj_lc1 [("_law_kind", 7)] 7 sc.nd (ij_range1 mb_range (ej_vk 1)) (blk_of (by kernel_rfl)) (fun _ _ _ _ _ => pg_name (i := 7) sc.nd rfl (by first | exact Or.inl rfl | exact Or.inr rfl)) (fun _ _ _ _ _ c121 => (ej_bin op_mulD rd_mul (ej_callD d__law_next (hr.mono (by decide)) gu (aj_cons (ej_vk 0) (aj_cons (ej_bin op_addD rd_add (ej_vk 2) ej_int) aj_nil))) (ej_callT call_int1 rc_int mb_int (ej_cmp op_gt rd_gt (ej_callD d__law_next (hr.mono (by decide)) gu (aj_cons (ej_vk 0) (aj_cons ej_int aj_nil))) ej_int))))) (by kernel_rfl)) (fun v120 => (bj_if (P := fun (a122 : List D) => [.val p_deck, .val p_kinds, .val p_most, .own a118, .val x119, .own a122, .any, .any]) (tj_hidPL (m' := Option) (g := [.val p_deck, .val p_kinds, .val p_most, .own a118, .val x119, .own v120, .any, .any]) [.any, .val p_kinds, .any, .any, .any, .own v120, .any, .any] (tj_cmp (by exact op_eqA hy (units_of hr)) rd_eq (ej_vk 5) (ej_bin op_mulD rd_mul (ej_l (lj_lst (dj_cons ej_int dj_nil))) (ej_vk 1))) ⟨.inl rfl, .inr rfl, .inl rfl, .inl rfl, .inl rfl, .inr rfl, .inl rfl, .inl rfl, trivial⟩) (bj_seq (sj_set 6 sc.nd (ej_callD d__law_next (hr.mono (by decide)) gu (aj_cons (ej_vk 0) (aj_cons (ej_vk 1) aj_nil)))) (fun v123 => (bj_seq (sj_put 5 (ej_bin op_addD rd_add ej_int (ej_callD d__law_next (hr.mono (by decide)) gu (aj_cons (ej_vk 0) (aj_cons (ej_vk 2) aj_nil)))) (ej_vk 6)) (fun v124 => (bj_nil (a := v124) ⟨.inr rfl, .inr rfl, .inr rfl, .inr rfl, .inr rfl, .inr rfl, .inl rfl, .inl rfl, trivial⟩))))) (bj_nil (a := v120) ⟨.inr rfl, .inr rfl, .inr rfl, .inr rfl, .inr rfl, .inr rfl, .inl rfl, .inl rfl, trivial⟩) (fun a122 => (bj_fr 5 (bj_seq (sj_append 3 (ej_callT call_tuple_of rc_tuple mb_tuple (ej_vk 5))) (fun v125 => (bj_nil (a := (a118 ++ [v125])) ⟨.inr rfl, .inr rfl, .inr rfl, .inr rfl, .inl rfl, .inl rfl, .inl rfl, .inl rfl, trivial⟩))))))))) ⟨.inr rfl, .inr rfl, .inr rfl, .inr rfl, .inl rfl, .inl rfl, .inl rfl, .inl rfl, trivial⟩) (fun a126 => (fj_fr 3 (fj_ret (ej_callT call_tuple_of rc_tuple mb_tuple (ej_vk 3))))))))
abbrev s__law_odd : Stmt := top 33
theorem sc__law_odd : FnScope ["_law_state", "_law_some"] ["_law_state"] (defScope s__law_odd) := ⟨rfl, rfl, rfl, by decide +kernel, rfl, by decide +kernel, by decide +kernel⟩
def m__law_odd (p_deck : D) : Z D := ((lstM (consM (pure PyData.none) (consM (pure (.bool true)) (consM (pure (.bool false)) (consM (op1 negD (pure (.int 1))) (consM (pure (.int 0)) (consM (pure (.int 1)) (consM (op2 powD (pure (.int 10)) (pure (.int 39))) (consM (pure (.str "")) (consM (pure (.str "0")) (consM (tupM (pure [])) (consM (lstM (pure [])) (consM (pure (.dict [])) (consM (tupM (consM (pure (.int 0)) (pure []))) (consM (lstM (consM (pure (.int 0)) (pure []))) (consM (tupM (consM (pure (.int 1)) (consM (pure (.bool true)) (pure [])))) (consM (tupM (consM (tupM (consM (pure (.int 1)) (pure []))) (pure []))) (consM (tupM (consM (pure (.int 2)) (consM (op1 negD (pure (.int 1))) (pure [])))) (pure []))))))))))))))))))) >>= fun v127 => (op2 getD (pure v127) ((argV (pure p_deck) (argV (pure (.int 17)) (pure []))) >>= M__law_next)))
def M__law_odd : List Sl → Z D := ar1 m__law_odd
theorem ok__law_odd {f : Addr} {fd : FuncData} (F : Fun K "_law_odd" "_law_odd" s__law_odd f fd) (hy : SysAt base) (d__law_next : Def P w K mg base 1 "_law_next" ["_law_state", "_law_many"] (spJ K M__law_next)) : FnG P w K mg base 2 f fd ["_law_state"] (spJ K M__law_odd) := by
  have sc := sc__law_odd
  exact fn_ar1 F sc rfl fun p_deck cdv A outer s H E hr gu => (fj_seq (sj_set 1 sc.nd (ej_l (lj_lst (dj_cons ej_non (dj_cons ej_bl (dj_cons ej_bl (dj_cons (ej_un un_neg ru_neg ej_int) (dj_cons ej_int (dj_cons ej_int (dj_cons (ej_bin op_pow rd_pow ej_int ej_int) (dj_cons ej_str (dj_cons ej_str (dj_cons (ej_tup dj_nil) (dj_cons (ej_l (lj_lst dj_nil)) (dj_cons ej_dict0 (dj_cons (ej_tup (dj_cons ej_int dj_nil)) (dj_cons (ej_l (lj_lst (dj_cons ej_int dj_nil))) (dj_cons (ej_tup (dj_cons ej_int (dj_cons ej_bl dj_nil))) (dj_cons (ej_tup (dj_cons (ej_tup (dj_cons ej_int dj_nil)) dj_nil)) (dj_cons (ej_tup (dj_cons ej_int (dj_cons (ej_un un_neg ru_neg ej_int) dj_nil))) dj_nil)))))))))))))))))))) (fun v127 => (fj_ret (ej_ix ix_seq rd_ix (ej_vk 1) (ej_callD d__law_next (hr.mono (by decide)) gu (aj_cons (ej_vk 0) (aj_cons ej_int aj_nil))) (fun _ _ => rfl)))))
abbrev s__law_due : Stmt := top 38
theorem sc__law_due : FnScope ["_law_kinds", "_law_value"] ["_law_kinds", "_law_value"] (defScope s__law_due) := ⟨rfl, rfl, rfl, by decide +kernel, rfl, by decide +kernel, by decide +kernel⟩
def m__law_due (p_kinds p_value : D) : Option D := (iteM (orB (tst (isiM "bool" (pure p_kinds))) (orB (notB (tst (isiM "int" (pure p_kinds)))) (notB (tst (chain3 ltD ltD (pure (.int 0)) (pure p_kinds) (pure (.int 5))))))) (lstM (consM (pure (.str "kinds")) (consM (pure p_kinds) (pure [])))) (iteM (tst ((argV (pure p_kinds) (argV (pure p_value) (pure []))) >>= M__law_are_collections)) (pure (.int 0)) (lstM (consM (pure (.str "wish")) (consM (pure p_value) (pure []))))))
def M__law_due : List Sl → Option D := ar2 m__law_due
theorem ok__law_due {f : Addr} {fd : FuncData} (F : Fun K "_law_due" "_law_due" s__law_due f fd) (hy : SysAt base) (d__law_are_collections : Def P w K mg base 1 "_law_are_collections" ["_law_kinds", "_law_value"] (spJ K M__law_are_collections)) (mb_bool : mg "bool" = none) (mb_int : mg "int" = none) (mb_isinstance : mg "isinstance" = none) : FnG P w K mg base 2 f fd ["_law_kinds", "_law_value"] (spJ K M__law_due) := by
  have sc := sc__law_due
  exact fn_ar2 F sc rfl fun p_kinds p_value cdv A outer s H E hr gu => (fj_ifr (tj_w (wj_or (tj_val (ej_isi "bool" (ej_vk 0) mb_isinstance mb_bool)) (wj_or (tj_not (tj_val (ej_isi "int" (ej_vk 0) mb_isinstance mb_int))) (wj_or1 (tj_not (tj_chain op_lt rd_lt op_lt rd_lt ej_int (ej_vk 0) ej_int)))))) (fj_ret (ej_l (lj_lst (dj_cons ej_str (dj_cons (ej_vk 0) dj_nil))))) (fj_ret (ej_if (tj_val (ej_callD d__law_are_collections (hr.mono (by decide)) gu (aj_cons (ej_vk 0) (aj_cons (ej_vk 1) aj_nil)))) ej_int (ej_l (lj_lst (dj_cons ej_str (dj_cons (ej_vk 1) dj_nil)))))))
abbrev s_is_collection : Stmt := top 19
theorem sc_is_collection : FnScope ["kinds", "value"] ["kinds", "value"] (defScope s_is_collection) := ⟨rfl, rfl, rfl, by decide +kernel, rfl, by decide +kernel, by decide +kernel⟩
def m_is_collection (p_kinds p_value : D) : Option D := (andD ((argV (pure p_value) (argV (pure p_kinds) (argV (pure (.int 50)) (pure [])))) >>= M_are_numbers) (op2 gtD (op1 maxD (pure p_value)) (pure (.int 0))))
def M_is_collection : List Sl → Option D := ar2 m_is_collection
theorem ok_is_collection {f : Addr} {fd : FuncData} (F : Fun K "is_collection" "is_collection" s_is_collection f fd) (hy : SysAt base) (d_are_numbers : Def P w K mg base 2 "are_numbers" ["value", "count", "high"] (spJ K M_are_numbers)) (mb_max : mg "max" = none) {tc_MAX_COUNT : Tok} (mc_MAX_COUNT : mg "MAX_COUNT" = some (.int 50 tc_MAX_COUNT)) : FnG P w K mg base 3 f fd ["kinds", "value"] (spJ K M_is_collection) := by
  have sc := sc_is_collection
  exact fn_ar2 F sc rfl fun p_kinds p_value cdv A outer s H E hr gu => (fj_ret (ej_and (ej_callD d_are_numbers (hr.mono (by decide)) gu (aj_cons (ej_vk 1) (aj_cons (ej_vk 0) (aj_cons (ej_gint mc_MAX_COUNT) aj_nil)))) (ej_one (ej_cmp op_gt rd_gt (ej_call1 (call_maxD rfl) rc_max mb_max (ej_vk 1)) ej_int))))
abbrev s_Heap____init__ : Stmt := (clsBody (top 26)).getD 0 (.Pass ⟨0, 0, 0, 0⟩)
theorem sc_Heap____init__ : FnScope ["self", "counts", "count"] ["self", "counts"] (defScope s_Heap____init__) := ⟨rfl, rfl, rfl, by decide +kernel, rfl, by decide +kernel, by decide +kernel⟩
def mx_Heap____init__ (p_counts : D) : Xo (List (Str × D)) := (iteM (upX (orB (notB (tst (isiM "tuple" (pure p_counts)))) (notB (tst (chain3 leD leD (pure (.int 1)) (op1 lenD (pure p_counts)) (pure (.int 4))))))) ((((upX (pure p_counts)) >>= fun d => MoX.throw ⟨"BadCounts", [("value", d)]⟩) : Xo (Fl Empty)) >>= fun _ => Mo.lift none) (iteM (upX (notB (tst (op1 allD (lstM (comp1 (seqM (pure p_counts)) (fun c130 => ((argV (pure c130) (argV (pure (.int 0)) (argV (pure (.int 1000000)) (pure [])))) >>= M_is_number_values)))))))) ((((upX (pure p_counts)) >>= fun d => MoX.throw ⟨"BadCounts", [("value", d)]⟩) : Xo (Fl Empty)) >>= fun _ => Mo.lift none) ((upX (pure p_counts)) >>= fun v131 => (pure (([] : List (Str × D)) ++ [(("things" : Str), v131)])))))
def MX_Heap____init__ : List Sl → Xo (List (Str × D)) := ia1 mx_Heap____init__
theorem okx_Heap____init__ {f : Addr} {fd : FuncData} (F : Fun K "__init__" "Heap.__init__" s_Heap____init__ f fd) (hy : SysAt base) {c_BadCounts c_Heap : Addr} (cl_Heap : ClsOk K "Heap" c_Heap) (e1_BadCounts : Er1 P w K mg base "BadCounts" "value" c_BadCounts) (nc_Heap_things : NoAttr K c_Heap "things") (d_is_number_values : Def P w K mg base 1 "is_number_values" ["value", "low", "high"] (spJ K M_is_number_values)) (mb_all : mg "all" = none) (mb_isinstance : mg "isinstance" = none) (mb_len : mg "len" = none) (mb_tuple : mg "tuple" = none) {tc_LIMIT : Tok} (mc_LIMIT : mg "LIMIT" = some (.int 1000000 tc_LIMIT)) {tc_MAX_KINDS : Tok} (mc_MAX_KINDS : mg "MAX_KINDS" = some (.int 4 tc_MAX_KINDS)) : FnX P w K mg base 3 f fd ["self", "counts"] (spI K mg "Heap" MX_Heap____init__) := by
  have sc := sc_Heap____init__
  exact fni_ia1 F sc cl_Heap rfl fun p_counts cdv A outer s H E hr gu => (nj_if (fun _ => (tj_up (m' := Option) (tj_w (wj_or (tj_not (tj_val (ej_isi "tuple" (ej_vk 1) mb_isinstance mb_tuple))) (wj_or1 (tj_not (tj_chain op_le rd_le op_le rd_le ej_int (ej_call1 call_lenD' rc_len mb_len (ej_vk 1)) (ej_gint mc_MAX_KINDS)))))))) (fun _ => (bj_raise1 e1_BadCounts (hr.mono (by decide)) rfl takesX (sub_any rfl rfl) (ej_up (m' := Option) (ej_vk 1)))) (nj_if (fun _ => (tj_up (m' := Option) (tj_not (tj_val (ej_call1 (cr_all rfl) rc_all mb_all (ej_l (LcP.expr (lj_lc1 [("count", 2)] 2 sc.nd (ij_seq (ej_vk 1)) (blk_of (by kernel_rfl)) (fun _ _ _ _ _ => pg_name (i := 2) sc.nd rfl (by first | exact Or.inl rfl | exact Or.inr rfl)) (fun _ _ _ _ _ c130 => (ej_callD d_is_number_values (hr.mono (by decide)) gu (aj_cons (ej_vk 2) (aj_cons ej_int (aj_cons (ej_gint mc_LIMIT) aj_nil))))))))))))) (fun _ => (bj_raise1 e1_BadCounts (hr.mono (by decide)) rfl takesX (sub_any rfl rfl) (ej_up (m' := Option) (ej_vk 1)))) (nj_store cl_Heap.cl nc_Heap_things (fun _ => (ej_up (m' := Option) (ej_vk 1))) (fun v131 => nj_nil))))
abbrev s_Wish____call__ : Stmt := (clsBody (top 27)).getD 2 (.Pass ⟨0, 0, 0, 0⟩)
theorem sc_Wish____call__ : FnScope ["self", "value"] ["self", "value"] (defScope s_Wish____call__) := ⟨rfl, rfl, rfl, by decide +kernel, rfl, by decide +kernel, by decide +kernel⟩
def mx_Wish____call__ (p_self p_value : D) : ZX D := (iteM (upZ (orB (notB (tst ((pure p_value) >>= fun d => Mo.lift (isOf "Heap" d)))) (cmp2 neD (op1 lenD ((pure p_value) >>= fun d => Mo.lift (fldD "Heap" "things" d))) ((pure p_self) >>= fun d => OverZ.up (attrZ "Wish" "width" d))))) ((upZ (pure p_value)) >>= fun d => MoX.throw ⟨"BadHeap", [("value", d)]⟩) ((upZ ((pure p_self) >>= fun d => OverZ.up (attrZ "Wish" "many" d) >>= fun v => (pure (.int 1)) >>= fun w => Mo.lift (incI v w) >>= fun z => OverZ.up (setAZ "Wish" "many" d z))) >>= fun v133 => (upZ ((argV ((pure p_self) >>= fun d => OverZ.up (attrZ "Wish" "wanted" d)) (argV ((pure p_value) >>= fun d => Mo.lift (fldD "Heap" "things" d)) (pure []))) >>= fun as => OverZ.up (hidP (m' := Option) as (M_fulfilled_by as))))))
def MX_Wish____call__ : List Sl → ZX D := ar2 mx_Wish____call__
theorem okx_Wish____call__ {f : Addr} {fd : FuncData} (F : Fun K "__call__" "Wish.__call__" s_Wish____call__ f fd) (hy : SysAt base) {c_BadHeap : Addr} (e1_BadHeap : Er1 P w K mg base "BadHeap" "value" c_BadHeap) (hn_Heap_things : HasNo K "Heap" "things") (hn_Wish_many : HasNo K "Wish" "many") (hn_Wish_wanted : HasNo K "Wish" "wanted") (hn_Wish_width : HasNo K "Wish" "width") (ic_Heap : IsC K mg "Heap") (d_fulfilled_by : Def P w K mg base 2 "fulfilled_by" ["collections", "counts"] (spJ K M_fulfilled_by)) (mb_isinstance : mg "isinstance" = none) (mb_len : mg "len" = none) : FnX P w K mg base 3 f fd ["self", "value"] (spX K mg MX_Wish____call__) := by
  have sc := sc_Wish____call__
  exact fnx_ar2 F sc rfl fun p_self p_value cdv A outer s H E hr gu => (fj_ifr (tj_up (m' := Z) (tj_w (wj_or (tj_not (tj_val (ej_isO ic_Heap (ej_vk 1) mb_isinstance))) (wj_or1 (tj_cmp (by exact op_neA hy (units_of hr)) rd_ne (ej_call1 call_lenD' rc_len mb_len (ej_fldD hn_Heap_things (ej_vk 1))) (ej_attrZ hn_Wish_width (ej_vk 0))))))) (fj_raise1 e1_BadHeap (hr.mono (by decide)) rfl takesX (sub_any rfl rfl) (ej_up (m' := Z) (ej_vk 1))) (fj_seq (sj_up (m' := Z) (sj_augAZ hn_Wish_many (ej_vk 0) ej_int)) (fun v133 => (fj_ret (ej_up (m' := Z) (ej_callH (m' := Option) d_fulfilled_by (hr.mono (by decide)) gu (aj_cons (ej_attrZ hn_Wish_wanted (ej_vk 0)) (aj_cons (ej_fldD hn_Heap_things (ej_vk 1)) aj_nil))))))))
abbrev s__law_bent : Stmt := top 39
theorem sc__law_bent : FnScope ["_law_state", "_law_collections_here", "_law_spot", "_law_needed", "_law_items", "_law_item", "_law_some"] ["_law_state", "_law_collections_here"] (defScope s__law_bent) := ⟨rfl, rfl, rfl, by decide +kernel, rfl, by decide +kernel, by decide +kernel⟩
def m__law_bent (p_deck p_collections_here : D) : Z D := (((argV (pure p_deck) (argV (op1 lenD (pure p_collections_here)) (pure []))) >>= M__law_next) >>= fun v134 => ((op2 getD (pure p_collections_here) (pure v134)) >>= fun v135 => ((lstM (consM (op2 mulD (tupM (consM (pure (.int 0)) (pure []))) (op1 lenD (pure v135))) (consM (op2 addD (pure v135) (tupM (consM (pure (.int 0)) (pure [])))) (consM (slcM (pure v135) (partM (pure (.int 1))) (pure none)) (consM (op1 listD (pure v135)) (consM (op2 addD (tupM (consM (pure (.int 51)) (pure []))) (slcM (pure v135) (partM (pure (.int 1))) (pure none))) (consM (op2 addD (tupM (consM (pure (.bool true)) (pure []))) (slcM (pure v135) (partM (pure (.int 1))) (pure none))) (pure [])))))))) >>= fun v136 => (((op2 addD (pure v136) (lstM (consM (op2 addD (tupM (consM (op1 negD (pure (.int 1))) (pure []))) (slcM (pure v135) (partM (pure (.int 1))) (pure none))) (consM ((argV (pure p_deck) (pure [])) >>= M__law_odd) (pure []))))) >>= fun d => ((argV (pure p_deck) (argV (pure (.int 8)) (pure []))) >>= M__law_next) >>= fun j => ixZ d j) >>= fun v137 => ((lstM (consM (op2 addD (op2 addD (slcM (pure p_collections_here) (pure none) (partM (pure v134))) (tupM (consM (pure v137) (pure [])))) (slcM (pure p_collections_here) (partM (op2 addD (pure v134) (pure (.int 1)))) (pure none))) (consM (op2 mulD (pure p_collections_here) (pure (.int 5))) (consM (tupM (pure [])) (consM (op1 listD (pure p_collections_here)) (pure [])))))) >>= fun v138 => ((op2 addD (op2 addD (op2 mulD (slcM (pure v138) (pure none) (partM (pure (.int 1)))) (pure (.int 4))) (pure v138)) (lstM (consM ((argV (pure p_deck) (pure [])) >>= M__law_odd) (consM (pure p_collections_here) (pure []))))) >>= fun d => ((argV (pure p_deck) (argV (pure (.int 10)) (pure []))) >>= M__law_next) >>= fun j => ixZ d j))))))
def M__law_bent : List Sl → Z D := ar2 m__law_bent
theorem ok__law_bent {f : Addr} {fd : FuncData} (F : Fun K "_law_bent" "_law_bent" s__law_bent f fd) (hy : SysAt base) (d__law_next : Def P w K mg base 1 "_law_next" ["_law_state", "_law_many"] (spJ K M__law_next)) (d__law_odd : Def P w K mg base 2 "_law_odd" ["_law_state"] (spJ K M__law_odd)) (mb_len : mg "len" = none) (mb_list : mg "list" = none) : FnG P w K mg base 3 f fd ["_law_state", "_law_collections_here"] (spJ K M__law_bent) := by
  have sc := sc__law_bent
  exact fn_ar2 F sc rfl fun p_deck p_collections_here cdv A outer s H E hr gu => (fj_seq (sj_set 2 sc.nd (ej_callD d__law_next (hr.mono (by decide)) gu (aj_cons (ej_vk 0) (aj_cons (ej_call1 call_lenD' rc_len mb_len (ej_vk 1)) aj_nil)))) (fun v134 => (fj_seq (sj_set 3 sc.nd (ej_ix ix_seq rd_ix (ej_vk 1) (ej_vk 2) (fun _ _ => rfl))) (fun v135 => (fj_seq (sj_set 4 sc.nd (ej_l (lj_lst (dj_cons (ej_bin op_mulD rd_mul (ej_tup (dj_cons ej_int dj_nil)) (ej_call1 call_lenD' rc_len mb_len (ej_vk 3))) (dj_cons (ej_bin op_addD rd_add (ej_vk 3) (ej_tup (dj_cons ej_int dj_nil))) (dj_cons (ej_slice (ej_vk 3) (oj_some ej_int) oj_none) (dj_cons (ej_callT call_list_of rc_list mb_list (ej_vk 3)) (dj_cons (ej_bin op_addD rd_add (ej_tup (dj_cons ej_int dj_nil)) (ej_slice (ej_vk 3) (oj_some ej_int) oj_none)) (dj_cons (ej_bin op_addD rd_add (ej_tup (dj_cons ej_bl dj_nil)) (ej_slice (ej_vk 3) (oj_some ej_int) oj_none)) dj_nil))))))))) (fun v136 => (fj_seq (sj_set 5 sc.nd (ej_ixZ (ej_bin op_addD rd_add (ej_vk 4) (ej_l (lj_lst (dj_cons (ej_bin op_addD rd_add (ej_tup (dj_cons (ej_un un_neg ru_neg ej_int) dj_nil)) (ej_slice (ej_vk 3) (oj_some ej_int) oj_none)) (dj_cons (ej_callD d__law_odd (hr.mono (by decide)) gu (aj_cons (ej_vk 0) aj_nil)) dj_nil))))) (ej_callD d__law_next (hr.mono (by decide)) gu (aj_cons (ej_vk 0) (aj_cons ej_int aj_nil))) (fun _ _ => rfl))) (fun v137 => (fj_seq (sj_set 6 sc.nd (ej_l (lj_lst (dj_cons (ej_bin op_addD rd_add (ej_bin op_addD rd_add (ej_slice (ej_vk 1) oj_none (oj_some (ej_vk 2))) (ej_tup (dj_cons (ej_vk 5) dj_nil))) (ej_slice (ej_vk 1) (oj_some (ej_bin op_addD rd_add (ej_vk 2) ej_int)) oj_none)) (dj_cons (ej_bin op_mulD rd_mul (ej_vk 1) ej_int) (dj_cons (ej_tup dj_nil) (dj_cons (ej_callT call_list_of rc_list mb_list (ej_vk 1)) dj_nil))))))) (fun v138 => (fj_ret (ej_ixZ (ej_bin op_addD rd_add (ej_bin op_addD rd_add (ej_bin op_mulD rd_mul (ej_slice (ej_vk 6) oj_none (oj_some ej_int)) ej_int) (ej_vk 6)) (ej_l (lj_lst (dj_cons (ej_callD d__law_odd (hr.mono (by decide)) gu (aj_cons (ej_vk 0) aj_nil)) (dj_cons (ej_vk 1) dj_nil))))) (ej_callD d__law_next (hr.mono (by decide)) gu (aj_cons (ej_vk 0) (aj_cons ej_int aj_nil))) (fun _ _ => rfl)))))))))))))
abbrev s_are_collections : Stmt := top 20
theorem sc_are_collections : FnScope ["kinds", "value", "collection"] ["kinds", "value"] (defScope s_are_collections) := ⟨rfl, rfl, rfl, by decide +kernel, rfl, by decide +kernel, by decide +kernel⟩
def m_are_collections (p_kinds p_value : D) : Option D := (iteM (orB (notB (tst (isiM "tuple" (pure p_value)))) (notB (tst (chain3 leD leD (pure (.int 1)) (op1 lenD (pure p_value)) (pure (.int 4)))))) (pure (.bool false)) (op1 allD (lstM (comp1 (seqM (pure p_value)) (fun c139 => ((argV (pure p_kinds) (argV (pure c139) (pure []))) >>= M_is_collection))))))
def M_are_collections : List Sl → Option D := ar2 m_are_collections
theorem ok_are_collections {f : Addr} {fd : FuncData} (F : Fun K "are_collections" "are_collections" s_are_collections f fd) (hy : SysAt base) (d_is_collection : Def P w K mg base 3 "is_collection" ["kinds", "value"] (spJ K M_is_collection)) (mb_all : mg "all" = none) (mb_isinstance : mg "isinstance" = none) (mb_len : mg "len" = none) (mb_tuple : mg "tuple" = none) {tc_MAX_COLLECTIONS : Tok} (mc_MAX_COLLECTIONS : mg "MAX_COLLECTIONS" = some (.int 4 tc_MAX_COLLECTIONS)) : FnG P w K mg base 4 f fd ["kinds", "value"] (spJ K M_are_collections) := by
  have sc := sc_are_collections
  exact fn_ar2 F sc rfl fun p_kinds p_value cdv A outer s H E hr gu => (fj_ifr (tj_w (wj_or (tj_not (tj_val (ej_isi "tuple" (ej_vk 1) mb_isinstance mb_tuple))) (wj_or1 (tj_not (tj_chain op_le rd_le op_le rd_le ej_int (ej_call1 call_lenD' rc_len mb_len (ej_vk 1)) (ej_gint mc_MAX_COLLECTIONS)))))) (fj_ret ej_bl) (fj_ret (ej_call1 (cr_all rfl) rc_all mb_all (ej_l (LcP.expr (lj_lc1 [("collection", 2)] 2 sc.nd (ij_seq (ej_vk 1)) (blk_of (by kernel_rfl)) (fun _ _ _ _ _ => pg_name (i := 2) sc.nd rfl (by first | exact Or.inl rfl | exact Or.inr rfl)) (fun _ _ _ _ _ c139 => (ej_callD d_is_collection (hr.mono (by decide)) gu (aj_cons (ej_vk 0) (aj_cons (ej_vk 2) aj_nil))))))))))
abbrev s_Wish____init__ : Stmt := (clsBody (top 27)).getD 0 (.Pass ⟨0, 0, 0, 0⟩)
theorem sc_Wish____init__ : FnScope ["self", "kinds", "collections"] ["self", "kinds", "collections"] (defScope s_Wish____init__) := ⟨rfl, rfl, rfl, by decide +kernel, rfl, by decide +kernel, by decide +kernel⟩
def mx_Wish____init__ (p_self p_kinds p_collections : D) : ZX D := (iteM (upZ (OverZ.up (hidP (m' := Option) [.any, .val p_kinds, .any] (notB (tst ((argV (pure p_kinds) (argV (pure (.int 1)) (argV (pure (.int 4)) (pure [])))) >>= M_is_number_values)))))) ((upZ (pure p_kinds)) >>= fun d => MoX.throw ⟨"BadKinds", [("value", d)]⟩) (iteM (upZ (OverZ.up (hidP (m' := Option) [.any, .val p_kinds, .val p_collections] (notB (tst ((argV (pure p_kinds) (argV (pure p_collections) (pure []))) >>= M_are_collections)))))) ((upZ (pure p_collections)) >>= fun d => MoX.throw ⟨"BadWish", [("value", d)]⟩) ((upZ ((pure p_kinds) >>= fun v => (pure p_self) >>= fun d => OverZ.up (setAZ "Wish" "width" d v))) >>= fun v143 => ((upZ ((pure p_collections) >>= fun v => (pure p_self) >>= fun d => OverZ.up (setAZ "Wish" "wanted" d v))) >>= fun v144 => ((upZ ((pure (.int 0)) >>= fun v => (pure p_self) >>= fun d => OverZ.up (setAZ "Wish" "many" d v))) >>= fun v145 => (pure .none))))))
def MX_Wish____init__ : List Sl → ZX D := ar3 mx_Wish____init__
theorem okx_Wish____init__ {f : Addr} {fd : FuncData} (F : Fun K "__init__" "Wish.__init__" s_Wish____init__ f fd) (hy : SysAt base) {c_BadKinds c_BadWish : Addr} (e1_BadKinds : Er1 P w K mg base "BadKinds" "value" c_BadKinds) (e1_BadWish : Er1 P w K mg base "BadWish" "value" c_BadWish) (hn_Wish_many : HasNo K "Wish" "many") (hn_Wish_wanted : HasNo K "Wish" "wanted") (hn_Wish_width : HasNo K "Wish" "width") (d_are_collections : Def P w K mg base 4 "are_collections" ["kinds", "value"] (spJ K M_are_collections)) (d_is_number_values : Def P w K mg base 1 "is_number_values" ["value", "low", "high"] (spJ K M_is_number_values)) {tc_MAX_KINDS : Tok} (mc_MAX_KINDS : mg "MAX_KINDS" = some (.int 4 tc_MAX_KINDS)) : FnX P w K mg base 5 f fd ["self", "kinds", "collections"] (spX K mg MX_Wish____init__) := by
  have sc := sc_Wish____init__
  exact fnx_ar3 F sc rfl fun p_self p_kinds p_collections cdv A outer s H E hr gu => (fj_ifr (tj_up (m' := Z) (tj_hidP (m' := Option) (g := [.val p_self, .val p_kinds, .val p_collections]) [.any, .val p_kinds, .any] (tj_not (tj_val (ej_callD d_is_number_values (hr.mono (by decide)) gu (aj_cons (ej_vk 1) (aj_cons ej_int (aj_cons (ej_gint mc_MAX_KINDS) aj_nil)))))) ⟨.inl rfl, .inr rfl, .inl rfl, trivial⟩)) (fj_raise1 e1_BadKinds (hr.mono (by decide)) rfl takesX (sub_any rfl rfl) (ej_up (m' := Z) (ej_vk 1))) (fj_ifr (tj_up (m' := Z) (tj_hidP (m' := Option) (g := [.val p_self, .val p_kinds, .val p_collections]) [.any, .val p_kinds, .val p_collections] (tj_not (tj_val (ej_callD d_are_collections (hr.mono (by decide)) gu (aj_cons (ej_vk 1) (aj_cons (ej_vk 2) aj_nil))))) ⟨.inl rfl, .inr rfl, .inr rfl, trivial⟩)) (fj_raise1 e1_BadWish (hr.mono (by decide)) rfl takesX (sub_any rfl rfl) (ej_up (m' := Z) (ej_vk 2))) (fj_seq (sj_up (m' := Z) (sj_attrZ hn_Wish_width (ej_vk 1) (ej_vk 0))) (fun v143 => (fj_seq (sj_up (m' := Z) (sj_attrZ hn_Wish_wanted (ej_vk 2) (ej_vk 0))) (fun v144 => (fj_seq (sj_up (m' := Z) (sj_attrZ hn_Wish_many ej_int (ej_vk 0))) (fun v145 => fj_nil))))))))
abbrev s__law_called : Stmt := top 36
theorem sc__law_called : FnScope ["_law_wish", "_law_value", "_law_error"] ["_law_wish", "_law_value"] (defScope s__law_called) := ⟨rfl, rfl, rfl, by decide +kernel, rfl, by decide +kernel, by decide +kernel⟩
def m__law_called (p_wish p_value : D) : Z D := ((Tr.try_ (m₁ := ZX) (rtM ((upZ (pure p_wish)) >>= fun d => OverZ.up (selfZ "Wish" "__call__" d) >>= fun _ => (argV (upZ (pure p_value)) (pure [])) >>= fun as => OverZ.up (selfZ "Wish" "__call__" d) >>= fun _ => MX_Wish____call__ (.val d :: as))) (fun e => (exc1 "BadHeap" "value" e (fun f147 => (rtM (OverZ.up (hidP (m' := Option) [.any, .val p_value, .exn 0 none [("value", f147)]] (lstM (consM (op2 getD (Up.up (m' := Option) (ME__law_word ⟨"BadHeap", [("value", f147)]⟩)) (pure (.int 0))) (consM ((pure f147) >>= fun d => (pure p_value) >>= fun j => eqAny "Heap" M_Heap____eq__ d j) (pure [])))))))) (Mo.lift none)))) >>= fun f => thenM f fun (a146 : Unit) => (pure .none))
def M__law_called : List Sl → Z D := ar2 m__law_called
theorem ok__law_called {f : Addr} {fd : FuncData} (F : Fun K "_law_called" "_law_called" s__law_called f fd) (hy : SysAt base) {c_BadHeap c_DrawerError : Addr} (er_BadHeap : ErK K c_BadHeap) (ic_Heap : IsC K mg "Heap") (mC_BadHeap : mg "BadHeap" = some (.ref c_BadHeap)) (mC_DrawerError : mg "DrawerError" = some (.ref c_DrawerError)) (no_BadHeap_value : PySem.W.findIn K (.ref c_BadHeap) "value" = some none) (xm_BadHeap_DrawerError : PySem.W.exmOne K (.ref c_BadHeap) (.ref c_DrawerError) = some true) (de__law_word : DefE P w K mg base 1 "_law_word" ["_law_error"] ME__law_word) (dh_Heap____eq__ : MthGH P w K mg base 1 "Heap" "__eq__" ["self", "other"] (spJ K M_Heap____eq__)) (dic_Wish____call__ : ICallX P w K mg base 3 "Wish" ["self", "value"] (spX K mg MX_Wish____call__)) : FnG P w K mg base 5 f fd ["_law_wish", "_law_value"] (spJ K M__law_called) := by
  have sc := sc__law_called
  exact fn_ar2 F sc rfl fun p_wish p_value cdv A outer s H E hr gu => (fj_of_for (try_as 2 (gk := [.val p_wish, .val p_value, .any]) (P := fun (a146 : Unit) => [.val p_wish, .val p_value, .any]) rfl rfl sc.nd rfl rfl ⟨rfl, by decide, .inl mC_DrawerError⟩ takes00 (fun e n φ ξ s C hC => (exc1_pick s (fun z => pick_cls (Q := fun C => PySem.W.exmOne _ (.ref C) _ = some true) z mC_BadHeap hC xm_BadHeap_DrawerError) (fun s => (no_sat s)))) (fun _ => rfl) (fun W pn xe tk hpo => (bj_ret (ej_icZX dic_Wish____call__ (hr.mono (by decide)) gu tk ⟨.inr rfl, .inr rfl, .inl rfl, trivial⟩ (ej_up (m' := Z) (ej_vk 0)) (aj_cons (ej_up (m' := Z) (ej_vk 1)) aj_nil)))) (fun e a oe od C pn hh => (suite1 (i := 2) hh mC_BadHeap (fun f147 hh => (bj_ret (ej_hidPx (m' := Option) [.any, .val p_value, .exn 0 none [("value", f147)]] [.any, .val p_value, .exn a od [("value", f147)]] (ej_l (lj_lst (dj_cons (ej_ix ix_seq rd_ix (ej_callE 2 de__law_word (RoomH.of hr (by decide)) gu hh) ej_int (fun _ _ => rfl)) (dj_cons (ej_eqAny dh_Heap____eq__ ic_Heap hy (RoomH.of hr (by decide)) gu (ej_xf 2 hh er_BadHeap no_BadHeap_value) (ej_vk 1)) dj_nil)))) ⟨.inl rfl, .inr rfl, .inr rfl, trivial⟩))) bj_no))) (fun a146 => fj_nil))
abbrev s__law_made : Stmt := top 35
theorem sc__law_made : FnScope ["_law_kinds", "_law_value", "_law_error"] ["_law_kinds", "_law_value"] (defScope s__law_made) := ⟨rfl, rfl, rfl, by decide +kernel, rfl, by decide +kernel, by decide +kernel⟩
def m__law_made (p_kinds p_value : D) : Z D := ((Tr.try_ (m₁ := ZX) (rtM (((argV (upZ (pure p_kinds)) (argV (upZ (pure p_value)) (pure []))) >>= fun as => OverZ.up (newI "Wish") >>= fun d => MX_Wish____init__ (.val d :: as) >>= fun r => Mo.lift (nonO r) >>= fun _ => pure d) >>= fun d => OverZ.up (thisZ "Wish" d) >>= fun _ => upZ (M_Wish__asked [.val d]))) (fun e => (exc1 "BadWish" "value" e (fun f150 => (rtM (OverZ.up (hidP (m' := Option) [.any, .any, .exn 0 none [("value", f150)]] (Up.up (m' := Option) (ME__law_word ⟨"BadWish", [("value", f150)]⟩)))))) (exc1 "BadKinds" "value" e (fun f149 => (rtM (OverZ.up (hidP (m' := Option) [.any, .any, .exn 0 none [("value", f149)]] (Up.up (m' := Option) (ME__law_word ⟨"BadKinds", [("value", f149)]⟩)))))) (Mo.lift none))))) >>= fun f => thenM f fun (a148 : Unit) => (pure .none))
def M__law_made : List Sl → Z D := ar2 m__law_made
theorem ok__law_made {f : Addr} {fd : FuncData} (F : Fun K "_law_made" "_law_made" s__law_made f fd) (hy : SysAt base) {c_BadKinds c_BadWish c_DrawerError : Addr} (mC_BadKinds : mg "BadKinds" = some (.ref c_BadKinds)) (mC_BadWish : mg "BadWish" = some (.ref c_BadWish)) (mC_DrawerError : mg "DrawerError" = some (.ref c_DrawerError)) (xm_BadKinds_DrawerError : PySem.W.exmOne K (.ref c_BadKinds) (.ref c_DrawerError) = some true) (xm_BadWish_DrawerError : PySem.W.exmOne K (.ref c_BadWish) (.ref c_DrawerError) = some true) (de__law_word : DefE P w K mg base 1 "_law_word" ["_law_error"] ME__law_word) (dp_Wish__asked : PrpG P w K mg base 1 "Wish" "asked" ["self"] (spJ K M_Wish__asked)) (dx_Wish____init__ : MkX P w K mg base 5 "Wish" ["self", "kinds", "collections"] (spX K mg MX_Wish____init__)) : FnG P w K mg base 7 f fd ["_law_kinds", "_law_value"] (spJ K M__law_made) := by
  have sc := sc__law_made
  exact fn_ar2 F sc rfl fun p_kinds p_value cdv A outer s H E hr gu => (fj_of_for (try_as 2 (gk := [.val p_kinds, .val p_value, .any]) (P := fun (a148 : Unit) => [.val p_kinds, .val p_value, .any]) rfl rfl sc.nd rfl rfl ⟨rfl, by decide, .inl mC_DrawerError⟩ takes00 (fun e n φ ξ s C hC => (exc1_pick s (fun z => pick_cls (Q := fun C => PySem.W.exmOne _ (.ref C) _ = some true) z mC_BadWish hC xm_BadWish_DrawerError) (fun s => (exc1_pick s (fun z => pick_cls (Q := fun C => PySem.W.exmOne _ (.ref C) _ = some true) z mC_BadKinds hC xm_BadKinds_DrawerError) (fun s => (no_sat s)))))) (fun _ => rfl) (fun W pn xe tk hpo => (bj_ret (ej_propUp dp_Wish__asked (hr.mono (by decide)) gu (ej_newZX dx_Wish____init__ (hr.mono (by decide)) gu tk ⟨.inr rfl, .inr rfl, .inl rfl, trivial⟩ (aj_cons (ej_up (m' := Z) (ej_vk 0)) (aj_cons (ej_up (m' := Z) (ej_vk 1)) aj_nil)))))) (fun e a oe od C pn hh => (suite1 (i := 2) hh mC_BadWish (fun f150 hh => (bj_ret (ej_hidPx (m' := Option) [.any, .any, .exn 0 none [("value", f150)]] [.any, .any, .exn a od [("value", f150)]] (ej_callE 2 de__law_word (RoomH.of hr (by decide)) gu hh) ⟨.inl rfl, .inl rfl, .inr rfl, trivial⟩))) (suite1 (i := 2) hh mC_BadKinds (fun f149 hh => (bj_ret (ej_hidPx (m' := Option) [.any, .any, .exn 0 none [("value", f149)]] [.any, .any, .exn a od [("value", f149)]] (ej_callE 2 de__law_word (RoomH.of hr (by decide)) gu hh) ⟨.inl rfl, .inl rfl, .inr rfl, trivial⟩))) bj_no)))) (fun a148 => fj_nil))
abbrev s_law : Stmt := top 40
theorem sc_law : FnScope ["_law_script", "_law_state", "_law_turn", "_law_kinds", "_law_counts", "_law_k", "_law_rows", "_law_wishes", "_law_spot", "_law_way", "_law_needed", "_law_near", "_law_value", "_law_due_here", "_law_other", "_law_wish", "_law_some", "_law_width", "_law_shown", "_law_one"] ["_law_script"] (defScope s_law) := ⟨rfl, rfl, rfl, by decide +kernel, rfl, by decide +kernel, by decide +kernel⟩
def m_law : Z D := (forM1 (rng1 (pure (.int 7))) () (fun x152 (a151 : Unit) => ((parM (op2 addD (pure (.int 1)) ((argV (pure (refL 0)) (argV (pure (.int 4)) (pure []))) >>= M__law_next)) (consM (pure (.int 0)) (consM (pure (.int 0)) (pure [])))) >>= fun v153 => ((comp1 (rng1 (pure (.int 2))) (fun c155 => ((argV (pure (refL 0)) (argV (pure v153.1) (argV (op2 getD (lstM (consM (pure (.int 3)) (consM (pure (.int 50)) (pure [])))) ((argV (pure (refL 0)) (argV (pure (.int 2)) (pure []))) >>= M__law_next)) (pure [])))) >>= M__law_collections))) >>= fun v154 => ((lstM (consM (calmZ ((argV (upZ (pure v153.1)) (argV (upZ (op2 getD (pure (PyData.list v154)) (pure (.int 0)))) (pure []))) >>= fun as => OverZ.up (newI "Wish") >>= fun d => MX_Wish____init__ (.val d :: as) >>= fun r => Mo.lift (nonO r) >>= fun _ => pure d)) (consM (calmZ ((argV (upZ (pure v153.1)) (argV (upZ (op2 getD (pure (PyData.list v154)) (pure (.int 1)))) (pure []))) >>= fun as => OverZ.up (newI "Wish") >>= fun d => MX_Wish____init__ (.val d :: as) >>= fun r => Mo.lift (nonO r) >>= fun _ => pure d)) (pure [])))) >>= fun v156 => (forM1 (rng1 (pure (.int 12))) v153.2 (fun x158 (a157 : List D) => ((unp2A (tupM (consM ((argV (pure (refL 0)) (argV (pure (.int 2)) (pure []))) >>= M__law_next) (consM ((argV (pure (refL 0)) (argV (pure (.int 6)) (pure []))) >>= M__law_next) (pure []))))) >>= fun v159 => ((op2 getD (op2 getD (pure (PyData.list v154)) (pure v159.1)) ((argV (pure (refL 0)) (argV (op1 lenD (op2 getD (pure (PyData.list v154)) (pure v159.1))) (pure []))) >>= M__law_next)) >>= fun v160 => ((op1 tupleD (lstM (comp1 (seqM (pure v160)) (fun c162 => (op2 max2D (pure (.int 0)) (op2 subD (op2 addD (pure c162) ((argV (pure (refL 0)) (argV (pure (.int 3)) (pure []))) >>= M__law_next)) (op1 intD (op2 gtD (pure v159.2) (pure (.int 2)))))))))) >>= fun v161 => ((parM (OverZ.up (hidP (m' := Option) [.any, .any, .any, .any, .any, .any, .any, .any, .any, .any, .any, .val v161, .any, .any, .any, .any, .any, .any, .any, .any] (calmO ((argV (upX (pure v161)) (pure [])) >>= fun as => MX_Heap____init__ as >>= fun fs => pure (insD "Heap" fs))))) (OverZ.up (hidP (m' := Option) [.any, .any, .any, .any, .any, .any, .val (PyData.list v154), .any, .val v159.1, .any, .any, .val v161, .any, .any, .any, .any, .any, .any, .any, .any] ((argV (op2 getD (pure (PyData.list v154)) (pure v159.1)) (argV (pure v161) (pure []))) >>= M__law_fulfilled)))) >>= fun v163 => ((cmp2 eqD (pure v159.2) (pure (.int 0))) >>= fun k => (if k = true then ((OverZ.up (hidP (m' := Option) [.any, .any, .any, .val v153.1, .any, .any, .any, .any, .any, .any, .any, .val v161, .any, .any, .any, .any, .any, .any, .any, .any] (iteM (cmp2 ltD (pure v153.1) (pure (.int 4))) (calmO ((argV (upX (op2 addD (pure v161) (tupM (consM (pure (.int 1)) (pure []))))) (pure [])) >>= fun as => MX_Heap____init__ as >>= fun fs => pure (insD "Heap" fs))) (calmO ((argV (upX (slcM (pure v161) (partM (pure (.int 1))) (pure none))) (pure [])) >>= fun as => MX_Heap____init__ as >>= fun fs => pure (insD "Heap" fs)))))) >>= fun v165 => ((parM ((lstM (consM (pure v161) (consM (pure PyData.none) (consM (pure v165) (consM ((argV (pure (refL 0)) (pure [])) >>= M__law_odd) (pure [])))))) >>= fun d => ((argV (pure (refL 0)) (argV (pure (.int 4)) (pure []))) >>= M__law_next) >>= fun j => ixZ d j) (lstM (consM (pure (.str "heap")) (consM (pure (.bool true)) (pure []))))) >>= fun v166 => (pure (.nx (a157, v166.1, v166.2))))) else (((OverZ.up (hidP (m' := Option) [.any, .any, .any, .any, .own a157, .any, .any, .any, .val v159.1, .any, .any, .any, .any, .any, .any, .any, .any, .any, .any, .any] ((op2 addD (op2 getD (pure (PyData.list a157)) (pure v159.1)) (pure (.int 1))) >>= fun d => Mo.lift (flatO d)))) >>= fun d => (pure v159.1) >>= fun j => Mo.lift (putD a157 j d)) >>= fun v167 => (pure (.nx (v167, v163.1, v163.2))))) >>= fun f => thenB f fun (a164 : List D × D × D) => (iteM (orB (cmp2 neD (op1 reprD ((argV (op2 getD (pure v156) (pure v159.1)) (argV (pure a164.2.1) (pure []))) >>= M__law_called)) (op1 reprD (pure a164.2.2))) ((lstM (comp1 (seqM (pure v156)) (fun c168 => ((pure c168) >>= fun d => OverZ.up (thisZ "Wish" d) >>= fun _ => M_Wish__asked [.val d])))) >>= fun d => Mo.lift ((neD d (.list a164.1)).bind boolD))) (rtM (pure (.bool false))) (pure (.nx a164.1))))))))) >>= fun f => thenB f fun (a169 : List D) => (forM1 (rng1 (pure (.int 5))) () (fun x171 (a170 : Unit) => ((parM ((argV (pure (refL 0)) (argV (op2 getD (pure (PyData.list v154)) (pure (.int 0))) (pure []))) >>= M__law_bent) (lstM (consM (pure v153.1) (consM (pure v153.1) (consM (op2 addD (op2 modD (pure v153.1) (pure (.int 4))) (pure (.int 1))) (consM ((argV (pure (refL 0)) (pure [])) >>= M__law_odd) (consM (pure (.int 5)) (pure [])))))))) >>= fun v172 => ((parM (op2 getD (pure v172.2) ((argV (pure (refL 0)) (argV (pure (.int 5)) (pure []))) >>= M__law_next)) (op1 reprD (pure v172.1))) >>= fun v173 => (iteM (orB (cmp2 neD (op1 reprD ((argV (pure v173.1) (argV (pure v172.1) (pure []))) >>= M__law_made)) (OverZ.up (hidP (m' := Option) [.any, .any, .any, .any, .any, .any, .any, .any, .any, .any, .any, .any, .val v172.1, .any, .any, .any, .any, .val v173.1, .any, .any] (op1 reprD ((argV (pure v173.1) (argV (pure v172.1) (pure []))) >>= M__law_due))))) (cmp2 neD (op1 reprD (pure v172.1)) (pure v173.2))) (rtM (pure (.bool false))) (pure (.nx ())))))) >>= fun f => thenB f fun (a174 : Unit) => (pure (.nx ())))))))) >>= fun f => thenM f fun (a175 : Unit) => ((calmZ ((argV (upZ (pure (.int 1))) (argV (upZ (tupM (consM (tupM (consM (pure (.int 50)) (pure []))) (pure [])))) (pure []))) >>= fun as => OverZ.up (newI "Wish") >>= fun d => MX_Wish____init__ (.val d :: as) >>= fun r => Mo.lift (nonO r) >>= fun _ => pure d)) >>= fun v176 => (op2 eqD (lstM (consM (calmZ ((upZ (pure v176)) >>= fun d => OverZ.up (selfZ "Wish" "__call__" d) >>= fun _ => (argV ((argV (upZ (tupM (consM (pure (.int 49)) (pure [])))) (pure [])) >>= fun as => hidX as (MX_Heap____init__ as) >>= fun fs => pure (insD "Heap" fs)) (pure [])) >>= fun as => OverZ.up (selfZ "Wish" "__call__" d) >>= fun _ => MX_Wish____call__ (.val d :: as))) (consM (calmZ ((upZ (pure v176)) >>= fun d => OverZ.up (selfZ "Wish" "__call__" d) >>= fun _ => (argV ((argV (upZ (tupM (consM (pure (.int 50)) (pure [])))) (pure [])) >>= fun as => hidX as (MX_Heap____init__ as) >>= fun fs => pure (insD "Heap" fs)) (pure [])) >>= fun as => OverZ.up (selfZ "Wish" "__call__" d) >>= fun _ => MX_Wish____call__ (.val d :: as))) (consM ((pure v176) >>= fun d => OverZ.up (thisZ "Wish" d) >>= fun _ => M_Wish__asked [.val d]) (pure []))))) (lstM (consM (pure PyData.none) (consM (pure (.int 0)) (consM (pure (.int 2)) (pure []))))))))
theorem ok_law {f : Addr} {fd : FuncData} (F : Fun K "law" "law" s_law f fd) (hy : SysAt base) (d__law_bent : Def P w K mg base 3 "_law_bent" ["_law_state", "_law_collections_here"] (spJ K M__law_bent)) (d__law_called : Def P w K mg base 5 "_law_called" ["_law_wish", "_law_value"] (spJ K M__law_called)) (d__law_collections : Def P w K mg base 2 "_law_collections" ["_law_state", "_law_kinds", "_law_most"] (spJ K M__law_collections)) (d__law_due : Def P w K mg base 2 "_law_due" ["_law_kinds", "_law_value"] (spJ K M__law_due)) (d__law_fulfilled : Def P w K mg base 1 "_law_fulfilled" ["_law_collections_here", "_law_counts"] (spJ K M__law_fulfilled)) (d__law_made : Def P w K mg base 7 "_law_made" ["_law_kinds", "_law_value"] (spJ K M__law_made)) (d__law_next : Def P w K mg base 1 "_law_next" ["_law_state", "_law_many"] (spJ K M__law_next)) (d__law_odd : Def P w K mg base 2 "_law_odd" ["_law_state"] (spJ K M__law_odd)) (dp_Wish__asked : PrpG P w K mg base 1 "Wish" "asked" ["self"] (spJ K M_Wish__asked)) (dx_Heap____init__ : MkX P w K mg base 3 "Heap" ["self", "counts"] (spI K mg "Heap" MX_Heap____init__)) (dic_Wish____call__ : ICallX P w K mg base 3 "Wish" ["self", "value"] (spX K mg MX_Wish____call__)) (dx_Wish____init__ : MkX P w K mg base 5 "Wish" ["self", "kinds", "collections"] (spX K mg MX_Wish____init__)) (mb_int : mg "int" = none) (mb_len : mg "len" = none) (mb_max : mg "max" = none) (mb_range : mg "range" = none) (mb_repr : mg "repr" = none) (mb_tuple : mg "tuple" = none) (d__law_draws : Def P w K mg base 1 "_law_draws" ["_law_script"] (spDeckZ K)) (hM : ∀ cs rs : List Int, cs.length = rs.length → 0 < cs.length → cs.length ≤ 64 → (∀ r ∈ rs, 0 ≤ r) → m_law ⟨0, deck3 0 cs rs⟩ (fun d _ => d = .bool true)) : FnG P w K mg base 8 f fd ["_law_script"] (spLaw K) := by
  have sc := sc_law
  obtain ⟨fk, fkd, h1, h2, h3, h4⟩ := d__law_draws.ex
  exact law_jZ (M := m_law) F sc (h1.mono (by decide)) h4 h2 rfl rfl rfl
    (fun cdv A outer s H E hr gu => ps_set (i := 1) sc.nd rfl (by first | exact Or.inl rfl | exact Or.inr rfl) (pe_g h1 (hr.mono (by decide)) gu (by rfl) h2 h3 h4 (pa_cons (pv 0) pa_nil) (by decide) (by rfl) (by rfl)))
    (fun cdv A outer s H E hr gu => (fj_of_for (for1 2 (P := fun (a151 : Unit) => [.any, .val (refL 0), .any, .any, .any, .any, .any, .any, .any, .any, .any, .any, .any, .any, .any, .any, .any, .any, .any, .any]) (a0 := ()) PassesOwn.never (ij_range1 mb_range ej_int) (pg_name (i := 2) sc.nd rfl (by first | exact Or.inl rfl | exact Or.inr rfl)) (fun x152 a151 => (bj_seq (sj_tupVL 3 4 (ej_bin op_addD rd_add ej_int (ej_callD d__law_next (hr.mono (by decide)) gu (aj_cons (ej_vk 1) (aj_cons ej_int aj_nil)))) (lj_lst (dj_cons ej_int (dj_cons ej_int dj_nil))) (pg_tup rfl (pgs_cons (pg_name (i := 3) sc.nd rfl (by first | exact Or.inl rfl | exact Or.inr rfl)) (pgs_cons (pg_name (i := 4) sc.nd rfl (by first | exact Or.inl rfl | exact Or.inr rfl)) pgs_nil)))) (fun v153 => (bj_seq (sj_lcV 6 sc.nd (lj_lc1 [("_law_k", 5)] 5 sc.nd (ij_range1 mb_range ej_int) (blk_of (by kernel_rfl)) (fun _ _ _ _ _ => pg_name (i := 5) sc.nd rfl (by first | exact Or.inl rfl | exact Or.inr rfl)) (fun _ _ _ _ _ c155 => (ej_callD d__law_collections (hr.mono (by decide)) gu (aj_cons (ej_vk 1) (aj_cons (ej_vk 3) (aj_cons (ej_ix ix_seq rd_ix (ej_l (lj_lst (dj_cons ej_int (dj_cons ej_int dj_nil)))) (ej_callD d__law_next (hr.mono (by decide)) gu (aj_cons (ej_vk 1) (aj_cons ej_int aj_nil))) (fun _ _ => rfl)) aj_nil)))))) (by kernel_rfl)) (fun v154 => (bj_seq (sj_set 7 sc.nd (ej_l (lj_lst (dj_cons (ej_calmZ (ej_newZX dx_Wish____init__ (hr.mono (by decide)) gu takes00 (sub_self _) (aj_cons (ej_up (m' := Z) (ej_vk 3)) (aj_cons (ej_up (m' := Z) (ej_ix ix_seq rd_ix (ej_vk 6) ej_int (fun _ _ => rfl))) aj_nil)))) (dj_cons (ej_calmZ (ej_newZX dx_Wish____init__ (hr.mono (by decide)) gu takes00 (sub_self _) (aj_cons (ej_up (m' := Z) (ej_vk 3)) (aj_cons (ej_up (m' := Z) (ej_ix ix_seq rd_ix (ej_vk 6) ej_int (fun _ _ => rfl))) aj_nil)))) dj_nil))))) (fun v156 => (bj_of_for (for1 5 (P := fun (a157 : List D) => [.any, .val (refL 0), .val x152, .val v153.1, .own a157, .any, .val (PyData.list v154), .val v156, .any, .any, .any, .any, .any, .any, .any, .any, .any, .any, .any, .any]) (a0 := v153.2) PassesOwn.never (ij_range1 mb_range ej_int) (pg_name (i := 5) sc.nd rfl (by first | exact Or.inl rfl | exact Or.inr rfl)) (fun x158 a157 => (bj_seq (sj_unp2A 8 9 (ej_tup (dj_cons (ej_callD d__law_next (hr.mono (by decide)) gu (aj_cons (ej_vk 1) (aj_cons ej_int aj_nil))) (dj_cons (ej_callD d__law_next (hr.mono (by decide)) gu (aj_cons (ej_vk 1) (aj_cons ej_int aj_nil))) dj_nil))) (pg_tup rfl (pgs_cons (pg_name (i := 8) sc.nd rfl (by first | exact Or.inl rfl | exact Or.inr rfl)) (pgs_cons (pg_name (i := 9) sc.nd rfl (by first | exact Or.inl rfl | exact Or.inr rfl)) pgs_nil))) (pg_unl rfl (pgs_cons (pg_name (i := 8) sc.nd rfl (by first | exact Or.inl rfl | exact Or.inr rfl)) (pgs_cons (pg_name (i := 9) sc.nd rfl (by first | exact Or.inl rfl | exact Or.inr rfl)) pgs_nil)))) (fun v159 => (bj_seq (sj_set 10 sc.nd (ej_ix ix_seq rd_ix (ej_ix ix_seq rd_ix (ej_vk 6) (ej_vk 8) (fun _ _ => rfl)) (ej_callD d__law_next (hr.mono (by decide)) gu (aj_cons (ej_vk 1) (aj_cons (ej_call1 call_lenD' rc_len mb_len (ej_ix ix_seq rd_ix (ej_vk 6) (ej_vk 8) (fun _ _ => rfl))) aj_nil))) (fun _ _ => rfl))) (fun v160 => (bj_seq (sj_set 11 sc.nd (ej_callT call_tuple_of rc_tuple mb_tuple (ej_l (LcP.expr (lj_lc1 [("_law_one", 19)] 19 sc.nd (ij_seq (ej_vk 10)) (blk_of (by kernel_rfl)) (fun _ _ _ _ _ => pg_name (i := 19) sc.nd rfl (by first | exact Or.inl rfl | exact Or.inr rfl)) (fun _ _ _ _ _ c162 => (ej_call2 (call_max2 rfl) rc_max2 mb_max ej_int (ej_bin op_sub rd_sub (ej_bin op_addD rd_add (ej_vk 19) (ej_callD d__law_next (hr.mono (by decide)) gu (aj_cons (ej_vk 1) (aj_cons ej_int aj_nil)))) (ej_callT call_int1 rc_int mb_int (ej_cmp op_gt rd_gt (ej_vk 9) ej_int)))))))))) (fun v161 => (bj_seq (sj_par 12 13 sc.nd (ej_hidP (m' := Option) (g := [.any, .val (refL 0), .val x152, .val v153.1, .own a157, .val x158, .val (PyData.list v154), .val v156, .val v159.1, .val v159.2, .val v160, .val v161, .any, .any, .any, .any, .any, .any, .any, .any]) [.any, .any, .any, .any, .any, .any, .any, .any, .any, .any, .any, .val v161, .any, .any, .any, .any, .any, .any, .any, .any] (ej_calm (ej_makeXD dx_Heap____init__ (hr.mono (by decide)) gu takes00 (sub_self _) (aj_cons (ej_up (m' := Option) (ej_vk 11)) aj_nil))) ⟨.inl rfl, .inl rfl, .inl rfl, .inl rfl, .inl rfl, .inl rfl, .inl rfl, .inl rfl, .inl rfl, .inl rfl, .inl rfl, .inr rfl, .inl rfl, .inl rfl, .inl rfl, .inl rfl, .inl rfl, .inl rfl, .inl rfl, .inl rfl, trivial⟩) (ej_hidP (m' := Option) (g := [.any, .val (refL 0), .val x152, .val v153.1, .own a157, .val x158, .val (PyData.list v154), .val v156, .val v159.1, .val v159.2, .val v160, .val v161, .any, .any, .any, .any, .any, .any, .any, .any]) [.any, .any, .any, .any, .any, .any, .val (PyData.list v154), .any, .val v159.1, .any, .any, .val v161, .any, .any, .any, .any, .any, .any, .any, .any] (ej_callD d__law_fulfilled (hr.mono (by decide)) gu (aj_cons (ej_ix ix_seq rd_ix (ej_vk 6) (ej_vk 8) (fun _ _ => rfl)) (aj_cons (ej_vk 11) aj_nil))) ⟨.inl rfl, .inl rfl, .inl rfl, .inl rfl, .inl rfl, .inl rfl, .inr rfl, .inl rfl, .inr rfl, .inl rfl, .inl rfl, .inr rfl, .inl rfl, .inl rfl, .inl rfl, .inl rfl, .inl rfl, .inl rfl, .inl rfl, .inl rfl, trivial⟩)) (fun v163 => (bj_if (P := fun (a164 : List D × D × D) => [.any, .val (refL 0), .val x152, .val v153.1, .own a164.1, .val x158, .val (PyData.list v154), .val v156, .val v159.1, .val v159.2, .val v160, .val v161, .val a164.2.1, .val a164.2.2, .any, .any, .any, .any, .any, .any]) (tj_cmp (by exact op_eqA hy (units_of hr)) rd_eq (ej_vk 9) ej_int) (bj_seq (sj_set 14 sc.nd (ej_hidP (m' := Option) (g := [.any, .val (refL 0), .val x152, .val v153.1, .own a157, .val x158, .val (PyData.list v154), .val v156, .val v159.1, .val v159.2, .val v160, .val v161, .val v163.1, .val v163.2, .any, .any, .any, .any, .any, .any]) [.any, .any, .any, .val v153.1, .any, .any, .any, .any, .any, .any, .any, .val v161, .any, .any, .any, .any, .any, .any, .any, .any] (ej_if (tj_cmp op_lt rd_lt (ej_vk 3) ej_int) (ej_calm (ej_makeXD dx_Heap____init__ (hr.mono (by decide)) gu takes00 (sub_self _) (aj_cons (ej_up (m' := Option) (ej_bin op_addD rd_add (ej_vk 11) (ej_tup (dj_cons ej_int dj_nil)))) aj_nil))) (ej_calm (ej_makeXD dx_Heap____init__ (hr.mono (by decide)) gu takes00 (sub_self _) (aj_cons (ej_up (m' := Option) (ej_slice (ej_vk 11) (oj_some ej_int) oj_none)) aj_nil)))) ⟨.inl rfl, .inl rfl, .inl rfl, .inr rfl, .inl rfl, .inl rfl, .inl rfl, .inl rfl, .inl rfl, .inl rfl, .inl rfl, .inr rfl, .inl rfl, .inl rfl, .inl rfl, .inl rfl, .inl rfl, .inl rfl, .inl rfl, .inl rfl, trivial⟩)) (fun v165 => (bj_seq (sj_par 12 13 sc.nd (ej_ixZ (ej_l (lj_lst (dj_cons (ej_vk 11) (dj_cons ej_non (dj_cons (ej_vk 14) (dj_cons (ej_callD d__law_odd (hr.mono (by decide)) gu (aj_cons (ej_vk 1) aj_nil)) dj_nil)))))) (ej_callD d__law_next (hr.mono (by decide)) gu (aj_cons (ej_vk 1) (aj_cons ej_int aj_nil))) (fun _ _ => rfl)) (ej_l (lj_lst (dj_cons ej_str (dj_cons ej_bl dj_nil))))) (fun v166 => (bj_nil (a := (a157, v166.1, v166.2)) ⟨.inl rfl, .inr rfl, .inr rfl, .inr rfl, .inr rfl, .inr rfl, .inr rfl, .inr rfl, .inr rfl, .inr rfl, .inr rfl, .inr rfl, .inr rfl, .inr rfl, .inl rfl, .inl rfl, .inl rfl, .inl rfl, .inl rfl, .inl rfl, trivial⟩))))) (bj_seq (sj_put 4 (ej_hidPL (m' := Option) (g := [.any, .val (refL 0), .val x152, .val v153.1, .own a157, .val x158, .val (PyData.list v154), .val v156, .val v159.1, .val v159.2, .val v160, .val v161, .val v163.1, .val v163.2, .any, .any, .any, .any, .any, .any]) [.any, .any, .any, .any, .own a157, .any, .any, .any, .val v159.1, .any, .any, .any, .any, .any, .any, .any, .any, .any, .any, .any] (ej_bin op_addD rd_add (ej_ix ix_seq rd_ix (ej_vk 4) (ej_vk 8) (fun _ _ => rfl)) ej_int) ⟨.inl rfl, .inl rfl, .inl rfl, .inl rfl, .inr rfl, .inl rfl, .inl rfl, .inl rfl, .inr rfl, .inl rfl, .inl rfl, .inl rfl, .inl rfl, .inl rfl, .inl rfl, .inl rfl, .inl rfl, .inl rfl, .inl rfl, .inl rfl, trivial⟩) (ej_vk 8)) (fun v167 => (bj_nil (a := (v167, v163.1, v163.2)) ⟨.inl rfl, .inr rfl, .inr rfl, .inr rfl, .inr rfl, .inr rfl, .inr rfl, .inr rfl, .inr rfl, .inr rfl, .inr rfl, .inr rfl, .inr rfl, .inr rfl, .inl rfl, .inl rfl, .inl rfl, .inl rfl, .inl rfl, .inl rfl, trivial⟩))) (fun a164 => (bj_ifr (tj_w (wj_or (tj_cmp (by exact op_neA hy (units_of hr)) rd_ne (ej_call1 (by exact call_repr hy (units_of hr) gu) rc_repr mb_repr (ej_callD d__law_called (hr.mono (by decide)) gu (aj_cons (ej_ix ix_seq rd_ix (ej_vk 7) (ej_vk 8) (fun _ _ => rfl)) (aj_cons (ej_vk 12) aj_nil)))) (ej_call1 (by exact call_repr hy (units_of hr) gu) rc_repr mb_repr (ej_vk 13))) (wj_or1 (tj_neOwn 4 hy (units_of hr) (ej_l (LcP.expr (lj_lc1 [("_law_wish", 15)] 15 sc.nd (ij_seq (ej_vk 7)) (blk_of (by kernel_rfl)) (fun _ _ _ _ _ => pg_name (i := 15) sc.nd rfl (by first | exact Or.inl rfl | exact Or.inr rfl)) (fun _ _ _ _ _ c168 => (ej_propZ dp_Wish__asked (hr.mono (by decide)) gu (ej_vk 15)))))))))) (fj_ret ej_bl) (bj_nil (a := a164.1) ⟨.inl rfl, .inr rfl, .inr rfl, .inr rfl, .inr rfl, .inl rfl, .inr rfl, .inr rfl, .inl rfl, .inl rfl, .inl rfl, .inl rfl, .inl rfl, .inl rfl, .inl rfl, .inl rfl, .inl rfl, .inl rfl, .inl rfl, .inl rfl, trivial⟩))))))))))))) ⟨.inl rfl, .inr rfl, .inr rfl, .inr rfl, .inr rfl, .inl rfl, .inr rfl, .inr rfl, .inl rfl, .inl rfl, .inl rfl, .inl rfl, .inl rfl, .inl rfl, .inl rfl, .inl rfl, .inl rfl, .inl rfl, .inl rfl, .inl rfl, trivial⟩) (fun a169 => (bj_of_for (for1 5 (P := fun (a170 : Unit) => [.any, .val (refL 0), .val x152, .val v153.1, .own a169, .any, .val (PyData.list v154), .val v156, .any, .any, .any, .any, .any, .any, .any, .any, .any, .any, .any, .any]) (a0 := ()) PassesOwn.never (ij_range1 mb_range ej_int) (pg_name (i := 5) sc.nd rfl (by first | exact Or.inl rfl | exact Or.inr rfl)) (fun x171 a170 => (bj_seq (sj_par 12 16 sc.nd (ej_callD d__law_bent (hr.mono (by decide)) gu (aj_cons (ej_vk 1) (aj_cons (ej_ix ix_seq rd_ix (ej_vk 6) ej_int (fun _ _ => rfl)) aj_nil))) (ej_l (lj_lst (dj_cons (ej_vk 3) (dj_cons (ej_vk 3) (dj_cons (ej_bin op_addD rd_add (ej_bin op_mod rd_mod (ej_vk 3) ej_int) ej_int) (dj_cons (ej_callD d__law_odd (hr.mono (by decide)) gu (aj_cons (ej_vk 1) aj_nil)) (dj_cons ej_int dj_nil)))))))) (fun v172 => (bj_seq (sj_par 17 18 sc.nd (ej_ix ix_seq rd_ix (ej_vk 16) (ej_callD d__law_next (hr.mono (by decide)) gu (aj_cons (ej_vk 1) (aj_cons ej_int aj_nil))) (fun _ _ => rfl)) (ej_call1 (by exact call_repr hy (units_of hr) gu) rc_repr mb_repr (ej_vk 12))) (fun v173 => (bj_ifr (tj_w (wj_or (tj_cmp (by exact op_neA hy (units_of hr)) rd_ne (ej_call1 (by exact call_repr hy (units_of hr) gu) rc_repr mb_repr (ej_callD d__law_made (hr.mono (by decide)) gu (aj_cons (ej_vk 17) (aj_cons (ej_vk 12) aj_nil)))) (ej_hidP (m' := Option) (g := [.any, .val (refL 0), .val x152, .val v153.1, .own a169, .val x171, .val (PyData.list v154), .val v156, .any, .any, .any, .any, .val v172.1, .any, .any, .any, .val v172.2, .val v173.1, .val v173.2, .any]) [.any, .any, .any, .any, .any, .any, .any, .any, .any, .any, .any, .any, .val v172.1, .any, .any, .any, .any, .val v173.1, .any, .any] (ej_call1 (by exact call_repr hy (units_of hr) gu) rc_repr mb_repr (ej_callD d__law_due (hr.mono (by decide)) gu (aj_cons (ej_vk 17) (aj_cons (ej_vk 12) aj_nil)))) ⟨.inl rfl, .inl rfl, .inl rfl, .inl rfl, .inl rfl, .inl rfl, .inl rfl, .inl rfl, .inl rfl, .inl rfl, .inl rfl, .inl rfl, .inr rfl, .inl rfl, .inl rfl, .inl rfl, .inl rfl, .inr rfl, .inl rfl, .inl rfl, trivial⟩)) (wj_or1 (tj_cmp (by exact op_neA hy (units_of hr)) rd_ne (ej_call1 (by exact call_repr hy (units_of hr) gu) rc_repr mb_repr (ej_vk 12)) (ej_vk 18))))) (fj_ret ej_bl) (bj_nil (a := ()) ⟨.inl rfl, .inr rfl, .inr rfl, .inr rfl, .inr rfl, .inl rfl, .inr rfl, .inr rfl, .inl rfl, .inl rfl, .inl rfl, .inl rfl, .inl rfl, .inl rfl, .inl rfl, .inl rfl, .inl rfl, .inl rfl, .inl rfl, .inl rfl, trivial⟩))))))) ⟨.inl rfl, .inr rfl, .inr rfl, .inr rfl, .inr rfl, .inl rfl, .inr rfl, .inr rfl, .inl rfl, .inl rfl, .inl rfl, .inl rfl, .inl rfl, .inl rfl, .inl rfl, .inl rfl, .inl rfl, .inl rfl, .inl rfl, .inl rfl, trivial⟩) (fun a174 => (bj_nil (a := ()) ⟨.inl rfl, .inr rfl, .inl rfl, .inl rfl, .inl rfl, .inl rfl, .inl rfl, .inl rfl, .inl rfl, .inl rfl, .inl rfl, .inl rfl, .inl rfl, .inl rfl, .inl rfl, .inl rfl, .inl rfl, .inl rfl, .inl rfl, .inl rfl, trivial⟩)))))))))))) ⟨.inl rfl, .inr rfl, .inl rfl, .inl rfl, .inl rfl, .inl rfl, .inl rfl, .inl rfl, .inl rfl, .inl rfl, .inl rfl, .inl rfl, .inl rfl, .inl rfl, .inl rfl, .inl rfl, .inl rfl, .inl rfl, .inl rfl, .inl rfl, trivial⟩) (fun a175 => (fj_seq (sj_set 15 sc.nd (ej_calmZ (ej_newZX dx_Wish____init__ (hr.mono (by decide)) gu takes00 (sub_self _) (aj_cons (ej_up (m' := Z) ej_int) (aj_cons (ej_up (m' := Z) (ej_tup (dj_cons (ej_tup (dj_cons ej_int dj_nil)) dj_nil))) aj_nil))))) (fun v176 => (fj_ret (ej_cmp (by exact op_eqA hy (units_of hr)) rd_eq (ej_l (lj_lst (dj_cons (ej_calmZ (ej_icZX dic_Wish____call__ (hr.mono (by decide)) gu takes00 (sub_self _) (ej_up (m' := Z) (ej_vk 15)) (aj_cons (ej_makeHX dx_Heap____init__ (hr.mono (by decide)) gu takes00 (sub_self _) (aj_cons (ej_up (m' := Z) (ej_tup (dj_cons ej_int dj_nil))) aj_nil)) aj_nil))) (dj_cons (ej_calmZ (ej_icZX dic_Wish____call__ (hr.mono (by decide)) gu takes00 (sub_self _) (ej_up (m' := Z) (ej_vk 15)) (aj_cons (ej_makeHX dx_Heap____init__ (hr.mono (by decide)) gu takes00 (sub_self _) (aj_cons (ej_up (m' := Z) (ej_tup (dj_cons ej_int dj_nil))) aj_nil)) aj_nil))) (dj_cons (ej_propZ dp_Wish__asked (hr.mono (by decide)) gu (ej_vk 15)) dj_nil))))) (ej_l (lj_lst (dj_cons ej_non (dj_cons ej_int (dj_cons ej_int dj_nil)))))))))))) hM
end
theorem all_mk {l : PySem.W.OpenLaw} {w : World} {K : PySem.W.Frag} {h : Heap} {mg : Str → Option Value} {fa : Addr} (X : K.In h) (G : h.Ns mainGlobals mg) (hfa : mg "law" = some (.ref fa)) (hM : ∀ cs rs : List Int, cs.length = rs.length → 0 < cs.length → cs.length ≤ 64 → (∀ r ∈ rs, 0 ≤ r) → m_law ⟨0, deck3 0 cs rs⟩ (fun d _ => d = .bool true))
    {f0 : Addr} {od0 an0 : Option Addr} {sl0 : Array (Option Value)} {oc0 kV0 dc0 pm0 cd0 ct0 : Value} (a0 : PySem.W.nsIn K mainGlobals "is_number_stocks" = some (some (.ref f0))) (l0 : K.lookup f0 = some ⟨oc0, od0, .func (PySem.W.fnOf "is_number" "is_number" (defArgs s_is_number_stocks) (defBody s_is_number_stocks) (defScope s_is_number_stocks) .none kV0 dc0 pm0 an0 cd0 ct0), sl0⟩) (c0 : PySem.W.codeIn K cd0 "is_number" = true) (k0 : PySem.W.keepIn K (.ref f0) = true)
    {f1 : Addr} {od1 an1 : Option Addr} {sl1 : Array (Option Value)} {oc1 kV1 dc1 pm1 cd1 ct1 : Value} (a1 : PySem.W.nsIn K mainGlobals "contains" = some (some (.ref f1))) (l1 : K.lookup f1 = some ⟨oc1, od1, .func (PySem.W.fnOf "contains" "contains" (defArgs s_contains) (defBody s_contains) (defScope s_contains) .none kV1 dc1 pm1 an1 cd1 ct1), sl1⟩) (c1 : PySem.W.codeIn K cd1 "contains" = true) (k1 : PySem.W.keepIn K (.ref f1) = true)
    {f2 : Addr} {od2 an2 : Option Addr} {sl2 : Array (Option Value)} {oc2 kV2 dc2 pm2 cd2 ct2 : Value} (a2 : PySem.W.nsIn K mainGlobals "is_number_values" = some (some (.ref f2))) (l2 : K.lookup f2 = some ⟨oc2, od2, .func (PySem.W.fnOf "is_number" "is_number" (defArgs s_is_number_values) (defBody s_is_number_values) (defScope s_is_number_values) .none kV2 dc2 pm2 an2 cd2 ct2), sl2⟩) (c2 : PySem.W.codeIn K cd2 "is_number" = true) (k2 : PySem.W.keepIn K (.ref f2) = true)
    {f5 : Addr} {od5 an5 : Option Addr} {sl5 : Array (Option Value)} {oc5 kV5 dc5 pm5 cd5 ct5 : Value} (a5 : PySem.W.nsIn K mainGlobals "_law_draws" = some (some (.ref f5))) (l5 : K.lookup f5 = some ⟨oc5, od5, .func (PySem.W.fnOf "_law_draws" "_law_draws" (defArgs s__law_draws) (defBody s__law_draws) (defScope s__law_draws) .none kV5 dc5 pm5 an5 cd5 ct5), sl5⟩) (c5 : PySem.W.codeIn K cd5 "_law_draws" = true) (k5 : PySem.W.keepIn K (.ref f5) = true)
    {f6 : Addr} {od6 an6 : Option Addr} {sl6 : Array (Option Value)} {oc6 kV6 dc6 pm6 cd6 ct6 : Value} (a6 : PySem.W.nsIn K mainGlobals "_law_next" = some (some (.ref f6))) (l6 : K.lookup f6 = some ⟨oc6, od6, .func (PySem.W.fnOf "_law_next" "_law_next" (defArgs s__law_next) (defBody s__law_next) (defScope s__law_next) .none kV6 dc6 pm6 an6 cd6 ct6), sl6⟩) (c6 : PySem.W.codeIn K cd6 "_law_next" = true) (k6 : PySem.W.keepIn K (.ref f6) = true)
    {f7 : Addr} {od7 an7 : Option Addr} {sl7 : Array (Option Value)} {oc7 kV7 dc7 pm7 cd7 ct7 : Value} (a7 : PySem.W.nsIn K mainGlobals "_law_fulfilled" = some (some (.ref f7))) (l7 : K.lookup f7 = some ⟨oc7, od7, .func (PySem.W.fnOf "_law_fulfilled" "_law_fulfilled" (defArgs s__law_fulfilled) (defBody s__law_fulfilled) (defScope s__law_fulfilled) .none kV7 dc7 pm7 an7 cd7 ct7), sl7⟩) (c7 : PySem.W.codeIn K cd7 "_law_fulfilled" = true) (k7 : PySem.W.keepIn K (.ref f7) = true)
    {f8 : Addr} {od8 an8 : Option Addr} {sl8 : Array (Option Value)} {oc8 kV8 dc8 pm8 cd8 ct8 : Value} (a8 : PySem.W.nsIn K mainGlobals "_law_word" = some (some (.ref f8))) (l8 : K.lookup f8 = some ⟨oc8, od8, .func (PySem.W.fnOf "_law_word" "_law_word" (defArgs s__law_word) (defBody s__law_word) (defScope s__law_word) .none kV8 dc8 pm8 an8 cd8 ct8), sl8⟩) (c8 : PySem.W.codeIn K cd8 "_law_word" = true) (k8 : PySem.W.keepIn K (.ref f8) = true)
    {f9 : Addr} {od9 an9 : Option Addr} {sl9 : Array (Option Value)} {oc9 kV9 dc9 pm9 cd9 ct9 : Value} (a9 : PySem.W.nsIn K mainGlobals "_law_are_collections" = some (some (.ref f9))) (l9 : K.lookup f9 = some ⟨oc9, od9, .func (PySem.W.fnOf "_law_are_collections" "_law_are_collections" (defArgs s__law_are_collections) (defBody s__law_are_collections) (defScope s__law_are_collections) .none kV9 dc9 pm9 an9 cd9 ct9), sl9⟩) (c9 : PySem.W.codeIn K cd9 "_law_are_collections" = true) (k9 : PySem.W.keepIn K (.ref f9) = true)
    {f10 : Addr} {od10 an10 : Option Addr} {sl10 : Array (Option Value)} {oc10 kV10 dc10 pm10 cd10 ct10 : Value} (a10 : PySem.W.nsIn K mainGlobals "are_numbers" = some (some (.ref f10))) (l10 : K.lookup f10 = some ⟨oc10, od10, .func (PySem.W.fnOf "are_numbers" "are_numbers" (defArgs s_are_numbers) (defBody s_are_numbers) (defScope s_are_numbers) .none kV10 dc10 pm10 an10 cd10 ct10), sl10⟩) (c10 : PySem.W.codeIn K cd10 "are_numbers" = true) (k10 : PySem.W.keepIn K (.ref f10) = true)
    {f11 : Addr} {od11 an11 : Option Addr} {sl11 : Array (Option Value)} {oc11 kV11 dc11 pm11 cd11 ct11 : Value} (a11 : PySem.W.nsIn K mainGlobals "fulfilled_by" = some (some (.ref f11))) (l11 : K.lookup f11 = some ⟨oc11, od11, .func (PySem.W.fnOf "fulfilled_by" "fulfilled_by" (defArgs s_fulfilled_by) (defBody s_fulfilled_by) (defScope s_fulfilled_by) .none kV11 dc11 pm11 an11 cd11 ct11), sl11⟩) (c11 : PySem.W.codeIn K cd11 "fulfilled_by" = true) (k11 : PySem.W.keepIn K (.ref f11) = true)
    {f12 : Addr} {od12 an12 : Option Addr} {sl12 : Array (Option Value)} {oc12 kV12 dc12 pm12 cd12 ct12 : Value} (a12 : PySem.W.nsIn K mainGlobals "_law_collections" = some (some (.ref f12))) (l12 : K.lookup f12 = some ⟨oc12, od12, .func (PySem.W.fnOf "_law_collections" "_law_collections" (defArgs s__law_collections) (defBody s__law_collections) (defScope s__law_collections) .none kV12 dc12 pm12 an12 cd12 ct12), sl12⟩) (c12 : PySem.W.codeIn K cd12 "_law_collections" = true) (k12 : PySem.W.keepIn K (.ref f12) = true)
    {f13 : Addr} {od13 an13 : Option Addr} {sl13 : Array (Option Value)} {oc13 kV13 dc13 pm13 cd13 ct13 : Value} (a13 : PySem.W.nsIn K mainGlobals "_law_odd" = some (some (.ref f13))) (l13 : K.lookup f13 = some ⟨oc13, od13, .func (PySem.W.fnOf "_law_odd" "_law_odd" (defArgs s__law_odd) (defBody s__law_odd) (defScope s__law_odd) .none kV13 dc13 pm13 an13 cd13 ct13), sl13⟩) (c13 : PySem.W.codeIn K cd13 "_law_odd" = true) (k13 : PySem.W.keepIn K (.ref f13) = true)
    {f14 : Addr} {od14 an14 : Option Addr} {sl14 : Array (Option Value)} {oc14 kV14 dc14 pm14 cd14 ct14 : Value} (a14 : PySem.W.nsIn K mainGlobals "_law_due" = some (some (.ref f14))) (l14 : K.lookup f14 = some ⟨oc14, od14, .func (PySem.W.fnOf "_law_due" "_law_due" (defArgs s__law_due) (defBody s__law_due) (defScope s__law_due) .none kV14 dc14 pm14 an14 cd14 ct14), sl14⟩) (c14 : PySem.W.codeIn K cd14 "_law_due" = true) (k14 : PySem.W.keepIn K (.ref f14) = true)
    {f15 : Addr} {od15 an15 : Option Addr} {sl15 : Array (Option Value)} {oc15 kV15 dc15 pm15 cd15 ct15 : Value} (a15 : PySem.W.nsIn K mainGlobals "is_collection" = some (some (.ref f15))) (l15 : K.lookup f15 = some ⟨oc15, od15, .func (PySem.W.fnOf "is_collection" "is_collection" (defArgs s_is_collection) (defBody s_is_collection) (defScope s_is_collection) .none kV15 dc15 pm15 an15 cd15 ct15), sl15⟩) (c15 : PySem.W.codeIn K cd15 "is_collection" = true) (k15 : PySem.W.keepIn K (.ref f15) = true)
    {f18 : Addr} {od18 an18 : Option Addr} {sl18 : Array (Option Value)} {oc18 kV18 dc18 pm18 cd18 ct18 : Value} (a18 : PySem.W.nsIn K mainGlobals "_law_bent" = some (some (.ref f18))) (l18 : K.lookup f18 = some ⟨oc18, od18, .func (PySem.W.fnOf "_law_bent" "_law_bent" (defArgs s__law_bent) (defBody s__law_bent) (defScope s__law_bent) .none kV18 dc18 pm18 an18 cd18 ct18), sl18⟩) (c18 : PySem.W.codeIn K cd18 "_law_bent" = true) (k18 : PySem.W.keepIn K (.ref f18) = true)
    {f19 : Addr} {od19 an19 : Option Addr} {sl19 : Array (Option Value)} {oc19 kV19 dc19 pm19 cd19 ct19 : Value} (a19 : PySem.W.nsIn K mainGlobals "are_collections" = some (some (.ref f19))) (l19 : K.lookup f19 = some ⟨oc19, od19, .func (PySem.W.fnOf "are_collections" "are_collections" (defArgs s_are_collections) (defBody s_are_collections) (defScope s_are_collections) .none kV19 dc19 pm19 an19 cd19 ct19), sl19⟩) (c19 : PySem.W.codeIn K cd19 "are_collections" = true) (k19 : PySem.W.keepIn K (.ref f19) = true)
    {f21 : Addr} {od21 an21 : Option Addr} {sl21 : Array (Option Value)} {oc21 kV21 dc21 pm21 cd21 ct21 : Value} (a21 : PySem.W.nsIn K mainGlobals "_law_called" = some (some (.ref f21))) (l21 : K.lookup f21 = some ⟨oc21, od21, .func (PySem.W.fnOf "_law_called" "_law_called" (defArgs s__law_called) (defBody s__law_called) (defScope s__law_called) .none kV21 dc21 pm21 an21 cd21 ct21), sl21⟩) (c21 : PySem.W.codeIn K cd21 "_law_called" = true) (k21 : PySem.W.keepIn K (.ref f21) = true)
    {f22 : Addr} {od22 an22 : Option Addr} {sl22 : Array (Option Value)} {oc22 kV22 dc22 pm22 cd22 ct22 : Value} (a22 : PySem.W.nsIn K mainGlobals "_law_made" = some (some (.ref f22))) (l22 : K.lookup f22 = some ⟨oc22, od22, .func (PySem.W.fnOf "_law_made" "_law_made" (defArgs s__law_made) (defBody s__law_made) (defScope s__law_made) .none kV22 dc22 pm22 an22 cd22 ct22), sl22⟩) (c22 : PySem.W.codeIn K cd22 "_law_made" = true) (k22 : PySem.W.keepIn K (.ref f22) = true)
    {f23 : Addr} {od23 an23 : Option Addr} {sl23 : Array (Option Value)} {oc23 kV23 dc23 pm23 cd23 ct23 : Value} (a23 : PySem.W.nsIn K mainGlobals "law" = some (some (.ref f23))) (l23 : K.lookup f23 = some ⟨oc23, od23, .func (PySem.W.fnOf "law" "law" (defArgs s_law) (defBody s_law) (defScope s_law) .none kV23 dc23 pm23 an23 cd23 ct23), sl23⟩) (c23 : PySem.W.codeIn K cd23 "law" = true) (k23 : PySem.W.keepIn K (.ref f23) = true)
    (z0 : PySem.W.nsIn K mainGlobals "LookupError" = some none)
    (z1 : PySem.W.nsIn K mainGlobals "abs" = some none)
    (z2 : PySem.W.nsIn K mainGlobals "all" = some none)
    (z3 : PySem.W.nsIn K mainGlobals "bool" = some none)
    (z4 : PySem.W.nsIn K mainGlobals "enumerate" = some none)
    (z5 : PySem.W.nsIn K mainGlobals "int" = some none)
    (z6 : PySem.W.nsIn K mainGlobals "isinstance" = some none)
    (z7 : PySem.W.nsIn K mainGlobals "len" = some none)
    (z8 : PySem.W.nsIn K mainGlobals "list" = some none)
    (z9 : PySem.W.nsIn K mainGlobals "max" = some none)
    (z10 : PySem.W.nsIn K mainGlobals "range" = some none)
    (z11 : PySem.W.nsIn K mainGlobals "repr" = some none)
    (z12 : PySem.W.nsIn K mainGlobals "tuple" = some none)
    (z13 : PySem.W.nsIn K mainGlobals "zip" = some none)
    {tc0 : Tok} (y0 : PySem.W.nsIn K mainGlobals "LIMIT" = some (some (.int 1000000 tc0)))
    {tc1 : Tok} (y1 : PySem.W.nsIn K mainGlobals "MAX_COLLECTIONS" = some (some (.int 4 tc1)))
    {tc2 : Tok} (y2 : PySem.W.nsIn K mainGlobals "MAX_COUNT" = some (some (.int 50 tc2)))
    {tc3 : Tok} (y3 : PySem.W.nsIn K mainGlobals "MAX_KINDS" = some (some (.int 4 tc3)))
    {c_BadCounts : Addr} (aC_BadCounts : PySem.W.nsIn K mainGlobals "BadCounts" = some (some (.ref c_BadCounts)))
    {c_BadHeap : Addr} (aC_BadHeap : PySem.W.nsIn K mainGlobals "BadHeap" = some (some (.ref c_BadHeap)))
    {c_BadKinds : Addr} (aC_BadKinds : PySem.W.nsIn K mainGlobals "BadKinds" = some (some (.ref c_BadKinds)))
    {c_BadWish : Addr} (aC_BadWish : PySem.W.nsIn K mainGlobals "BadWish" = some (some (.ref c_BadWish)))
    {c_DrawerError : Addr} (aC_DrawerError : PySem.W.nsIn K mainGlobals "DrawerError" = some (some (.ref c_DrawerError)))
    {c_Heap : Addr} (aC_Heap : PySem.W.nsIn K mainGlobals "Heap" = some (some (.ref c_Heap)))
    {c_OtherKinds : Addr} (aC_OtherKinds : PySem.W.nsIn K mainGlobals "OtherKinds" = some (some (.ref c_OtherKinds)))
    {c_Wish : Addr} (aC_Wish : PySem.W.nsIn K mainGlobals "Wish" = some (some (.ref c_Wish)))
    {fi_BadCounts : Addr} {odi_BadCounts ani_BadCounts : Option Addr} {sli_BadCounts : Array (Option Value)} {oci_BadCounts kVi_BadCounts dci_BadCounts pmi_BadCounts cdi_BadCounts cti_BadCounts : Value} (iC_BadCounts : PySem.W.findIn K (.ref c_BadCounts) "__init__" = some (some (.ref fi_BadCounts))) (iT_BadCounts : PySem.W.typeIn K (.ref fi_BadCounts) = some (.type "function")) (iL_BadCounts : K.lookup fi_BadCounts = some ⟨oci_BadCounts, odi_BadCounts, .func (PySem.W.fnOf "__init__" "BadCounts.__init__" (defArgs i_BadCounts) (defBody i_BadCounts) (defScope i_BadCounts) .none kVi_BadCounts dci_BadCounts pmi_BadCounts ani_BadCounts cdi_BadCounts cti_BadCounts), sli_BadCounts⟩) (iD_BadCounts : PySem.W.codeIn K cdi_BadCounts "BadCounts.__init__" = true) (iK_BadCounts : PySem.W.keepIn K (.ref fi_BadCounts) = true) (iO_BadCounts : oexC0 K c_BadCounts = true) (iA_BadCounts : PySem.W.findIn K (.ref c_BadCounts) "__setattr__" = some (some (.builtin "object.__setattr__"))) (iB_BadCounts : PySem.W.subIn K (.ref c_BadCounts) (.type "BaseException") = some true) (iY_BadCounts : PySem.W.typeIn K (.ref c_BadCounts) = some (.type "type")) (iE_BadCounts : PySem.W.keepIn K (.ref c_BadCounts) = true) (iN_BadCounts : PySem.W.findIn K (.ref c_BadCounts) "value" = some none)
    {fi_BadHeap : Addr} {odi_BadHeap ani_BadHeap : Option Addr} {sli_BadHeap : Array (Option Value)} {oci_BadHeap kVi_BadHeap dci_BadHeap pmi_BadHeap cdi_BadHeap cti_BadHeap : Value} (iC_BadHeap : PySem.W.findIn K (.ref c_BadHeap) "__init__" = some (some (.ref fi_BadHeap))) (iT_BadHeap : PySem.W.typeIn K (.ref fi_BadHeap) = some (.type "function")) (iL_BadHeap : K.lookup fi_BadHeap = some ⟨oci_BadHeap, odi_BadHeap, .func (PySem.W.fnOf "__init__" "BadHeap.__init__" (defArgs i_BadHeap) (defBody i_BadHeap) (defScope i_BadHeap) .none kVi_BadHeap dci_BadHeap pmi_BadHeap ani_BadHeap cdi_BadHeap cti_BadHeap), sli_BadHeap⟩) (iD_BadHeap : PySem.W.codeIn K cdi_BadHeap "BadHeap.__init__" = true) (iK_BadHeap : PySem.W.keepIn K (.ref fi_BadHeap) = true) (iO_BadHeap : oexC0 K c_BadHeap = true) (iA_BadHeap : PySem.W.findIn K (.ref c_BadHeap) "__setattr__" = some (some (.builtin "object.__setattr__"))) (iB_BadHeap : PySem.W.subIn K (.ref c_BadHeap) (.type "BaseException") = some true) (iY_BadHeap : PySem.W.typeIn K (.ref c_BadHeap) = some (.type "type")) (iE_BadHeap : PySem.W.keepIn K (.ref c_BadHeap) = true) (iN_BadHeap : PySem.W.findIn K (.ref c_BadHeap) "value" = some none)
    {fi_BadKinds : Addr} {odi_BadKinds ani_BadKinds : Option Addr} {sli_BadKinds : Array (Option Value)} {oci_BadKinds kVi_BadKinds dci_BadKinds pmi_BadKinds cdi_BadKinds cti_BadKinds : Value} (iC_BadKinds : PySem.W.findIn K (.ref c_BadKinds) "__init__" = some (some (.ref fi_BadKinds))) (iT_BadKinds : PySem.W.typeIn K (.ref fi_BadKinds) = some (.type "function")) (iL_BadKinds : K.lookup fi_BadKinds = some ⟨oci_BadKinds, odi_BadKinds, .func (PySem.W.fnOf "__init__" "BadKinds.__init__" (defArgs i_BadKinds) (defBody i_BadKinds) (defScope i_BadKinds) .none kVi_BadKinds dci_BadKinds pmi_BadKinds ani_BadKinds cdi_BadKinds cti_BadKinds), sli_BadKinds⟩) (iD_BadKinds : PySem.W.codeIn K cdi_BadKinds "BadKinds.__init__" = true) (iK_BadKinds : PySem.W.keepIn K (.ref fi_BadKinds) = true) (iO_BadKinds : oexC0 K c_BadKinds = true) (iA_BadKinds : PySem.W.findIn K (.ref c_BadKinds) "__setattr__" = some (some (.builtin "object.__setattr__"))) (iB_BadKinds : PySem.W.subIn K (.ref c_BadKinds) (.type "BaseException") = some true) (iY_BadKinds : PySem.W.typeIn K (.ref c_BadKinds) = some (.type "type")) (iE_BadKinds : PySem.W.keepIn K (.ref c_BadKinds) = true) (iN_BadKinds : PySem.W.findIn K (.ref c_BadKinds) "value" = some none)
    {fi_BadWish : Addr} {odi_BadWish ani_BadWish : Option Addr} {sli_BadWish : Array (Option Value)} {oci_BadWish kVi_BadWish dci_BadWish pmi_BadWish cdi_BadWish cti_BadWish : Value} (iC_BadWish : PySem.W.findIn K (.ref c_BadWish) "__init__" = some (some (.ref fi_BadWish))) (iT_BadWish : PySem.W.typeIn K (.ref fi_BadWish) = some (.type "function")) (iL_BadWish : K.lookup fi_BadWish = some ⟨oci_BadWish, odi_BadWish, .func (PySem.W.fnOf "__init__" "BadWish.__init__" (defArgs i_BadWish) (defBody i_BadWish) (defScope i_BadWish) .none kVi_BadWish dci_BadWish pmi_BadWish ani_BadWish cdi_BadWish cti_BadWish), sli_BadWish⟩) (iD_BadWish : PySem.W.codeIn K cdi_BadWish "BadWish.__init__" = true) (iK_BadWish : PySem.W.keepIn K (.ref fi_BadWish) = true) (iO_BadWish : oexC0 K c_BadWish = true) (iA_BadWish : PySem.W.findIn K (.ref c_BadWish) "__setattr__" = some (some (.builtin "object.__setattr__"))) (iB_BadWish : PySem.W.subIn K (.ref c_BadWish) (.type "BaseException") = some true) (iY_BadWish : PySem.W.typeIn K (.ref c_BadWish) = some (.type "type")) (iE_BadWish : PySem.W.keepIn K (.ref c_BadWish) = true) (iN_BadWish : PySem.W.findIn K (.ref c_BadWish) "value" = some none)
    (e0_BadHeap : (PySem.W.clsIn K c_BadHeap).isSome = true)
    (eg_BadHeap : PySem.W.findIn K (.ref c_BadHeap) "__getattribute__" = some (some (.builtin "BaseException.__getattribute__")))
    (et_BadHeap : PySem.W.findIn K (.ref c_BadHeap) "__getattr__" = some none)
    (es_BadHeap : PySem.W.subIn K (.ref c_BadHeap) (.type "BaseException") = some true)
    (ed_BadHeap : PySem.W.hasDictIn K c_BadHeap = true)
    (ea_BadHeap : PySem.W.findIn K (.ref c_BadHeap) "__class__" = some (some (.builtin "object.__class__")))
    (en_BadHeap : PySem.W.specialIn K (.builtin "object.__class__") "__get__" = some (some (.builtin "getset_descriptor.__get__")))
    (ek_BadHeap : PySem.W.takesIn K (.builtin "object.__class__") = some true)
    (em_BadHeap : PySem.W.mroIn K c_BadHeap (.type "object") = some true)
    (e0_BadKinds : (PySem.W.clsIn K c_BadKinds).isSome = true)
    (eg_BadKinds : PySem.W.findIn K (.ref c_BadKinds) "__getattribute__" = some (some (.builtin "BaseException.__getattribute__")))
    (et_BadKinds : PySem.W.findIn K (.ref c_BadKinds) "__getattr__" = some none)
    (es_BadKinds : PySem.W.subIn K (.ref c_BadKinds) (.type "BaseException") = some true)
    (ed_BadKinds : PySem.W.hasDictIn K c_BadKinds = true)
    (ea_BadKinds : PySem.W.findIn K (.ref c_BadKinds) "__class__" = some (some (.builtin "object.__class__")))
    (en_BadKinds : PySem.W.specialIn K (.builtin "object.__class__") "__get__" = some (some (.builtin "getset_descriptor.__get__")))
    (ek_BadKinds : PySem.W.takesIn K (.builtin "object.__class__") = some true)
    (em_BadKinds : PySem.W.mroIn K c_BadKinds (.type "object") = some true)
    (e0_BadWish : (PySem.W.clsIn K c_BadWish).isSome = true)
    (eg_BadWish : PySem.W.findIn K (.ref c_BadWish) "__getattribute__" = some (some (.builtin "BaseException.__getattribute__")))
    (et_BadWish : PySem.W.findIn K (.ref c_BadWish) "__getattr__" = some none)
    (es_BadWish : PySem.W.subIn K (.ref c_BadWish) (.type "BaseException") = some true)
    (ed_BadWish : PySem.W.hasDictIn K c_BadWish = true)
    (ea_BadWish : PySem.W.findIn K (.ref c_BadWish) "__class__" = some (some (.builtin "object.__class__")))
    (en_BadWish : PySem.W.specialIn K (.builtin "object.__class__") "__get__" = some (some (.builtin "getset_descriptor.__get__")))
    (ek_BadWish : PySem.W.takesIn K (.builtin "object.__class__") = some true)
    (em_BadWish : PySem.W.mroIn K c_BadWish (.type "object") = some true)
    (kit_BadHeap_BadCounts_OtherKinds_LookupError : PySem.W.kitAny K (.ref c_BadHeap) [(.ref c_BadCounts), (.ref c_OtherKinds), (.type "LookupError")] = some false)
    (kit_BadHeap_BadHeap : PySem.W.kitOne K (.ref c_BadHeap) (.ref c_BadHeap) = some true)
    (kit_BadHeap_BadKinds : PySem.W.kitOne K (.ref c_BadHeap) (.ref c_BadKinds) = some false)
    (kit_BadHeap_BadWish : PySem.W.kitOne K (.ref c_BadHeap) (.ref c_BadWish) = some false)
    (kit_BadKinds_BadCounts_OtherKinds_LookupError : PySem.W.kitAny K (.ref c_BadKinds) [(.ref c_BadCounts), (.ref c_OtherKinds), (.type "LookupError")] = some false)
    (kit_BadKinds_BadHeap : PySem.W.kitOne K (.ref c_BadKinds) (.ref c_BadHeap) = some false)
    (kit_BadKinds_BadKinds : PySem.W.kitOne K (.ref c_BadKinds) (.ref c_BadKinds) = some true)
    (kit_BadKinds_BadWish : PySem.W.kitOne K (.ref c_BadKinds) (.ref c_BadWish) = some false)
    (kit_BadWish_BadCounts_OtherKinds_LookupError : PySem.W.kitAny K (.ref c_BadWish) [(.ref c_BadCounts), (.ref c_OtherKinds), (.type "LookupError")] = some false)
    (kit_BadWish_BadHeap : PySem.W.kitOne K (.ref c_BadWish) (.ref c_BadHeap) = some false)
    (kit_BadWish_BadKinds : PySem.W.kitOne K (.ref c_BadWish) (.ref c_BadKinds) = some false)
    (kit_BadWish_BadWish : PySem.W.kitOne K (.ref c_BadWish) (.ref c_BadWish) = some true)
    (no_BadHeap_value : PySem.W.findIn K (.ref c_BadHeap) "value" = some none)
    (no_BadKinds_value : PySem.W.findIn K (.ref c_BadKinds) "value" = some none)
    (no_BadWish_value : PySem.W.findIn K (.ref c_BadWish) "value" = some none)
    (xm_BadHeap_DrawerError : PySem.W.exmOne K (.ref c_BadHeap) (.ref c_DrawerError) = some true)
    (xm_BadKinds_DrawerError : PySem.W.exmOne K (.ref c_BadKinds) (.ref c_DrawerError) = some true)
    (xm_BadWish_DrawerError : PySem.W.exmOne K (.ref c_BadWish) (.ref c_DrawerError) = some true)
    (pg_Heap : PySem.W.plainGet K c_Heap Str.empty = true)
    (hd_Heap : PySem.W.hasDictIn K c_Heap = true)
    (po_Heap : PySem.W.plainOver K c_Heap = true)
    (sa_Heap : PySem.W.findIn K (.ref c_Heap) "__setattr__" = some (some (.builtin "object.__setattr__")))
    (oa_Heap : PySem.W.findIn K (.ref c_Heap) "__class__" = some (some (.builtin "object.__class__")))
    (on_Heap : PySem.W.specialIn K (.builtin "object.__class__") "__get__" = some (some (.builtin "getset_descriptor.__get__")))
    (ot_Heap : PySem.W.takesIn K (.builtin "object.__class__") = some true)
    (om_Heap : PySem.W.mroIn K c_Heap (.type "object") = some true)
    (ok_Heap : (["NoneType", "bool", "int", "str", "list", "tuple", "dict"].all fun T => PySem.W.kitOne K (.ref c_Heap) (.type T) == some false) = true)
    (mk_Heap : PySem.W.makesIn K c_Heap = true)
    (kc_Heap : PySem.W.keepIn K (.ref c_Heap) = true)
    (pg_Wish : PySem.W.plainGet K c_Wish Str.empty = true)
    (hd_Wish : PySem.W.hasDictIn K c_Wish = true)
    (po_Wish : PySem.W.plainOver K c_Wish = true)
    (sa_Wish : PySem.W.findIn K (.ref c_Wish) "__setattr__" = some (some (.builtin "object.__setattr__")))
    (oa_Wish : PySem.W.findIn K (.ref c_Wish) "__class__" = some (some (.builtin "object.__class__")))
    (on_Wish : PySem.W.specialIn K (.builtin "object.__class__") "__get__" = some (some (.builtin "getset_descriptor.__get__")))
    (ot_Wish : PySem.W.takesIn K (.builtin "object.__class__") = some true)
    (om_Wish : PySem.W.mroIn K c_Wish (.type "object") = some true)
    (ok_Wish : (["NoneType", "bool", "int", "str", "list", "tuple", "dict"].all fun T => PySem.W.kitOne K (.ref c_Wish) (.type T) == some false) = true)
    (mk_Wish : PySem.W.makesIn K c_Wish = true)
    (kc_Wish : PySem.W.keepIn K (.ref c_Wish) = true)
    (ik1_Heap : PySem.W.kitOne K (.ref c_Heap) (.ref c_Heap) = some true)
    (ik2_Heap : (["NoneType", "bool", "int", "str", "list", "tuple", "dict"].all fun T => PySem.W.kitOne K (.type T) (.ref c_Heap) == some false) = true)
    (ik3_Heap : (["NoneType", "bool", "int", "str", "list", "tuple", "dict"].all fun T => PySem.W.subIn K (.ref c_Heap) (.type T) == some false) = true)
    (ik4_Heap : (["NoneType", "bool", "int", "str", "list", "tuple", "dict"].all fun T => PySem.W.subIn K (.type T) (.ref c_Heap) == some false) = true)
    {f3 : Addr} {od3 an3 : Option Addr} {sl3 : Array (Option Value)} {oc3 kV3 dc3 pm3 cd3 ct3 : Value} (m3 : PySem.W.findIn K (.ref c_Heap) "__eq__" = some (some (.ref f3))) (t3 : PySem.W.isFn K (.ref f3) = true) (l3 : K.lookup f3 = some ⟨oc3, od3, .func (PySem.W.fnOf "__eq__" "Heap.__eq__" (defArgs s_Heap____eq__) (defBody s_Heap____eq__) (defScope s_Heap____eq__) .none kV3 dc3 pm3 an3 cd3 ct3), sl3⟩) (c3 : PySem.W.codeIn K cd3 "Heap.__eq__" = true) (k3 : PySem.W.keepIn K (.ref f3) = true)
    {f4 : Addr} {od4 an4 : Option Addr} {sl4 : Array (Option Value)} {oc4 kV4 dc4 pm4 cd4 ct4 : Value} {p4 : Addr} {r4 : List Value} (m4 : PySem.W.findIn K (.ref c_Wish) "asked" = some (some (.ref p4))) (g4 : PySem.W.specialIn K (.ref p4) "__get__" = some (some (.builtin "property.__get__"))) (t4 : PySem.W.takesIn K (.ref p4) = some true) (q4 : PySem.W.recIn K p4 "property" = some (.ref f4 :: r4)) (l4 : K.lookup f4 = some ⟨oc4, od4, .func (PySem.W.fnOf "asked" "Wish.asked" (defArgs s_Wish__asked) (defBody s_Wish__asked) (defScope s_Wish__asked) .none kV4 dc4 pm4 an4 cd4 ct4), sl4⟩) (c4 : PySem.W.codeIn K cd4 "Wish.asked" = true) (k4 : PySem.W.keepIn K (.ref f4) = true)
    {f16 : Addr} {od16 an16 : Option Addr} {sl16 : Array (Option Value)} {oc16 kV16 dc16 pm16 cd16 ct16 : Value} (m16 : PySem.W.findIn K (.ref c_Heap) "__init__" = some (some (.ref f16))) (t16 : PySem.W.isFn K (.ref f16) = true) (l16 : K.lookup f16 = some ⟨oc16, od16, .func (PySem.W.fnOf "__init__" "Heap.__init__" (defArgs s_Heap____init__) (defBody s_Heap____init__) (defScope s_Heap____init__) .none kV16 dc16 pm16 an16 cd16 ct16), sl16⟩) (c16 : PySem.W.codeIn K cd16 "Heap.__init__" = true) (k16 : PySem.W.keepIn K (.ref f16) = true)
    {f17 : Addr} {od17 an17 : Option Addr} {sl17 : Array (Option Value)} {oc17 kV17 dc17 pm17 cd17 ct17 : Value} (m17 : PySem.W.findIn K (.ref c_Wish) "__call__" = some (some (.ref f17))) (t17 : PySem.W.isFn K (.ref f17) = true) (l17 : K.lookup f17 = some ⟨oc17, od17, .func (PySem.W.fnOf "__call__" "Wish.__call__" (defArgs s_Wish____call__) (defBody s_Wish____call__) (defScope s_Wish____call__) .none kV17 dc17 pm17 an17 cd17 ct17), sl17⟩) (c17 : PySem.W.codeIn K cd17 "Wish.__call__" = true) (k17 : PySem.W.keepIn K (.ref f17) = true)
    {f20 : Addr} {od20 an20 : Option Addr} {sl20 : Array (Option Value)} {oc20 kV20 dc20 pm20 cd20 ct20 : Value} (m20 : PySem.W.findIn K (.ref c_Wish) "__init__" = some (some (.ref f20))) (t20 : PySem.W.isFn K (.ref f20) = true) (l20 : K.lookup f20 = some ⟨oc20, od20, .func (PySem.W.fnOf "__init__" "Wish.__init__" (defArgs s_Wish____init__) (defBody s_Wish____init__) (defScope s_Wish____init__) .none kV20 dc20 pm20 an20 cd20 ct20), sl20⟩) (c20 : PySem.W.codeIn K cd20 "Wish.__init__" = true) (k20 : PySem.W.keepIn K (.ref f20) = true)
    (no_Heap_things : PySem.W.findIn K (.ref c_Heap) "things" = some none)
    (no_Wish_many : PySem.W.findIn K (.ref c_Wish) "many" = some none)
    (no_Wish_wanted : PySem.W.findIn K (.ref c_Wish) "wanted" = some none)
    (no_Wish_width : PySem.W.findIn K (.ref c_Wish) "width" = some none)
    : ∃ fd : FuncData, (∀ (s : Shared) (v : Value), BindsTo s fd ⟨[v], []⟩ [("_law_script", v)]) ∧ ∀ base : Heap, K.In base → base.Ns mainGlobals mg → SysAt base → FnG l.prog w K mg base 8 fa fd ["_law_script"] (spLaw K) := by
  have e := hfa.symm.trans (PySem.W.mg_of X G a23)
  cases e
  have F0 := fun_mk (st := s_is_number_stocks) l0 c0 k0
  have b0 := F0.binds (ps := ["value", "low", "high"]) fun _ _ _ _ _ _ us hl => match us, hl with | [_, _, _], _ => rfl
  have e0 := PySem.W.mg_of X G a0
  have F1 := fun_mk (st := s_contains) l1 c1 k1
  have b1 := F1.binds (ps := ["counts", "collection"]) fun _ _ _ _ _ _ us hl => match us, hl with | [_, _], _ => rfl
  have e1 := PySem.W.mg_of X G a1
  have F2 := fun_mk (st := s_is_number_values) l2 c2 k2
  have b2 := F2.binds (ps := ["value", "low", "high"]) fun _ _ _ _ _ _ us hl => match us, hl with | [_, _, _], _ => rfl
  have e2 := PySem.W.mg_of X G a2
  have F3 := fun_mk (st := s_Heap____eq__) l3 c3 k3
  have b3 := F3.binds (ps := ["self", "other"]) fun _ _ _ _ _ _ us hl => match us, hl with | [_, _], _ => rfl
  have F4 := fun_mk (st := s_Wish__asked) l4 c4 k4
  have b4 := F4.binds (ps := ["self"]) fun _ _ _ _ _ _ us hl => match us, hl with | [_], _ => rfl
  have F5 := fun_mk (st := s__law_draws) l5 c5 k5
  have b5 := F5.binds (ps := ["_law_script"]) fun _ _ _ _ _ _ us hl => match us, hl with | [_], _ => rfl
  have e5 := PySem.W.mg_of X G a5
  have F6 := fun_mk (st := s__law_next) l6 c6 k6
  have b6 := F6.binds (ps := ["_law_state", "_law_many"]) fun _ _ _ _ _ _ us hl => match us, hl with | [_, _], _ => rfl
  have e6 := PySem.W.mg_of X G a6
  have F7 := fun_mk (st := s__law_fulfilled) l7 c7 k7
  have b7 := F7.binds (ps := ["_law_collections_here", "_law_counts"]) fun _ _ _ _ _ _ us hl => match us, hl with | [_, _], _ => rfl
  have e7 := PySem.W.mg_of X G a7
  have F8 := fun_mk (st := s__law_word) l8 c8 k8
  have b8 := F8.binds (ps := ["_law_error"]) fun _ _ _ _ _ _ us hl => match us, hl with | [_], _ => rfl
  have e8 := PySem.W.mg_of X G a8
  have F9 := fun_mk (st := s__law_are_collections) l9 c9 k9
  have b9 := F9.binds (ps := ["_law_kinds", "_law_value"]) fun _ _ _ _ _ _ us hl => match us, hl with | [_, _], _ => rfl
  have e9 := PySem.W.mg_of X G a9
  have F10 := fun_mk (st := s_are_numbers) l10 c10 k10
  have b10 := F10.binds (ps := ["value", "count", "high"]) fun _ _ _ _ _ _ us hl => match us, hl with | [_, _, _], _ => rfl
  have e10 := PySem.W.mg_of X G a10
  have F11 := fun_mk (st := s_fulfilled_by) l11 c11 k11
  have b11 := F11.binds (ps := ["collections", "counts"]) fun _ _ _ _ _ _ us hl => match us, hl with | [_, _], _ => rfl
  have e11 := PySem.W.mg_of X G a11
  have F12 := fun_mk (st := s__law_collections) l12 c12 k12
  have b12 := F12.binds (ps := ["_law_state", "_law_kinds", "_law_most"]) fun _ _ _ _ _ _ us hl => match us, hl with | [_, _, _], _ => rfl
  have e12 := PySem.W.mg_of X G a12
  have F13 := fun_mk (st := s__law_odd) l13 c13 k13
  have b13 := F13.binds (ps := ["_law_state"]) fun _ _ _ _ _ _ us hl => match us, hl with | [_], _ => rfl
  have e13 := PySem.W.mg_of X G a13
  have F14 := fun_mk (st := s__law_due) l14 c14 k14
  have b14 := F14.binds (ps := ["_law_kinds", "_law_value"]) fun _ _ _ _ _ _ us hl => match us, hl with | [_, _], _ => rfl
  have e14 := PySem.W.mg_of X G a14
  have F15 := fun_mk (st := s_is_collection) l15 c15 k15
  have b15 := F15.binds (ps := ["kinds", "value"]) fun _ _ _ _ _ _ us hl => match us, hl with | [_, _], _ => rfl
  have e15 := PySem.W.mg_of X G a15
  have F16 := fun_mk (st := s_Heap____init__) l16 c16 k16
  have b16 := F16.binds (ps := ["self", "counts"]) fun _ _ _ _ _ _ us hl => match us, hl with | [_, _], _ => rfl
  have F17 := fun_mk (st := s_Wish____call__) l17 c17 k17
  have b17 := F17.binds (ps := ["self", "value"]) fun _ _ _ _ _ _ us hl => match us, hl with | [_, _], _ => rfl
  have F18 := fun_mk (st := s__law_bent) l18 c18 k18
  have b18 := F18.binds (ps := ["_law_state", "_law_collections_here"]) fun _ _ _ _ _ _ us hl => match us, hl with | [_, _], _ => rfl
  have e18 := PySem.W.mg_of X G a18
  have F19 := fun_mk (st := s_are_collections) l19 c19 k19
  have b19 := F19.binds (ps := ["kinds", "value"]) fun _ _ _ _ _ _ us hl => match us, hl with | [_, _], _ => rfl
  have e19 := PySem.W.mg_of X G a19
  have F20 := fun_mk (st := s_Wish____init__) l20 c20 k20
  have b20 := F20.binds (ps := ["self", "kinds", "collections"]) fun _ _ _ _ _ _ us hl => match us, hl with | [_, _, _], _ => rfl
  have F21 := fun_mk (st := s__law_called) l21 c21 k21
  have b21 := F21.binds (ps := ["_law_wish", "_law_value"]) fun _ _ _ _ _ _ us hl => match us, hl with | [_, _], _ => rfl
  have e21 := PySem.W.mg_of X G a21
  have F22 := fun_mk (st := s__law_made) l22 c22 k22
  have b22 := F22.binds (ps := ["_law_kinds", "_law_value"]) fun _ _ _ _ _ _ us hl => match us, hl with | [_, _], _ => rfl
  have e22 := PySem.W.mg_of X G a22
  have F23 := fun_mk (st := s_law) l23 c23 k23
  have mb_LookupError := PySem.W.mg_none_of X G z0
  have mb_abs := PySem.W.mg_none_of X G z1
  have mb_all := PySem.W.mg_none_of X G z2
  have mb_bool := PySem.W.mg_none_of X G z3
  have mb_enumerate := PySem.W.mg_none_of X G z4
  have mb_int := PySem.W.mg_none_of X G z5
  have mb_isinstance := PySem.W.mg_none_of X G z6
  have mb_len := PySem.W.mg_none_of X G z7
  have mb_list := PySem.W.mg_none_of X G z8
  have mb_max := PySem.W.mg_none_of X G z9
  have mb_range := PySem.W.mg_none_of X G z10
  have mb_repr := PySem.W.mg_none_of X G z11
  have mb_tuple := PySem.W.mg_none_of X G z12
  have mb_zip := PySem.W.mg_none_of X G z13
  have mc_LIMIT := PySem.W.mg_of X G y0
  have mc_MAX_COLLECTIONS := PySem.W.mg_of X G y1
  have mc_MAX_COUNT := PySem.W.mg_of X G y2
  have mc_MAX_KINDS := PySem.W.mg_of X G y3
  have mC_BadCounts := PySem.W.mg_of X G aC_BadCounts
  have mC_BadHeap := PySem.W.mg_of X G aC_BadHeap
  have mC_BadKinds := PySem.W.mg_of X G aC_BadKinds
  have mC_BadWish := PySem.W.mg_of X G aC_BadWish
  have mC_DrawerError := PySem.W.mg_of X G aC_DrawerError
  have mC_Heap := PySem.W.mg_of X G aC_Heap
  have mC_OtherKinds := PySem.W.mg_of X G aC_OtherKinds
  have mC_Wish := PySem.W.mg_of X G aC_Wish
  have cl_Heap : ClsOk K "Heap" c_Heap := ⟨aC_Heap, ⟨pg_Heap, hd_Heap, po_Heap, sa_Heap⟩, oa_Heap, on_Heap, ot_Heap, om_Heap, ok_Heap⟩
  have cl_Wish : ClsOk K "Wish" c_Wish := ⟨aC_Wish, ⟨pg_Wish, hd_Wish, po_Wish, sa_Wish⟩, oa_Wish, on_Wish, ot_Wish, om_Wish, ok_Wish⟩
  have hn_Heap_things : HasNo K "Heap" "things" := ⟨c_Heap, cl_Heap, no_Heap_things⟩
  have hn_Wish_many : HasNo K "Wish" "many" := ⟨c_Wish, cl_Wish, no_Wish_many⟩
  have hn_Wish_wanted : HasNo K "Wish" "wanted" := ⟨c_Wish, cl_Wish, no_Wish_wanted⟩
  have hn_Wish_width : HasNo K "Wish" "width" := ⟨c_Wish, cl_Wish, no_Wish_width⟩
  have ic_Heap : IsC K mg "Heap" := ⟨c_Heap, cl_Heap, mC_Heap, ik1_Heap, ik2_Heap, ik3_Heap, ik4_Heap⟩
  have nc_Heap_things : NoAttr K c_Heap "things" := no_Heap_things
  have er_BadHeap : ErK K c_BadHeap := ⟨e0_BadHeap, eg_BadHeap, et_BadHeap, es_BadHeap, ed_BadHeap, ea_BadHeap, en_BadHeap, ek_BadHeap, em_BadHeap⟩
  have er_BadKinds : ErK K c_BadKinds := ⟨e0_BadKinds, eg_BadKinds, et_BadKinds, es_BadKinds, ed_BadKinds, ea_BadKinds, en_BadKinds, ek_BadKinds, em_BadKinds⟩
  have er_BadWish : ErK K c_BadWish := ⟨e0_BadWish, eg_BadWish, et_BadWish, es_BadWish, ed_BadWish, ea_BadWish, en_BadWish, ek_BadWish, em_BadWish⟩
  have oe_BadCounts := oex_mk iO_BadCounts iA_BadCounts iB_BadCounts iY_BadCounts iE_BadCounts
  have Fi_BadCounts := fun_mk (st := i_BadCounts) iL_BadCounts iD_BadCounts iK_BadCounts
  have bi_BadCounts := Fi_BadCounts.binds (ps := ["self", "value"]) fun _ _ _ _ _ _ us hl => match us, hl with | [_, _], _ => rfl
  have oe_BadHeap := oex_mk iO_BadHeap iA_BadHeap iB_BadHeap iY_BadHeap iE_BadHeap
  have Fi_BadHeap := fun_mk (st := i_BadHeap) iL_BadHeap iD_BadHeap iK_BadHeap
  have bi_BadHeap := Fi_BadHeap.binds (ps := ["self", "value"]) fun _ _ _ _ _ _ us hl => match us, hl with | [_, _], _ => rfl
  have oe_BadKinds := oex_mk iO_BadKinds iA_BadKinds iB_BadKinds iY_BadKinds iE_BadKinds
  have Fi_BadKinds := fun_mk (st := i_BadKinds) iL_BadKinds iD_BadKinds iK_BadKinds
  have bi_BadKinds := Fi_BadKinds.binds (ps := ["self", "value"]) fun _ _ _ _ _ _ us hl => match us, hl with | [_, _], _ => rfl
  have oe_BadWish := oex_mk iO_BadWish iA_BadWish iB_BadWish iY_BadWish iE_BadWish
  have Fi_BadWish := fun_mk (st := i_BadWish) iL_BadWish iD_BadWish iK_BadWish
  have bi_BadWish := Fi_BadWish.binds (ps := ["self", "value"]) fun _ _ _ _ _ _ us hl => match us, hl with | [_, _], _ => rfl
  refine ⟨PySem.W.fnOf "law" "law" (defArgs s_law) (defBody s_law) (defScope s_law) .none kV23 dc23 pm23 an23 cd23 ct23, fun s v => .of_eq rfl, fun base _ _ hy => ?_⟩
  have e1_BadCounts : Er1 l.prog w K mg base "BadCounts" "value" c_BadCounts := er1_mk mC_BadCounts oe_BadCounts iC_BadCounts iT_BadCounts (init_ok Fi_BadCounts sci_BadCounts rfl oe_BadCounts iN_BadCounts fun cdv A outer s H E => pss_one (ps_ost (pv 0) (pv 1))) bi_BadCounts
  have e1_BadHeap : Er1 l.prog w K mg base "BadHeap" "value" c_BadHeap := er1_mk mC_BadHeap oe_BadHeap iC_BadHeap iT_BadHeap (init_ok Fi_BadHeap sci_BadHeap rfl oe_BadHeap iN_BadHeap fun cdv A outer s H E => pss_one (ps_ost (pv 0) (pv 1))) bi_BadHeap
  have e1_BadKinds : Er1 l.prog w K mg base "BadKinds" "value" c_BadKinds := er1_mk mC_BadKinds oe_BadKinds iC_BadKinds iT_BadKinds (init_ok Fi_BadKinds sci_BadKinds rfl oe_BadKinds iN_BadKinds fun cdv A outer s H E => pss_one (ps_ost (pv 0) (pv 1))) bi_BadKinds
  have e1_BadWish : Er1 l.prog w K mg base "BadWish" "value" c_BadWish := er1_mk mC_BadWish oe_BadWish iC_BadWish iT_BadWish (init_ok Fi_BadWish sci_BadWish rfl oe_BadWish iN_BadWish fun cdv A outer s H E => pss_one (ps_ost (pv 0) (pv 1))) bi_BadWish
  have d_is_number_stocks : Def l.prog w K mg base 1 "is_number_stocks" ["value", "low", "high"] (spJ K M_is_number_stocks) := ⟨f0, _, ok_is_number_stocks F0 hy mb_bool mb_int mb_isinstance, e0, k0, b0⟩
  have d_contains : Def l.prog w K mg base 1 "contains" ["counts", "collection"] (spJ K M_contains) := ⟨f1, _, ok_contains F1 hy mb_all mb_zip, e1, k1, b1⟩
  have d_is_number_values : Def l.prog w K mg base 1 "is_number_values" ["value", "low", "high"] (spJ K M_is_number_values) := ⟨f2, _, ok_is_number_values F2 hy mb_bool mb_int mb_isinstance, e2, k2, b2⟩
  have d_Heap____eq__ : MthG l.prog w K mg base 1 "Heap" "__eq__" ["self", "other"] (spJ K M_Heap____eq__) := ⟨c_Heap, f3, _, cl_Heap, ⟨m3, t3, k3⟩, ok_Heap____eq__ F3 hy hn_Heap_things ic_Heap mb_isinstance, b3⟩
  have dh_Heap____eq__ : MthGH l.prog w K mg base 1 "Heap" "__eq__" ["self", "other"] (spJ K M_Heap____eq__) := ⟨c_Heap, f3, _, cl_Heap, ⟨m3, t3, k3⟩, okh_Heap____eq__ F3 hy hn_Heap_things ic_Heap mb_isinstance, b3⟩
  have dp_Wish__asked : PrpG l.prog w K mg base 1 "Wish" "asked" ["self"] (spJ K M_Wish__asked) := ⟨c_Wish, p4, f4, _, cl_Wish, ⟨m4, g4, t4, ⟨r4, q4⟩⟩, ok_Wish__asked F4 hy hn_Wish_many, b4⟩
  have d__law_draws : Def l.prog w K mg base 1 "_law_draws" ["_law_script"] (spDeckZ K) := ⟨f5, _, ok__law_draws F5 mb_abs mb_int mb_len, e5, k5, b5⟩
  have d__law_next : Def l.prog w K mg base 1 "_law_next" ["_law_state", "_law_many"] (spJ K M__law_next) := ⟨f6, _, ok__law_next F6 hy mb_len, e6, k6, b6⟩
  have d__law_fulfilled : Def l.prog w K mg base 1 "_law_fulfilled" ["_law_collections_here", "_law_counts"] (spJ K M__law_fulfilled) := ⟨f7, _, ok__law_fulfilled F7 hy mb_len mb_range mb_zip, e7, k7, b7⟩
  have de__law_word : DefE l.prog w K mg base 1 "_law_word" ["_law_error"] ME__law_word := ⟨f8, _, oke__law_word F8 hy er_BadHeap er_BadKinds er_BadWish kit_BadHeap_BadCounts_OtherKinds_LookupError kit_BadHeap_BadHeap kit_BadHeap_BadKinds kit_BadHeap_BadWish kit_BadKinds_BadCounts_OtherKinds_LookupError kit_BadKinds_BadHeap kit_BadKinds_BadKinds kit_BadKinds_BadWish kit_BadWish_BadCounts_OtherKinds_LookupError kit_BadWish_BadHeap kit_BadWish_BadKinds kit_BadWish_BadWish mC_BadCounts mC_BadHeap mC_BadKinds mC_BadWish mC_OtherKinds no_BadHeap_value no_BadKinds_value no_BadWish_value mb_LookupError mb_isinstance, e8, k8, b8⟩
  have d__law_are_collections : Def l.prog w K mg base 1 "_law_are_collections" ["_law_kinds", "_law_value"] (spJ K M__law_are_collections) := ⟨f9, _, ok__law_are_collections F9 hy mb_bool mb_int mb_isinstance mb_len mb_tuple, e9, k9, b9⟩
  have d_are_numbers : Def l.prog w K mg base 2 "are_numbers" ["value", "count", "high"] (spJ K M_are_numbers) := ⟨f10, _, ok_are_numbers F10 hy d_is_number_stocks mb_all mb_isinstance mb_len mb_tuple, e10, k10, b10⟩
  have d_fulfilled_by : Def l.prog w K mg base 2 "fulfilled_by" ["collections", "counts"] (spJ K M_fulfilled_by) := ⟨f11, _, ok_fulfilled_by F11 hy d_contains mb_enumerate, e11, k11, b11⟩
  have d__law_collections : Def l.prog w K mg base 2 "_law_collections" ["_law_state", "_law_kinds", "_law_most"] (spJ K M__law_collections) := ⟨f12, _, ok__law_collections F12 hy d__law_next mb_int mb_range mb_tuple, e12, k12, b12⟩
  have d__law_odd : Def l.prog w K mg base 2 "_law_odd" ["_law_state"] (spJ K M__law_odd) := ⟨f13, _, ok__law_odd F13 hy d__law_next, e13, k13, b13⟩
  have d__law_due : Def l.prog w K mg base 2 "_law_due" ["_law_kinds", "_law_value"] (spJ K M__law_due) := ⟨f14, _, ok__law_due F14 hy d__law_are_collections mb_bool mb_int mb_isinstance, e14, k14, b14⟩
  have d_is_collection : Def l.prog w K mg base 3 "is_collection" ["kinds", "value"] (spJ K M_is_collection) := ⟨f15, _, ok_is_collection F15 hy d_are_numbers mb_max mc_MAX_COUNT, e15, k15, b15⟩
  have dx_Heap____init__ : MkX l.prog w K mg base 3 "Heap" ["self", "counts"] (spI K mg "Heap" MX_Heap____init__) := ⟨c_Heap, f16, _, cl_Heap, mC_Heap, ⟨mk_Heap, m16, t16, kc_Heap⟩, okx_Heap____init__ F16 hy cl_Heap e1_BadCounts nc_Heap_things d_is_number_values mb_all mb_isinstance mb_len mb_tuple mc_LIMIT mc_MAX_KINDS, b16⟩
  have dic_Wish____call__ : ICallX l.prog w K mg base 3 "Wish" ["self", "value"] (spX K mg MX_Wish____call__) := ⟨c_Wish, f17, _, cl_Wish, ⟨m17, t17, by unfold PySem.W.fnIn; rw [l17]⟩, okx_Wish____call__ F17 hy e1_BadHeap hn_Heap_things hn_Wish_many hn_Wish_wanted hn_Wish_width ic_Heap d_fulfilled_by mb_isinstance mb_len, b17⟩
  have d__law_bent : Def l.prog w K mg base 3 "_law_bent" ["_law_state", "_law_collections_here"] (spJ K M__law_bent) := ⟨f18, _, ok__law_bent F18 hy d__law_next d__law_odd mb_len mb_list, e18, k18, b18⟩
  have d_are_collections : Def l.prog w K mg base 4 "are_collections" ["kinds", "value"] (spJ K M_are_collections) := ⟨f19, _, ok_are_collections F19 hy d_is_collection mb_all mb_isinstance mb_len mb_tuple mc_MAX_COLLECTIONS, e19, k19, b19⟩
  have dx_Wish____init__ : MkX l.prog w K mg base 5 "Wish" ["self", "kinds", "collections"] (spX K mg MX_Wish____init__) := ⟨c_Wish, f20, _, cl_Wish, mC_Wish, ⟨mk_Wish, m20, t20, kc_Wish⟩, okx_Wish____init__ F20 hy e1_BadKinds e1_BadWish hn_Wish_many hn_Wish_wanted hn_Wish_width d_are_collections d_is_number_values mc_MAX_KINDS, b20⟩
  have d__law_called : Def l.prog w K mg base 5 "_law_called" ["_law_wish", "_law_value"] (spJ K M__law_called) := ⟨f21, _, ok__law_called F21 hy er_BadHeap ic_Heap mC_BadHeap mC_DrawerError no_BadHeap_value xm_BadHeap_DrawerError de__law_word dh_Heap____eq__ dic_Wish____call__, e21, k21, b21⟩
  have d__law_made : Def l.prog w K mg base 7 "_law_made" ["_law_kinds", "_law_value"] (spJ K M__law_made) := ⟨f22, _, ok__law_made F22 hy mC_BadKinds mC_BadWish mC_DrawerError xm_BadKinds_DrawerError xm_BadWish_DrawerError de__law_word dp_Wish__asked dx_Wish____init__, e22, k22, b22⟩
  exact ok_law F23 hy d__law_bent d__law_called d__law_collections d__law_due d__law_fulfilled d__law_made d__law_next d__law_odd dp_Wish__asked dx_Heap____init__ dic_Wish____call__ dx_Wish____init__ mb_int mb_len mb_max mb_range mb_repr mb_tuple d__law_draws hM
end DD
set_option maxHeartbeats 1000000
namespace DD
open PySem PySem.Spec PyProof.Rows L2
/-! mirrors that raise: equations -/
instance : MoL Xo := ⟨fun _ _ => rfl, fun x f g => by
  match x with
  | some (.ok a) => rfl
  | some (.error e) => rfl
  | none => rfl, fun _ => rfl⟩
def retX {α : Type} (x : Except Exn α) : Xo α := some x
/-- counts contain a row -/
def cont (c r : List Int) : Bool := (c.zip r).all fun p => decide (p.2 ≤ p.1)
def fulf (rows : List (List Int)) (c : List Int) : Option Nat := firstN (cont c) rows
theorem cont_iff {c r : List Int} (h : c.length = r.length) : cont c r = true ↔ ∀ j, j < r.length → r.getD j 0 ≤ c.getD j 0 := by
  unfold cont
  rw [List.all_eq_true]
  constructor
  · intro hp j hj
    have := hp (c.getD j 0, r.getD j 0) (List.mem_iff_getElem.mpr ⟨j, by simp; omega, by simp [List.getD, hj, h]⟩)
    simpa using this
  · intro hp p hp2
    obtain ⟨j, hj, rfl⟩ := List.mem_iff_getElem.mp hp2
    have hj1 : j < r.length := by simp at hj; omega
    have := hp j hj1
    simpa [List.getD, hj1, h] using this
theorem contains_eq {c r : List Int} (h : c.length ≤ r.length) (hs : c.length ≤ 1000000) : m_contains (tI c) (tI r) = some (.bool (cont c r)) := by
  unfold m_contains
  simp only [op2, op1, cmp2, chain3, tst, notB, andB, orB, andD, orD, iteM, consM, starM, smallM, tupM, tupSM, lstM, argV, argK, comp1, comp1i, comp2, comp2i, comp11, seqM, rng1, rng2, zipSM, zip2M, zip3M, enumM, repM, joinM, catM, par3LM, put2M, popM, parLV, putVM, unpS, trg1M, sortSetM, orV, lrg1M, par3M, rdM, rdLM, partM, slcM, isiM, rtM, forM1, forM2, forM3, parM, unp2, unp3, unp2A, unp3A, unp4A, ob_pure, ob_some, ob_lift, Option.pure_def, add_int, sub_int, lt_int, le_int, gt_int, ge_int, eq_int, ne_int, min_int, max_int, neg_int, bool_bool, not_bool, is_none, isn_none, nn_int, nn_none, nn_tup, len_tup, len_lst, tup_lst, tup_tup, it_lst, it_tup, int_bool, int_int, oint_int, addI_int, subI_int, flat_tI, flat_int, flat_none, Option.bind_some, Option.map_some, Int.zero_add, thenB, thenM, List.nil_append, List.length_map, ob_assoc, zip_map h]
  rw [small_ok (by simp; omega)]
  simp only [op2, op1, cmp2, chain3, tst, notB, andB, orB, andD, orD, iteM, consM, starM, smallM, tupM, tupSM, lstM, argV, argK, comp1, comp1i, comp2, comp2i, comp11, seqM, rng1, rng2, zipSM, zip2M, zip3M, enumM, repM, joinM, catM, par3LM, put2M, popM, parLV, putVM, unpS, trg1M, sortSetM, orV, lrg1M, par3M, rdM, rdLM, partM, slcM, isiM, rtM, forM1, forM2, forM3, parM, unp2, unp3, unp2A, unp3A, unp4A, ob_pure, ob_some, ob_lift, Option.pure_def, add_int, sub_int, lt_int, le_int, gt_int, ge_int, eq_int, ne_int, min_int, max_int, neg_int, bool_bool, not_bool, is_none, isn_none, nn_int, nn_none, nn_tup, len_tup, len_lst, tup_lst, tup_tup, it_lst, it_tup, int_bool, int_int, oint_int, addI_int, subI_int, flat_tI, flat_int, flat_none, Option.bind_some, Option.map_some, Int.zero_add, thenB, thenM, List.nil_append, List.length_map, ob_assoc]
  refine bindE (lcA_map2 (m := Option) (Ga := fun p : Int × Int => .int p.1) (Gb := fun p => .int p.2) (G := fun p => .bool (decide (p.2 ≤ p.1))) (fun _ => rfl) (c.zip r) [] fun p hp => rfl) ?_
  simp only [List.nil_append]
  exact all_map (p := fun p : Int × Int => decide (p.2 ≤ p.1)) (c.zip r)
theorem fulf_eq {rows : List (List Int)} {c : List Int} (h : ∀ r ∈ rows, c.length ≤ r.length) (hs : c.length ≤ 1000000) : m_fulfilled_by (tT rows) (tI c) = some (oN (fulf rows c)) := by
  unfold m_fulfilled_by
  simp only [op2, op1, cmp2, chain3, tst, notB, andB, orB, andD, orD, iteM, consM, starM, smallM, tupM, tupSM, lstM, argV, argK, comp1, comp1i, comp2, comp2i, comp11, seqM, rng1, rng2, zipSM, zip2M, zip3M, enumM, repM, joinM, catM, par3LM, put2M, popM, parLV, putVM, unpS, trg1M, sortSetM, orV, lrg1M, par3M, rdM, rdLM, partM, slcM, isiM, rtM, forM1, forM2, forM3, parM, unp2, unp3, unp2A, unp3A, unp4A, ob_pure, ob_some, ob_lift, Option.pure_def, add_int, sub_int, lt_int, le_int, gt_int, ge_int, eq_int, ne_int, min_int, max_int, neg_int, bool_bool, not_bool, is_none, isn_none, nn_int, nn_none, nn_tup, len_tup, len_lst, tup_lst, tup_tup, it_lst, it_tup, int_bool, int_int, oint_int, addI_int, subI_int, flat_tI, flat_int, flat_none, Option.bind_some, Option.map_some, Int.zero_add, thenB, thenM, List.nil_append, List.length_map, enum_map]
  refine bindE (loop_find (m := Option) (p := fun q : List Int × Nat => cont c q.1) (R := fun q => .int (q.2 : Nat)) rows.zipIdx fun q hq => ?_) ?_
  · have hr : q.1 ∈ rows := (List.mem_zipIdx hq).2.2 ▸ List.getElem_mem _
    have e : M_contains [.val (tI c), .val (tI q.1)] = some (.bool (cont c q.1)) := contains_eq (h _ hr) hs
    simp only [pairM, e, op2, op1, cmp2, chain3, tst, notB, andB, orB, andD, orD, iteM, consM, starM, smallM, tupM, tupSM, lstM, argV, argK, comp1, comp1i, comp2, comp2i, comp11, seqM, rng1, rng2, zipSM, zip2M, zip3M, enumM, repM, joinM, catM, par3LM, put2M, popM, parLV, putVM, unpS, trg1M, sortSetM, orV, lrg1M, par3M, rdM, rdLM, partM, slcM, isiM, rtM, forM1, forM2, forM3, parM, unp2, unp3, unp2A, unp3A, unp4A, ob_pure, ob_some, ob_lift, Option.pure_def, add_int, sub_int, lt_int, le_int, gt_int, ge_int, eq_int, ne_int, min_int, max_int, neg_int, bool_bool, not_bool, is_none, isn_none, nn_int, nn_none, nn_tup, len_tup, len_lst, tup_lst, tup_tup, it_lst, it_tup, int_bool, int_int, oint_int, addI_int, subI_int, flat_tI, flat_int, flat_none, Option.bind_some, Option.map_some, Int.zero_add, thenB, thenM, List.nil_append, List.length_map]
  · unfold fulf firstN
    cases rows.zipIdx.find? fun q => cont c q.1 <;> rfl
/-- a number from lo to hi -/
def numB (lo hi : Int) : D → Bool
  | .int i => decide (lo ≤ i) && decide (i ≤ hi)
  | _ => false
theorem all_raw {p : D → Bool} (xs : List D) : allD (.list (xs.map fun x => .bool (p x))) = some (.bool (xs.all p)) := all_map xs
def ints? : List D → List Int
  | [] => []
  | .int i :: r => i :: ints? r
  | _ :: r => ints? r
def numsB (n : Nat) (hi : Int) : D → Bool
  | .tuple xs => decide (xs.length = n) && xs.all (numB 0 hi)
  | _ => false
theorem isnum_eq (d : D) (lo hi : Int) : m_is_number_stocks d (.int lo) (.int hi) = some (.bool (numB lo hi d)) := by
  unfold m_is_number_stocks
  cases d with
  | int i =>
    simp only [op2, op1, cmp2, chain3, tst, notB, andB, orB, andD, orD, iteM, consM, starM, smallM, tupM, tupSM, lstM, argV, argK, comp1, comp1i, comp2, comp2i, comp11, seqM, rng1, rng2, zipSM, zip2M, zip3M, enumM, repM, joinM, catM, par3LM, put2M, popM, parLV, putVM, unpS, trg1M, sortSetM, orV, lrg1M, par3M, rdM, rdLM, partM, slcM, isiM, rtM, forM1, forM2, forM3, parM, unp2, unp3, unp2A, unp3A, unp4A, ob_pure, ob_some, ob_lift, Option.pure_def, add_int, sub_int, lt_int, le_int, gt_int, ge_int, eq_int, ne_int, min_int, max_int, neg_int, bool_bool, not_bool, is_none, isn_none, nn_int, nn_none, nn_tup, len_tup, len_lst, tup_lst, tup_tup, it_lst, it_tup, int_bool, int_int, oint_int, addI_int, subI_int, flat_tI, flat_int, flat_none, Option.bind_some, Option.map_some, Int.zero_add, thenB, thenM, List.nil_append, List.length_map, ob_assoc, numB, isiB, typeN]
    by_cases h : lo ≤ i <;> simp [h]
  | _ => simp [op2, op1, cmp2, chain3, tst, notB, andB, orB, andD, orD, iteM, consM, starM, smallM, tupM, tupSM, lstM, argV, argK, comp1, comp1i, comp2, comp2i, comp11, seqM, rng1, rng2, zipSM, zip2M, zip3M, enumM, repM, joinM, catM, par3LM, put2M, popM, parLV, putVM, unpS, trg1M, sortSetM, orV, lrg1M, par3M, rdM, rdLM, partM, slcM, isiM, rtM, forM1, forM2, forM3, parM, unp2, unp3, unp2A, unp3A, unp4A, ob_pure, ob_some, ob_lift, Option.pure_def, add_int, sub_int, lt_int, le_int, gt_int, ge_int, eq_int, ne_int, min_int, max_int, neg_int, bool_bool, not_bool, is_none, isn_none, nn_int, nn_none, nn_tup, len_tup, len_lst, tup_lst, tup_tup, it_lst, it_tup, int_bool, int_int, oint_int, addI_int, subI_int, flat_tI, flat_int, flat_none, Option.bind_some, Option.map_some, Int.zero_add, thenB, thenM, List.nil_append, List.length_map, ob_assoc, numB, isiB, typeN]
theorem arenums_eq (d : D) {n : Nat} {hi : Int} (hn : n ≤ 1000000) : m_are_numbers d (.int (n : Nat)) (.int hi) = some (.bool (numsB n hi d)) := by
  unfold m_are_numbers
  cases d with
  | tuple xs =>
    simp only [op2, op1, cmp2, chain3, tst, notB, andB, orB, andD, orD, iteM, consM, starM, smallM, tupM, tupSM, lstM, argV, argK, comp1, comp1i, comp2, comp2i, comp11, seqM, rng1, rng2, zipSM, zip2M, zip3M, enumM, repM, joinM, catM, par3LM, put2M, popM, parLV, putVM, unpS, trg1M, sortSetM, orV, lrg1M, par3M, rdM, rdLM, partM, slcM, isiM, rtM, forM1, forM2, forM3, parM, unp2, unp3, unp2A, unp3A, unp4A, ob_pure, ob_some, ob_lift, Option.pure_def, add_int, sub_int, lt_int, le_int, gt_int, ge_int, eq_int, ne_int, min_int, max_int, neg_int, bool_bool, not_bool, is_none, isn_none, nn_int, nn_none, nn_tup, len_tup, len_lst, tup_lst, tup_tup, it_lst, it_tup, int_bool, int_int, oint_int, addI_int, subI_int, flat_tI, flat_int, flat_none, Option.bind_some, Option.map_some, Int.zero_add, thenB, thenM, List.nil_append, List.length_map, ob_assoc, numsB, isiB, typeN]
    by_cases h : xs.length = n
    · rw [small_ok (by omega)]
      have e : (((xs.length : Nat) : Int) == (n : Int)) = true := by simp [h]
      have e1 : ∀ d ∈ xs, M_is_number_stocks [.val d, .val (.int 0), .val (.int hi)] = some (.bool (numB 0 hi d)) := fun d _ => isnum_eq d 0 hi
      simp only [e, h, beq_self_eq_true, Bool.true_or, Bool.not_true, Bool.false_eq_true, if_false, op2, op1, cmp2, chain3, tst, notB, andB, orB, andD, orD, iteM, consM, starM, smallM, tupM, tupSM, lstM, argV, argK, comp1, comp1i, comp2, comp2i, comp11, seqM, rng1, rng2, zipSM, zip2M, zip3M, enumM, repM, joinM, catM, par3LM, put2M, popM, parLV, putVM, unpS, trg1M, sortSetM, orV, lrg1M, par3M, rdM, rdLM, partM, slcM, isiM, rtM, forM1, forM2, forM3, parM, unp2, unp3, unp2A, unp3A, unp4A, ob_pure, ob_some, ob_lift, Option.pure_def, add_int, sub_int, lt_int, le_int, gt_int, ge_int, eq_int, ne_int, min_int, max_int, neg_int, bool_bool, not_bool, is_none, isn_none, nn_int, nn_none, nn_tup, len_tup, len_lst, tup_lst, tup_tup, it_lst, it_tup, int_bool, int_int, oint_int, addI_int, subI_int, flat_tI, flat_int, flat_none, Option.bind_some, Option.map_some, Int.zero_add, thenB, thenM, List.nil_append, List.length_map, decide_true, Bool.true_and]
      rw [lcA_map xs [] e1]
      simp only [List.nil_append, op2, op1, cmp2, chain3, tst, notB, andB, orB, andD, orD, iteM, consM, starM, smallM, tupM, tupSM, lstM, argV, argK, comp1, comp1i, comp2, comp2i, comp11, seqM, rng1, rng2, zipSM, zip2M, zip3M, enumM, repM, joinM, catM, par3LM, put2M, popM, parLV, putVM, unpS, trg1M, sortSetM, orV, lrg1M, par3M, rdM, rdLM, partM, slcM, isiM, rtM, forM1, forM2, forM3, parM, unp2, unp3, unp2A, unp3A, unp4A, ob_pure, ob_some, ob_lift, Option.pure_def, add_int, sub_int, lt_int, le_int, gt_int, ge_int, eq_int, ne_int, min_int, max_int, neg_int, bool_bool, not_bool, is_none, isn_none, nn_int, nn_none, nn_tup, len_tup, len_lst, tup_lst, tup_tup, it_lst, it_tup, int_bool, int_int, oint_int, addI_int, subI_int, flat_tI, flat_int, flat_none, Option.bind_some, Option.map_some, Int.zero_add, thenB, thenM, List.nil_append, List.length_map]
      exact all_raw xs
    · have e : (((xs.length : Nat) : Int) == (n : Int)) = false := by simp; omega
      simp [e, h]
  | _ => simp [op2, op1, cmp2, chain3, tst, notB, andB, orB, andD, orD, iteM, consM, starM, smallM, tupM, tupSM, lstM, argV, argK, comp1, comp1i, comp2, comp2i, comp11, seqM, rng1, rng2, zipSM, zip2M, zip3M, enumM, repM, joinM, catM, par3LM, put2M, popM, parLV, putVM, unpS, trg1M, sortSetM, orV, lrg1M, par3M, rdM, rdLM, partM, slcM, isiM, rtM, forM1, forM2, forM3, parM, unp2, unp3, unp2A, unp3A, unp4A, ob_pure, ob_some, ob_lift, Option.pure_def, add_int, sub_int, lt_int, le_int, gt_int, ge_int, eq_int, ne_int, min_int, max_int, neg_int, bool_bool, not_bool, is_none, isn_none, nn_int, nn_none, nn_tup, len_tup, len_lst, tup_lst, tup_tup, it_lst, it_tup, int_bool, int_int, oint_int, addI_int, subI_int, flat_tI, flat_int, flat_none, Option.bind_some, Option.map_some, Int.zero_add, thenB, thenM, List.nil_append, List.length_map, ob_assoc, numsB, isiB, typeN]
theorem nums_ints {n : Nat} {hi : Int} {d : D} (h : numsB n hi d = true) : ∃ r : List Int, d = tI r ∧ r.length = n ∧ ∀ x ∈ r, 0 ≤ x ∧ x ≤ hi := by
  cases d with
  | tuple xs =>
    simp only [numsB, Bool.and_eq_true, decide_eq_true_eq, List.all_eq_true] at h
    obtain ⟨r, rfl, hr⟩ := ints_ex (P := fun x => 0 ≤ x ∧ x ≤ hi) xs fun e he => by
      have := h.2 e he
      cases e with
      | int i => simp only [numB, Bool.and_eq_true, decide_eq_true_eq] at this; exact ⟨i, rfl, this⟩
      | _ => simp [numB] at this
    exact ⟨r, rfl, by simpa using h.1, hr⟩
  | _ => simp [numsB] at h
theorem ints_nums {n : Nat} {hi : Int} {r : List Int} (hl : r.length = n) (h : ∀ x ∈ r, 0 ≤ x ∧ x ≤ hi) : numsB n hi (tI r) = true := by
  simp only [numsB, Bool.and_eq_true, decide_eq_true_eq, List.all_eq_true, List.mem_map]
  refine ⟨by simpa using hl, ?_⟩
  rintro _ ⟨x, hx, rfl⟩
  simp only [numB, Bool.and_eq_true, decide_eq_true_eq]
  exact h x hx
def posB : D → Bool
  | .tuple xs => xs.any fun d => match d with | .int i => decide (0 < i) | _ => false
  | _ => false
def collB (k : Nat) (d : D) : Bool := numsB k 50 d && posB d
theorem posB_tI (r : List Int) : posB (tI r) = r.any fun x => decide (0 < x) := by
  simp [posB, Function.comp_def]
theorem max_pos {r : List Int} {v : Int} (h : r.max? = some v) : decide (0 < v) = r.any fun x => decide (0 < x) := by
  rw [Bool.eq_iff_iff, decide_eq_true_eq, List.any_eq_true]
  have := List.max?_eq_some_iff.mp h
  constructor
  · intro h0
    exact ⟨v, this.1, by simpa using h0⟩
  · rintro ⟨x, hx, h0⟩
    have := this.2 x hx
    simp at h0
    omega
theorem iscoll_eq (d : D) {k : Nat} (k1 : 1 ≤ k) (k4 : k ≤ 1000000) : m_is_collection (.int (k : Nat)) d = some (.bool (collB k d)) := by
  unfold m_is_collection collB
  have e1 : M_are_numbers [.val d, .val (.int (k : Nat)), .val (.int 50)] = some (.bool (numsB k 50 d)) := arenums_eq d k4
  simp only [op2, op1, cmp2, chain3, tst, notB, andB, orB, andD, orD, iteM, consM, starM, smallM, tupM, tupSM, lstM, argV, argK, comp1, comp1i, comp2, comp2i, comp11, seqM, rng1, rng2, zipSM, zip2M, zip3M, enumM, repM, joinM, catM, par3LM, put2M, popM, parLV, putVM, unpS, trg1M, sortSetM, orV, lrg1M, par3M, rdM, rdLM, partM, slcM, isiM, rtM, forM1, forM2, forM3, parM, unp2, unp3, unp2A, unp3A, unp4A, ob_pure, ob_some, ob_lift, Option.pure_def, add_int, sub_int, lt_int, le_int, gt_int, ge_int, eq_int, ne_int, min_int, max_int, neg_int, bool_bool, not_bool, is_none, isn_none, nn_int, nn_none, nn_tup, len_tup, len_lst, tup_lst, tup_tup, it_lst, it_tup, int_bool, int_int, oint_int, addI_int, subI_int, flat_tI, flat_int, flat_none, Option.bind_some, Option.map_some, Int.zero_add, thenB, thenM, List.nil_append, List.length_map, ob_assoc, e1]
  cases h : numsB k 50 d with
  | false => simp
  | true =>
    obtain ⟨r, rfl, hl, hr⟩ := nums_ints h
    obtain ⟨v, hv⟩ : ∃ v, r.max? = some v := by
      cases r with
      | nil => simp at hl; omega
      | cons x r => exact ⟨_, rfl⟩
    rw [max_tI hv]
    simp only [op2, op1, cmp2, chain3, tst, notB, andB, orB, andD, orD, iteM, consM, starM, smallM, tupM, tupSM, lstM, argV, argK, comp1, comp1i, comp2, comp2i, comp11, seqM, rng1, rng2, zipSM, zip2M, zip3M, enumM, repM, joinM, catM, par3LM, put2M, popM, parLV, putVM, unpS, trg1M, sortSetM, orV, lrg1M, par3M, rdM, rdLM, partM, slcM, isiM, rtM, forM1, forM2, forM3, parM, unp2, unp3, unp2A, unp3A, unp4A, ob_pure, ob_some, ob_lift, Option.pure_def, add_int, sub_int, lt_int, le_int, gt_int, ge_int, eq_int, ne_int, min_int, max_int, neg_int, bool_bool, not_bool, is_none, isn_none, nn_int, nn_none, nn_tup, len_tup, len_lst, tup_lst, tup_tup, it_lst, it_tup, int_bool, int_int, oint_int, addI_int, subI_int, flat_tI, flat_int, flat_none, Option.bind_some, Option.map_some, Int.zero_add, thenB, thenM, List.nil_append, List.length_map, posB_tI, ← max_pos hv]
    simp
def collsB (k : Nat) : D → Bool
  | .tuple xs => decide (1 ≤ xs.length) && decide (xs.length ≤ 4) && xs.all (collB k)
  | _ => false
theorem arecolls_eq (d : D) {k : Nat} (k1 : 1 ≤ k) (k4 : k ≤ 1000000) : m_are_collections (.int (k : Nat)) d = some (.bool (collsB k d)) := by
  unfold m_are_collections
  cases d with
  | tuple xs =>
    simp only [op2, op1, cmp2, chain3, tst, notB, andB, orB, andD, orD, iteM, consM, starM, smallM, tupM, tupSM, lstM, argV, argK, comp1, comp1i, comp2, comp2i, comp11, seqM, rng1, rng2, zipSM, zip2M, zip3M, enumM, repM, joinM, catM, par3LM, put2M, popM, parLV, putVM, unpS, trg1M, sortSetM, orV, lrg1M, par3M, rdM, rdLM, partM, slcM, isiM, rtM, forM1, forM2, forM3, parM, unp2, unp3, unp2A, unp3A, unp4A, ob_pure, ob_some, ob_lift, Option.pure_def, add_int, sub_int, lt_int, le_int, gt_int, ge_int, eq_int, ne_int, min_int, max_int, neg_int, bool_bool, not_bool, is_none, isn_none, nn_int, nn_none, nn_tup, len_tup, len_lst, tup_lst, tup_tup, it_lst, it_tup, int_bool, int_int, oint_int, addI_int, subI_int, flat_tI, flat_int, flat_none, Option.bind_some, Option.map_some, Int.zero_add, thenB, thenM, List.nil_append, List.length_map, ob_assoc, collsB, isiB, typeN]
    by_cases h1 : 1 ≤ xs.length
    · by_cases h4 : xs.length ≤ 4
      · have a1 : (1 : Int) ≤ (xs.length : Int) := by omega
        have a4 : (xs.length : Int) ≤ 4 := by omega
        have e1 : ∀ d ∈ xs, M_is_collection [.val (.int (k : Nat)), .val d] = some (.bool (collB k d)) := fun d _ => iscoll_eq d k1 k4
        rw [small_ok (by omega)]
        simp only [a1, a4, h1, h4, beq_self_eq_true, Bool.true_or, Bool.not_true, Bool.false_eq_true, if_false, if_true, op2, op1, cmp2, chain3, tst, notB, andB, orB, andD, orD, iteM, consM, starM, smallM, tupM, tupSM, lstM, argV, argK, comp1, comp1i, comp2, comp2i, comp11, seqM, rng1, rng2, zipSM, zip2M, zip3M, enumM, repM, joinM, catM, par3LM, put2M, popM, parLV, putVM, unpS, trg1M, sortSetM, orV, lrg1M, par3M, rdM, rdLM, partM, slcM, isiM, rtM, forM1, forM2, forM3, parM, unp2, unp3, unp2A, unp3A, unp4A, ob_pure, ob_some, ob_lift, Option.pure_def, add_int, sub_int, lt_int, le_int, gt_int, ge_int, eq_int, ne_int, min_int, max_int, neg_int, bool_bool, not_bool, is_none, isn_none, nn_int, nn_none, nn_tup, len_tup, len_lst, tup_lst, tup_tup, it_lst, it_tup, int_bool, int_int, oint_int, addI_int, subI_int, flat_tI, flat_int, flat_none, Option.bind_some, Option.map_some, Int.zero_add, thenB, thenM, List.nil_append, List.length_map, decide_true, Bool.true_and]
        rw [lcA_map xs [] e1]
        simp only [List.nil_append, op2, op1, cmp2, chain3, tst, notB, andB, orB, andD, orD, iteM, consM, starM, smallM, tupM, tupSM, lstM, argV, argK, comp1, comp1i, comp2, comp2i, comp11, seqM, rng1, rng2, zipSM, zip2M, zip3M, enumM, repM, joinM, catM, par3LM, put2M, popM, parLV, putVM, unpS, trg1M, sortSetM, orV, lrg1M, par3M, rdM, rdLM, partM, slcM, isiM, rtM, forM1, forM2, forM3, parM, unp2, unp3, unp2A, unp3A, unp4A, ob_pure, ob_some, ob_lift, Option.pure_def, add_int, sub_int, lt_int, le_int, gt_int, ge_int, eq_int, ne_int, min_int, max_int, neg_int, bool_bool, not_bool, is_none, isn_none, nn_int, nn_none, nn_tup, len_tup, len_lst, tup_lst, tup_tup, it_lst, it_tup, int_bool, int_int, oint_int, addI_int, subI_int, flat_tI, flat_int, flat_none, Option.bind_some, Option.map_some, Int.zero_add, thenB, thenM, List.nil_append, List.length_map]
        exact all_raw xs
      · have a1 : (1 : Int) ≤ (xs.length : Int) := by omega
        have a4 : ¬ (xs.length : Int) ≤ 4 := by omega
        simp [a1, a4, h4, bool_bool]
    · have a1 : ¬ (1 : Int) ≤ (xs.length : Int) := by omega
      simp [a1, h1, bool_bool]
  | _ => simp [op2, op1, cmp2, chain3, tst, notB, andB, orB, andD, orD, iteM, consM, starM, smallM, tupM, tupSM, lstM, argV, argK, comp1, comp1i, comp2, comp2i, comp11, seqM, rng1, rng2, zipSM, zip2M, zip3M, enumM, repM, joinM, catM, par3LM, put2M, popM, parLV, putVM, unpS, trg1M, sortSetM, orV, lrg1M, par3M, rdM, rdLM, partM, slcM, isiM, rtM, forM1, forM2, forM3, parM, unp2, unp3, unp2A, unp3A, unp4A, ob_pure, ob_some, ob_lift, Option.pure_def, add_int, sub_int, lt_int, le_int, gt_int, ge_int, eq_int, ne_int, min_int, max_int, neg_int, bool_bool, not_bool, is_none, isn_none, nn_int, nn_none, nn_tup, len_tup, len_lst, tup_lst, tup_tup, it_lst, it_tup, int_bool, int_int, oint_int, addI_int, subI_int, flat_tI, flat_int, flat_none, Option.bind_some, Option.map_some, Int.zero_add, thenB, thenM, List.nil_append, List.length_map, ob_assoc, collsB, isiB, typeN]
theorem okH_tI (r : List Int) : okH (tI r) = true := by
  show okHs (r.map .int) = true
  induction r with
  | nil => rfl
  | cons x r ih => exact ih
theorem okH_tT (T : List (List Int)) : okH (tT T) = true := by
  show okHs (T.map tI) = true
  induction T with
  | nil => rfl
  | cons x r ih =>
    show (okH (tI x) && okHs (r.map tI)) = true
    rw [okH_tI, ih]
    rfl
theorem good_coll {k : Nat} {w : List Int} (h : good k 50 w) : collB k (tI w) = true := by
  unfold collB
  rw [ints_nums h.1 h.2.1, posB_tI, Bool.true_and, List.any_eq_true]
  obtain ⟨x, hx, h0⟩ := h.2.2
  exact ⟨x, hx, by simpa using h0⟩
theorem colls_eq {k : Nat} (k1 : 1 ≤ k) (k4 : k ≤ 4) (d : D) : M_are_collections [.val (.int (k : Nat)), .val d] = some (.bool (collsB k d)) := arecolls_eq d k1 (by omega)
theorem runx_ifF {α : Type} {t : Prop} [Decidable t] {x y : ZX α} {ob o1 : List Cell} {a : α} (h : ¬ t) (hy : RunX y ob a o1) : RunX (if t then x else y) ob a o1 := by rw [if_neg h]; exact hy
theorem run_ifF {α : Type} {t : Prop} [Decidable t] {x y : Z α} {ob o1 : List Cell} {a : α} (h : ¬ t) (hy : Run y ob a o1) : Run (if t then x else y) ob a o1 := by rw [if_neg h]; exact hy
theorem Run.to {α : Type} {x : Z α} {ob o1 o2 : List Cell} {a : α} (h : Run x ob a o1) (e : o1 = o2) : Run x ob a o2 := e ▸ h
theorem RunX.to {α : Type} {x : ZX α} {ob o1 o2 : List Cell} {a : α} (h : RunX x ob a o1) (e : o1 = o2) : RunX x ob a o2 := e ▸ h
theorem set_mid {ob : List Cell} {x y : Cell} {r : List Cell} : (ob ++ x :: r).set ob.length y = ob ++ y :: r := by
  rw [List.set_append_right _ _ (Nat.le_refl _), Nat.sub_self]
  rfl
theorem at_mid {ob : List Cell} {x : Cell} {r : List Cell} : (ob ++ x :: r)[ob.length]? = some x := by
  rw [List.getElem?_append_right (Nat.le_refl _), Nat.sub_self]
  rfl
theorem run_fld {f c : Str} {v : D} {fs : List (Str × D)} {ob r : List Cell} (hl : fs.length < 900) : Run (OverZ.up (setAZ c f (refD ob.length) v)) (ob ++ .ins c fs :: r) () (ob ++ .ins c (putL f v fs) :: r) := (run_setA at_mid hl).to set_mid
theorem colls_good {k : Nat} {ws : List (List Int)} (ro : Wishes k 50 ws) : collsB k (tT ws) = true := by
  have h1 := ro.one
  have h4 := ro.four
  show (decide (1 ≤ (ws.map tI).length) && decide ((ws.map tI).length ≤ 4) && (ws.map tI).all (collB k)) = true
  rw [List.length_map, decide_eq_true h1, decide_eq_true h4, Bool.true_and, Bool.true_and, List.all_eq_true]
  rintro _ hd
  obtain ⟨w, hw, rfl⟩ := List.mem_map.mp hd
  exact good_coll ⟨ro.len w hw, ro.ge w hw, ro.pos w hw⟩
/-! ### the next drawn number -/
theorem next_at {k : Int} (h0 : 0 < k) (h1 : k < 1073741824) {d : Nat} {E : List Cell} {n : Wd} {ψ : D → Wd → Prop} (hn : DkZ (1 + d) E n) (q : ∀ (r : Int) (n' : Wd), 0 ≤ r → r < k → DkZ d E n' → ψ (.int r) n') : m__law_next (refL 0) (.int k) n ψ := by
  obtain ⟨c, cs, rs, e, hl, l0, l1, hr, c0, c1⟩ := hn
  have eb0 : n.ob[0]? = some (.lst [refL 1, .int c, refL 2]) := by rw [e]; rfl
  have eb1 : n.ob[1]? = some (.lst (cs.map .int)) := by rw [e]; rfl
  have hm : c % (cs.length : Int) = ((c % (cs.length : Int)).toNat : Nat) := by
    have := Int.emod_nonneg c (show (cs.length : Int) ≠ 0 by omega)
    omega
  have hlt : (c % (cs.length : Int)).toNat < cs.length := by
    have := Int.emod_lt_of_pos c (show (0 : Int) < (cs.length : Int) by omega)
    omega
  generalize (c % (cs.length : Int)).toNat = i at hm hlt
  have e1 : (⟨n.n, n.ob.set 0 (.lst [refL 1, .int (c + 1), refL 2])⟩ : Wd).ob = deck3 (c + 1) cs rs ++ E := by
    show n.ob.set 0 _ = _
    rw [e]
    rfl
  have dk1 : DkZ d E ⟨n.n, n.ob.set 0 (.lst [refL 1, .int (c + 1), refL 2])⟩ := ⟨c + 1, cs, rs, e1, hl, l0, l1, hr, by omega, by omega⟩
  generalize hn1 : (⟨n.n, n.ob.set 0 (.lst [refL 1, .int (c + 1), refL 2])⟩ : Wd) = n1 at e1 dk1
  have eb2 : n1.ob[2]? = some (.lst (rs.map .int)) := by rw [e1]; rfl
  have eb3 : n1.ob[1]? = some (.lst (cs.map .int)) := by rw [e1]; rfl
  unfold m__law_next
  simp only [op2, op1, cmp2, chain3, tst, notB, andB, orB, andD, orD, iteM, consM, starM, smallM, tupM, tupSM, lstM, argV, argK, comp1, comp1i, comp2, comp2i, comp11, seqM, rng1, rng2, zipSM, zip2M, zip3M, enumM, repM, joinM, catM, par3LM, put2M, popM, parLV, putVM, unpS, trg1M, sortSetM, orV, lrg1M, par3M, rdM, rdLM, partM, slcM, isiM, rtM, forM1, forM2, forM3, parM, unp2, unp3, unp2A, unp3A, unp4A, zb_assoc, zb_pure]
  refine zTrip eb0 (zLen eb1 (zL (a := .int (i : Nat)) ?_ (zL (add_int _ _) (zSet eb0 (es := [refL 1, .int (c + 1), refL 2]) rfl ?_))))
  · rw [List.length_map, mod_int (by omega), hm]
  rw [hn1]
  refine zIx eb2 (at_intL (by omega)) (zL (a := decide (0 < rs.getD i 0)) (by rw [gt_int]; rfl) ?_)
  by_cases hp : 0 < rs.getD i 0
  · rw [if_pos (by rw [decide_eq_true_eq]; exact hp)]
    refine zIx eb2 (at_intL (by omega)) (zL (mod_int h0) (zIx eb2 (at_intL (by omega)) (zL (div_int h0 h1) (zSet eb2 (es := (rs.set i (rs.getD i 0 / k)).map .int) ?_ ?_))))
    · rw [put_at (by rw [List.length_map]; omega), List.map_set]
    · refine q _ _ (Int.emod_nonneg _ (by omega)) (Int.emod_lt_of_pos _ h0) ⟨c + 1, cs, rs.set i (rs.getD i 0 / k), ?_, by rw [List.length_set]; exact hl, l0, l1, fun r hrm => ?_, by omega, by omega⟩
      · show n1.ob.set 2 _ = _
        rw [e1]
        rfl
      · rcases List.mem_or_eq_of_mem_set hrm with h | h
        · exact hr r h
        · rw [h]
          exact Int.ediv_nonneg (Int.le_of_lt hp) (Int.le_of_lt h0)
  · rw [if_neg (by rw [decide_eq_true_eq]; exact hp)]
    refine zIx eb3 (at_intL (by omega)) ?_
    have a1 := Int.emod_nonneg (cs.getD i 0) (show (2147483629 : Int) ≠ 0 by decide)
    have a2 := Int.emod_lt_of_pos (cs.getD i 0) (show (0 : Int) < 2147483629 by decide)
    have pw : ∀ x : Int, 0 ≤ x → x < 2 ^ 63 → powD (.int x) (.int 3) = some (.int (x ^ 3)) := fun x x0 x1 => by
      show (if (0 : Int) ≤ 3 ∧ (3 : Int) ≤ 1000000 ∧ x.natAbs < 2 ^ 64 then some (PyData.int (x ^ (3 : Int).toNat)) else none) = _
      rw [if_pos ⟨by decide, by decide, by omega⟩]
      rfl
    refine zL (mod_int (by decide)) (zL (mul_int (.inl (by decide))) (zL (add_int _ _) (zL (add_int _ _) (zL (pw _ (by omega) (by omega)) (zL (mod_int (by decide)) ?_)))))
    generalize hx : ((cs.getD i 0 % 2147483629 + 40037 * c + 9203) ^ 3 % 2147483587 : Int) = x
    have x0 : 0 ≤ x := by rw [← hx]; exact Int.emod_nonneg _ (by decide)
    have x1 : x < 2147483587 := by rw [← hx]; exact Int.emod_lt_of_pos _ (by decide)
    have c24 : c ≤ 16777216 := by omega
    have cc0 : 0 ≤ 5039 * c * c := Int.mul_nonneg (by omega) c0
    have cc1 : 5039 * c * c ≤ 5039 * 16777216 * 16777216 := Int.mul_le_mul (by omega) c24 c0 (by decide)
    refine zL (mul_int (.inl (by decide))) (zL (mul_int (.inl ⟨by omega, by omega⟩)) (zL (add_int _ _) (zL (add_int _ _) (zL (pw _ (by omega) (by omega)) (zL (mod_int (by decide)) ?_)))))
    generalize ((x + 5039 * c * c + 43) ^ 3 % 2147483563 : Int) = y
    refine zL (mul_int (.inr (by decide))) (zL (mod_int (by decide)) (zL (div_int (by decide) (by decide)) ?_))
    exact ⟨_, mod_int h0, q _ _ (Int.emod_nonneg _ (by omega)) (Int.emod_lt_of_pos _ h0) dk1⟩
theorem TrZ.draw {k : Int} (h0 : 0 < k) (h1 : k < 1073741824) : TrZ 1 (M__law_next [.val (refL 0), .val (.int k)]) (fun d => ∃ r : Int, d = .int r ∧ 0 ≤ r ∧ r < k) := fun d E n ψ hn q => by
  refine next_at h0 h1 hn fun r n' r0 r1 hn' => q _ [] n' (by rw [List.append_nil]; exact hn') ⟨r, rfl, r0, r1⟩
theorem TrZ.dr {β : Type} {d : Nat} {k : Int} {f : D → Z β} {χ : β → Prop} (h0 : 0 < k) (h1 : k < 1073741824) (hf : ∀ r : Int, 0 ≤ r → r < k → TrZ (d - 1) (f (.int r)) χ) (hd : 1 ≤ d := by decide) : TrZ d (M__law_next [.val (refL 0), .val (.int k)] >>= f) χ :=
  (TrZ.draw h0 h1).st (fun a ⟨r, e, r0, r1⟩ => e ▸ hf r r0 r1) hd
theorem ints_exZ {P : Int → Prop} : ∀ {es : List D}, (∀ e ∈ es, ∃ x, e = .int x ∧ P x) → ∃ xs : List Int, es = xs.map .int ∧ ∀ x ∈ xs, P x
  | [], _ => ⟨[], rfl, fun _ h => by cases h⟩
  | e :: es, h => by
    obtain ⟨x, rfl, hx⟩ := h e List.mem_cons_self
    obtain ⟨xs, rfl, hxs⟩ := ints_exZ fun e he => h e (List.mem_cons_of_mem _ he)
    exact ⟨x :: xs, rfl, fun y hy => (List.mem_cons.mp hy).elim (fun z => z ▸ hx) (hxs y)⟩
theorem all_at {α β : Type} {P : β → Prop} {ds : List α} {es : List β} (hl : es.length = ds.length) (h : ∀ (i : Nat) (d : α) (e : β), ds[i]? = some d → es[i]? = some e → P e) : ∀ e ∈ es, P e := fun e he => by
  obtain ⟨i, hi, rfl⟩ := List.mem_iff_getElem.mp he
  exact h i ds[i] es[i] (List.getElem?_eq_getElem (by omega)) (List.getElem?_eq_getElem hi)
theorem put_intI {l : List Int} {i : Int} {v : Int} (h0 : 0 ≤ i) (h : i < l.length) : putD (l.map PyData.int) (.int i) (.int v) = some ((l.set i.toNat v).map .int) := by
  have e : i = (i.toNat : Nat) := by omega
  rw [e, put_at (by rw [List.length_map]; omega), List.map_set]
  rfl
/-! ### heaps: what is a number, what are counts, a new heap -/
abbrev heapD (d : D) : D := insD "Heap" [("things", d)]
def amt (hi : Int) : D → Bool
  | .int i => decide (0 ≤ i) && decide (i ≤ hi)
  | _ => false
theorem isnumV_eq (hi : Int) (d : D) : m_is_number_values d (.int 0) (.int hi) = some (.bool (amt hi d)) := by
  unfold m_is_number_values
  cases d with
  | int i =>
    simp only [op2, op1, cmp2, chain3, tst, notB, andB, orB, andD, orD, iteM, consM, starM, smallM, tupM, tupSM, lstM, argV, argK, comp1, comp1i, comp2, comp2i, comp11, seqM, rng1, rng2, zipSM, zip2M, zip3M, enumM, repM, joinM, catM, par3LM, put2M, popM, parLV, putVM, unpS, trg1M, sortSetM, orV, lrg1M, par3M, rdM, rdLM, partM, slcM, isiM, rtM, forM1, forM2, forM3, parM, unp2, unp3, unp2A, unp3A, unp4A, ob_pure, ob_some, ob_lift, Option.pure_def, add_int, sub_int, lt_int, le_int, gt_int, ge_int, eq_int, ne_int, min_int, max_int, neg_int, bool_bool, not_bool, is_none, isn_none, nn_int, nn_none, nn_tup, len_tup, len_lst, tup_lst, tup_tup, it_lst, it_tup, int_bool, int_int, oint_int, addI_int, subI_int, flat_tI, flat_int, flat_none, Option.bind_some, Option.map_some, Int.zero_add, thenB, thenM, List.nil_append, List.length_map, ob_assoc, amt, isiB, typeN]
    by_cases h : 0 ≤ i <;> simp [h]
  | _ => simp [op2, op1, cmp2, chain3, tst, notB, andB, orB, andD, orD, iteM, consM, starM, smallM, tupM, tupSM, lstM, argV, argK, comp1, comp1i, comp2, comp2i, comp11, seqM, rng1, rng2, zipSM, zip2M, zip3M, enumM, repM, joinM, catM, par3LM, put2M, popM, parLV, putVM, unpS, trg1M, sortSetM, orV, lrg1M, par3M, rdM, rdLM, partM, slcM, isiM, rtM, forM1, forM2, forM3, parM, unp2, unp3, unp2A, unp3A, unp4A, ob_pure, ob_some, ob_lift, Option.pure_def, add_int, sub_int, lt_int, le_int, gt_int, ge_int, eq_int, ne_int, min_int, max_int, neg_int, bool_bool, not_bool, is_none, isn_none, nn_int, nn_none, nn_tup, len_tup, len_lst, tup_lst, tup_tup, it_lst, it_tup, int_bool, int_int, oint_int, addI_int, subI_int, flat_tI, flat_int, flat_none, Option.bind_some, Option.map_some, Int.zero_add, thenB, thenM, List.nil_append, List.length_map, ob_assoc, amt, isiB, typeN]
def isC : D → Bool
  | .tuple ds => decide (1 ≤ ds.length) && decide (ds.length ≤ 4) && ds.all (amt 1000000)
  | _ => false
theorem isC_tup (ds : List D) : isC (.tuple ds) = (decide (1 ≤ ds.length) && decide (ds.length ≤ 4) && ds.all (amt 1000000)) := rfl
theorem isnumV_eqM (d : D) : M_is_number_values [.val d, .val (.int 0), .val (.int 1000000)] = some (.bool (amt 1000000 d)) := isnumV_eq 1000000 d
theorem chain_len (n : Nat) : ((leD (.int 1) (.int (n : Nat))) >>= fun a => (boolD a) >>= fun k => if k = true then leD (.int (n : Nat)) (.int 4) else some (.bool false)) = some (.bool (decide (1 ≤ n) && decide (n ≤ 4))) := by
  show (if decide ((1 : Int) ≤ (n : Nat)) = true then leD (.int (n : Nat)) (.int 4) else some (.bool false)) = _
  by_cases h : 1 ≤ n
  · rw [if_pos (by rw [decide_eq_true_eq]; omega), decide_eq_true h, Bool.true_and]
    show some (PyData.bool (decide ((n : Int) ≤ 4))) = _
    congr 2
    simp only [decide_eq_decide]
    omega
  · rw [if_neg (by rw [decide_eq_true_eq]; omega), decide_eq_false h, Bool.false_and]
theorem init_eq (d : D) : MX_Heap____init__ [.val d] = retX (if isC d = true then .ok [(("things" : Str), d)] else .error ⟨("BadCounts" : Str), [(("value" : Str), d)]⟩) := by
  show mx_Heap____init__ d = _
  unfold mx_Heap____init__
  cases d with
  | tuple ds =>
    have e0 : (orB (notB (tst (isiM "tuple" (pure (.tuple ds))))) (notB (tst (chain3 leD leD (pure (.int 1)) (op1 lenD (pure (.tuple ds))) (pure (.int 4))))) : Option Bool) = some (!(decide (1 ≤ ds.length) && decide (ds.length ≤ 4))) := by
      have h := chain_len ds.length
      simp only [op2, op1, cmp2, chain3, tst, notB, andB, orB, andD, orD, iteM, consM, starM, smallM, tupM, tupSM, lstM, argV, argK, comp1, comp1i, comp2, comp2i, comp11, seqM, rng1, rng2, zipSM, zip2M, zip3M, enumM, repM, joinM, catM, par3LM, put2M, popM, parLV, putVM, unpS, trg1M, sortSetM, orV, lrg1M, par3M, rdM, rdLM, partM, slcM, isiM, rtM, forM1, forM2, forM3, parM, unp2, unp3, unp2A, unp3A, unp4A, ob_pure, ob_some, ob_lift, Option.pure_def, add_int, sub_int, lt_int, le_int, gt_int, ge_int, eq_int, ne_int, min_int, max_int, neg_int, bool_bool, not_bool, is_none, isn_none, nn_int, nn_none, nn_tup, len_tup, len_lst, tup_lst, tup_tup, it_lst, it_tup, int_bool, int_int, oint_int, addI_int, subI_int, flat_tI, flat_int, flat_none, Option.bind_some, Option.map_some, Int.zero_add, thenB, thenM, List.nil_append, List.length_map, ob_assoc, isiB, typeN, len_tup] at h ⊢
      rw [h, if_neg (by decide)]
      rfl
    rw [e0]
    cases hl : (decide (1 ≤ ds.length) && decide (ds.length ≤ 4)) with
    | false =>
      have hc : isC (.tuple ds) = false := by rw [isC_tup, hl, Bool.false_and]
      rw [hc]
      rfl
    | true =>
      have e1 : ((op1 allD (lstM (comp1 (seqM (pure (.tuple ds))) (fun c16 => ((argV (pure c16) (argV (pure (.int 0)) (argV (pure (.int 1000000)) (pure [])))) >>= M_is_number_values))))) : Option D) = some (.bool (ds.all (amt 1000000))) := by
        have h4 : ds.length ≤ 4 := by
          have := (Bool.and_eq_true_iff.mp hl).2
          exact of_decide_eq_true this
        simp only [op2, op1, cmp2, chain3, tst, notB, andB, orB, andD, orD, iteM, consM, starM, smallM, tupM, tupSM, lstM, argV, argK, comp1, comp1i, comp2, comp2i, comp11, seqM, rng1, rng2, zipSM, zip2M, zip3M, enumM, repM, joinM, catM, par3LM, put2M, popM, parLV, putVM, unpS, trg1M, sortSetM, orV, lrg1M, par3M, rdM, rdLM, partM, slcM, isiM, rtM, forM1, forM2, forM3, parM, unp2, unp3, unp2A, unp3A, unp4A, ob_pure, ob_some, ob_lift, Option.pure_def, add_int, sub_int, lt_int, le_int, gt_int, ge_int, eq_int, ne_int, min_int, max_int, neg_int, bool_bool, not_bool, is_none, isn_none, nn_int, nn_none, nn_tup, len_tup, len_lst, tup_lst, tup_tup, it_lst, it_tup, int_bool, int_int, oint_int, addI_int, subI_int, flat_tI, flat_int, flat_none, Option.bind_some, Option.map_some, Int.zero_add, thenB, thenM, List.nil_append, List.length_map, ob_assoc, it_tup]
        rw [small_ok (by omega), ob_some, lcA_map (g := fun d => .bool (amt 1000000 d)) ds [] fun d _ => isnumV_eqM d, ob_some, List.nil_append]
        exact all_map ds
      have hc : isC (.tuple ds) = ds.all (amt 1000000) := by rw [isC_tup, hl, Bool.true_and]
      rw [hc, e1]
      cases ds.all (amt 1000000) <;> rfl
  | _ =>
    have e0 : ∀ x : D, isiB "tuple" x = false → (orB (notB (tst (isiM "tuple" (pure x)))) (notB (tst (chain3 leD leD (pure (.int 1)) (op1 lenD (pure x)) (pure (.int 4))))) : Option Bool) = some true := fun x hx => by
      simp [op2, op1, cmp2, chain3, tst, notB, andB, orB, andD, orD, iteM, consM, starM, smallM, tupM, tupSM, lstM, argV, argK, comp1, comp1i, comp2, comp2i, comp11, seqM, rng1, rng2, zipSM, zip2M, zip3M, enumM, repM, joinM, catM, par3LM, put2M, popM, parLV, putVM, unpS, trg1M, sortSetM, orV, lrg1M, par3M, rdM, rdLM, partM, slcM, isiM, rtM, forM1, forM2, forM3, parM, unp2, unp3, unp2A, unp3A, unp4A, ob_pure, ob_some, ob_lift, Option.pure_def, add_int, sub_int, lt_int, le_int, gt_int, ge_int, eq_int, ne_int, min_int, max_int, neg_int, bool_bool, not_bool, is_none, isn_none, nn_int, nn_none, nn_tup, len_tup, len_lst, tup_lst, tup_tup, it_lst, it_tup, int_bool, int_int, oint_int, addI_int, subI_int, flat_tI, flat_int, flat_none, Option.bind_some, Option.map_some, Int.zero_add, thenB, thenM, List.nil_append, List.length_map, ob_assoc, hx]
    rw [e0 _ rfl]
    rfl
/-! what the law says of them -/
theorem isC_tI {c : List Int} (h1 : 1 ≤ c.length) (h4 : c.length ≤ 4) (h : ∀ x ∈ c, 0 ≤ x ∧ x ≤ 1000000) : isC (tI c) = true := by
  show isC (.tuple _) = true
  rw [isC_tup, List.length_map, decide_eq_true h1, decide_eq_true h4, Bool.true_and, Bool.true_and, List.all_eq_true]
  intro x hx
  obtain ⟨i, hi, rfl⟩ := List.mem_map.mp hx
  show (decide (0 ≤ i) && decide (i ≤ 1000000)) = true
  rw [decide_eq_true (h i hi).1, decide_eq_true (h i hi).2]
  rfl
theorem fld_heap (d : D) : fldD "Heap" "things" (heapD d) = some d := by kernel_rfl
theorem cls_heap (d : D) : isCls "Heap" (heapD d) = some () := by kernel_rfl
theorem isnumW_eq (d : D) (lo hi : Int) : m_is_number_values d (.int lo) (.int hi) = some (.bool (numB lo hi d)) := by
  unfold m_is_number_values
  cases d with
  | int i =>
    simp only [op2, op1, cmp2, chain3, tst, notB, andB, orB, andD, orD, iteM, consM, starM, smallM, tupM, tupSM, lstM, argV, argK, comp1, comp1i, comp2, comp2i, comp11, seqM, rng1, rng2, zipSM, zip2M, zip3M, enumM, repM, joinM, catM, par3LM, put2M, popM, parLV, putVM, unpS, trg1M, sortSetM, orV, lrg1M, par3M, rdM, rdLM, partM, slcM, isiM, rtM, forM1, forM2, forM3, parM, unp2, unp3, unp2A, unp3A, unp4A, ob_pure, ob_some, ob_lift, Option.pure_def, add_int, sub_int, lt_int, le_int, gt_int, ge_int, eq_int, ne_int, min_int, max_int, neg_int, bool_bool, not_bool, is_none, isn_none, nn_int, nn_none, nn_tup, len_tup, len_lst, tup_lst, tup_tup, it_lst, it_tup, int_bool, int_int, oint_int, addI_int, subI_int, flat_tI, flat_int, flat_none, Option.bind_some, Option.map_some, Int.zero_add, thenB, thenM, List.nil_append, List.length_map, ob_assoc, numB, isiB, typeN]
    by_cases h : lo ≤ i <;> simp [h]
  | _ => simp [op2, op1, cmp2, chain3, tst, notB, andB, orB, andD, orD, iteM, consM, starM, smallM, tupM, tupSM, lstM, argV, argK, comp1, comp1i, comp2, comp2i, comp11, seqM, rng1, rng2, zipSM, zip2M, zip3M, enumM, repM, joinM, catM, par3LM, put2M, popM, parLV, putVM, unpS, trg1M, sortSetM, orV, lrg1M, par3M, rdM, rdLM, partM, slcM, isiM, rtM, forM1, forM2, forM3, parM, unp2, unp3, unp2A, unp3A, unp4A, ob_pure, ob_some, ob_lift, Option.pure_def, add_int, sub_int, lt_int, le_int, gt_int, ge_int, eq_int, ne_int, min_int, max_int, neg_int, bool_bool, not_bool, is_none, isn_none, nn_int, nn_none, nn_tup, len_tup, len_lst, tup_lst, tup_tup, it_lst, it_tup, int_bool, int_int, oint_int, addI_int, subI_int, flat_tI, flat_int, flat_none, Option.bind_some, Option.map_some, Int.zero_add, thenB, thenM, List.nil_append, List.length_map, ob_assoc, numB, isiB, typeN]
/-- counts that a heap takes -/
structure Rw (c : List Int) : Prop where
  one : 1 ≤ c.length
  four : c.length ≤ 4
  r : ∀ x ∈ c, 0 ≤ x ∧ x ≤ 1000000
theorem Rw.isC {c : List Int} (h : Rw c) : isC (tI c) = true := isC_tI h.one h.four h.r
theorem len_tI (c : List Int) : lenD (tI c) = some (.int (c.length : Nat)) := by show some (PyData.int ((c.map PyData.int).length : Nat)) = _; rw [List.length_map]
theorem isOf_heap (d : D) : isOf "Heap" (heapD d) = some (.bool true) := by kernel_rfl
theorem okS_heap (c : List Int) : okH (heapD (tI c)) = true := by
  rw [okH_ins]
  show (okH (tI c) && true) = true
  rw [okH_tI]
  rfl
theorem new_eq (d : D) : (((argV (upX (pure d)) (pure [])) >>= fun as => MX_Heap____init__ as >>= fun fs => pure (insD "Heap" fs)) : Xo D) = retX (if isC d = true then .ok (heapD d) else .error ⟨("BadCounts" : Str), [(("value" : Str), d)]⟩) := by
  show (MX_Heap____init__ [.val d] >>= fun fs => pure (insD "Heap" fs)) = _
  rw [init_eq]
  cases isC d <;> rfl
theorem heap_eq {c : List Int} (h : Rw c) : calmO ((argV (upX (pure (tI c))) (pure [])) >>= fun as => MX_Heap____init__ as >>= fun fs => pure (insD "Heap" fs)) = some (heapD (tI c)) := by
  rw [new_eq, if_pos h.isC]
  rfl
theorem get0 (d : D) (r : List D) : DD.getD (.list (d :: r)) (.int 0) = some d := by
  have := get_lst (F := fun x : D => x) (xs := d :: r) (i := 0) (by simp)
  rw [List.map_id'] at this
  exact this
abbrev wiC (n : Nat) (ws : List (List Int)) (m : Nat) : Cell := .ins "Wish" [("width", .int (n : Nat)), ("wanted", tT ws), ("many", .int (m : Nat))]
theorem run_newW {ob : List Cell} {n : Nat} {ws : List (List Int)} (ro : Wishes n 50 ws) (n1 : 1 ≤ n) (n4 : n ≤ 4) : RunX (OverZ.up (newI "Wish") >>= fun d => MX_Wish____init__ [.val d, .val (.int (n : Nat)), .val (tT ws)] >>= fun r => Mo.lift (nonO r) >>= fun _ => (Pure.pure d : ZX D)) ob (refD ob.length) (ob ++ [wiC n ws 0]) := by
  refine RunX.bO run_newI ?_
  refine RunX.bind (a := .none) (ob1 := ob ++ [wiC n ws 0]) ?_ (RunX.bL rfl RunX.pure)
  show RunX (mx_Wish____init__ (refD ob.length) (.int (n : Nat)) (tT ws)) _ _ _
  have e1 : M_is_number_values [.val (.int (n : Nat)), .val (.int 1), .val (.int 4)] = some (.bool true) := by
    have : n = 1 ∨ n = 2 ∨ n = 3 ∨ n = 4 := by omega
    rcases this with rfl | rfl | rfl | rfl <;> rfl
  have e2 : M_are_collections [.val (.int (n : Nat)), .val (tT ws)] = some (.bool true) := by rw [colls_eq n1 n4, colls_good ro]
  unfold mx_Wish____init__
  simp only [op2, op1, cmp2, chain3, tst, notB, andB, orB, andD, orD, iteM, consM, starM, smallM, tupM, tupSM, lstM, argV, argK, comp1, comp1i, comp2, comp2i, comp11, seqM, rng1, rng2, zipSM, zip2M, zip3M, enumM, repM, joinM, catM, par3LM, put2M, popM, parLV, putVM, unpS, trg1M, sortSetM, orV, lrg1M, par3M, rdM, rdLM, partM, slcM, isiM, rtM, forM1, forM2, forM3, parM, unp2, unp3, unp2A, unp3A, unp4A, zb_assoc, zb_pure, zl_some, zb_some, zx_assoc, zx_pure, zx_some, upz_pure, add_int, sub_int, lt_int, le_int, gt_int, ge_int, eq_int, ne_int, min_int, max_int, neg_int, bool_bool, not_bool, is_none, isn_none, nn_int, nn_none, nn_tup, len_tup, len_lst, tup_lst, tup_tup, it_lst, it_tup, int_bool, int_int, oint_int, addI_int, subI_int, flat_tI, flat_int, flat_none, Option.bind_some, Option.map_some, Int.zero_add, thenB, thenM, List.nil_append, List.length_map]
  refine RunX.bU (Run.hid (a := false) (by simp [okSl, okH]) (by simp only [op2, op1, cmp2, chain3, tst, notB, andB, orB, andD, orD, iteM, consM, starM, smallM, tupM, tupSM, lstM, argV, argK, comp1, comp1i, comp2, comp2i, comp11, seqM, rng1, rng2, zipSM, zip2M, zip3M, enumM, repM, joinM, catM, par3LM, put2M, popM, parLV, putVM, unpS, trg1M, sortSetM, orV, lrg1M, par3M, rdM, rdLM, partM, slcM, isiM, rtM, forM1, forM2, forM3, parM, unp2, unp3, unp2A, unp3A, unp4A, ob_pure, ob_some, ob_lift, Option.pure_def, add_int, sub_int, lt_int, le_int, gt_int, ge_int, eq_int, ne_int, min_int, max_int, neg_int, bool_bool, not_bool, is_none, isn_none, nn_int, nn_none, nn_tup, len_tup, len_lst, tup_lst, tup_tup, it_lst, it_tup, int_bool, int_int, oint_int, addI_int, subI_int, flat_tI, flat_int, flat_none, Option.bind_some, Option.map_some, Int.zero_add, thenB, thenM, List.nil_append, List.length_map, ob_assoc, e1]; rfl)) (runx_ifF (by decide) ?_)
  refine RunX.bU (Run.hid (a := false) (by have h : okHs (ws.map tI) = true := okH_tT ws; simp [okSl, okH, h]) (by simp only [op2, op1, cmp2, chain3, tst, notB, andB, orB, andD, orD, iteM, consM, starM, smallM, tupM, tupSM, lstM, argV, argK, comp1, comp1i, comp2, comp2i, comp11, seqM, rng1, rng2, zipSM, zip2M, zip3M, enumM, repM, joinM, catM, par3LM, put2M, popM, parLV, putVM, unpS, trg1M, sortSetM, orV, lrg1M, par3M, rdM, rdLM, partM, slcM, isiM, rtM, forM1, forM2, forM3, parM, unp2, unp3, unp2A, unp3A, unp4A, ob_pure, ob_some, ob_lift, Option.pure_def, add_int, sub_int, lt_int, le_int, gt_int, ge_int, eq_int, ne_int, min_int, max_int, neg_int, bool_bool, not_bool, is_none, isn_none, nn_int, nn_none, nn_tup, len_tup, len_lst, tup_lst, tup_tup, it_lst, it_tup, int_bool, int_int, oint_int, addI_int, subI_int, flat_tI, flat_int, flat_none, Option.bind_some, Option.map_some, Int.zero_add, thenB, thenM, List.nil_append, List.length_map, ob_assoc, e2]; rfl)) (runx_ifF (by decide) ?_)
  refine RunX.bU (run_fld (by simp)) (RunX.bU (run_fld (by simp [putL])) (RunX.bU (run_fld (by simp [putL, show ¬ Str.ofString "width" = Str.ofString "wanted" from by decide +kernel])) ?_))
  exact RunX.pure
theorem run_callW {ob : List Cell} {k n m : Nat} {ws : List (List Int)} {c : List Int} (hk : ob[k]? = some (wiC n ws m)) (ro : Wishes n 50 ws) (hc : c.length = n) (hn : n ≤ 4) :
    RunX (OverZ.up (selfZ "Wish" "__call__" (refD k)) >>= fun _ => (pure [.val (heapD (tI c))] : ZX (List Sl)) >>= fun as => OverZ.up (selfZ "Wish" "__call__" (refD k)) >>= fun _ => MX_Wish____call__ (.val (refD k) :: as)) ob (oN (fulf ws c)) (ob.set k (wiC n ws (m + 1))) := by
  refine RunX.bO (run_self hk (by kernel_rfl)) (RunX.bind RunX.pure (RunX.bO (run_self hk (by kernel_rfl)) ?_))
  show RunX (mx_Wish____call__ (refD k) (heapD (tI c))) _ _ _
  have f1 := fld_heap (tI c)
  have f3 := isOf_heap (tI c)
  have hf : M_fulfilled_by [.val (tT ws), .val (tI c)] = some (oN (fulf ws c)) := fulf_eq (fun r hr => by rw [ro.len r hr]; omega) (by omega)
  have hk2 : (ob.set k (wiC n ws (m + 1)))[k]? = some (wiC n ws (m + 1)) := by
    rw [List.getElem?_set_self (List.getElem?_eq_some_iff.mp hk).1]
  unfold mx_Wish____call__
  generalize heapD (tI c) = h at f1 f3 ⊢
  simp only [op2, op1, cmp2, chain3, tst, notB, andB, orB, andD, orD, iteM, consM, starM, smallM, tupM, tupSM, lstM, argV, argK, comp1, comp1i, comp2, comp2i, comp11, seqM, rng1, rng2, zipSM, zip2M, zip3M, enumM, repM, joinM, catM, par3LM, put2M, popM, parLV, putVM, unpS, trg1M, sortSetM, orV, lrg1M, par3M, rdM, rdLM, partM, slcM, isiM, rtM, forM1, forM2, forM3, parM, unp2, unp3, unp2A, unp3A, unp4A, zb_assoc, zb_pure, zl_some, zb_some, zx_assoc, zx_pure, zx_some, upz_pure, add_int, sub_int, lt_int, le_int, gt_int, ge_int, eq_int, ne_int, min_int, max_int, neg_int, bool_bool, not_bool, is_none, isn_none, nn_int, nn_none, nn_tup, len_tup, len_lst, tup_lst, tup_tup, it_lst, it_tup, int_bool, int_int, oint_int, addI_int, subI_int, flat_tI, flat_int, flat_none, Option.bind_some, Option.map_some, Int.zero_add, thenB, thenM, List.nil_append, List.length_map]
  refine RunX.bU (a := false) (ob1 := ob) ?_ (runx_ifF (by decide) ?_)
  · refine Run.bL f3 (Run.bL (a := true) rfl (run_ifF (by decide) (Run.bL f1 (Run.bL (a := .int (n : Nat)) (by rw [len_tI, hc]) (Run.bind (run_attr hk rfl) (Run.lift ?_))))))
    rw [ne_int]
    simp [boolD]
  · refine RunX.bU (a := ()) (ob1 := ob.set k (wiC n ws (m + 1))) ?_ (Run.rx ?_)
    · refine Run.bind (run_attr hk (v := .int (m : Nat)) rfl) (Run.bL (a := .int ((m + 1 : Nat) : Int)) rfl ?_)
      exact run_setA hk (by simp)
    · refine Run.bind (run_attr hk2 rfl) (Run.bL f1 ?_)
      exact Run.hid (by simp [okSl, okH_tT, okH_tI]) hf
theorem mul_tI {k : Nat} (h4 : k ≤ 4) : mulD (.tuple [.int 0]) (.int (k : Nat)) = some (tI (List.replicate k 0)) := by
  rw [mul_one (by omega) (by omega), Int.toNat_natCast]
  show _ = some (PyData.tuple ((List.replicate k (0 : Int)).map PyData.int))
  rw [List.map_replicate]
/-! ### k32: the draws and the law's own judgement -/
theorem TrZ.bindP {α β : Type} {c : Nat} {g' : List Sl} {o : Option α} {a : α} {f : α → Z β} {χ : β → Prop} (hs : okSl g' = true) (e : o = some a) (h : TrZ c (f a) χ) : TrZ c (OverZ.up (hidP g' o) >>= f) χ := fun d E n ψ hn q => ⟨hs, rfl, a, e, h d E n ψ hn q⟩
theorem eq_zeros {xs : List Int} {k : Nat} (hx4 : ∀ x ∈ xs, 0 ≤ x ∧ x ≤ 50) : (eqD (.list (xs.map PyData.int)) (.list ((List.replicate k (0 : Int)).map PyData.int))).bind boolD = some (decide (xs = List.replicate k 0)) := by
  have nb : ∀ r : List Int, noB (PyData.list (r.map PyData.int)) = true := fun r => by
    show noBs (r.map PyData.int) = true
    exact noB_map r fun _ _ => rfl
  have b1 : ∀ r : List Int, (∀ x ∈ r, x.natAbs < 10 ^ 20) → Sm (r.length + 1) 1 (PyData.list (r.map PyData.int)) := fun r h => (SmA.map (n := 1) (k := 0) r fun x hx => Sm.int (h x hx)).lst.le (by omega) (Nat.le_refl _)
  rw [eq_sm (b1 xs (fun x hx => by have := hx4 x hx; omega)) (b1 (List.replicate k 0) (fun x hx => by rw [List.eq_of_mem_replicate hx]; decide)) (by decide) (by decide)]
  show some _ = _
  refine congrArg some ?_
  rw [Bool.eq_iff_iff, eqv_iff _ _ (nb xs) (nb _), decide_eq_true_eq]
  constructor
  · intro h
    have h : xs.map PyData.int = (List.replicate k (0 : Int)).map PyData.int := by injection h
    exact List.map_inj_right (fun a b e => by injection e) |>.mp h
  · rintro rfl
    rfl
theorem lcolls32 {k : Nat} {most : Int} (k1 : 1 ≤ k) (k4 : k ≤ 4) (m1 : 1 ≤ most) (m50 : most ≤ 50) : TrZ 41 (m__law_collections (refL 0) (.int (k : Nat)) (.int most)) (fun d => ∃ rows, d = tT rows ∧ Wishes k 50 rows) := by
  unfold m__law_collections
  simp only [op2, op1, cmp2, chain3, tst, notB, andB, orB, andD, orD, iteM, consM, starM, smallM, tupM, tupSM, lstM, argV, argK, comp1, comp1i, comp2, comp2i, comp11, seqM, rng1, rng2, zipSM, zip2M, zip3M, enumM, repM, joinM, catM, par3LM, put2M, popM, parLV, putVM, unpS, trg1M, sortSetM, orV, lrg1M, par3M, rdM, rdLM, partM, slcM, isiM, rtM, forM1, forM2, forM3, parM, unp2, unp3, unp2A, unp3A, unp4A, zb_assoc, zb_pure]
  refine TrZ.dr (by decide) (by decide) fun r r0 r1 => ?_
  obtain ⟨t, rfl⟩ : ∃ t : Nat, r = (t : Nat) := ⟨r.toNat, by omega⟩
  refine TrZ.bindL (add_int _ _) (TrZ.bindL (range1_ok (by omega) (by omega)) ?_)
  refine TrZ.thM (b := 4 * 10) ((TrZ.loopR (c := 10) (I := fun i a => ∃ rows : List (List Int), a = rows.map tI ∧ rows.length = i ∧ ∀ r ∈ rows, good k 50 r) (R := fun _ => False) ⟨[], rfl, rfl, fun _ h => by cases h⟩ fun i a hi ⟨rows, ea, hlen, hg⟩ => ?hb).le (Nat.mul_le_mul_right 10 (show (1 + (t : Int)).toNat ≤ 4 by omega))) (fun a ⟨rows, ea, hlen, hg⟩ => ?hc)
  case hc =>
    subst ea
    refine TrZ.li (tup_lst _) ⟨rows, rfl, by omega, by omega, fun r hr => (hg r hr).1, fun r hr => (hg r hr).2.1, fun r hr => (hg r hr).2.2⟩
  case hb =>
    subst ea
    refine TrZ.bindL (range1_ok (by omega) (by omega)) (TrZ.bindL (small_ok (by rw [rangeL_length]; omega)) ?_)
    refine TrZ.st (b := 4 * 2) ((TrZ.comp (c := 2) (P := fun _ e => ∃ x : Int, e = .int x ∧ 0 ≤ x ∧ x ≤ 50) (rangeL 0 ((k : Nat) : Int).toNat) [] fun d _ => ?hd).le (by rw [rangeL_length]; omega)) ?he
    case hd =>
      refine TrZ.bindL (add_int _ _) (TrZ.dr (by omega) (by omega) fun x x0 x1 => TrZ.dr (by decide) (by decide) fun y y0 y1 => ?_)
      refine TrZ.bindL (a := .bool (decide (0 < y))) rfl (TrZ.bindL (a := .int (if 0 < y then 1 else 0)) (by by_cases h : 0 < y <;> simp [h, intD]) ?_)
      refine TrZ.li (mul_int (.inr ⟨by omega, by split <;> omega⟩)) ⟨x * (if 0 < y then 1 else 0), rfl, ?_⟩
      split <;> omega
    case he =>
      rintro _ ⟨es, rfl, hl, hes⟩
      rw [rangeL_length, Int.toNat_natCast] at hl
      obtain ⟨xs, rfl, hxs⟩ := ints_exZ (all_at (ds := rangeL 0 k) (by rw [rangeL_length]; exact hl) hes)
      have hxl : xs.length = k := by simpa using hl
      refine TrZ.bindP (a := decide (xs = List.replicate k 0)) (by
        have h1 : okHs (xs.map PyData.int) = true := okH_tI xs
        simp [okSl, okH, h1]) ?hx ?_
      case hx =>
        rw [← eq_zeros hxs]
        simp only [op2, op1, cmp2, chain3, tst, notB, andB, orB, andD, orD, iteM, consM, starM, smallM, tupM, tupSM, lstM, argV, argK, comp1, comp1i, comp2, comp2i, comp11, seqM, rng1, rng2, zipSM, zip2M, zip3M, enumM, repM, joinM, catM, par3LM, put2M, popM, parLV, putVM, unpS, trg1M, sortSetM, orV, lrg1M, par3M, rdM, rdLM, partM, slcM, isiM, rtM, forM1, forM2, forM3, parM, unp2, unp3, unp2A, unp3A, unp4A, ob_pure, ob_some, ob_lift, Option.pure_def, add_int, sub_int, lt_int, le_int, gt_int, ge_int, eq_int, ne_int, min_int, max_int, neg_int, bool_bool, not_bool, is_none, isn_none, nn_int, nn_none, nn_tup, len_tup, len_lst, tup_lst, tup_tup, it_lst, it_tup, int_bool, int_int, oint_int, addI_int, subI_int, flat_tI, flat_int, flat_none, Option.bind_some, Option.map_some, Int.zero_add, thenB, thenM, List.nil_append, List.length_map, ob_assoc, mulL_one (x := .int 0) (k := (k : Int)) (by omega) (by omega), Int.toNat_natCast, List.map_replicate]
      refine TrZ.thB (b := 2) (I := fun a => ∃ ys : List Int, a = ys.map .int ∧ good k 50 ys) (TrZ.ite (fun h => ?h1) fun h => ?h2) fun a ⟨ys, ea, hg2⟩ => ?h3
      case h1 =>
        have hz : xs = List.replicate k 0 := of_decide_eq_true h
        refine TrZ.dr (by omega) (by omega) fun j j0 j1 => TrZ.dr (by omega) (by omega) fun y y0 y1 => TrZ.bindL (add_int _ _) (TrZ.bindL (put_intI j0 (by omega)) ?_)
        refine TrZ.nx ⟨xs.set j.toNat (1 + y), rfl, by rw [List.length_set]; exact hxl, fun x hx => ?_, 1 + y, ?_, by omega⟩
        · rcases List.mem_or_eq_of_mem_set hx with z | z
          · exact hxs x z
          · omega
        · exact List.mem_iff_getElem.mpr ⟨j.toNat, by rw [List.length_set]; omega, by simp⟩
      case h2 =>
        have hz : xs ≠ List.replicate k 0 := of_decide_eq_false h
        refine TrZ.nx ⟨xs, rfl, hxl, hxs, ?_⟩
        apply Classical.byContradiction
        intro hc
        refine hz (List.eq_replicate_iff.mpr ⟨hxl, fun x hx => ?_⟩)
        have := hxs x hx
        have : ¬ 0 < x := fun z => hc ⟨x, hx, z⟩
        omega
      case h3 =>
        subst ea
        refine TrZ.bindL (tup_lst _) (TrZ.bindL (fits_ok (by rw [List.length_map]; omega)) ?_)
        refine TrZ.nx ⟨rows ++ [ys], by simp, by simp [hlen], fun r hr => ?_⟩
        rcases List.mem_append.mp hr with z | z
        · exact hg r z
        · rw [List.mem_singleton.mp z]
          exact hg2
theorem loop_findD {m : Type → Type} [Mo m] [MoL m] {A : Type} {f : D → A → m (Fl A)} {p : D → Bool} {R : D → D} {a : A} (xs : List D) (h : ∀ x ∈ xs, f x a = if p x = true then pure (.rt (R x)) else pure (.nx a)) : loopM f xs a = pure (match xs.find? p with | some x => .rt (R x) | none => .nx a) := by
  have := loop_find (F := id) (f := f) (p := p) (R := R) (a := a) xs h
  rw [List.map_id] at this
  rw [this]
  cases xs.find? p <;> rfl
def rowI : D → List Int
  | .tuple xs => ints? xs
  | _ => []
theorem ints?_map : ∀ r : List Int, ints? (r.map .int) = r
  | [] => rfl
  | x :: r => by show x :: ints? (r.map .int) = _; rw [ints?_map r]
theorem rowI_tI (r : List Int) : rowI (tI r) = r := ints?_map r
theorem eq_tI {a b : List Int} (ha : ∀ x ∈ a, x.natAbs < 10 ^ 20) (hb : ∀ x ∈ b, x.natAbs < 10 ^ 20) : eqD (tI a) (tI b) = some (.bool (decide (a = b))) := by
  rw [eq_sm (Sm.tI ha (Nat.le_refl _)) (Sm.tI hb (Nat.le_refl _)) (by decide) (by decide)]
  refine congrArg (fun b => some (PyData.bool b)) ?_
  have nb : ∀ r : List Int, noB (tI r) = true := fun r => by
    show noBs (r.map PyData.int) = true
    exact noB_map r fun _ _ => rfl
  rw [Bool.eq_iff_iff, eqv_iff _ _ (nb a) (nb b), decide_eq_true_eq]
  constructor
  · intro h
    have := congrArg rowI h
    rwa [rowI_tI, rowI_tI] at this
  · rintro rfl; rfl
theorem eq_zT {q : List Int} {k : Nat} (hl : q.length = k) (hq : ∀ x ∈ q, 0 ≤ x ∧ x ≤ 50) : eqD (tI q) (tI (List.replicate k 0)) = some (.bool (!(q.any fun x => decide (0 < x)))) := by
  rw [eq_tI (fun x hx => by have := hq x hx; omega) (fun x hx => by rw [List.eq_of_mem_replicate hx]; decide)]
  refine congrArg (fun b => some (PyData.bool b)) ?_
  rw [Bool.eq_iff_iff, decide_eq_true_eq, Bool.not_eq_true', List.any_eq_false]
  constructor
  · rintro e x hx
    rw [e] at hx
    rw [List.eq_of_mem_replicate hx]
    decide
  · intro h
    refine List.eq_replicate_iff.mpr ⟨hl, fun x hx => ?_⟩
    have h1 := h x hx
    have h2 := hq x hx
    simp at h1
    omega
theorem laright_eq (d : D) {k : Nat} (k1 : 1 ≤ k) (k4 : k ≤ 4) : M__law_are_collections [.val (.int (k : Nat)), .val d] = some (.bool (collsB k d)) := by
  show m__law_are_collections (.int (k : Nat)) d = _
  unfold m__law_are_collections
  cases d with
  | tuple xs =>
    simp only [op2, op1, cmp2, chain3, tst, notB, andB, orB, andD, orD, iteM, consM, starM, smallM, tupM, tupSM, lstM, argV, argK, comp1, comp1i, comp2, comp2i, comp11, seqM, rng1, rng2, zipSM, zip2M, zip3M, enumM, repM, joinM, catM, par3LM, put2M, popM, parLV, putVM, unpS, trg1M, sortSetM, orV, lrg1M, par3M, rdM, rdLM, partM, slcM, isiM, rtM, forM1, forM2, forM3, parM, unp2, unp3, unp2A, unp3A, unp4A, ob_pure, ob_some, ob_lift, Option.pure_def, add_int, sub_int, lt_int, le_int, gt_int, ge_int, eq_int, ne_int, min_int, max_int, neg_int, bool_bool, not_bool, is_none, isn_none, nn_int, nn_none, nn_tup, len_tup, len_lst, tup_lst, tup_tup, it_lst, it_tup, int_bool, int_int, oint_int, addI_int, subI_int, flat_tI, flat_int, flat_none, Option.bind_some, Option.map_some, Int.zero_add, thenB, thenM, List.nil_append, List.length_map, ob_assoc, collsB, isiB, typeN]
    by_cases h1 : 1 ≤ xs.length
    · by_cases h4 : xs.length ≤ 4
      · have a1 : (0 : Int) < (xs.length : Int) := by omega
        have a4 : (xs.length : Int) < 5 := by omega
        simp only [a1, a4, h1, h4, decide_true, beq_self_eq_true, Bool.true_or, Bool.not_true, Bool.false_eq_true, if_false, if_true, ob_some, Bool.true_and, bool_bool]
        refine bindE (loop_findD (m := Option) (p := fun row => !collB k row) (R := fun _ => PyData.bool false) xs fun row hrow => ?hb) ?hc
        case hc =>
          cases hf : xs.find? (fun row => !collB k row) with
          | none =>
            have : xs.all (collB k) = true := by
              rw [List.all_eq_true]
              intro x hx
              have := List.find?_eq_none.mp hf x hx
              simpa using this
            rw [this]
          | some x =>
            have : xs.all (collB k) = false := by
              rw [List.all_eq_false]
              refine ⟨x, List.mem_of_find?_eq_some hf, ?_⟩
              have := List.find?_some hf
              simpa using this
            rw [this]
        case hb =>
          cases row with
          | tuple r =>
            simp only [typeN, isiB, beq_self_eq_true, Bool.true_or, Bool.not_true, Bool.false_eq_true, if_false, op2, op1, cmp2, chain3, tst, notB, andB, orB, andD, orD, iteM, consM, starM, smallM, tupM, tupSM, lstM, argV, argK, comp1, comp1i, comp2, comp2i, comp11, seqM, rng1, rng2, zipSM, zip2M, zip3M, enumM, repM, joinM, catM, par3LM, put2M, popM, parLV, putVM, unpS, trg1M, sortSetM, orV, lrg1M, par3M, rdM, rdLM, partM, slcM, isiM, rtM, forM1, forM2, forM3, parM, unp2, unp3, unp2A, unp3A, unp4A, ob_pure, ob_some, ob_lift, Option.pure_def, add_int, sub_int, lt_int, le_int, gt_int, ge_int, eq_int, ne_int, min_int, max_int, neg_int, bool_bool, not_bool, is_none, isn_none, nn_int, nn_none, nn_tup, len_tup, len_lst, tup_lst, tup_tup, it_lst, it_tup, int_bool, int_int, oint_int, addI_int, subI_int, flat_tI, flat_int, flat_none, Option.bind_some, Option.map_some, Int.zero_add, thenB, thenM, List.nil_append, List.length_map, ob_assoc]
            by_cases hr : r.length = k
            · have be : ((r.length : Int) == (k : Int)) = true := by simp [hr]
              rw [be, Bool.not_true, if_neg Bool.false_ne_true]
              have hc : numsB k 50 (.tuple r) = r.all (numB 0 50) := by
                show (decide (r.length = k) && r.all (numB 0 50)) = _
                rw [decide_eq_true hr]
                rfl
              refine bindE (loop_findD (m := Option) (p := fun d => !numB 0 50 d) (R := fun _ => PyData.bool false) r fun e he => ?hn) ?_
              case hn =>
                cases e with
                | int i =>
                  simp only [typeN, isiB, numB]
                  rw [le_int]
                  by_cases i0 : 0 ≤ i
                  · by_cases i5 : i ≤ 50
                    · simp [i0, i5, bool_bool, le_int]
                    · simp [i0, i5, bool_bool, le_int]
                  · simp [i0, bool_bool, le_int]
                | _ => simp [typeN, isiB, numB]
              unfold collB
              rw [hc]
              cases hf : r.find? (fun d => !numB 0 50 d) with
              | some x =>
                have : r.all (numB 0 50) = false := by
                  rw [List.all_eq_false]
                  refine ⟨x, List.mem_of_find?_eq_some hf, ?_⟩
                  have := List.find?_some hf
                  simpa using this
                rw [this]
                rfl
              | none =>
                have ha : r.all (numB 0 50) = true := by
                  rw [List.all_eq_true]
                  intro x hx
                  have := List.find?_eq_none.mp hf x hx
                  simpa using this
                obtain ⟨q, e, hl, hq⟩ := nums_ints (hc.trans ha)
                cases e
                rw [ha, Bool.true_and, posB_tI]
                dsimp only
                have e5 := mul_tI (k := k) k4
                have e6 := eq_zT hl hq
                refine bindE e5 (bindE (a := !(q.any fun x => decide (0 < x))) (by rw [show PyData.tuple (q.map PyData.int) = tI q from rfl, e6]; rfl) rfl)
            · have be : ((r.length : Int) == (k : Int)) = false := by simp; omega
              have hc : collB k (.tuple r) = false := by
                show ((decide (r.length = k) && r.all (numB 0 50)) && posB (.tuple r)) = _
                rw [decide_eq_false hr]
                rfl
              rw [hc]
              rw [be]
              rfl
          | _ => simp [typeN, isiB, collB, numsB]
      · have a1 : (0 : Int) < (xs.length : Int) := by omega
        have a4 : ¬ (xs.length : Int) < 5 := by omega
        simp [a1, a4, h4, bool_bool]
    · have : xs = [] := List.length_eq_zero_iff.mp (by omega)
      subst this
      rfl
  | _ => simp [op2, op1, cmp2, chain3, tst, notB, andB, orB, andD, orD, iteM, consM, starM, smallM, tupM, tupSM, lstM, argV, argK, comp1, comp1i, comp2, comp2i, comp11, seqM, rng1, rng2, zipSM, zip2M, zip3M, enumM, repM, joinM, catM, par3LM, put2M, popM, parLV, putVM, unpS, trg1M, sortSetM, orV, lrg1M, par3M, rdM, rdLM, partM, slcM, isiM, rtM, forM1, forM2, forM3, parM, unp2, unp3, unp2A, unp3A, unp4A, ob_pure, ob_some, ob_lift, Option.pure_def, add_int, sub_int, lt_int, le_int, gt_int, ge_int, eq_int, ne_int, min_int, max_int, neg_int, bool_bool, not_bool, is_none, isn_none, nn_int, nn_none, nn_tup, len_tup, len_lst, tup_lst, tup_tup, it_lst, it_tup, int_bool, int_int, oint_int, addI_int, subI_int, flat_tI, flat_int, flat_none, Option.bind_some, Option.map_some, Int.zero_add, thenB, thenM, List.nil_append, List.length_map, ob_assoc, collsB, isiB, typeN]
theorem lfulf_eq {rows : List (List Int)} {c : List Int} {k : Nat} (h4 : rows.length ≤ 4) (hl : ∀ r ∈ rows, r.length = k) (hc : c.length = k) (k4 : k ≤ 4) : M__law_fulfilled [.val (tT rows), .val (tI c)] = some (oN (fulf rows c)) := by
  show m__law_fulfilled (tT rows) (tI c) = _
  unfold m__law_fulfilled
  simp only [op2, op1, cmp2, chain3, tst, notB, andB, orB, andD, orD, iteM, consM, starM, smallM, tupM, tupSM, lstM, argV, argK, comp1, comp1i, comp2, comp2i, comp11, seqM, rng1, rng2, zipSM, zip2M, zip3M, enumM, repM, joinM, catM, par3LM, put2M, popM, parLV, putVM, unpS, trg1M, sortSetM, orV, lrg1M, par3M, rdM, rdLM, partM, slcM, isiM, rtM, forM1, forM2, forM3, parM, unp2, unp3, unp2A, unp3A, unp4A, ob_pure, ob_some, ob_lift, Option.pure_def, add_int, sub_int, lt_int, le_int, gt_int, ge_int, eq_int, ne_int, min_int, max_int, neg_int, bool_bool, not_bool, is_none, isn_none, nn_int, nn_none, nn_tup, len_tup, len_lst, tup_lst, tup_tup, it_lst, it_tup, int_bool, int_int, oint_int, addI_int, subI_int, flat_tI, flat_int, flat_none, Option.bind_some, Option.map_some, Int.zero_add, thenB, thenM, List.nil_append, List.length_map, ob_assoc, List.length_map]
  rw [range1_ok (by omega) (by omega), ob_some]
  have hr : rangeL 0 ((rows.length : Nat) : Int).toNat = (List.range rows.length).map fun i : Nat => PyData.int (i : Nat) := by
    rw [Int.toNat_natCast]
    unfold rangeL
    exact List.map_congr_left fun i _ => by rw [Int.zero_add]
  rw [hr]
  refine bindE (loop_find (m := Option) (p := fun i : Nat => cont c (rows.getD i [])) (R := fun i => .int (i : Nat)) (List.range rows.length) fun i hi => ?_) ?_
  · have hi := List.mem_range.mp hi
    have rl := row_len hl hi
    rw [get_row hi, ob_some, zip_map (F := PyData.int) (G := PyData.int) (by omega), ob_some, small_ok (by simp; omega), ob_some]
    rw [lcA_filt2 (m := Option) (Ga := fun p : Int × Int => .int p.1) (Gb := fun p => .int p.2) (G := fun _ => .int 1) (p := fun p => decide (p.2 < p.1)) (fun _ => rfl) ((rows.getD i []).zip c) [] (fun p _ => rfl) fun _ _ _ => rfl]
    rw [List.nil_append]
    generalize rows.getD i [] = row at rl
    have hz : ((row.zip c).filter fun p => decide (p.2 < p.1)).isEmpty = cont c row := by
      rw [Bool.eq_iff_iff, List.isEmpty_iff, List.filter_eq_nil_iff, cont_iff (by omega)]
      constructor
      · intro h j hj
        have := h (row.getD j 0, c.getD j 0) (List.mem_iff_getElem.mpr ⟨j, by simp; omega, by simp [List.getD, hj, show j < c.length by omega]⟩)
        simpa using this
      · intro h p hp
        obtain ⟨j, hj, rfl⟩ := List.mem_iff_getElem.mp hp
        have hj1 : j < row.length := by simp at hj; omega
        have := h j hj1
        simp only [List.getElem_zip, decide_eq_true_eq]
        simpa [List.getD, hj1, show j < c.length by omega] using this
    rw [← hz]
    generalize (row.zip c).filter (fun p => decide (p.2 < p.1)) = l
    refine bindE rfl (bindE (a := l.isEmpty) (by rw [eq_nilA]; cases l <;> rfl) rfl)
  · unfold fulf firstN
    have hz : rows.zipIdx = (List.range rows.length).map fun i => (rows.getD i [], i) := by
      refine List.ext_getElem (by simp) fun i h1 h2 => ?_
      have : i < rows.length := by simpa using h1
      simp [List.getD, this]
    rw [hz, List.find?_map]
    show _ = some (oN (((List.range rows.length).find? fun i => cont c (rows.getD i [])).map _ |>.map _))
    cases (List.range rows.length).find? fun i => cont c (rows.getD i []) <;> rfl
theorem ixZ_lst (ds : List D) (j : D) : ixZ (.list ds) j = (Mo.lift (DD.getD (.list ds) j) : Z D) := rfl
/-- what repr can show and what may be hidden -/
structure Gv (n k : Nat) (d : D) : Prop where
  r : Rp n k d
  h : okH d = true
theorem okHs_of : ∀ {ds : List D}, (∀ d ∈ ds, okH d = true) → okHs ds = true
  | [], _ => rfl
  | d :: ds, h => by
    rw [okHs, h d List.mem_cons_self, okHs_of fun e he => h e (List.mem_cons_of_mem _ he)]
    rfl
theorem Gv.int {i : Int} (h : i.natAbs < 10 ^ 60) : Gv 1 0 (.int i) := ⟨Rp.int h, rfl⟩
theorem Gv.le {n k n' k' : Nat} {d : D} (h : Gv n k d) (hn : n ≤ n') (hk : k ≤ k') : Gv n' k' d := ⟨h.r.le hn hk, h.h⟩
theorem Gv.tup {n k : Nat} {ds : List D} (h : ∀ d ∈ ds, Gv n k d) : Gv (ds.length * n + 1) (k + 1) (.tuple ds) := ⟨(RpA.each fun d hd => (h d hd).r).tup, okHs_of fun d hd => (h d hd).h⟩
theorem Gv.lst {n k : Nat} {ds : List D} (h : ∀ d ∈ ds, Gv n k d) : Gv (ds.length * n + 1) (k + 1) (.list ds) := ⟨(RpA.each fun d hd => (h d hd).r).lst, okHs_of fun d hd => (h d hd).h⟩
abbrev oddL : List D := [.none, .bool true, .bool false, .int (-1), .int 0, .int 1, .int (10 ^ 39), .str "", .str "0", .tuple [], .list [], .dict [], .tuple [.int 0], .list [.int 0], .tuple [.int 1, .bool true], .tuple [.tuple [.int 1]], .tuple [.int 2, .int (-1)]]
theorem gv_of {n k : Nat} {d : D} (h1 : repB d = true) (h2 : decide (nodes d ≤ n) = true) (h3 : decide (d.depth ≤ k) = true) (h4 : okH d = true) : Gv n k d := ⟨⟨h1, of_decide_eq_true h2, of_decide_eq_true h3⟩, h4⟩
theorem gv_bl (b : Bool) : Gv 5 3 (.bool b) := ⟨(Rp.bool b).le (by decide) (by decide), rfl⟩
theorem gv_odd : ∀ o ∈ oddL, Gv 5 3 o := fun o ho => by
  simp only [oddL, List.mem_cons, List.not_mem_nil, or_false] at ho
  rcases ho with rfl | rfl | rfl | rfl | rfl | rfl | rfl | rfl | rfl | rfl | rfl | rfl | rfl | rfl | rfl | rfl | rfl
  · exact gv_of rfl (by decide +kernel) (by decide +kernel) rfl
  · exact gv_bl _
  · exact gv_bl _
  · exact (Gv.int (by decide)).le (by decide) (by decide)
  · exact (Gv.int (by decide)).le (by decide) (by decide)
  · exact (Gv.int (by decide)).le (by decide) (by decide)
  · exact (Gv.int (by decide)).le (by decide) (by decide)
  · exact gv_of (by decide +kernel) (by decide +kernel) (by decide +kernel) rfl
  · exact gv_of (by decide +kernel) (by decide +kernel) (by decide +kernel) rfl
  · exact gv_of rfl (by decide +kernel) (by decide +kernel) rfl
  · exact gv_of rfl (by decide +kernel) (by decide +kernel) rfl
  · exact gv_of (by decide +kernel) (by decide +kernel) (by decide +kernel) (by simp [okH, okHK])
  · exact gv_of (by decide +kernel) (by decide +kernel) (by decide +kernel) rfl
  · exact gv_of (by decide +kernel) (by decide +kernel) (by decide +kernel) rfl
  · exact gv_of (by decide +kernel) (by decide +kernel) (by decide +kernel) rfl
  · exact gv_of (by decide +kernel) (by decide +kernel) (by decide +kernel) rfl
  · exact gv_of (by decide +kernel) (by decide +kernel) (by decide +kernel) rfl
theorem odd_ok : TrZ 1 (m__law_odd (refL 0)) (fun d => d ∈ oddL) := by
  unfold m__law_odd
  simp only [op2, op1, cmp2, chain3, tst, notB, andB, orB, andD, orD, iteM, consM, starM, smallM, tupM, tupSM, lstM, argV, argK, comp1, comp1i, comp2, comp2i, comp11, seqM, rng1, rng2, zipSM, zip2M, zip3M, enumM, repM, joinM, catM, par3LM, put2M, popM, parLV, putVM, unpS, trg1M, sortSetM, orV, lrg1M, par3M, rdM, rdLM, partM, slcM, isiM, rtM, forM1, forM2, forM3, parM, unp2, unp3, unp2A, unp3A, unp4A, zb_assoc, zb_pure]
  refine TrZ.bindL (neg_int 1) (TrZ.bindL (a := .int (10 ^ 39)) rfl (TrZ.bindL (neg_int 1) (TrZ.dr (by decide) (by decide) fun r r0 r1 => ?_)))
  obtain ⟨o, ho, eo⟩ := get_mem (ds := oddL) r0 (by show r < 17; exact r1)
  exact TrZ.li eo ho
theorem ne_intsL (l : List Int) (h : ∀ x ∈ l, x.natAbs < 10 ^ 20) : neD (.list (l.map PyData.int)) (.list (l.map PyData.int)) = some (.bool false) := by
  have hs : SmA (l.length * 1) 0 (l.map PyData.int) := SmA.map (n := 1) (k := 0) l fun b hb => Sm.int (h b hb)
  rw [ne_sm hs.lst hs.lst (by decide) (by decide), SeqAt.eqv_refl _ (lay_small _ hs.lst.b)]
  rfl
theorem exc1_y {α : Type} {m : Type → Type} [Mo m] (c f : Str) (d : D) (h : D → m α) (r : m α) : exc1 c f ⟨c, [(f, d)]⟩ h r = h d := by
  unfold exc1
  rw [if_pos rfl]
  show (if f = f then h d else Mo.lift none) = h d
  rw [if_pos rfl]
theorem exc1_n {α : Type} {m : Type → Type} [Mo m] {c c' f : Str} {fs : List (Str × D)} {h : D → m α} {r : m α} (hc : ¬ c' = c) : exc1 c f ⟨c', fs⟩ h r = r := by unfold exc1; rw [if_neg hc]
theorem Rw.n20 {c : List Int} (h : Rw c) : ∀ x ∈ c, x.natAbs < 10 ^ 20 := fun x hx => by have := h.r x hx; omega
theorem bes_heap (d : D) : besO "Heap" (heapD d) = some () := by kernel_rfl
theorem tI_injO {a b : List Int} (h : tI a = tI b) : a = b := by
  have h : a.map PyData.int = b.map PyData.int := by injection h
  exact (List.map_inj_right fun x y e => by injection e).mp h
theorem eq_tIr {a b : List Int} (ha : Rw a) (hb : Rw b) : eqD (tI a) (tI b) = some (.bool (decide (a = b))) := by
  rw [eq_sm (Sm.tI ha.n20 (Nat.le_refl _)) (Sm.tI hb.n20 (Nat.le_refl _)) (by decide) (by decide)]
  refine congrArg (fun b => some (PyData.bool b)) ?_
  have nb : ∀ r : List Int, noB (tI r) = true := fun r => by
    show noBs (r.map PyData.int) = true
    exact noB_map r fun _ _ => rfl
  rw [Bool.eq_iff_iff, eqv_iff _ _ (nb a) (nb b), decide_eq_true_eq]
  exact ⟨fun h => tI_injO h, fun h => h ▸ rfl⟩
theorem eqh_eq {a b : List Int} (ha : Rw a) (hb : Rw b) : M_Heap____eq__ [.val (heapD (tI a)), .val (heapD (tI b))] = some (.bool (decide (a = b))) := by
  show m_Heap____eq__ (heapD (tI a)) (heapD (tI b)) = _
  have f1 := fld_heap (tI a)
  have f2 := fld_heap (tI b)
  have f3 := isOf_heap (tI b)
  generalize heapD (tI a) = hp at f1 ⊢
  generalize heapD (tI b) = hq at f2 f3 ⊢
  unfold m_Heap____eq__
  simp only [op2, op1, cmp2, chain3, tst, notB, andB, orB, andD, orD, iteM, consM, starM, smallM, tupM, tupSM, lstM, argV, argK, comp1, comp1i, comp2, comp2i, comp11, seqM, rng1, rng2, zipSM, zip2M, zip3M, enumM, repM, joinM, catM, par3LM, put2M, popM, parLV, putVM, unpS, trg1M, sortSetM, orV, lrg1M, par3M, rdM, rdLM, partM, slcM, isiM, rtM, forM1, forM2, forM3, parM, unp2, unp3, unp2A, unp3A, unp4A, ob_pure, ob_some, ob_lift, Option.pure_def, add_int, sub_int, lt_int, le_int, gt_int, ge_int, eq_int, ne_int, min_int, max_int, neg_int, bool_bool, not_bool, is_none, isn_none, nn_int, nn_none, nn_tup, len_tup, len_lst, tup_lst, tup_tup, it_lst, it_tup, int_bool, int_int, oint_int, addI_int, subI_int, flat_tI, flat_int, flat_none, Option.bind_some, Option.map_some, Int.zero_add, thenB, thenM, List.nil_append, List.length_map, ob_assoc, f1, f2, f3, bool_bool, if_true, eq_tIr ha hb]
/-! ### k32: wishes made and called -/
abbrev wiD (d v : D) : Cell := .ins "Wish" [("width", d), ("wanted", v), ("many", .int ((0 : Nat) : Int))]
def dueK (d : D) (k : Nat) (v : D) : D := if numB 1 4 d = true then (if collsB k v = true then .int 0 else .list [.str "wish", v]) else .list [.str "kinds", d]
theorem word_bad {c f w : Str} (x : D) (h : (c = "BadWish" ∧ w = "wish") ∨ (c = "BadKinds" ∧ w = "kinds") ∨ (c = "BadHeap" ∧ w = "heap")) (hf : f = "value") : ME__law_word ⟨c, [(f, x)]⟩ = some (.list [.str w, x]) := by
  subst hf
  rcases h with ⟨rfl, rfl⟩ | ⟨rfl, rfl⟩ | ⟨rfl, rfl⟩
  · kernel_rfl
  · kernel_rfl
  · kernel_rfl
theorem num_nat {d : D} (h : numB 1 4 d = true) : ∃ k : Nat, d = .int (k : Nat) ∧ 1 ≤ k ∧ k ≤ 4 := by
  cases d with
  | int i =>
    have h : (decide (1 ≤ i) && decide (i ≤ 4)) = true := h
    simp only [Bool.and_eq_true, decide_eq_true_eq] at h
    exact ⟨i.toNat, by congr 1; omega, by omega, by omega⟩
  | _ => cases h
theorem isnumW (d : D) : M_is_number_values [.val d, .val (.int 1), .val (.int 4)] = some (.bool (numB 1 4 d)) := isnumW_eq d 1 4
/-- Wish(d, v) as it comes out -/
theorem thr_kinds {ob : List Cell} {d v : D} (hd : okH d = true) (h : numB 1 4 d = false) : ThrX (MX_Wish____init__ [.val (refD ob.length), .val d, .val v]) (ob ++ [.ins "Wish" []]) ⟨"BadKinds", [("value", d)]⟩ (ob ++ [.ins "Wish" []]) := by
  show ThrX (mx_Wish____init__ (refD ob.length) d v) _ _ _
  have e1 := isnumW d
  unfold mx_Wish____init__
  simp only [op2, op1, cmp2, chain3, tst, notB, andB, orB, andD, orD, iteM, consM, starM, smallM, tupM, tupSM, lstM, argV, argK, comp1, comp1i, comp2, comp2i, comp11, seqM, rng1, rng2, zipSM, zip2M, zip3M, enumM, repM, joinM, catM, par3LM, put2M, popM, parLV, putVM, unpS, trg1M, sortSetM, orV, lrg1M, par3M, rdM, rdLM, partM, slcM, isiM, rtM, forM1, forM2, forM3, parM, unp2, unp3, unp2A, unp3A, unp4A, zb_assoc, zb_pure, zl_some, zb_some, zx_assoc, zx_pure, zx_some, upz_pure, add_int, sub_int, lt_int, le_int, gt_int, ge_int, eq_int, ne_int, min_int, max_int, neg_int, bool_bool, not_bool, is_none, isn_none, nn_int, nn_none, nn_tup, len_tup, len_lst, tup_lst, tup_tup, it_lst, it_tup, int_bool, int_int, oint_int, addI_int, subI_int, flat_tI, flat_int, flat_none, Option.bind_some, Option.map_some, Int.zero_add, thenB, thenM, List.nil_append, List.length_map]
  refine ThrX.bU (Run.hid (a := true) (by simp [okSl, hd]) (by simp only [op2, op1, cmp2, chain3, tst, notB, andB, orB, andD, orD, iteM, consM, starM, smallM, tupM, tupSM, lstM, argV, argK, comp1, comp1i, comp2, comp2i, comp11, seqM, rng1, rng2, zipSM, zip2M, zip3M, enumM, repM, joinM, catM, par3LM, put2M, popM, parLV, putVM, unpS, trg1M, sortSetM, orV, lrg1M, par3M, rdM, rdLM, partM, slcM, isiM, rtM, forM1, forM2, forM3, parM, unp2, unp3, unp2A, unp3A, unp4A, ob_pure, ob_some, ob_lift, Option.pure_def, add_int, sub_int, lt_int, le_int, gt_int, ge_int, eq_int, ne_int, min_int, max_int, neg_int, bool_bool, not_bool, is_none, isn_none, nn_int, nn_none, nn_tup, len_tup, len_lst, tup_lst, tup_tup, it_lst, it_tup, int_bool, int_int, oint_int, addI_int, subI_int, flat_tI, flat_int, flat_none, Option.bind_some, Option.map_some, Int.zero_add, thenB, thenM, List.nil_append, List.length_map, ob_assoc, e1, h]; rfl)) ?_
  rw [if_pos rfl]
  exact ThrX.throw
theorem thr_wish {ob : List Cell} {k : Nat} {v : D} (k1 : 1 ≤ k) (k4 : k ≤ 4) (hv : okH v = true) (h : collsB k v = false) : ThrX (MX_Wish____init__ [.val (refD ob.length), .val (.int (k : Nat)), .val v]) (ob ++ [.ins "Wish" []]) ⟨"BadWish", [("value", v)]⟩ (ob ++ [.ins "Wish" []]) := by
  show ThrX (mx_Wish____init__ (refD ob.length) (.int (k : Nat)) v) _ _ _
  have e1 := isnumW (.int (k : Nat))
  have e0 : numB 1 4 (.int (k : Nat)) = true := by show (decide ((1 : Int) ≤ k) && decide ((k : Int) ≤ 4)) = true; simp; omega
  have e2 : M_are_collections [.val (.int (k : Nat)), .val v] = some (.bool (collsB k v)) := arecolls_eq v k1 (by omega)
  unfold mx_Wish____init__
  simp only [op2, op1, cmp2, chain3, tst, notB, andB, orB, andD, orD, iteM, consM, starM, smallM, tupM, tupSM, lstM, argV, argK, comp1, comp1i, comp2, comp2i, comp11, seqM, rng1, rng2, zipSM, zip2M, zip3M, enumM, repM, joinM, catM, par3LM, put2M, popM, parLV, putVM, unpS, trg1M, sortSetM, orV, lrg1M, par3M, rdM, rdLM, partM, slcM, isiM, rtM, forM1, forM2, forM3, parM, unp2, unp3, unp2A, unp3A, unp4A, zb_assoc, zb_pure, zl_some, zb_some, zx_assoc, zx_pure, zx_some, upz_pure, add_int, sub_int, lt_int, le_int, gt_int, ge_int, eq_int, ne_int, min_int, max_int, neg_int, bool_bool, not_bool, is_none, isn_none, nn_int, nn_none, nn_tup, len_tup, len_lst, tup_lst, tup_tup, it_lst, it_tup, int_bool, int_int, oint_int, addI_int, subI_int, flat_tI, flat_int, flat_none, Option.bind_some, Option.map_some, Int.zero_add, thenB, thenM, List.nil_append, List.length_map]
  refine ThrX.bU (Run.hid (a := false) (by simp [okSl, okH]) (by simp only [op2, op1, cmp2, chain3, tst, notB, andB, orB, andD, orD, iteM, consM, starM, smallM, tupM, tupSM, lstM, argV, argK, comp1, comp1i, comp2, comp2i, comp11, seqM, rng1, rng2, zipSM, zip2M, zip3M, enumM, repM, joinM, catM, par3LM, put2M, popM, parLV, putVM, unpS, trg1M, sortSetM, orV, lrg1M, par3M, rdM, rdLM, partM, slcM, isiM, rtM, forM1, forM2, forM3, parM, unp2, unp3, unp2A, unp3A, unp4A, ob_pure, ob_some, ob_lift, Option.pure_def, add_int, sub_int, lt_int, le_int, gt_int, ge_int, eq_int, ne_int, min_int, max_int, neg_int, bool_bool, not_bool, is_none, isn_none, nn_int, nn_none, nn_tup, len_tup, len_lst, tup_lst, tup_tup, it_lst, it_tup, int_bool, int_int, oint_int, addI_int, subI_int, flat_tI, flat_int, flat_none, Option.bind_some, Option.map_some, Int.zero_add, thenB, thenM, List.nil_append, List.length_map, ob_assoc, e1, e0]; rfl)) ?_
  rw [if_neg (by decide)]
  refine ThrX.bU (Run.hid (a := true) (by simp [okSl, okH, hv]) (by simp only [op2, op1, cmp2, chain3, tst, notB, andB, orB, andD, orD, iteM, consM, starM, smallM, tupM, tupSM, lstM, argV, argK, comp1, comp1i, comp2, comp2i, comp11, seqM, rng1, rng2, zipSM, zip2M, zip3M, enumM, repM, joinM, catM, par3LM, put2M, popM, parLV, putVM, unpS, trg1M, sortSetM, orV, lrg1M, par3M, rdM, rdLM, partM, slcM, isiM, rtM, forM1, forM2, forM3, parM, unp2, unp3, unp2A, unp3A, unp4A, ob_pure, ob_some, ob_lift, Option.pure_def, add_int, sub_int, lt_int, le_int, gt_int, ge_int, eq_int, ne_int, min_int, max_int, neg_int, bool_bool, not_bool, is_none, isn_none, nn_int, nn_none, nn_tup, len_tup, len_lst, tup_lst, tup_tup, it_lst, it_tup, int_bool, int_int, oint_int, addI_int, subI_int, flat_tI, flat_int, flat_none, Option.bind_some, Option.map_some, Int.zero_add, thenB, thenM, List.nil_append, List.length_map, ob_assoc, e2, h]; rfl)) ?_
  rw [if_pos rfl]
  exact ThrX.throw
theorem run_newA {ob : List Cell} {k : Nat} {v : D} (k1 : 1 ≤ k) (k4 : k ≤ 4) (hv : okH v = true) (h : collsB k v = true) : RunX (MX_Wish____init__ [.val (refD ob.length), .val (.int (k : Nat)), .val v]) (ob ++ [.ins "Wish" []]) .none (ob ++ [wiD (.int (k : Nat)) v]) := by
  show RunX (mx_Wish____init__ (refD ob.length) (.int (k : Nat)) v) _ _ _
  have e1 := isnumW (.int (k : Nat))
  have e0 : numB 1 4 (.int (k : Nat)) = true := by show (decide ((1 : Int) ≤ k) && decide ((k : Int) ≤ 4)) = true; simp; omega
  have e2 : M_are_collections [.val (.int (k : Nat)), .val v] = some (.bool (collsB k v)) := arecolls_eq v k1 (by omega)
  unfold mx_Wish____init__
  simp only [op2, op1, cmp2, chain3, tst, notB, andB, orB, andD, orD, iteM, consM, starM, smallM, tupM, tupSM, lstM, argV, argK, comp1, comp1i, comp2, comp2i, comp11, seqM, rng1, rng2, zipSM, zip2M, zip3M, enumM, repM, joinM, catM, par3LM, put2M, popM, parLV, putVM, unpS, trg1M, sortSetM, orV, lrg1M, par3M, rdM, rdLM, partM, slcM, isiM, rtM, forM1, forM2, forM3, parM, unp2, unp3, unp2A, unp3A, unp4A, zb_assoc, zb_pure, zl_some, zb_some, zx_assoc, zx_pure, zx_some, upz_pure, add_int, sub_int, lt_int, le_int, gt_int, ge_int, eq_int, ne_int, min_int, max_int, neg_int, bool_bool, not_bool, is_none, isn_none, nn_int, nn_none, nn_tup, len_tup, len_lst, tup_lst, tup_tup, it_lst, it_tup, int_bool, int_int, oint_int, addI_int, subI_int, flat_tI, flat_int, flat_none, Option.bind_some, Option.map_some, Int.zero_add, thenB, thenM, List.nil_append, List.length_map]
  refine RunX.bU (Run.hid (a := false) (by simp [okSl, okH]) (by simp only [op2, op1, cmp2, chain3, tst, notB, andB, orB, andD, orD, iteM, consM, starM, smallM, tupM, tupSM, lstM, argV, argK, comp1, comp1i, comp2, comp2i, comp11, seqM, rng1, rng2, zipSM, zip2M, zip3M, enumM, repM, joinM, catM, par3LM, put2M, popM, parLV, putVM, unpS, trg1M, sortSetM, orV, lrg1M, par3M, rdM, rdLM, partM, slcM, isiM, rtM, forM1, forM2, forM3, parM, unp2, unp3, unp2A, unp3A, unp4A, ob_pure, ob_some, ob_lift, Option.pure_def, add_int, sub_int, lt_int, le_int, gt_int, ge_int, eq_int, ne_int, min_int, max_int, neg_int, bool_bool, not_bool, is_none, isn_none, nn_int, nn_none, nn_tup, len_tup, len_lst, tup_lst, tup_tup, it_lst, it_tup, int_bool, int_int, oint_int, addI_int, subI_int, flat_tI, flat_int, flat_none, Option.bind_some, Option.map_some, Int.zero_add, thenB, thenM, List.nil_append, List.length_map, ob_assoc, e1, e0]; rfl)) (runx_ifF (by decide) ?_)
  refine RunX.bU (Run.hid (a := false) (by simp [okSl, okH, hv]) (by simp only [op2, op1, cmp2, chain3, tst, notB, andB, orB, andD, orD, iteM, consM, starM, smallM, tupM, tupSM, lstM, argV, argK, comp1, comp1i, comp2, comp2i, comp11, seqM, rng1, rng2, zipSM, zip2M, zip3M, enumM, repM, joinM, catM, par3LM, put2M, popM, parLV, putVM, unpS, trg1M, sortSetM, orV, lrg1M, par3M, rdM, rdLM, partM, slcM, isiM, rtM, forM1, forM2, forM3, parM, unp2, unp3, unp2A, unp3A, unp4A, ob_pure, ob_some, ob_lift, Option.pure_def, add_int, sub_int, lt_int, le_int, gt_int, ge_int, eq_int, ne_int, min_int, max_int, neg_int, bool_bool, not_bool, is_none, isn_none, nn_int, nn_none, nn_tup, len_tup, len_lst, tup_lst, tup_tup, it_lst, it_tup, int_bool, int_int, oint_int, addI_int, subI_int, flat_tI, flat_int, flat_none, Option.bind_some, Option.map_some, Int.zero_add, thenB, thenM, List.nil_append, List.length_map, ob_assoc, e2, h]; rfl)) (runx_ifF (by decide) ?_)
  refine RunX.bU (run_fld (by simp)) (RunX.bU (run_fld (by simp [putL])) (RunX.bU (run_fld (by simp [putL, show ¬ Str.ofString "width" = Str.ofString "wanted" from by decide +kernel])) ?_))
  exact RunX.pure
theorem made_eq {d v : D} {k : Nat} (hk : ∀ i : Nat, d = .int (i : Nat) → i = k) (hd : okH d = true) (hv : okH v = true) : ∃ c, ∀ ob : List Cell, Run (M__law_made [.val d, .val v]) ob (dueK d k v) (ob ++ [c]) := by
  show ∃ c, ∀ ob : List Cell, Run (m__law_made d v) ob (dueK d k v) (ob ++ [c])
  unfold m__law_made dueK
  simp only [op2, op1, cmp2, chain3, tst, notB, andB, orB, andD, orD, iteM, consM, starM, smallM, tupM, tupSM, lstM, argV, argK, comp1, comp1i, comp2, comp2i, comp11, seqM, rng1, rng2, zipSM, zip2M, zip3M, enumM, repM, joinM, catM, par3LM, put2M, popM, parLV, putVM, unpS, trg1M, sortSetM, orV, lrg1M, par3M, rdM, rdLM, partM, slcM, isiM, rtM, forM1, forM2, forM3, parM, unp2, unp3, unp2A, unp3A, unp4A, zb_assoc, zb_pure, zl_some, zb_some, zx_assoc, zx_pure, zx_some, upz_pure, add_int, sub_int, lt_int, le_int, gt_int, ge_int, eq_int, ne_int, min_int, max_int, neg_int, bool_bool, not_bool, is_none, isn_none, nn_int, nn_none, nn_tup, len_tup, len_lst, tup_lst, tup_tup, it_lst, it_tup, int_bool, int_int, oint_int, addI_int, subI_int, flat_tI, flat_int, flat_none, Option.bind_some, Option.map_some, Int.zero_add, thenB, thenM, List.nil_append, List.length_map]
  cases hn : numB 1 4 d with
  | false =>
    refine ⟨.ins "Wish" [], fun ob => Run.bind (a := .rt (.list [.str "kinds", d])) (ThrX.try_ (ThrX.bO run_newI (ThrX.here (thr_kinds hd hn))) ?_) (by rw [if_neg (by decide)]; exact Run.pure)⟩
    rw [exc1_n (by decide +kernel), exc1_y]
    exact Run.bind (Run.hid (by simp [okSl, okHs, hd]) (word_bad d (.inr (.inl ⟨rfl, rfl⟩)) rfl)) Run.pure
  | true =>
    obtain ⟨i, rfl, k1, k4⟩ := num_nat hn
    obtain rfl := hk i rfl
    rw [if_pos rfl]
    cases hc : collsB i v with
    | false =>
      refine ⟨.ins "Wish" [], fun ob => Run.bind (a := .rt (.list [.str "wish", v])) (ThrX.try_ (ThrX.bO run_newI (ThrX.here (thr_wish k1 k4 hv hc))) ?_) (by rw [if_neg (by decide)]; exact Run.pure)⟩
      rw [exc1_y]
      exact Run.bind (Run.hid (by simp [okSl, okHs, hv]) (word_bad v (.inl ⟨rfl, rfl⟩) rfl)) Run.pure
    | true =>
      refine ⟨wiD (.int (i : Nat)) v, fun ob => Run.bind (a := .rt (.int 0)) (RunX.try_ (RunX.bO run_newI (RunX.bind (run_newA k1 k4 hv hc) (RunX.bL rfl ?_)))) (by rw [if_pos rfl]; exact Run.pure)⟩
      have hat : (ob ++ [wiD (.int (i : Nat)) v])[ob.length]? = some (wiD (.int (i : Nat)) v) := by simp
      refine RunX.bO (run_this hat) (RunX.bU (a := .int ((0 : Nat) : Int)) ?_ RunX.pure)
      show Run (m_Wish__asked (refD ob.length)) _ _ _
      unfold m_Wish__asked
      exact Run.bind Run.pure (run_attr hat rfl)
theorem due_eq {d v : D} {k : Nat} (hk : ∀ i : Nat, d = .int (i : Nat) → i = k) : M__law_due [.val d, .val v] = some (dueK d k v) := by
  show m__law_due d v = _
  unfold m__law_due dueK
  cases d with
  | int i =>
    cases hn : numB 1 4 (.int i) with
    | true =>
      obtain ⟨j, ej, k1, k4⟩ := num_nat hn
      cases ej
      obtain rfl := hk j rfl
      have a1 : (0 : Int) < (j : Int) := by omega
      have a5 : (j : Int) < 5 := by omega
      simp only [op2, op1, cmp2, chain3, tst, notB, andB, orB, andD, orD, iteM, consM, starM, smallM, tupM, tupSM, lstM, argV, argK, comp1, comp1i, comp2, comp2i, comp11, seqM, rng1, rng2, zipSM, zip2M, zip3M, enumM, repM, joinM, catM, par3LM, put2M, popM, parLV, putVM, unpS, trg1M, sortSetM, orV, lrg1M, par3M, rdM, rdLM, partM, slcM, isiM, rtM, forM1, forM2, forM3, parM, unp2, unp3, unp2A, unp3A, unp4A, ob_pure, ob_some, ob_lift, Option.pure_def, add_int, sub_int, lt_int, le_int, gt_int, ge_int, eq_int, ne_int, min_int, max_int, neg_int, bool_bool, not_bool, is_none, isn_none, nn_int, nn_none, nn_tup, len_tup, len_lst, tup_lst, tup_tup, it_lst, it_tup, int_bool, int_int, oint_int, addI_int, subI_int, flat_tI, flat_int, flat_none, Option.bind_some, Option.map_some, Int.zero_add, thenB, thenM, List.nil_append, List.length_map, ob_assoc, isiB, typeN, laright_eq v k1 k4]
      simp only [a1, a5, decide_true, if_true, bool_bool, ob_some]
      cases collsB j v <;> rfl
    | false =>
      have hb : (decide (1 ≤ i) && decide (i ≤ 4)) = false := hn
      simp only [op2, op1, cmp2, chain3, tst, notB, andB, orB, andD, orD, iteM, consM, starM, smallM, tupM, tupSM, lstM, argV, argK, comp1, comp1i, comp2, comp2i, comp11, seqM, rng1, rng2, zipSM, zip2M, zip3M, enumM, repM, joinM, catM, par3LM, put2M, popM, parLV, putVM, unpS, trg1M, sortSetM, orV, lrg1M, par3M, rdM, rdLM, partM, slcM, isiM, rtM, forM1, forM2, forM3, parM, unp2, unp3, unp2A, unp3A, unp4A, ob_pure, ob_some, ob_lift, Option.pure_def, add_int, sub_int, lt_int, le_int, gt_int, ge_int, eq_int, ne_int, min_int, max_int, neg_int, bool_bool, not_bool, is_none, isn_none, nn_int, nn_none, nn_tup, len_tup, len_lst, tup_lst, tup_tup, it_lst, it_tup, int_bool, int_int, oint_int, addI_int, subI_int, flat_tI, flat_int, flat_none, Option.bind_some, Option.map_some, Int.zero_add, thenB, thenM, List.nil_append, List.length_map, ob_assoc, isiB, typeN]
      by_cases i0 : 0 < i
      · have i5 : ¬ i < 5 := fun h => by
          rw [decide_eq_true (by omega), decide_eq_true (by omega)] at hb
          cases hb
        simp only [i0, i5, decide_true, decide_false, if_true, bool_bool, ob_some]
        rfl
      · simp only [i0, decide_false, bool_bool, ob_some]
        rfl
  | _ => simp [op2, op1, cmp2, chain3, tst, notB, andB, orB, andD, orD, iteM, consM, starM, smallM, tupM, tupSM, lstM, argV, argK, comp1, comp1i, comp2, comp2i, comp11, seqM, rng1, rng2, zipSM, zip2M, zip3M, enumM, repM, joinM, catM, par3LM, put2M, popM, parLV, putVM, unpS, trg1M, sortSetM, orV, lrg1M, par3M, rdM, rdLM, partM, slcM, isiM, rtM, forM1, forM2, forM3, parM, unp2, unp3, unp2A, unp3A, unp4A, ob_pure, ob_some, ob_lift, Option.pure_def, add_int, sub_int, lt_int, le_int, gt_int, ge_int, eq_int, ne_int, min_int, max_int, neg_int, bool_bool, not_bool, is_none, isn_none, nn_int, nn_none, nn_tup, len_tup, len_lst, tup_lst, tup_tup, it_lst, it_tup, int_bool, int_int, oint_int, addI_int, subI_int, flat_tI, flat_int, flat_none, Option.bind_some, Option.map_some, Int.zero_add, thenB, thenM, List.nil_append, List.length_map, ob_assoc, isiB, typeN, numB]
/-! called -/
theorem called_ok {ob : List Cell} {k n m : Nat} {ws : List (List Int)} {c : List Int} (hk : ob[k]? = some (wiC n ws m)) (ro : Wishes n 50 ws) (hc : c.length = n) (hn : n ≤ 4) : Run (M__law_called [.val (refD k), .val (heapD (tI c))]) ob (oN (fulf ws c)) (ob.set k (wiC n ws (m + 1))) := by
  show Run (m__law_called (refD k) (heapD (tI c))) _ _ _
  have h := run_callW hk ro hc hn
  unfold m__law_called
  generalize heapD (tI c) = v at h ⊢
  refine Run.bind (a := .rt (oN (fulf ws c))) (RunX.try_ (RunX.bind (ob1 := ob.set k (wiC n ws (m + 1))) ?_ RunX.pure)) Run.pure
  exact h
structure BadV (n : Nat) (v : D) : Prop where
  h : okH v = true
  of : isOf "Heap" v = some (.bool false) ∨ ∃ c : List Int, v = heapD (tI c) ∧ c.length ≠ n
  eq : eqAny (m := Option) "Heap" M_Heap____eq__ v v = some (.bool true)
theorem called_bad {ob : List Cell} {k n m : Nat} {ws : List (List Int)} {v : D} (hk : ob[k]? = some (wiC n ws m)) (b : BadV n v) : Run (M__law_called [.val (refD k), .val v]) ob (.list [.str "heap", .bool true]) ob := by
  show Run (m__law_called (refD k) v) _ _ _
  have thr : ThrX (MX_Wish____call__ [.val (refD k), .val v]) ob ⟨"BadHeap", [("value", v)]⟩ ob := by
    show ThrX (mx_Wish____call__ (refD k) v) _ _ _
    unfold mx_Wish____call__
    simp only [op2, op1, cmp2, chain3, tst, notB, andB, orB, andD, orD, iteM, consM, starM, smallM, tupM, tupSM, lstM, argV, argK, comp1, comp1i, comp2, comp2i, comp11, seqM, rng1, rng2, zipSM, zip2M, zip3M, enumM, repM, joinM, catM, par3LM, put2M, popM, parLV, putVM, unpS, trg1M, sortSetM, orV, lrg1M, par3M, rdM, rdLM, partM, slcM, isiM, rtM, forM1, forM2, forM3, parM, unp2, unp3, unp2A, unp3A, unp4A, zb_assoc, zb_pure, zl_some, zb_some, zx_assoc, zx_pure, zx_some, upz_pure, add_int, sub_int, lt_int, le_int, gt_int, ge_int, eq_int, ne_int, min_int, max_int, neg_int, bool_bool, not_bool, is_none, isn_none, nn_int, nn_none, nn_tup, len_tup, len_lst, tup_lst, tup_tup, it_lst, it_tup, int_bool, int_int, oint_int, addI_int, subI_int, flat_tI, flat_int, flat_none, Option.bind_some, Option.map_some, Int.zero_add, thenB, thenM, List.nil_append, List.length_map]
    refine ThrX.bU (a := true) (ob1 := ob) ?_ (by rw [if_pos rfl]; exact ThrX.throw)
    rcases b.of with h | ⟨c, rfl, hc⟩
    · refine Run.bL h (Run.bL (a := false) rfl ?_)
      exact Run.pure
    · have f1 := fld_heap (tI c)
      have f3 := isOf_heap (tI c)
      generalize heapD (tI c) = h at f1 f3 ⊢
      refine Run.bL f3 (Run.bL (a := true) rfl (run_ifF (by decide) (Run.bL f1 (Run.bL (a := .int (c.length : Nat)) (len_tI c) (Run.bind (run_attr hk rfl) (Run.lift ?_))))))
      rw [ne_int]
      simp [boolD]
      omega
  unfold m__law_called
  refine Run.bind (a := .rt (.list [.str "heap", .bool true])) (ThrX.try_ (ThrX.here (ThrX.bU Run.pure (ThrX.bO (run_self hk (by kernel_rfl)) (RunX.thr (RunX.bU Run.pure (RunX.bind RunX.pure RunX.pure)) (ThrX.bO (run_self hk (by kernel_rfl)) thr))))) ?_) Run.pure
  rw [exc1_y]
  refine Run.bind (Run.hid (by simp [okSl, okHs, b.h]) ?_) Run.pure
  have hw := word_bad v (.inr (.inr ⟨rfl, rfl⟩)) rfl
  rw [hw]
  refine bindE (a := [.str "heap", .bool true]) (bindE (a := .str "heap") (show DD.getD (.list [.str "heap", v]) (.int 0) = _ from get0 _ _) (bindE (a := [.bool true]) (bindE (a := .bool true) ?_ rfl) rfl)) rfl
  exact b.eq
theorem bad_none {n : Nat} : BadV n .none := ⟨rfl, .inl rfl, by kernel_rfl⟩
theorem bad_odd {n : Nat} : ∀ o ∈ oddL, BadV n o := fun o ho => by
  refine ⟨(gv_odd o ho).h, .inl ?_, ?_⟩
  · simp only [oddL, List.mem_cons, List.not_mem_nil, or_false] at ho
    rcases ho with rfl | rfl | rfl | rfl | rfl | rfl | rfl | rfl | rfl | rfl | rfl | rfl | rfl | rfl | rfl | rfl | rfl <;> rfl
  · simp only [oddL, List.mem_cons, List.not_mem_nil, or_false] at ho
    rcases ho with rfl | rfl | rfl | rfl | rfl | rfl | rfl | rfl | rfl | rfl | rfl | rfl | rfl | rfl | rfl | rfl | rfl <;> kernel_rfl
theorem bad_tI {n : Nat} {c : List Int} (h : ∀ x ∈ c, x.natAbs < 10 ^ 20) : BadV n (tI c) := by
  refine ⟨okH_tI c, .inl rfl, ?_⟩
  show (if (isCls "Heap" (tI c)).isSome = true then _ else _) = _
  rw [if_neg (by show ¬ (none : Option Unit).isSome = true; simp), if_neg (by show ¬ (false && false) = true; simp)]
  show eqD (tI c) (tI c) = _
  rw [eq_tI h h, decide_eq_true rfl]
theorem bad_hp {n : Nat} {c : List Int} (h : Rw c) (hn : c.length ≠ n) : BadV n (heapD (tI c)) := by
  refine ⟨okS_heap c, .inr ⟨c, rfl, hn⟩, ?_⟩
  have q1 := eqh_eq h h
  rw [decide_eq_true rfl] at q1
  have q2 := cls_heap (tI c)
  have q3 := bes_heap (tI c)
  unfold eqAny
  generalize heapD (tI c) = d at q1 q2 q3 ⊢
  rw [q2, q3, if_pos (show (some () : Option Unit).isSome = true from rfl)]
  show (M_Heap____eq__ [.val d, .val d] >>= _) = _
  rw [q1]
  rfl
abbrev hp (c : List Int) : D := heapD (tI c)
theorem run_wish {ob : List Cell} {k n m : Nat} {ws : List (List Int)} {c : List Int} (hk : ob[k]? = some (wiC n ws m)) (ro : Wishes n 50 ws) (hc : c.length = n) (hn : n ≤ 4) : RunX (MX_Wish____call__ [.val (refD k), .val (hp c)]) ob (oN (fulf ws c)) (ob.set k (wiC n ws (m + 1))) := by
  show RunX (mx_Wish____call__ (refD k) (heapD (tI c))) _ _ _
  have f1 := fld_heap (tI c)
  have f3 := isOf_heap (tI c)
  have hf : M_fulfilled_by [.val (tT ws), .val (tI c)] = some (oN (fulf ws c)) := fulf_eq (fun r hr => by rw [ro.len r hr]; omega) (by omega)
  have hk2 : (ob.set k (wiC n ws (m + 1)))[k]? = some (wiC n ws (m + 1)) := by
    rw [List.getElem?_set_self (List.getElem?_eq_some_iff.mp hk).1]
  unfold mx_Wish____call__
  generalize heapD (tI c) = h at f1 f3 ⊢
  simp only [op2, op1, cmp2, chain3, tst, notB, andB, orB, andD, orD, iteM, consM, starM, smallM, tupM, tupSM, lstM, argV, argK, comp1, comp1i, comp2, comp2i, comp11, seqM, rng1, rng2, zipSM, zip2M, zip3M, enumM, repM, joinM, catM, par3LM, put2M, popM, parLV, putVM, unpS, trg1M, sortSetM, orV, lrg1M, par3M, rdM, rdLM, partM, slcM, isiM, rtM, forM1, forM2, forM3, parM, unp2, unp3, unp2A, unp3A, unp4A, zb_assoc, zb_pure, zl_some, zb_some, zx_assoc, zx_pure, zx_some, upz_pure, add_int, sub_int, lt_int, le_int, gt_int, ge_int, eq_int, ne_int, min_int, max_int, neg_int, bool_bool, not_bool, is_none, isn_none, nn_int, nn_none, nn_tup, len_tup, len_lst, tup_lst, tup_tup, it_lst, it_tup, int_bool, int_int, oint_int, addI_int, subI_int, flat_tI, flat_int, flat_none, Option.bind_some, Option.map_some, Int.zero_add, thenB, thenM, List.nil_append, List.length_map]
  refine RunX.bU (a := false) (ob1 := ob) ?_ (runx_ifF (by decide) ?_)
  · refine Run.bL f3 (Run.bL (a := true) rfl (run_ifF (by decide) (Run.bL f1 (Run.bL (a := .int (n : Nat)) (by rw [len_tI, hc]) (Run.bind (run_attr hk rfl) (Run.lift ?_))))))
    rw [ne_int]
    simp [boolD]
  · refine RunX.bU (a := ()) (ob1 := ob.set k (wiC n ws (m + 1))) ?_ (Run.rx ?_)
    · refine Run.bind (run_attr hk (v := .int (m : Nat)) rfl) (Run.bL (a := .int ((m + 1 : Nat) : Int)) rfl ?_)
      exact run_setA hk (by simp)
    · refine Run.bind (run_attr hk2 rfl) (Run.bL f1 ?_)
      exact Run.hid (by simp [okSl, okH_tT, okH_tI]) hf
/-! ### worlds with the deck of three parts, what stands beside it followed -/
def TrB {α : Type} (b : Nat) (E : List Cell) (x : Z α) (Q : α → List Cell → Prop) : Prop := ∀ (d : Nat) (n : Wd) (ψ : α → Wd → Prop), DkZ (b + d) E n → (∀ a E' n', DkZ d E' n' → Q a E' → ψ a n') → x n ψ
section
variable {α β : Type} {b c d : Nat} {E E1 : List Cell}
theorem TrB.pure {a : α} {Q : α → List Cell → Prop} (h : Q a E) : TrB b E (Pure.pure a : Z α) Q := fun d n ψ hn q => q a E n (hn.le (by omega)) h
theorem TrB.st {x : Z α} {f : α → Z β} {Q : α → List Cell → Prop} {R : β → List Cell → Prop} (h : TrB b E x Q) (hf : ∀ a E', Q a E' → TrB (d - b) E' (f a) R) (hd : b ≤ d := by decide) : TrB d E (x >>= f) R := fun e n ψ hn q =>
  h ((d - b) + e) n (fun a n' => f a n' ψ) (hn.le (by omega)) fun a E' n' hn' ha => hf a E' ha e n' ψ hn' q
theorem TrB.mono {x : Z α} {Q R : α → List Cell → Prop} (h : TrB b E x Q) (hb : b ≤ c) (hp : ∀ a E', Q a E' → R a E') : TrB c E x R := fun d n ψ hn q => h d n ψ (hn.le (by omega)) fun a E' n' hn' ha => q a E' n' hn' (hp a E' ha)
theorem TrB.le {x : Z α} {Q : α → List Cell → Prop} (h : TrB b E x Q) (hb : b ≤ c) : TrB c E x Q := h.mono hb fun _ _ z => z
theorem TrB.ofZ {x : Z α} {φ : α → Prop} (h : TrZ b x φ) : TrB b E x (fun a E' => φ a ∧ ∃ l, E' = E ++ l) := fun d n ψ hn q => h d E n ψ hn fun a E' n' hn' ha => q a _ n' hn' ⟨ha, E', rfl⟩
theorem TrB.bZ {x : Z α} {f : α → Z β} {φ : α → Prop} {R : β → List Cell → Prop} (h : TrZ b x φ) (hf : ∀ a l, φ a → TrB (d - b) (E ++ l) (f a) R) (hd : b ≤ d := by decide) : TrB d E (x >>= f) R := (TrB.ofZ h).st (fun a E' ⟨ha, l, e⟩ => e ▸ hf a l ha) hd
theorem TrB.r {x : Z α} {f : α → Z β} {a : α} {R : β → List Cell → Prop} (h : ∀ c cs rs, Run x (deck3 c cs rs ++ E) a (deck3 c cs rs ++ E1)) (hf : TrB b E1 (f a) R) : TrB b E (x >>= f) R := fun d n ψ hn q => by
  obtain ⟨c, cs, rs, e, h2⟩ := hn
  obtain ⟨k, ob⟩ := n
  dsimp only at e
  subst e
  exact h c cs rs k _ (hf d ⟨k, _⟩ ψ ⟨c, cs, rs, rfl, h2⟩ q)
theorem TrB.calm {x : ZX α} {f : α → Z β} {a : α} {R : β → List Cell → Prop} (h : ∀ c cs rs, RunX x (deck3 c cs rs ++ E) a (deck3 c cs rs ++ E1)) (hf : TrB b E1 (f a) R) : TrB b E (calmZ x >>= f) R := TrB.r (fun c cs rs => (h c cs rs).calm) hf
theorem TrB.bL {o : Option α} {a : α} {f : α → Z β} {R : β → List Cell → Prop} (e : o = some a) (hf : TrB b E (f a) R) : TrB b E ((Mo.lift o : Z α) >>= f) R := TrB.r (fun _ _ _ => Run.lift e) hf
theorem TrB.bH {g : List Sl} {o : Option α} {a : α} {f : α → Z β} {R : β → List Cell → Prop} (hs : okSl g = true) (e : o = some a) (hf : TrB b E (f a) R) : TrB b E (OverZ.up (hidP g o) >>= f) R := TrB.r (fun _ _ _ => Run.hid hs e) hf
theorem TrB.ifF {t : Prop} [Decidable t] {x y : Z α} {R : α → List Cell → Prop} (h : ¬ t) (hy : TrB b E y R) : TrB b E (if t then x else y) R := by rw [if_neg h]; exact hy
theorem TrB.ifT {t : Prop} [Decidable t] {x y : Z α} {R : α → List Cell → Prop} (h : t) (hy : TrB b E x R) : TrB b E (if t then x else y) R := by rw [if_pos h]; exact hy
theorem TrB.loop {A : Type} {f : D → A → Z (Fl A)} {I : List D → A → List Cell → Prop} {R : D → Prop} : ∀ (xs : List D) (a : A) (E : List Cell), I xs a E → (∀ d r a E, I (d :: r) a E → TrB c E (f d a) (PostA (I r) R)) → TrB (xs.length * c) E (loopM f xs a) (PostA (I []) R)
  | [], a, E, h, _ => TrB.pure h
  | d :: r, a, E, h, hf => by
    refine TrB.st (b := c) (hf d r a E h) (fun z E' hz => ?_) (by rw [List.length_cons, Nat.succ_mul]; omega)
    cases z with
    | nx a' => exact (TrB.loop r a' E' hz hf).le (by rw [List.length_cons, Nat.succ_mul]; omega)
    | rt v => exact TrB.pure hz
theorem TrB.thM {A : Type} {x : Z (Fl A)} {y : A → Z D} {I : A → List Cell → Prop} {R : D → List Cell → Prop} (h : TrB b E x (PostA I fun _ => False)) (hy : ∀ a E', I a E' → TrB (d - b) E' (y a) R) (hd : b ≤ d := by decide) : TrB d E (x >>= fun f => DD.thenM f y) R := TrB.st h (fun z E' hz => by
  cases z with
  | nx a => exact hy a E' hz
  | rt v => exact hz.elim) hd
theorem TrB.thB {A A' : Type} {x : Z (Fl A)} {y : A → Z (Fl A')} {I : A → List Cell → Prop} {R : Fl A' → List Cell → Prop} (h : TrB b E x (PostA I fun _ => False)) (hy : ∀ a E', I a E' → TrB (d - b) E' (y a) R) (hd : b ≤ d := by decide) : TrB d E (x >>= fun f => DD.thenB f y) R := TrB.st h (fun z E' hz => by
  cases z with
  | nx a => exact hy a E' hz
  | rt v => exact hz.elim) hd
end
/-! the wish among what stands beside the deck -/
structure Wi (n : Nat) (ws : List (List Int)) (q : Nat) (E : List Cell) : Prop where
  ex : ∃ m, E[q]? = some (wiC n ws m)
theorem Wi.app {n q : Nat} {ws : List (List Int)} {E l : List Cell} (h : Wi n ws q E) : Wi n ws q (E ++ l) := by
  obtain ⟨m, h⟩ := h.ex
  exact ⟨m, by rw [List.getElem?_append_left (List.getElem?_eq_some_iff.mp h).1]; exact h⟩
theorem at34 {c : Int} {cs rs : List Int} {E : List Cell} {q : Nat} : (deck3 c cs rs ++ E)[3 + q]? = E[q]? := by
  rw [List.getElem?_append_right (by show 3 ≤ _; omega)]
  congr 1
  show 3 + q - 3 = q
  omega
theorem set34 {c : Int} {cs rs : List Int} {E : List Cell} {q : Nat} {x : Cell} : (deck3 c cs rs ++ E).set (3 + q) x = deck3 c cs rs ++ E.set q x := by
  rw [List.set_append_right _ _ (by show 3 ≤ _; omega)]
  congr 2
  show 3 + q - 3 = q
  omega
theorem new34 {E : List Cell} {n : Nat} {ws : List (List Int)} (ro : Wishes n 50 ws) (n1 : 1 ≤ n) (n4 : n ≤ 4) (c : Int) (cs rs : List Int) : RunX (OverZ.up (newI "Wish") >>= fun d => MX_Wish____init__ [.val d, .val (.int (n : Nat)), .val (tT ws)] >>= fun r => Mo.lift (nonO r) >>= fun _ => (Pure.pure d : ZX D)) (deck3 c cs rs ++ E) (refD (3 + E.length)) (deck3 c cs rs ++ (E ++ [wiC n ws 0])) := by
  have := run_newW (ob := deck3 c cs rs ++ E) ro n1 n4
  rw [show (deck3 c cs rs ++ E).length = 3 + E.length from by rw [List.length_append]; rfl, List.append_assoc] at this
  exact this
theorem gvI {l : List Int} (h : ∀ x ∈ l, x.natAbs < 10 ^ 60) : Gv (l.length * 1 + 1) 1 (tI l) := by
  have := Gv.tup (n := 1) (k := 0) (ds := l.map PyData.int) fun d hd => by
    obtain ⟨x, hx, rfl⟩ := List.mem_map.mp hd
    exact Gv.int (h x hx)
  rw [List.length_map] at this
  exact this
theorem gvL {l : List Int} (h : ∀ x ∈ l, x.natAbs < 10 ^ 60) : Gv (l.length * 1 + 1) 1 (.list (l.map PyData.int)) := by
  have := Gv.lst (n := 1) (k := 0) (ds := l.map PyData.int) fun d hd => by
    obtain ⟨x, hx, rfl⟩ := List.mem_map.mp hd
    exact Gv.int (h x hx)
  rw [List.length_map] at this
  exact this
theorem tk_one (x : D) (r : List D) : sliceD (.list (x :: r)) none (some 1) = some (.list [x]) := by
  show some (PyData.list (cutD (x :: r) none (some 1))) = _
  have h : sliceD (.tuple (x :: r)) none (some 1) = some (.tuple ((x :: r).take (Int.toNat 1))) := cut_loA (by decide)
  have h : some (PyData.tuple (cutD (x :: r) none (some 1))) = some (PyData.tuple [x]) := h
  injection h with h
  injection h with h
  rw [h]
theorem bent32 {rows : List (List Int)} {n : Nat} (ro : Wishes n 50 rows) (n1 : 1 ≤ n) (n4 : n ≤ 4) : TrZ 6 (m__law_bent (refL 0) (tT rows)) (fun d => Gv 500 6 d) := by
  have o1 := ro.one
  have o4 := ro.four
  unfold m__law_bent
  simp only [op2, op1, cmp2, chain3, tst, notB, andB, orB, andD, orD, iteM, consM, starM, smallM, tupM, tupSM, lstM, argV, argK, comp1, comp1i, comp2, comp2i, comp11, seqM, rng1, rng2, zipSM, zip2M, zip3M, enumM, repM, joinM, catM, par3LM, put2M, popM, parLV, putVM, unpS, trg1M, sortSetM, orV, lrg1M, par3M, rdM, rdLM, partM, slcM, isiM, rtM, forM1, forM2, forM3, parM, unp2, unp3, unp2A, unp3A, unp4A, zb_assoc, zb_pure]
  have el : lenD (tT rows) = some (.int (rows.length : Nat)) := by rw [len_tup, List.length_map]
  refine TrZ.bindL el (TrZ.dr (by omega) (by omega) fun s s0 s1 => ?_)
  obtain ⟨i, rfl⟩ : ∃ i : Nat, s = (i : Nat) := ⟨s.toNat, by omega⟩
  have hi : i < rows.length := by omega
  have rl := row_len ro.len hi
  have rm : rows.getD i [] ∈ rows := by rw [List.getD_eq_getElem?_getD, List.getElem?_eq_getElem hi]; exact List.getElem_mem _
  have rg := ro.ge _ rm
  refine TrZ.bindL (get_row hi) ?_
  generalize rows.getD i [] = row at rl rg
  have sm : ∀ x ∈ row, x.natAbs < 10 ^ 60 := fun x hx => by have := rg x hx; omega
  have sd : ∀ x ∈ row.drop 1, x.natAbs < 10 ^ 60 := fun x hx => sm x (List.mem_of_mem_drop hx)
  have er : lenD (tI row) = some (.int (n : Nat)) := by rw [len_tup, List.length_map, rl]
  have cut1 : sliceD (tI row) (some 1) none = some (tI (row.drop 1)) := by
    rw [show tI row = .tuple (row.map PyData.int) from rfl, cut_hiA (by decide)]
    rw [show Int.toNat 1 = 1 from rfl, ← List.map_drop]
  have ad : ∀ (x : Int), addD (.tuple [.int x]) (tI (row.drop 1)) = some (tI (x :: row.drop 1)) := fun x => add_tup (by simp; omega)
  refine TrZ.bindL er (TrZ.bindL (mul_tI n4) (TrZ.bindL (show addD (tI row) (.tuple [.int 0]) = some (tI (row ++ [0])) by
    rw [show tI row = .tuple (row.map PyData.int) from rfl, add_tup (by simp; omega)]
    rw [show tI (row ++ [0]) = .tuple ((row ++ [0]).map PyData.int) from rfl, List.map_append]
    rfl) ?_))
  refine TrZ.bindL (oint_int _) (TrZ.bindL cut1 (TrZ.bindL (a := .list (row.map PyData.int)) rfl (TrZ.bindL (oint_int _) (TrZ.bindL cut1 (TrZ.bindL (ad 51) (TrZ.bindL (oint_int _) (TrZ.bindL cut1 ?_)))))))
  refine TrZ.bindL (a := .tuple (.bool true :: (row.drop 1).map PyData.int)) (add_tup (by simp; omega)) (TrZ.bindL (neg_int 1) (TrZ.bindL (oint_int _) (TrZ.bindL cut1 (TrZ.bindL (ad (-1)) ?_))))
  refine TrZ.st (b := 1) odd_ok fun o ho => ?_
  have go := gv_odd o ho
  refine TrZ.bindL (add_lst (by simp)) (TrZ.dr (by decide) (by decide) fun j j0 j1 => ?_)
  obtain ⟨it, hit, eit⟩ := get_mem (ds := [tI (List.replicate n 0), tI (row ++ [0]), tI (row.drop 1), .list (row.map PyData.int), tI (51 :: row.drop 1), .tuple (.bool true :: (row.drop 1).map PyData.int), tI (-1 :: row.drop 1), o]) j0 (by show j < 8; exact j1)
  have git : Gv 40 4 it := by
    simp only [List.mem_cons, List.not_mem_nil, or_false] at hit
    rcases hit with rfl | rfl | rfl | rfl | rfl | rfl | rfl | rfl
    · exact (gvI fun x hx => by rw [List.eq_of_mem_replicate hx]; decide).le (by simp; omega) (by decide)
    · exact (gvI fun x hx => by
        rcases List.mem_append.mp hx with h | h
        · exact sm x h
        · rw [List.mem_singleton.mp h]; decide).le (by simp; omega) (by decide)
    · exact (gvI sd).le (by simp; omega) (by decide)
    · exact (gvL sm).le (by simp; omega) (by decide)
    · exact (gvI fun x hx => by
        rcases List.mem_cons.mp hx with rfl | h
        · decide
        · exact sd x h).le (by simp; omega) (by decide)
    · refine (Gv.tup (n := 5) (k := 3) fun d hd => ?_).le (by simp; omega) (by decide)
      rcases List.mem_cons.mp hd with rfl | hd
      · exact gv_bl true
      · obtain ⟨x, hx, rfl⟩ := List.mem_map.mp hd
        exact (Gv.int (sd x hx)).le (by decide) (by decide)
    · exact (gvI fun x hx => by
        rcases List.mem_cons.mp hx with rfl | h
        · decide
        · exact sd x h).le (by simp; omega) (by decide)
    · exact go.le (by decide) (by decide)
  have grow : ∀ r ∈ rows, Gv 40 4 (tI r) := fun r hr => (gvI fun x hx => by have := ro.ge r hr x hx; omega).le (by have := ro.len r hr; omega) (by decide)
  rw [ixZ_lst]
  refine TrZ.bindL eit (TrZ.bindL (oint_int _) (TrZ.bindL (a := .tuple ((rows.take i).map tI)) (by rw [show tT rows = .tuple (rows.map tI) from rfl, cut_loA (by omega), Int.toNat_natCast, ← List.map_take]) (TrZ.bindL (add_tup (by simp; omega)) (TrZ.bindL (add_int _ _) (TrZ.bindL (oint_int _) ?_)))))
  refine TrZ.bindL (a := .tuple ((rows.drop (i + 1)).map tI)) (by rw [show tT rows = .tuple (rows.map tI) from rfl, cut_hiA (by omega), show ((i : Int) + 1).toNat = i + 1 by omega, ← List.map_drop]) (TrZ.bindL (add_tup (by simp; omega)) ?_)
  have m5 : mulD (tT rows) (.int 5) = some (.tuple (List.replicate 5 (rows.map tI)).flatten) := by
    have h : mulD (.tuple (rows.map tI)) (.int 5) = if (5 : Int) = 1 then some (.tuple (rows.map tI)) else if rows.map tI ≠ [] ∧ (2 : Int) ≤ 5 ∧ (5 : Int) ≤ 1000 ∧ (rows.map tI).length ≤ 1000 then some (.tuple (List.replicate (Int.toNat 5) (rows.map tI)).flatten) else if rows.map tI ≠ [] ∧ (5 : Int) = 0 then some (.tuple []) else none := rfl
    rw [show tT rows = .tuple (rows.map tI) from rfl, h, if_neg (by decide), if_pos ⟨fun e => by rw [List.map_eq_nil_iff.mp e] at o1; simp at o1, by decide, by decide, by simp; omega⟩]
    rfl
  refine TrZ.bindL m5 (TrZ.bindL (a := .list (rows.map tI)) rfl (TrZ.bindL (oint_int _) (TrZ.bindL (tk_one _ _) (TrZ.bindL (mulL_one (by decide) (by decide)) (TrZ.bindL (add_lst (by simp)) ?_)))))
  refine TrZ.st (b := 1) odd_ok fun o2 ho2 => ?_
  have go2 := gv_odd o2 ho2
  refine TrZ.bindL (add_lst (by simp)) (TrZ.dr (by decide) (by decide) fun q q0 q1 => ?_)
  rw [ixZ_lst]
  have gf : Gv 500 6 (.tuple ((rows.take i).map tI ++ [it] ++ (rows.drop (i + 1)).map tI)) := (Gv.tup (n := 40) (k := 4) fun d hd => by
    rcases List.mem_append.mp hd with hd | hd
    · rcases List.mem_append.mp hd with hd | hd
      · obtain ⟨r, hr, rfl⟩ := List.mem_map.mp hd
        exact grow r (List.mem_of_mem_take hr)
      · rw [List.mem_singleton.mp hd]; exact git
    · obtain ⟨r, hr, rfl⟩ := List.mem_map.mp hd
      exact grow r (List.mem_of_mem_drop hr)).le (by simp; omega) (by decide)
  have g5 : Gv 500 6 (.tuple (List.replicate 5 (rows.map tI)).flatten) := (Gv.tup (n := 6) (k := 1) fun d hd => by
    obtain ⟨l, hl, hd⟩ := List.mem_flatten.mp hd
    rw [List.eq_of_mem_replicate hl] at hd
    obtain ⟨r, hr, rfl⟩ := List.mem_map.mp hd
    exact (gvI fun x hx => by have := ro.ge r hr x hx; omega).le (by have := ro.len r hr; omega) (by decide)).le (by simp; omega) (by decide)
  have gr : Gv 500 6 (tT rows) := (Gv.tup (n := 40) (k := 4) (ds := rows.map tI) fun d hd => by
    obtain ⟨r, hr, rfl⟩ := List.mem_map.mp hd
    exact grow r hr).le (by simp; omega) (by decide)
  have gl : Gv 500 6 (.list (rows.map tI)) := (Gv.lst (n := 40) (k := 4) (ds := rows.map tI) fun d hd => by
    obtain ⟨r, hr, rfl⟩ := List.mem_map.mp hd
    exact grow r hr).le (by simp; omega) (by decide)
  have ge : Gv 500 6 (.tuple []) := (gv_odd (.tuple []) (by simp [oddL])).le (by decide) (by decide)
  generalize PyData.tuple ((rows.take i).map tI ++ [it] ++ (rows.drop (i + 1)).map tI) = F at gf ⊢
  generalize PyData.tuple (List.replicate 5 (rows.map tI)).flatten = M at g5 ⊢
  obtain ⟨d, hd, ed⟩ := get_mem (ds := [F, F, F, F, F, M, .tuple [], .list (rows.map tI), o2, tT rows]) q0 (by show q < 10; exact q1)
  refine TrZ.li ed ?_
  simp only [List.mem_cons, List.not_mem_nil, or_false] at hd
  rcases hd with rfl | rfl | rfl | rfl | rfl | rfl | rfl | rfl | rfl | rfl
  · exact gf
  · exact gf
  · exact gf
  · exact gf
  · exact gf
  · exact g5
  · exact ge
  · exact gl
  · exact go2.le (by decide) (by decide)
  · exact gr
/-- the two wishes beside the deck -/
structure W2 (n : Nat) (w1 w2 : List (List Int)) (q m1 m2 : Nat) (E : List Cell) : Prop where
  e1 : E[q]? = some (wiC n w1 m1)
  e2 : E[q + 1]? = some (wiC n w2 m2)
theorem W2.app {n q m1 m2 : Nat} {w1 w2 : List (List Int)} {E l : List Cell} (h : W2 n w1 w2 q m1 m2 E) : W2 n w1 w2 q m1 m2 (E ++ l) :=
  ⟨by rw [List.getElem?_append_left (List.getElem?_eq_some_iff.mp h.e1).1]; exact h.e1, by rw [List.getElem?_append_left (List.getElem?_eq_some_iff.mp h.e2).1]; exact h.e2⟩
/-- the wish that is drawn -/
structure Spot (n : Nat) (w1 w2 : List (List Int)) (q m1 m2 : Nat) (s : Int) (t m m1' m2' : Nat) (ws : List (List Int)) : Prop where
  row : DD.getD (.list [tT w1, tT w2]) (.int s) = some (tT ws)
  ref : DD.getD (.list [refD (3 + q), refD (3 + (q + 1))]) (.int s) = some (refD (3 + (q + t)))
  ro : Wishes n 50 ws
  cnt : DD.getD (.list [.int (m1 : Nat), .int (m2 : Nat)]) (.int s) = some (.int (m : Nat))
  put : putD [.int (m1 : Nat), .int (m2 : Nat)] (.int s) (.int ((m + 1 : Nat) : Int)) = some [.int (m1' : Nat), .int (m2' : Nat)]
  le1 : m1' ≤ m1 + 1
  le2 : m2' ≤ m2 + 1
  at_ : ∀ E, W2 n w1 w2 q m1 m2 E → E[q + t]? = some (wiC n ws m)
  set_ : ∀ E, W2 n w1 w2 q m1 m2 E → W2 n w1 w2 q m1' m2' (E.set (q + t) (wiC n ws (m + 1)))
theorem spot_ex {n q m1 m2 : Nat} {w1 w2 : List (List Int)} {s : Int} (r1 : Wishes n 50 w1) (r2 : Wishes n 50 w2) (s0 : 0 ≤ s) (s1 : s < 2) : ∃ t m m1' m2' ws, Spot n w1 w2 q m1 m2 s t m m1' m2' ws := by
  have : s = 0 ∨ s = 1 := by omega
  rcases this with rfl | rfl
  · exact ⟨0, m1, m1 + 1, m2, w1, rfl, rfl, r1, rfl, rfl, Nat.le_refl _, by omega, fun E h => h.e1, fun E h => ⟨by
      rw [Nat.add_zero, List.getElem?_set_self (List.getElem?_eq_some_iff.mp h.e1).1], by rw [List.getElem?_set_ne (by omega)]; exact h.e2⟩⟩
  · exact ⟨1, m2, m1, m2 + 1, w2, rfl, rfl, r2, rfl, rfl, by omega, Nat.le_refl _, fun E h => h.e2, fun E h => ⟨by rw [List.getElem?_set_ne (by omega)]; exact h.e1, by
      rw [List.getElem?_set_self (List.getElem?_eq_some_iff.mp h.e2).1]⟩⟩
theorem pick32 {a b : Int} {r : Int} (h0 : 0 ≤ r) (h1 : r < 2) : ∃ v : Int, DD.getD (.list [.int a, .int b]) (.int r) = some (.int v) ∧ (v = a ∨ v = b) := by
  have : r = 0 ∨ r = 1 := by omega
  rcases this with rfl | rfl
  · exact ⟨a, rfl, .inl rfl⟩
  · exact ⟨b, rfl, .inr rfl⟩
/-- counts near a row -/
theorem near_ok {row : List Int} {w : Int} {n : Nat} (hl : row.length = n) (n4 : n ≤ 4) (hg : ∀ x ∈ row, 0 ≤ x ∧ x ≤ 50) : TrZ 4 (lcA (fun d => someM (M__law_next [Sl.val (refL 0), Sl.val (PyData.int 3)] >>= fun a => Mo.lift (addD d a) >>= fun a => Mo.lift (gtD (.int w) (PyData.int 2)) >>= fun b => Mo.lift (intD b) >>= fun b => Mo.lift (subD a b) >>= fun dy => Mo.lift (max2D (PyData.int 0) dy))) (row.map PyData.int) []) (fun out => ∃ xs : List Int, out = xs.map PyData.int ∧ xs.length = n ∧ ∀ x ∈ xs, 0 ≤ x ∧ x ≤ 60) := by
  refine ((TrZ.comp (c := 1) (P := fun _ e => ∃ x : Int, e = .int x ∧ 0 ≤ x ∧ x ≤ 60) (row.map PyData.int) [] fun d hd => ?_).le (by rw [List.length_map]; omega)).mono (Nat.le_refl _) ?_
  · obtain ⟨x, hx, rfl⟩ := List.mem_map.mp hd
    have := hg x hx
    refine TrZ.dr (by decide) (by decide) fun a a0 a1 => TrZ.bindL (add_int _ _) (TrZ.bindL (gt_int _ _) (TrZ.bindL (int_bool _) (TrZ.bindL (sub_int _ _) (TrZ.li (a := .int (if x + a - (if decide (2 < w) = true then 1 else 0) > 0 then x + a - (if decide (2 < w) = true then 1 else 0) else 0)) rfl ⟨_, rfl, ?_⟩))))
    split <;> split <;> omega
  · rintro _ ⟨es, rfl, hl2, hes⟩
    obtain ⟨xs, rfl, hxs⟩ := ints_exZ (all_at (ds := row.map PyData.int) hl2 hes)
    exact ⟨xs, rfl, by rw [List.length_map, List.length_map] at hl2; omega, hxs⟩
theorem rep_oN (o : Option Nat) (h : ∀ i, o = some i → i < 1000) : ∃ z : Str, reprD (oN o) = some (.str z) := by
  cases o with
  | none => exact ⟨_, (show Rp 5 3 PyData.none from (gv_odd .none (by simp [oddL])).r).repr (by decide) (by decide)⟩
  | some i =>
    have := h i rfl
    exact ⟨_, (show Rp 1 0 (PyData.int (i : Nat)) from Rp.int (by omega)).repr (by decide) (by decide)⟩
theorem fulf_lt {ws : List (List Int)} {c : List Int} {i : Nat} (h : fulf ws c = some i) : i < ws.length := by
  unfold fulf firstN at h
  obtain ⟨p, hp, rfl⟩ := Option.map_eq_some_iff.mp h
  have := List.mem_of_find?_eq_some hp
  have := List.mem_zipIdx this
  omega
theorem asked1 {ob : List Cell} {k n m : Nat} {ws : List (List Int)} (hk : ob[k]? = some (wiC n ws m)) : Run (OverZ.up (thisZ "Wish" (refD k)) >>= fun _ => M_Wish__asked [.val (refD k)]) ob (.int (m : Nat)) ob := by
  refine Run.bind (run_this hk) ?_
  show Run (m_Wish__asked (refD k)) _ _ _
  unfold m_Wish__asked
  exact Run.bind Run.pure (run_attr hk rfl)
theorem asked2 {E : List Cell} {n q m1 m2 : Nat} {w1 w2 : List (List Int)} (W : W2 n w1 w2 q m1 m2 E) (c : Int) (cs rs : List Int) : Run (lcA (fun d => someM (OverZ.up (thisZ "Wish" d) >>= fun _ => M_Wish__asked [Sl.val d])) [refD (3 + q), refD (3 + (q + 1))] []) (deck3 c cs rs ++ E) [.int (m1 : Nat), .int (m2 : Nat)] (deck3 c cs rs ++ E) := by
  have a1 := asked1 (ob := deck3 c cs rs ++ E) (k := 3 + q) (by rw [at34]; exact W.e1)
  have a2 := asked1 (ob := deck3 c cs rs ++ E) (k := 3 + (q + 1)) (by rw [at34]; exact W.e2)
  exact Run.bind (Run.bind a1 Run.pure) (Run.bind (Run.bind a2 Run.pure) Run.pure)
theorem ne_two (a b : Nat) (ha : a < 1000) (hb : b < 1000) : (neD (.list [.int (a : Nat), .int (b : Nat)]) (.list [.int (a : Nat), .int (b : Nat)])).bind boolD = some false := by
  have := ne_intsL [(a : Int), (b : Int)] fun x hx => by
    simp only [List.mem_cons, List.not_mem_nil, or_false] at hx
    rcases hx with rfl | rfl <;> omega
  rw [show PyData.list [.int (a : Nat), .int (b : Nat)] = .list ([(a : Int), (b : Int)].map PyData.int) from rfl, this]
  rfl
theorem law_true : ∀ cs rs : List Int, cs.length = rs.length → 0 < cs.length → cs.length ≤ 64 → (∀ r ∈ rs, 0 ≤ r) → m_law ⟨0, deck3 0 cs rs⟩ (fun d _ => d = .bool true) := by
  intro cs rs hl h0 h64 hr
  have key : TrB 4000 [] m_law (fun d _ => d = .bool true) := by
    unfold m_law
    simp only [op2, op1, cmp2, chain3, tst, notB, andB, orB, andD, orD, iteM, consM, starM, smallM, tupM, tupSM, lstM, argV, argK, comp1, comp1i, comp2, comp2i, comp11, seqM, rng1, rng2, zipSM, zip2M, zip3M, enumM, repM, joinM, catM, par3LM, put2M, popM, parLV, putVM, unpS, trg1M, sortSetM, orV, lrg1M, par3M, rdM, rdLM, partM, slcM, isiM, rtM, forM1, forM2, forM3, parM, unp2, unp3, unp2A, unp3A, unp4A, zb_assoc, zb_pure, zl_some, zb_some, zx_assoc, zx_pure, zx_some, upz_pure, add_int, sub_int, lt_int, le_int, gt_int, ge_int, eq_int, ne_int, min_int, max_int, neg_int, bool_bool, not_bool, is_none, isn_none, nn_int, nn_none, nn_tup, len_tup, len_lst, tup_lst, tup_tup, it_lst, it_tup, int_bool, int_int, oint_int, addI_int, subI_int, flat_tI, flat_int, flat_none, Option.bind_some, Option.map_some, Int.zero_add, thenB, thenM, List.nil_append, List.length_map]
    refine TrB.bL (a := rangeL 0 7) rfl ?_
    refine TrB.thM (b := 7 * 500) (I := fun (_ : Unit) _ => True) ((TrB.loop (c := 500) (I := fun r a E => True) (R := fun _ => False) (rangeL 0 7) () [] trivial ?_).mono (by decide) ?_) (fun _ E _ => ?_) (by decide)
    rotate_left
    · rintro (a | d) E h
      · trivial
      · exact h
    · have ro : Wishes 1 50 [[50]] := ⟨by decide, by decide, by simp, by simp, by simp⟩
      refine TrB.calm (fun c cs rs => new34 (E := E) ro (by decide) (by decide) c cs rs) ?_
      have e0 : (E ++ [wiC 1 [[50]] 0])[E.length]? = some (wiC 1 [[50]] 0) := by simp
      generalize E ++ [wiC 1 [[50]] 0] = E1 at e0 ⊢
      generalize E.length = q at e0 ⊢
      have call : ∀ (x : Int) (m : Nat) (E : List Cell) (c : Int) (cs rs : List Int), 0 ≤ x → x ≤ 1000 → E[q]? = some (wiC 1 [[50]] m) → RunX (OverZ.up (selfZ "Wish" "__call__" (refD (3 + q))) >>= fun _ => hidX [Sl.val (.tuple [.int x])] (MX_Heap____init__ [Sl.val (.tuple [.int x])]) >>= fun fs => OverZ.up (selfZ "Wish" "__call__" (refD (3 + q))) >>= fun _ => MX_Wish____call__ [.val (refD (3 + q)), .val (insD "Heap" fs)]) (deck3 c cs rs ++ E) (oN (fulf [[50]] [x])) (deck3 c cs rs ++ E.set q (wiC 1 [[50]] (m + 1))) := fun x m E c cs rs x0 x1 he => by
        have hk : (deck3 c cs rs ++ E)[3 + q]? = some (wiC 1 [[50]] m) := by rw [at34]; exact he
        have hi : MX_Heap____init__ [Sl.val (.tuple [.int x])] = some (.ok [(("things" : Str), tI [x])]) := by
          have h1 : isC (tI [x]) = true := isC_tI (by simp) (by simp) (by simp; omega)
          have h2 := init_eq (tI [x])
          rw [if_pos h1] at h2
          exact h2
        refine RunX.bO (run_self hk (by kernel_rfl)) (RunX.bind (RunX.hid (by simp [okSl, okH, okHs]) hi) (RunX.bO (run_self hk (by kernel_rfl)) ?_))
        exact (run_wish (c := [x]) hk ro rfl (by decide)).to set34
      refine TrB.calm (fun c cs rs => call 49 0 E1 c cs rs (by decide) (by decide) e0) ?_
      have e1 : (E1.set q (wiC 1 [[50]] (0 + 1)))[q]? = some (wiC 1 [[50]] (0 + 1)) := by rw [List.getElem?_set_self (List.getElem?_eq_some_iff.mp e0).1]
      generalize E1.set q (wiC 1 [[50]] (0 + 1)) = E2 at e1 ⊢
      refine TrB.calm (fun c cs rs => call 50 (0 + 1) E2 c cs rs (by decide) (by decide) e1) ?_
      have e2 : (E2.set q (wiC 1 [[50]] (0 + 1 + 1)))[q]? = some (wiC 1 [[50]] (0 + 1 + 1)) := by rw [List.getElem?_set_self (List.getElem?_eq_some_iff.mp e1).1]
      generalize E2.set q (wiC 1 [[50]] (0 + 1 + 1)) = E3 at e2 ⊢
      refine TrB.r (E1 := E3) (fun c cs rs => run_this (by rw [at34]; exact e2)) (TrB.r (E1 := E3) (a := .int ((0 + 1 + 1 : Nat) : Int)) (fun c cs rs => ?_) ?_)
      · show Run (m_Wish__asked (refD (3 + q))) _ _ _
        unfold m_Wish__asked
        exact Run.bind Run.pure (run_attr (by rw [at34]; exact e2) rfl)
      · exact (TrB.ofZ (TrZ.li (φ := fun d => d = .bool true) (by kernel_rfl) rfl)).mono (Nat.zero_le _) fun a E' h => h.1
    rintro d r _ E -
    refine TrB.bZ (b := 1) (TrZ.draw (by decide) (by decide)) (fun d1 l1 ⟨k0, ek, k0a, k0b⟩ => ?_)
    subst ek
    obtain ⟨n, en⟩ : ∃ n : Nat, 1 + k0 = (n : Nat) := ⟨(1 + k0).toNat, by omega⟩
    refine TrB.bL (a := .int (n : Nat)) (by rw [add_int, en]) ?_
    have n1 : 1 ≤ n := by omega
    have n4 : n ≤ 4 := by omega
    refine TrB.bL (a := rangeL 0 2) rfl (TrB.bL (small_ok (by rw [rangeL_length]; decide)) ?_)
    refine TrB.bZ (b := 2 * 42) ((TrZ.comp (c := 42) (P := fun _ d => ∃ rows, d = tT rows ∧ Wishes n 50 rows) (rangeL 0 2) [] fun d _ => ?_).le (by rw [rangeL_length]; decide)) (fun d2 l2 ⟨es, eo, esl, hes⟩ => ?_)
    · refine TrZ.dr (by decide) (by decide) fun a a0 a1 => ?_
      obtain ⟨most, em, hm⟩ := pick32 (a := 3) (b := 50) a0 a1
      exact TrZ.bindL em (lcolls32 n1 n4 (by omega) (by omega))
    obtain rfl : d2 = es := eo
    obtain ⟨w1, w2, rfl, r1, r2⟩ : ∃ w1 w2, d2 = [tT w1, tT w2] ∧ Wishes n 50 w1 ∧ Wishes n 50 w2 := by
      rw [rangeL_length] at esl
      match d2, esl with
      | [x, y], _ =>
        obtain ⟨w1, rfl, r1⟩ := hes 0 (.int 0) x rfl rfl
        obtain ⟨w2, rfl, r2⟩ := hes 1 (.int (0 + (1 : Nat))) y rfl rfl
        exact ⟨w1, w2, rfl, r1, r2⟩
    generalize E ++ l1 ++ l2 = E0
    refine TrB.calm (fun c cs rs => RunX.bU (Run.lift (a := tT w1) rfl) (new34 r1 n1 n4 c cs rs)) ?_
    refine TrB.calm (fun c cs rs => RunX.bU (Run.lift (a := tT w2) rfl) (new34 r2 n1 n4 c cs rs)) ?_
    have W0 : W2 n w1 w2 E0.length 0 0 ((E0 ++ [wiC n w1 0]) ++ [wiC n w2 0]) := ⟨by
      rw [List.append_assoc, List.getElem?_append_right (Nat.le_refl _), Nat.sub_self]; rfl, by
      rw [List.append_assoc, List.getElem?_append_right (by omega), show E0.length + 1 - E0.length = 1 by omega]; rfl⟩
    rw [show (E0 ++ [wiC n w1 0]).length = E0.length + 1 from by rw [List.length_append]; rfl]
    generalize E0.length = q at W0 ⊢
    generalize (E0 ++ [wiC n w1 0]) ++ [wiC n w2 0] = E1 at W0 ⊢
    refine TrB.bL (a := rangeL 0 12) rfl ?_
    refine TrB.thB (b := 12 * 20) (I := fun (_ : List D) _ => True) ((TrB.loop (c := 20) (I := fun r (a : List D) E => ∃ m1 m2 : Nat, a = [.int (m1 : Nat), .int (m2 : Nat)] ∧ m1 + r.length ≤ 12 ∧ m2 + r.length ≤ 12 ∧ W2 n w1 w2 q m1 m2 E) (R := fun _ => False) (rangeL 0 12) _ E1 ⟨0, 0, rfl, by rw [rangeL_length]; decide, by rw [rangeL_length]; decide, W0⟩ ?_).mono (by decide) ?_) (fun _ E2 _ => ?_) (by decide)
    · rintro d r a E ⟨m1, m2, rfl, h1, h2, W⟩
      rw [List.length_cons] at h1 h2
      refine TrB.bZ (b := 1) (TrZ.draw (by decide) (by decide)) (fun d1 l1 ⟨s, es, s0, s1⟩ => ?_)
      subst es
      refine TrB.bZ (b := 1) (TrZ.draw (by decide) (by decide)) (fun d1 l2 ⟨w, ew, w0, w1'⟩ => ?_)
      subst ew
      have W := (W.app (l := l1)).app (l := l2)
      generalize E ++ l1 ++ l2 = E3 at W ⊢
      obtain ⟨t, m, m1', m2', ws, sp⟩ := spot_ex (q := q) (m1 := m1) (m2 := m2) r1 r2 s0 s1
      have wl : lenD (tT ws) = some (.int (ws.length : Nat)) := by rw [len_tup, List.length_map]
      have o1 := sp.ro.one
      have o4 := sp.ro.four
      refine TrB.bL (a := (.int s, .int w)) rfl (TrB.bL sp.row (TrB.bL sp.row (TrB.bL wl ?_)))
      refine TrB.bZ (b := 1) (TrZ.draw (by omega) (by omega)) (fun d1 l1 ⟨u, eu, u0, u1⟩ => ?_)
      subst eu
      obtain ⟨i, rfl⟩ : ∃ i : Nat, u = (i : Nat) := ⟨u.toNat, by omega⟩
      have hi : i < ws.length := by omega
      have rl := row_len sp.ro.len hi
      have rm : ws.getD i [] ∈ ws := by rw [List.getD_eq_getElem?_getD, List.getElem?_eq_getElem hi]; exact List.getElem_mem _
      have rg := sp.ro.ge _ rm
      refine TrB.bL (get_row hi) ?_
      generalize ws.getD i [] = row at rl rg
      refine TrB.bL (a := row.map PyData.int) rfl (TrB.bL (small_ok (by rw [List.length_map]; omega)) ?_)
      refine TrB.bZ (b := 4) (near_ok rl n4 rg) (fun d2 l2 ⟨c, ec, cl, cg⟩ => ?_)
      subst ec
      have W := (W.app (l := l1)).app (l := l2)
      generalize E3 ++ l1 ++ l2 = E4 at W ⊢
      have cr : Rw c := ⟨by omega, by omega, fun x hx => by have := cg x hx; omega⟩
      have c20 : ∀ x ∈ c, x.natAbs < 10 ^ 20 := fun x hx => by have := cg x hx; omega
      have okc : okHs (c.map PyData.int) = true := okH_tI c
      refine TrB.bH (a := heapD (tI c)) (by show okSl _ = true; simp [okSl, okH, okc]) (heap_eq cr) ?_
      have okw : okHs [tT w1, tT w2] = true := by simp [okHs, okH_tT]
      refine TrB.bH (a := oN (fulf ws c)) (by show okSl _ = true; simp [okSl, okH, okc, okw]) ?_ ?_
      · have := lfulf_eq o4 sp.ro.len cl n4
        show ((DD.getD (.list [tT w1, tT w2]) (.int s) >>= fun d => (some [.val d, .val (tI c)])) >>= M__law_fulfilled) = _
        rw [sp.row]
        exact this
      refine TrB.bL (a := decide (w = 0)) (by rw [eq_int]; show some (w == 0) = _; congr 1) ?_
      refine TrB.st (b := 2) (Q := fun (f : Fl (List D × D × D)) E => ∃ (v due : D) (b : Bool), f = .nx (if b = true then [.int (m1' : Nat), .int (m2' : Nat)] else [.int (m1 : Nat), .int (m2 : Nat)], v, due) ∧ W2 n w1 w2 q m1 m2 E ∧ ((b = true ∧ v = heapD (tI c) ∧ due = oN (fulf ws c)) ∨ (b = false ∧ BadV n v ∧ due = .list [.str "heap", .bool true]))) ?_ ?_
      · by_cases hw : w = 0
        · refine TrB.ifT (decide_eq_true hw) ?_
          obtain ⟨c', cr', cn', ec'⟩ : ∃ c' : List Int, Rw c' ∧ c'.length ≠ n ∧ ((cmp2 ltD (pure (PyData.int (n : Nat))) (pure (.int 4)) : Option Bool) >>= fun k => if k = true then (calmO ((argV (upX (op2 addD (pure (tI c)) (tupM (consM (pure (.int 1)) (pure []))))) (pure [])) >>= fun as => MX_Heap____init__ as >>= fun fs => pure (insD "Heap" fs))) else (calmO ((argV (upX (slcM (pure (tI c)) (partM (pure (.int 1))) (pure none))) (pure [])) >>= fun as => MX_Heap____init__ as >>= fun fs => pure (insD "Heap" fs)))) = some (heapD (tI c')) := by
            by_cases h4 : n < 4
            · refine ⟨c ++ [1], ⟨by simp, by simp; omega, fun x hx => ?_⟩, by simp; omega, bindE (a := decide ((n : Int) < 4)) rfl ?_⟩
              · rcases List.mem_append.mp hx with h | h
                · have := cg x h; omega
                · rw [List.mem_singleton.mp h]; decide
              · rw [if_pos (decide_eq_true (by omega))]
                have ea : (op2 addD (pure (tI c)) (tupM (consM (pure (.int 1)) (pure []))) : Option D) = some (tI (c ++ [1])) := by
                  show addD (.tuple (c.map PyData.int)) (.tuple [.int 1]) = _
                  rw [add_tup (by simp; omega), show tI (c ++ [1]) = .tuple ((c ++ [1]).map PyData.int) from rfl, List.map_append]
                  rfl
                rw [ea]
                exact heap_eq ⟨by simp, by simp; omega, fun x hx => by
                  rcases List.mem_append.mp hx with h | h
                  · have := cg x h; omega
                  · rw [List.mem_singleton.mp h]; decide⟩
            · refine ⟨c.drop 1, ⟨by rw [List.length_drop]; omega, by rw [List.length_drop]; omega, fun x hx => by have := cg x (List.mem_of_mem_drop hx); omega⟩, by rw [List.length_drop]; omega, bindE (a := decide ((n : Int) < 4)) rfl ?_⟩
              rw [if_neg (by simp; omega)]
              have ea : (slcM (pure (tI c)) (partM (pure (.int 1))) (pure none) : Option D) = some (tI (c.drop 1)) := by
                show sliceD (.tuple (c.map PyData.int)) (some 1) none = _
                rw [cut_hiA (by decide), show Int.toNat 1 = 1 from rfl, ← List.map_drop]
              rw [ea]
              exact heap_eq ⟨by rw [List.length_drop]; omega, by rw [List.length_drop]; omega, fun x hx => by have := cg x (List.mem_of_mem_drop hx); omega⟩
          refine TrB.bH (a := heapD (tI c')) (by show okSl _ = true; simp [okSl, okH, okc]) ec' ?_
          refine TrB.bZ (b := 1) odd_ok (fun o l1 ho => ?_)
          refine TrB.bZ (b := 1) (TrZ.draw (by decide) (by decide)) (fun d1 l2 ⟨u, eu, u0, u1⟩ => ?_)
          subst eu
          rw [ixZ_lst]
          obtain ⟨v, hv, ev⟩ := get_mem (ds := [tI c, .none, heapD (tI c'), o]) u0 (by show u < 4; exact u1)
          refine TrB.bL ev (TrB.pure ⟨v, _, false, rfl, (W.app (l := l1)).app (l := l2), .inr ⟨rfl, ?_, rfl⟩⟩)
          simp only [List.mem_cons, List.not_mem_nil, or_false] at hv
          rcases hv with rfl | rfl | rfl | rfl
          · exact bad_tI c20
          · exact bad_none
          · exact bad_hp cr' cn'
          · exact bad_odd _ ho
        · refine TrB.ifF (by simpa using hw) ?_
          refine TrB.bH (a := .int ((m + 1 : Nat) : Int)) (by show okSl _ = true; simp [okSl, okH, okHs]) ?_ (TrB.bL sp.put (TrB.pure ⟨_, _, true, rfl, W, .inl ⟨rfl, rfl, rfl⟩⟩))
          show ((DD.getD (.list [.int (m1 : Nat), .int (m2 : Nat)]) (.int s) >>= fun dx => addD dx (.int 1)) >>= fun d => flatO d) = _
          rw [sp.cnt]
          rfl
      · rintro _ E5 ⟨v, due, b, rfl, W, hb⟩
        rcases hb with ⟨rfl, rfl, rfl⟩ | ⟨rfl, hv, rfl⟩
        · refine TrB.bL sp.ref (TrB.r (E1 := E5.set (q + t) (wiC n ws (m + 1))) (fun c0 cs rs => (called_ok (by rw [at34]; exact sp.at_ _ W) sp.ro cl n4).to set34) ?_)
          have W := sp.set_ _ W
          generalize E5.set (q + t) (wiC n ws (m + 1)) = E6 at W ⊢
          obtain ⟨z, hz⟩ := rep_oN (fulf ws c) fun i h => by have := fulf_lt h; omega
          refine TrB.bL hz (TrB.bL hz (TrB.bL (a := false) (by rw [ne_str]; simp [boolD]) ?_))
          refine TrB.st (b := 0) (Q := fun k E => k = false ∧ W2 n w1 w2 q m1' m2' E) (TrB.ifF (by decide) (TrB.bL (small_ok (by simp)) (TrB.r (fun c0 cs rs => asked2 W c0 cs rs) ((TrB.ofZ (TrZ.li (φ := fun k => k = false) (ne_two m1' m2' (by have := sp.le1; omega) (by have := sp.le2; omega)) rfl)).mono (Nat.le_refl _) fun k E' ⟨hk, l, e⟩ => ⟨hk, e ▸ W.app⟩)))) ?_
          rintro _ E7 ⟨rfl, W⟩
          exact TrB.ifF (by decide) (TrB.pure ⟨m1', m2', rfl, by have := sp.le1; omega, by have := sp.le2; omega, W⟩)
        · refine TrB.bL sp.ref (TrB.r (E1 := E5) (fun c0 cs rs => called_bad (by rw [at34]; exact sp.at_ _ W) hv) ?_)
          obtain ⟨z, hz⟩ : ∃ z : Str, reprD (.list [.str "heap", .bool true]) = some (.str z) := ⟨_, (show Rp 100 10 _ from ⟨by decide +kernel, by decide +kernel, by decide +kernel⟩).repr (by decide) (by decide)⟩
          refine TrB.bL hz (TrB.bL hz (TrB.bL (a := false) (by rw [ne_str]; simp [boolD]) ?_))
          refine TrB.st (b := 0) (Q := fun k E => k = false ∧ W2 n w1 w2 q m1 m2 E) (TrB.ifF (by decide) (TrB.bL (small_ok (by simp)) (TrB.r (fun c0 cs rs => asked2 W c0 cs rs) ((TrB.ofZ (TrZ.li (φ := fun k => k = false) (ne_two m1 m2 (by have := sp.le1; omega) (by have := sp.le2; omega)) rfl)).mono (Nat.le_refl _) fun k E' ⟨hk, l, e⟩ => ⟨hk, e ▸ W.app⟩)))) ?_
          rintro _ E7 ⟨rfl, W⟩
          exact TrB.ifF (by decide) (TrB.pure ⟨m1, m2, rfl, by have := sp.le1; omega, by have := sp.le2; omega, W⟩)
    · rintro (a | d) E h
      · trivial
      · exact h
    refine TrB.bL (a := rangeL 0 5) rfl ?_
    refine TrB.thB (b := 5 * 10) (I := fun (_ : Unit) _ => True) ((TrB.loop (c := 10) (I := fun r a E => True) (R := fun _ => False) (rangeL 0 5) () E2 trivial ?_).mono (by decide) ?_) (fun _ E _ => TrB.pure trivial) (by decide)
    · rintro d r _ E -
      refine TrB.bL (a := tT w1) rfl (TrB.bZ (b := 6) (bent32 r1 n1 n4) (fun v l1 gv => ?_))
      refine TrB.bL (mod_int (by decide)) (TrB.bL (add_int _ _) (TrB.bZ (b := 1) odd_ok (fun o l2 ho => ?_)))
      refine TrB.bZ (b := 1) (TrZ.draw (by decide) (by decide)) (fun d1 l3 ⟨u, eu, u0, u1⟩ => ?_)
      subst eu
      have go := gv_odd o ho
      obtain ⟨k, hk, ek⟩ := get_mem (ds := [.int (n : Nat), .int (n : Nat), .int ((n : Int) % 4 + 1), o, .int 5]) u0 (by show u < 5; exact u1)
      have gk : Gv 5 3 k := by
        simp only [List.mem_cons, List.not_mem_nil, or_false] at hk
        rcases hk with rfl | rfl | rfl | rfl | rfl
        · exact (Gv.int (by omega)).le (by decide) (by decide)
        · exact (Gv.int (by omega)).le (by decide) (by decide)
        · exact (Gv.int (by omega)).le (by decide) (by decide)
        · exact go
        · exact (Gv.int (by decide)).le (by decide) (by decide)
      refine TrB.bL ek ?_
      obtain ⟨zv, hzv⟩ : ∃ z : Str, reprD v = some (.str z) := ⟨_, gv.r.repr (by decide) (by decide)⟩
      refine TrB.bL hzv ?_
      obtain ⟨kk, hkk⟩ : ∃ kk : Nat, ∀ i : Nat, k = .int (i : Nat) → i = kk := by
        cases k with
        | int i => exact ⟨i.toNat, fun j e => by cases e; omega⟩
        | _ => exact ⟨0, fun j e => by cases e⟩
      obtain ⟨cell, hmade⟩ := made_eq hkk gk.h gv.h
      have hdue := due_eq (v := v) hkk
      refine TrB.r (E1 := E ++ l1 ++ l2 ++ l3 ++ [cell]) (fun c0 cs rs => (hmade _).to (by rw [List.append_assoc])) ?_
      have gd : Gv 3000 10 (dueK k kk v) := by
        unfold dueK
        split
        · split
          · exact (Gv.int (by decide)).le (by decide) (by decide)
          · refine (Gv.lst (n := 500) (k := 6) fun d hd => ?_).le (by simp) (by decide)
            simp only [List.mem_cons, List.not_mem_nil, or_false] at hd
            rcases hd with rfl | rfl
            · exact gv_of (by decide +kernel) (by decide +kernel) (by decide +kernel) rfl
            · exact gv
        · refine (Gv.lst (n := 500) (k := 6) fun d hd => ?_).le (by simp) (by decide)
          simp only [List.mem_cons, List.not_mem_nil, or_false] at hd
          rcases hd with rfl | rfl
          · exact gv_of (by decide +kernel) (by decide +kernel) (by decide +kernel) rfl
          · exact gk.le (by decide) (by decide)
      obtain ⟨zd, hzd⟩ : ∃ z : Str, reprD (dueK k kk v) = some (.str z) := ⟨_, gd.r.repr (by decide) (by decide)⟩
      refine TrB.bL hzd (TrB.bH (a := .str zd) (by show okSl _ = true; simp [okSl, gk.h, gv.h]) ?_ ?_)
      · show (M__law_due [.val k, .val v] >>= fun d => reprD d) = _
        rw [hdue]
        exact hzd
      refine TrB.bL (a := false) (by rw [ne_str]; simp [boolD]) ?_
      refine TrB.st (b := 0) (Q := fun k E => k = false) (TrB.ifF (by decide) (TrB.bL hzv ((TrB.ofZ (TrZ.li (φ := fun k => k = false) (by rw [ne_str]; simp [boolD]) rfl)).mono (Nat.le_refl _) fun k E' ⟨hk, _⟩ => hk))) ?_
      rintro _ E7 rfl
      exact TrB.ifF (by decide) (TrB.pure trivial)
    · rintro (a | d) E h
      · trivial
      · exact h
  refine key 0 ⟨0, deck3 0 cs rs⟩ _ ⟨0, cs, rs, by rw [List.append_nil], hl, h0, h64, hr, Int.le_refl _, by decide⟩ fun a E' n' _ q => q
end DD
namespace DD
open PySem PySem.Spec PyProof.Rows L2
theorem walk {l : PySem.W.OpenLaw} {q : Program} {loose : List Str} {XP : (Str → Option Value) → Heap → Prop} {YP : World → Heap → Prop} {d : DefRec} {K : Params → PySem.W.Frag} (hn : l.most = some 63) (hdf : d.params.defaults = []) (himp : importsNone q = true) (hY : ∀ (w : World) (h : Heap), YP w h → (K w.params).In h)
    (F : ∀ (w : World) (mg : Str → Option Value) (fa : Addr) (h : Heap), (K w.params).In h → h.Ns mainGlobals mg → mg d.name = some (.ref fa) → ∃ fd : FuncData, (∀ (s : Shared) (u : Value), BindsTo s fd ⟨[u], []⟩ [("_law_script", u)]) ∧ ∀ base : Heap, (K w.params).In base → base.Ns mainGlobals mg → SysAt base → FnG l.prog w (K w.params) mg base 8 fa fd ["_law_script"] (spLaw (K w.params))) :
    PySem.W.WalkO q loose XP YP l.row.toRowW d [] (fun f vs => PySem.call f vs) :=
  walk_g (n := 63) (k := 8) (x := "_law_script") (sp := fun w => spLaw (K w.params)) hn (by decide) hdf ⟨rfl, by decide, by decide⟩ himp hY F fun _ _ a ns _ hS => ⟨a, ns, rfl, hS, fun _ => rfl⟩
end DD
open PySem PySem.W PyProof.Rows
set_option maxRecDepth 100000 in
set_option maxHeartbeats 0 in
theorem PySem.Challenge.cw_darkdrawers_k32_wishes_called_holds : PySem.Challenge.rw_darkdrawers_k32_wishes_called.Holds := by
  w_on; o_law; k_head; (case hw => w_witness2)
  k_fill
  refine DD.walk (l := PySem.Challenge.rw_darkdrawers_k32_wishes_called) rfl rfl (by decide +kernel) (fun w h Y => PySem.W.kIn_of Y) ?F
  case F =>
    intro w mg fa h KX G hmg
    refine' DD.all_mk KX G hmg DD.law_true ?a0 ?l0 ?c0 ?k0 ?a1 ?l1 ?c1 ?k1 ?a2 ?l2 ?c2 ?k2 ?a5 ?l5 ?c5 ?k5 ?a6 ?l6 ?c6 ?k6 ?a7 ?l7 ?c7 ?k7 ?a8 ?l8 ?c8 ?k8 ?a9 ?l9 ?c9 ?k9 ?a10 ?l10 ?c10 ?k10 ?a11 ?l11 ?c11 ?k11 ?a12 ?l12 ?c12 ?k12 ?a13 ?l13 ?c13 ?k13 ?a14 ?l14 ?c14 ?k14 ?a15 ?l15 ?c15 ?k15 ?a18 ?l18 ?c18 ?k18 ?a19 ?l19 ?c19 ?k19 ?a21 ?l21 ?c21 ?k21 ?a22 ?l22 ?c22 ?k22 ?a23 ?l23 ?c23 ?k23 ?z0 ?z1 ?z2 ?z3 ?z4 ?z5 ?z6 ?z7 ?z8 ?z9 ?z10 ?z11 ?z12 ?z13 ?y0 ?y1 ?y2 ?y3 ?aC_BadCounts ?aC_BadHeap ?aC_BadKinds ?aC_BadWish ?aC_DrawerError ?aC_Heap ?aC_OtherKinds ?aC_Wish ?iC_BadCounts ?iT_BadCounts ?iL_BadCounts ?iD_BadCounts ?iK_BadCounts ?iO_BadCounts ?iA_BadCounts ?iB_BadCounts ?iY_BadCounts ?iE_BadCounts ?iN_BadCounts ?iC_BadHeap ?iT_BadHeap ?iL_BadHeap ?iD_BadHeap ?iK_BadHeap ?iO_BadHeap ?iA_BadHeap ?iB_BadHeap ?iY_BadHeap ?iE_BadHeap ?iN_BadHeap ?iC_BadKinds ?iT_BadKinds ?iL_BadKinds ?iD_BadKinds ?iK_BadKinds ?iO_BadKinds ?iA_BadKinds ?iB_BadKinds ?iY_BadKinds ?iE_BadKinds ?iN_BadKinds ?iC_BadWish ?iT_BadWish ?iL_BadWish ?iD_BadWish ?iK_BadWish ?iO_BadWish ?iA_BadWish ?iB_BadWish ?iY_BadWish ?iE_BadWish ?iN_BadWish ?e0_BadHeap ?eg_BadHeap ?et_BadHeap ?es_BadHeap ?ed_BadHeap ?ea_BadHeap ?en_BadHeap ?ek_BadHeap ?em_BadHeap ?e0_BadKinds ?eg_BadKinds ?et_BadKinds ?es_BadKinds ?ed_BadKinds ?ea_BadKinds ?en_BadKinds ?ek_BadKinds ?em_BadKinds ?e0_BadWish ?eg_BadWish ?et_BadWish ?es_BadWish ?ed_BadWish ?ea_BadWish ?en_BadWish ?ek_BadWish ?em_BadWish ?kit_BadHeap_BadCounts_OtherKinds_LookupError ?kit_BadHeap_BadHeap ?kit_BadHeap_BadKinds ?kit_BadHeap_BadWish ?kit_BadKinds_BadCounts_OtherKinds_LookupError ?kit_BadKinds_BadHeap ?kit_BadKinds_BadKinds ?kit_BadKinds_BadWish ?kit_BadWish_BadCounts_OtherKinds_LookupError ?kit_BadWish_BadHeap ?kit_BadWish_BadKinds ?kit_BadWish_BadWish ?no_BadHeap_value ?no_BadKinds_value ?no_BadWish_value ?xm_BadHeap_DrawerError ?xm_BadKinds_DrawerError ?xm_BadWish_DrawerError ?pg_Heap ?hd_Heap ?po_Heap ?sa_Heap ?oa_Heap ?on_Heap ?ot_Heap ?om_Heap ?ok_Heap ?mk_Heap ?kc_Heap ?pg_Wish ?hd_Wish ?po_Wish ?sa_Wish ?oa_Wish ?on_Wish ?ot_Wish ?om_Wish ?ok_Wish ?mk_Wish ?kc_Wish ?ik1_Heap ?ik2_Heap ?ik3_Heap ?ik4_Heap ?m3 ?t3 ?l3 ?c3 ?k3 ?m4 ?g4 ?t4 ?q4 ?l4 ?c4 ?k4 ?m16 ?t16 ?l16 ?c16 ?k16 ?m17 ?t17 ?l17 ?c17 ?k17 ?m20 ?t20 ?l20 ?c20 ?k20 ?no_Heap_things ?no_Wish_many ?no_Wish_wanted ?no_Wish_width
    (case a0 => k_is); (case l0 => k_is); (case c0 => k_is); (case k0 => k_is)
    (case a1 => k_is); (case l1 => k_is); (case c1 => k_is); (case k1 => k_is)
    (case a2 => k_is); (case l2 => k_is); (case c2 => k_is); (case k2 => k_is)
    (case a5 => k_is); (case l5 => k_is); (case c5 => k_is); (case k5 => k_is)
    (case a6 => k_is); (case l6 => k_is); (case c6 => k_is); (case k6 => k_is)
    (case a7 => k_is); (case l7 => k_is); (case c7 => k_is); (case k7 => k_is)
    (case a8 => k_is); (case l8 => k_is); (case c8 => k_is); (case k8 => k_is)
    (case a9 => k_is); (case l9 => k_is); (case c9 => k_is); (case k9 => k_is)
    (case a10 => k_is); (case l10 => k_is); (case c10 => k_is); (case k10 => k_is)
    (case a11 => k_is); (case l11 => k_is); (case c11 => k_is); (case k11 => k_is)
    (case a12 => k_is); (case l12 => k_is); (case c12 => k_is); (case k12 => k_is)
    (case a13 => k_is); (case l13 => k_is); (case c13 => k_is); (case k13 => k_is)
    (case a14 => k_is); (case l14 => k_is); (case c14 => k_is); (case k14 => k_is)
    (case a15 => k_is); (case l15 => k_is); (case c15 => k_is); (case k15 => k_is)
    (case a18 => k_is); (case l18 => k_is); (case c18 => k_is); (case k18 => k_is)
    (case a19 => k_is); (case l19 => k_is); (case c19 => k_is); (case k19 => k_is)
    (case a21 => k_is); (case l21 => k_is); (case c21 => k_is); (case k21 => k_is)
    (case a22 => k_is); (case l22 => k_is); (case c22 => k_is); (case k22 => k_is)
    (case a23 => k_is); (case l23 => k_is); (case c23 => k_is); (case k23 => k_is)
    (case z0 => k_is)
    (case z1 => k_is)
    (case z2 => k_is)
    (case z3 => k_is)
    (case z4 => k_is)
    (case z5 => k_is)
    (case z6 => k_is)
    (case z7 => k_is)
    (case z8 => k_is)
    (case z9 => k_is)
    (case z10 => k_is)
    (case z11 => k_is)
    (case z12 => k_is)
    (case z13 => k_is)
    (case y0 => k_is)
    (case y1 => k_is)
    (case y2 => k_is)
    (case y3 => k_is)
    (case aC_BadCounts => first | k_is | kernel_rfl | decide +kernel)
    (case aC_BadHeap => first | k_is | kernel_rfl | decide +kernel)
    (case aC_BadKinds => first | k_is | kernel_rfl | decide +kernel)
    (case aC_BadWish => first | k_is | kernel_rfl | decide +kernel)
    (case aC_DrawerError => first | k_is | kernel_rfl | decide +kernel)
    (case aC_Heap => first | k_is | kernel_rfl | decide +kernel)
    (case aC_OtherKinds => first | k_is | kernel_rfl | decide +kernel)
    (case aC_Wish => first | k_is | kernel_rfl | decide +kernel)
    (case iC_BadCounts => first | k_is | kernel_rfl | decide +kernel)
    (case iT_BadCounts => first | k_is | kernel_rfl | decide +kernel)
    (case iL_BadCounts => first | k_is | kernel_rfl | decide +kernel)
    (case iD_BadCounts => first | k_is | kernel_rfl | decide +kernel)
    (case iK_BadCounts => first | k_is | kernel_rfl | decide +kernel)
    (case iO_BadCounts => first | k_is | kernel_rfl | decide +kernel)
    (case iA_BadCounts => first | k_is | kernel_rfl | decide +kernel)
    (case iB_BadCounts => first | k_is | kernel_rfl | decide +kernel)
    (case iY_BadCounts => first | k_is | kernel_rfl | decide +kernel)
    (case iE_BadCounts => first | k_is | kernel_rfl | decide +kernel)
    (case iN_BadCounts => first | k_is | kernel_rfl | decide +kernel)
    (case iC_BadHeap => first | k_is | kernel_rfl | decide +kernel)
    (case iT_BadHeap => first | k_is | kernel_rfl | decide +kernel)
    (case iL_BadHeap => first | k_is | kernel_rfl | decide +kernel)
    (case iD_BadHeap => first | k_is | kernel_rfl | decide +kernel)
    (case iK_BadHeap => first | k_is | kernel_rfl | decide +kernel)
    (case iO_BadHeap => first | k_is | kernel_rfl | decide +kernel)
    (case iA_BadHeap => first | k_is | kernel_rfl | decide +kernel)
    (case iB_BadHeap => first | k_is | kernel_rfl | decide +kernel)
    (case iY_BadHeap => first | k_is | kernel_rfl | decide +kernel)
    (case iE_BadHeap => first | k_is | kernel_rfl | decide +kernel)
    (case iN_BadHeap => first | k_is | kernel_rfl | decide +kernel)
    (case iC_BadKinds => first | k_is | kernel_rfl | decide +kernel)
    (case iT_BadKinds => first | k_is | kernel_rfl | decide +kernel)
    (case iL_BadKinds => first | k_is | kernel_rfl | decide +kernel)
    (case iD_BadKinds => first | k_is | kernel_rfl | decide +kernel)
    (case iK_BadKinds => first | k_is | kernel_rfl | decide +kernel)
    (case iO_BadKinds => first | k_is | kernel_rfl | decide +kernel)
    (case iA_BadKinds => first | k_is | kernel_rfl | decide +kernel)
    (case iB_BadKinds => first | k_is | kernel_rfl | decide +kernel)
    (case iY_BadKinds => first | k_is | kernel_rfl | decide +kernel)
    (case iE_BadKinds => first | k_is | kernel_rfl | decide +kernel)
    (case iN_BadKinds => first | k_is | kernel_rfl | decide +kernel)
    (case iC_BadWish => first | k_is | kernel_rfl | decide +kernel)
    (case iT_BadWish => first | k_is | kernel_rfl | decide +kernel)
    (case iL_BadWish => first | k_is | kernel_rfl | decide +kernel)
    (case iD_BadWish => first | k_is | kernel_rfl | decide +kernel)
    (case iK_BadWish => first | k_is | kernel_rfl | decide +kernel)
    (case iO_BadWish => first | k_is | kernel_rfl | decide +kernel)
    (case iA_BadWish => first | k_is | kernel_rfl | decide +kernel)
    (case iB_BadWish => first | k_is | kernel_rfl | decide +kernel)
    (case iY_BadWish => first | k_is | kernel_rfl | decide +kernel)
    (case iE_BadWish => first | k_is | kernel_rfl | decide +kernel)
    (case iN_BadWish => first | k_is | kernel_rfl | decide +kernel)
    (case e0_BadHeap => first | k_is | kernel_rfl | decide +kernel)
    (case eg_BadHeap => first | k_is | kernel_rfl | decide +kernel)
    (case et_BadHeap => first | k_is | kernel_rfl | decide +kernel)
    (case es_BadHeap => first | k_is | kernel_rfl | decide +kernel)
    (case ed_BadHeap => first | k_is | kernel_rfl | decide +kernel)
    (case ea_BadHeap => first | k_is | kernel_rfl | decide +kernel)
    (case en_BadHeap => first | k_is | kernel_rfl | decide +kernel)
    (case ek_BadHeap => first | k_is | kernel_rfl | decide +kernel)
    (case em_BadHeap => first | k_is | kernel_rfl | decide +kernel)
    (case e0_BadKinds => first | k_is | kernel_rfl | decide +kernel)
    (case eg_BadKinds => first | k_is | kernel_rfl | decide +kernel)
    (case et_BadKinds => first | k_is | kernel_rfl | decide +kernel)
    (case es_BadKinds => first | k_is | kernel_rfl | decide +kernel)
    (case ed_BadKinds => first | k_is | kernel_rfl | decide +kernel)
    (case ea_BadKinds => first | k_is | kernel_rfl | decide +kernel)
    (case en_BadKinds => first | k_is | kernel_rfl | decide +kernel)
    (case ek_BadKinds => first | k_is | kernel_rfl | decide +kernel)
    (case em_BadKinds => first | k_is | kernel_rfl | decide +kernel)
    (case e0_BadWish => first | k_is | kernel_rfl | decide +kernel)
    (case eg_BadWish => first | k_is | kernel_rfl | decide +kernel)
    (case et_BadWish => first | k_is | kernel_rfl | decide +kernel)
    (case es_BadWish => first | k_is | kernel_rfl | decide +kernel)
    (case ed_BadWish => first | k_is | kernel_rfl | decide +kernel)
    (case ea_BadWish => first | k_is | kernel_rfl | decide +kernel)
    (case en_BadWish => first | k_is | kernel_rfl | decide +kernel)
    (case ek_BadWish => first | k_is | kernel_rfl | decide +kernel)
    (case em_BadWish => first | k_is | kernel_rfl | decide +kernel)
    (case kit_BadHeap_BadCounts_OtherKinds_LookupError => first | k_is | kernel_rfl | decide +kernel)
    (case kit_BadHeap_BadHeap => first | k_is | kernel_rfl | decide +kernel)
    (case kit_BadHeap_BadKinds => first | k_is | kernel_rfl | decide +kernel)
    (case kit_BadHeap_BadWish => first | k_is | kernel_rfl | decide +kernel)
    (case kit_BadKinds_BadCounts_OtherKinds_LookupError => first | k_is | kernel_rfl | decide +kernel)
    (case kit_BadKinds_BadHeap => first | k_is | kernel_rfl | decide +kernel)
    (case kit_BadKinds_BadKinds => first | k_is | kernel_rfl | decide +kernel)
    (case kit_BadKinds_BadWish => first | k_is | kernel_rfl | decide +kernel)
    (case kit_BadWish_BadCounts_OtherKinds_LookupError => first | k_is | kernel_rfl | decide +kernel)
    (case kit_BadWish_BadHeap => first | k_is | kernel_rfl | decide +kernel)
    (case kit_BadWish_BadKinds => first | k_is | kernel_rfl | decide +kernel)
    (case kit_BadWish_BadWish => first | k_is | kernel_rfl | decide +kernel)
    (case no_BadHeap_value => first | k_is | kernel_rfl | decide +kernel)
    (case no_BadKinds_value => first | k_is | kernel_rfl | decide +kernel)
    (case no_BadWish_value => first | k_is | kernel_rfl | decide +kernel)
    (case xm_BadHeap_DrawerError => first | k_is | kernel_rfl | decide +kernel)
    (case xm_BadKinds_DrawerError => first | k_is | kernel_rfl | decide +kernel)
    (case xm_BadWish_DrawerError => first | k_is | kernel_rfl | decide +kernel)
    (case pg_Heap => first | k_is | kernel_rfl | decide +kernel)
    (case hd_Heap => first | k_is | kernel_rfl | decide +kernel)
    (case po_Heap => first | k_is | kernel_rfl | decide +kernel)
    (case sa_Heap => first | k_is | kernel_rfl | decide +kernel)
    (case oa_Heap => first | k_is | kernel_rfl | decide +kernel)
    (case on_Heap => first | k_is | kernel_rfl | decide +kernel)
    (case ot_Heap => first | k_is | kernel_rfl | decide +kernel)
    (case om_Heap => first | k_is | kernel_rfl | decide +kernel)
    (case ok_Heap => first | k_is | kernel_rfl | decide +kernel)
    (case mk_Heap => first | k_is | kernel_rfl | decide +kernel)
    (case kc_Heap => first | k_is | kernel_rfl | decide +kernel)
    (case pg_Wish => first | k_is | kernel_rfl | decide +kernel)
    (case hd_Wish => first | k_is | kernel_rfl | decide +kernel)
    (case po_Wish => first | k_is | kernel_rfl | decide +kernel)
    (case sa_Wish => first | k_is | kernel_rfl | decide +kernel)
    (case oa_Wish => first | k_is | kernel_rfl | decide +kernel)
    (case on_Wish => first | k_is | kernel_rfl | decide +kernel)
    (case ot_Wish => first | k_is | kernel_rfl | decide +kernel)
    (case om_Wish => first | k_is | kernel_rfl | decide +kernel)
    (case ok_Wish => first | k_is | kernel_rfl | decide +kernel)
    (case mk_Wish => first | k_is | kernel_rfl | decide +kernel)
    (case kc_Wish => first | k_is | kernel_rfl | decide +kernel)
    (case ik1_Heap => first | k_is | kernel_rfl | decide +kernel)
    (case ik2_Heap => first | k_is | kernel_rfl | decide +kernel)
    (case ik3_Heap => first | k_is | kernel_rfl | decide +kernel)
    (case ik4_Heap => first | k_is | kernel_rfl | decide +kernel)
    (case m3 => first | k_is | kernel_rfl | decide +kernel)
    (case t3 => first | k_is | kernel_rfl | decide +kernel)
    (case l3 => first | k_is | kernel_rfl | decide +kernel)
    (case c3 => first | k_is | kernel_rfl | decide +kernel)
    (case k3 => first | k_is | kernel_rfl | decide +kernel)
    (case m4 => first | k_is | kernel_rfl | decide +kernel)
    (case g4 => first | k_is | kernel_rfl | decide +kernel)
    (case t4 => first | k_is | kernel_rfl | decide +kernel)
    (case q4 => first | k_is | kernel_rfl | decide +kernel)
    (case l4 => first | k_is | kernel_rfl | decide +kernel)
    (case c4 => first | k_is | kernel_rfl | decide +kernel)
    (case k4 => first | k_is | kernel_rfl | decide +kernel)
    (case m16 => first | k_is | kernel_rfl | decide +kernel)
    (case t16 => first | k_is | kernel_rfl | decide +kernel)
    (case l16 => first | k_is | kernel_rfl | decide +kernel)
    (case c16 => first | k_is | kernel_rfl | decide +kernel)
    (case k16 => first | k_is | kernel_rfl | decide +kernel)
    (case m17 => first | k_is | kernel_rfl | decide +kernel)
    (case t17 => first | k_is | kernel_rfl | decide +kernel)
    (case l17 => first | k_is | kernel_rfl | decide +kernel)
    (case c17 => first | k_is | kernel_rfl | decide +kernel)
    (case k17 => first | k_is | kernel_rfl | decide +kernel)
    (case m20 => first | k_is | kernel_rfl | decide +kernel)
    (case t20 => first | k_is | kernel_rfl | decide +kernel)
    (case l20 => first | k_is | kernel_rfl | decide +kernel)
    (case c20 => first | k_is | kernel_rfl | decide +kernel)
    (case k20 => first | k_is | kernel_rfl | decide +kernel)
    (case no_Heap_things => first | k_is | kernel_rfl | decide +kernel)
    (case no_Wish_many => first | k_is | kernel_rfl | decide +kernel)
    (case no_Wish_wanted => first | k_is | kernel_rfl | decide +kernel)
    (case no_Wish_width => first | k_is | kernel_rfl | decide +kernel)
