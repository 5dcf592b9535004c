import PyProof.Rows.All
import HandS.Exc
import Wide.All
import OpenK.AllK
import Wide.FinOn
import HandS.ForMost
import HandS.Walk
import HandS.Zip
import HandS.Flow
import HandS.IsInst
import HandS.Style
import HandS.TupAny
import HandS.TupMul
import HandS.Star
import PyProof.ListMulRoad
import PyProof.FactsAll.tuple_2
import PyProof.ReprRoads
import HandS.Zip0
import KE.GoesMore
import KE.GoesEnum
import HandS.Conv
import HandS.Dict
import HandS.RaiseMore
import HandS.Text
import HandS.SortInts
import HandS.ExcCtx
import HandS.ExcInit
import HandS.TryOnly
import HandS.ExcOwn
import HandS.ExcField
import HandS.ExcIs
import HandS.WordsExc
import KE.KExcIs
import HandS.StrMore
import PyProof.StrOps2
import PyProof.FactsAll.list_0
import PyProof.FactsAll.list_3
import HandS.Property
import HandS.SetFor
import KE.KExcInit
import KE.KxField
import HandS.FStr
import PyProof.FString3
import KE.KCallOwn
import HandS.Hot
import HandS.HotCalls
import KE.IntTextLaws
import KE.IntTextText
import PySem.Challenge.RW_darkdrawers_k63_whole_texts_there_and_ba
set_option Elab.async false
set_option linter.all false
set_option maxRecDepth 100000
set_option maxHeartbeats 4000000
namespace DD
open PySem PySem.Spec PyProof.Rows L2
abbrev D := PyData
/-- an error: its class, its fields -/
structure Exn where
  cls : Str
  fs : List (Str × D)
/-- what may change: an instance (its class's name, its fields), a list -/
inductive Cell where
  | ins (c : Str) (fs : List (Str × D))
  | lst (ds : List D)
/-- the world of a mirror: the number of draws (at most), the things that may change -/
structure Wd where
  n : Nat
  ob : List Cell
instance {n : Nat} : OfNat Wd n := ⟨⟨n, []⟩⟩
/-- a mirror's monad: what holds behind a run that begins at n -/
class Mo (m : Type → Type) extends Monad m where
  sat : {α : Type} → m α → Wd → (α → Wd → Prop) → (Exn → Wd → Prop) → Prop
  lift : {α : Type} → Option α → m α
  sat_pure : ∀ {α : Type} {a : α} {n : Wd} {φ : α → Wd → Prop} {ξ : Exn → Wd → Prop}, sat (pure a) n φ ξ → φ a n
  sat_bind : ∀ {α β : Type} {x : m α} {f : α → m β} {n : Wd} {φ : β → Wd → Prop} {ξ : Exn → Wd → Prop}, sat (x >>= f) n φ ξ → sat x n (fun a n' => sat (f a) n' φ ξ) ξ
  sat_lift : ∀ {α : Type} {o : Option α} {n : Wd} {φ : α → Wd → Prop} {ξ : Exn → Wd → Prop}, sat (lift o) n φ ξ → ∃ a, o = some a ∧ φ a n
instance : Mo Option where
  sat := fun o n φ _ => n.ob = [] ∧ ∃ a, o = some a ∧ φ a n
  lift := fun o => o
  sat_pure := fun h => by obtain ⟨_, a, e, q⟩ := h; cases e; exact q
  sat_bind := fun {α β x f n φ ξ} h => by
    obtain ⟨hn, b, e, q⟩ := h
    cases x with
    | none => cases e
    | some a => exact ⟨hn, a, rfl, hn, b, e, q⟩
  sat_lift := fun h => h.2
/-- the wishes themselves as a mirror (no error leaves; nothing else changes) -/
def W (α : Type) : Type := Nat → (α → Nat → Prop) → Prop
instance : Mo W where
  pure := fun a n φ => φ a n
  bind := fun x f n φ => x n (fun a n' => f a n' φ)
  sat := fun w s φ _ => s.ob = [] ∧ w s.n (fun a n' => φ a ⟨n', []⟩)
  lift := fun o n φ => ∃ a, o = some a ∧ φ a n
  sat_pure := fun {α a n φ ξ} h => by
    obtain ⟨h1, h2⟩ := h
    obtain ⟨k, ob⟩ := n
    cases h1
    exact h2
  sat_bind := fun {α β x f n φ ξ} h => by
    obtain ⟨h1, h2⟩ := h
    refine ⟨h1, ?_⟩
    have e : (fun a (n' : Nat) => (⟨n', []⟩ : Wd).ob = [] ∧ f a n' (fun b n' => φ b ⟨n', []⟩)) = fun a n' => f a n' (fun b n' => φ b ⟨n', []⟩) := by
      funext a n'
      exact propext ⟨fun h => h.2, fun h => ⟨rfl, h⟩⟩
    show x n.n (fun a (n' : Nat) => (⟨n', []⟩ : Wd).ob = [] ∧ f a n' (fun b n' => φ b ⟨n', []⟩))
    rw [e]
    exact h2
  sat_lift := fun {α o n φ ξ} h => by
    obtain ⟨h1, a, e, h2⟩ := h
    obtain ⟨k, ob⟩ := n
    cases h1
    exact ⟨a, e, h2⟩
/-- a mirror that sees no thing that may change, where there is none -/
class Plain (m : Type → Type) [Mo m] : Prop where
  plain : ∀ {α : Type} {x : m α} {n : Wd} {φ : α → Wd → Prop} {ξ : Exn → Wd → Prop}, Mo.sat x n φ ξ → n.ob = [] ∧ Mo.sat x n (fun a n' => n'.ob = [] ∧ φ a n') (fun e n' => n'.ob = [] ∧ ξ e n')
instance : Plain Option := ⟨fun ⟨h, a, e, q⟩ => ⟨h, h, a, e, h, q⟩⟩
instance : Plain W := ⟨fun {α x n φ ξ} h => by
  obtain ⟨h1, h2⟩ := h
  refine ⟨h1, h1, ?_⟩
  have e : (fun (a : α) (n' : Nat) => (⟨n', []⟩ : Wd).ob = [] ∧ φ a ⟨n', []⟩) = fun a n' => φ a ⟨n', []⟩ := by
    funext a n'
    exact propext ⟨fun h => h.2, fun h => ⟨rfl, h⟩⟩
  show x n.n (fun a (n' : Nat) => (⟨n', []⟩ : Wd).ob = [] ∧ φ a ⟨n', []⟩)
  rw [e]
  exact h2⟩
/-- no error comes out of it -/
class Calm (m : Type → Type) [Mo m] : Prop where
  calm : ∀ {α : Type} {x : m α} {n : Wd} {φ : α → Wd → Prop} {ξ ξ' : Exn → Wd → Prop}, Mo.sat x n φ ξ → Mo.sat x n φ ξ'
instance : Calm Option := ⟨fun h => h⟩
instance : Calm W := ⟨fun h => h⟩
/-! ### data in the heap -/
def keyD : Key → D
  | .inl i => .int i
  | .inr x => .str x
/-- a value that is no reference, as data -/
def flat : V → Bool
  | .non => true
  | .bl _ => true
  | .int _ => true
  | .str _ => true
  | _ => false
def flatD : V → D
  | .bl b => .bool b
  | .int i => .int i
  | .str x => .str x
  | _ => .none
/-- the class of the name c -/
structure ClsOk (K : PySem.W.Frag) (c : Str) (C : Addr) : Prop where
  nm : PySem.W.nsIn K mainGlobals c = some (some (.ref C))
  cl : Cls K C
  ha : PySem.W.findIn K (.ref C) "__class__" = some (some (.builtin "object.__class__"))
  hn : PySem.W.specialIn K (.builtin "object.__class__") "__get__" = some (some (.builtin "getset_descriptor.__get__"))
  ht : PySem.W.takesIn K (.builtin "object.__class__") = some true
  hm : PySem.W.mroIn K C (.type "object") = some true
  kit : (["NoneType", "bool", "int", "str", "list", "tuple", "dict"].all fun T => PySem.W.kitOne K (.ref C) (.type T) == some false) = true
/-- a thing that may change, as data: it can be neither shown nor compared -/
def bigI : Int := 2 ^ 2000
mutual
inductive Da (K : PySem.W.Frag) (G : Hp) : V → D → Prop
  | non : Da K G .non .none
  | bl (b : Bool) : Da K G (.bl b) (.bool b)
  | int (i : Int) : Da K G (.int i) (.int i)
  | str (x : Str) : Da K G (.str x) (.str x)
  | lst {a : Addr} {xs : List V} {ds : List D} : G a = some (.lst xs) → DaAll K G xs ds → Da K G (.ref a) (.list ds)
  | tup {a : Addr} {xs : List V} {ds : List D} : SqT K G a xs → DaAll K G xs ds → Da K G (.ref a) (.tuple ds)
  | dct {a : Addr} {kvs : List (Key × V)} : G a = some (.dK kvs) → (∀ p ∈ kvs, flat p.2 = true) → Da K G (.ref a) (.dict (kvs.map fun p => (keyD p.1, flatD p.2)))
  | obj {a : Addr} {k : Nat} : G a = some (.own k) → Da K G (.ref a) (.dict [(.none, .int (bigI + k))])
  | cel {a : Addr} {k : Nat} : G a = some (.met k k) → Da K G (.ref a) (.dict [(.bool false, .int (bigI + k))])
  | fin {a C dx : Addr} {c : Str} {vs : List (Str × V)} {fs : List (Str × D)} : G a = some (.ins C dx vs) → ClsOk K c C → vs.map (·.1) = fs.map (·.1) → DaAll K G (vs.map (·.2)) (fs.map (·.2)) → Da K G (.ref a) (.dict ((.bool true, .int bigI) :: (.none, .str c) :: fs.map fun p => (.str p.1, p.2)))
inductive DaAll (K : PySem.W.Frag) (G : Hp) : List V → List D → Prop
  | nil : DaAll K G [] []
  | cons {v : V} {vs : List V} {d : D} {ds : List D} : Da K G v d → DaAll K G vs ds → DaAll K G (v :: vs) (d :: ds)
end
/-- marks of things that may change: an instance, a list -/
def mkOf : HO → Option Nat
  | .own k => some k
  | .met k _ => some k
  | _ => none
def isMk (o : HO) : Bool := (mkOf o).isSome
/-- the data stand in the heap; a mark of G stands for a thing that may change -/
structure SubM (G H : Hp) : Prop where
  h : ∀ a o, G a = some o → isMk o = false → H a = some o
  t : ∀ a, H a = none → G a = none
theorem SubM.sT {K : PySem.W.Frag} {H H' : Hp} {a : Addr} {xs : List V} (e : SubM H H') (h : SqT K H a xs) : SqT K H' a xs := by
  rcases h with (h | ⟨o, h⟩) | h
  · exact .inl (.inl (e.h _ _ h rfl))
  · exact .inl (.inr ⟨o, e.h _ _ h rfl⟩)
  · exact .inr h
theorem SubM.seq {K : PySem.W.Frag} {H H' : Hp} {a : Addr} {xs : List V} (e : SubM H H') (h : SqL K H a xs) : SqL K H' a xs := by
  rcases h with (h | ⟨o, h⟩) | h
  · exact .inl (.inl (e.h _ _ h rfl))
  · exact .inl (.inr ⟨o, e.h _ _ h rfl⟩)
  · exact .inr h
theorem SubM.trans {G H H' : Hp} (e : SubM G H) (s : Same H H') : SubM G H' := ⟨fun a o h m => s _ _ (e.h a o h m), fun a h => e.t a (s.free h)⟩
theorem _root_.L2.Same.subm {G G' H : Hp} (s : Same G G') (e : SubM G' H) : SubM G H := ⟨fun a o h m => e.h a o (s _ _ h) m, fun a h => s.free (e.t a h)⟩
theorem sameT' {K : PySem.W.Frag} {H H' : Hp} {a : Addr} {xs : List V} (e : Same H H') (h : SqT K H a xs) : SqT K H' a xs := by
  rcases h with (h | ⟨o, h⟩) | h
  · exact .inl (.inl (e _ _ h))
  · exact .inl (.inr ⟨o, e _ _ h⟩)
  · exact .inr h
theorem sameT {K : PySem.W.Frag} {H H' : Hp} {a : Addr} {xs : List V} (e : SubM H H') (h : SqT K H a xs) : SqT K H' a xs := e.sT h
section
variable {K : PySem.W.Frag} {G G' H H' : Hp}
mutual
theorem Da.mono (e : Same G G') : ∀ {d : D} {v : V}, Da K G v d → Da K G' v d
  | _, _, .non => .non
  | _, _, .bl b => .bl b
  | _, _, .int i => .int i
  | _, _, .str x => .str x
  | _, _, .lst h a => .lst (e _ _ h) (DaAll.mono e a)
  | _, _, .tup h a => .tup (sameT' e h) (DaAll.mono e a)
  | _, _, .dct h a => .dct (e _ _ h) a
  | _, _, .obj h => .obj (e _ _ h)
  | _, _, .cel h => .cel (e _ _ h)
  | _, _, .fin h k l a => .fin (e _ _ h) k l (DaAll.mono e a)
theorem DaAll.mono (e : Same G G') : ∀ {ds : List D} {vs : List V}, DaAll K G vs ds → DaAll K G' vs ds
  | _, _, .nil => .nil
  | _, _, .cons a b => .cons (Da.mono e a) (DaAll.mono e b)
end
theorem DaAll.length : ∀ {vs : List V} {ds : List D}, DaAll K G vs ds → vs.length = ds.length
  | _, _, .nil => rfl
  | _, _, .cons _ b => by simp [DaAll.length b]
theorem DaAll.get : ∀ {vs : List V} {ds : List D} {i : Nat} {d : D}, DaAll K G vs ds → ds[i]? = some d → ∃ v, vs[i]? = some v ∧ Da K G v d
  | _, _, _, _, .nil, e => by simp at e
  | _, _, 0, _, .cons a _, e => by simp at e; subst e; exact ⟨_, rfl, a⟩
  | _, _, i + 1, d, .cons _ b, e => by
    obtain ⟨v, h1, h2⟩ := DaAll.get (i := i) (d := d) b (by simpa using e)
    exact ⟨v, by simpa using h1, h2⟩
theorem DaAll.getV : ∀ {vs : List V} {ds : List D} {i : Nat} {v : V}, DaAll K G vs ds → vs[i]? = some v → ∃ d, ds[i]? = some d ∧ Da K G v d
  | _, _, _, _, .nil, e => by simp at e
  | _, _, 0, _, .cons a _, e => by simp at e; subst e; exact ⟨_, rfl, a⟩
  | _, _, i + 1, v, .cons _ b, e => by
    obtain ⟨d, h1, h2⟩ := DaAll.getV (i := i) (v := v) b (by simpa using e)
    exact ⟨d, by simpa using h1, h2⟩
theorem DaAll.append : ∀ {vs ws : List V} {ds es : List D}, DaAll K G vs ds → DaAll K G ws es → DaAll K G (vs ++ ws) (ds ++ es)
  | _, _, _, _, .nil, b => b
  | _, _, _, _, .cons a r, b => .cons a (DaAll.append r b)
theorem DaAll.one {v : V} {d : D} (h : Da K G v d) : DaAll K G [v] [d] := .cons h .nil
theorem DaAll.take : ∀ {vs : List V} {ds : List D} (n : Nat), DaAll K G vs ds → DaAll K G (vs.take n) (ds.take n)
  | _, _, 0, _ => .nil
  | _, _, _ + 1, .nil => .nil
  | _, _, n + 1, .cons a b => .cons a (DaAll.take n b)
theorem DaAll.drop : ∀ {vs : List V} {ds : List D} (n : Nat), DaAll K G vs ds → DaAll K G (vs.drop n) (ds.drop n)
  | _, _, 0, h => h
  | _, _, _ + 1, .nil => .nil
  | _, _, n + 1, .cons _ b => DaAll.drop n b
theorem DaAll.set {v : V} {d : D} (h : Da K G v d) : ∀ {vs : List V} {ds : List D} (n : Nat), DaAll K G vs ds → DaAll K G (vs.set n v) (ds.set n d)
  | _, _, _, .nil => .nil
  | _, _, 0, .cons _ b => .cons h b
  | _, _, n + 1, .cons a b => .cons a (DaAll.set h n b)
theorem DaAll.reverse : ∀ {vs : List V} {ds : List D}, DaAll K G vs ds → DaAll K G vs.reverse ds.reverse
  | _, _, .nil => .nil
  | _, _, .cons a b => by
    rw [List.reverse_cons, List.reverse_cons]
    exact (DaAll.reverse b).append (.one a)
theorem DaAll.replicate {v : V} {d : D} (h : Da K G v d) : ∀ n : Nat, DaAll K G (List.replicate n v) (List.replicate n d)
  | 0 => .nil
  | n + 1 => .cons h (DaAll.replicate h n)
theorem DaAll.flatReplicate {vs : List V} {ds : List D} (h : DaAll K G vs ds) : ∀ n : Nat, DaAll K G (List.replicate n vs).flatten (List.replicate n ds).flatten
  | 0 => .nil
  | n + 1 => by
    rw [List.replicate_succ, List.replicate_succ, List.flatten_cons, List.flatten_cons]
    exact h.append (DaAll.flatReplicate h n)
theorem DaAll.ints : ∀ {vs : List V} {ns : List Int}, DaAll K G vs (ns.map PyData.int) → vs = ns.map V.int
  | [], [], _ => rfl
  | _ :: _, n :: ns, .cons a b => by
    cases a
    rw [List.map_cons, DaAll.ints b]
end
/-! ### data without things that may change -/
mutual
def okD : D → Bool
  | .none => true
  | .bool _ => true
  | .int _ => true
  | .str _ => true
  | .list ds => okDs ds
  | .tuple ds => okDs ds
  | .dict kvs => okK kvs
def okDs : List D → Bool
  | [] => true
  | d :: ds => okD d && okDs ds
def okK : List (D × D) → Bool
  | (.none, _) :: _ => false
  | (.bool _, _) :: _ => false
  | _ => true
end
mutual
theorem ok_canLay : ∀ d : D, d.canLay0 = true → okD d = true
  | .none, _ => rfl
  | .bool _, _ => rfl
  | .int _, _ => rfl
  | .str _, _ => rfl
  | .list ds, h => ok_canLays ds (by simpa [PyData.canLay0] using h)
  | .tuple ds, h => ok_canLays ds (by simpa [PyData.canLay0] using h)
  | .dict _, h => by simp [PyData.canLay0] at h
theorem ok_canLays : ∀ ds : List D, PyData.canLayAll0 ds = true → okDs ds = true
  | [], _ => rfl
  | d :: ds, h => by
    simp only [PyData.canLayAll0, Bool.and_eq_true] at h
    simp only [okDs, Bool.and_eq_true]
    exact ⟨ok_canLay d h.1, ok_canLays ds h.2⟩
end
/-- the dict of sys.modules is none of ours -/
def Sys (X : Cx) : Prop := ∃ o es ep, X.base.get? sysModules = some o ∧ o.data = .dict es ep
section
variable {X : Cx} {pins : List (Addr × Obj)} {σ : L2.St} {H : Hp} {s : Shared}
theorem ne_sysL (hy : Sys X) (I : Inv X pins σ H s) {a : Addr} {xs : List V} (h : SqL X.K H a xs) : a ≠ sysModules := by
  rintro rfl
  obtain ⟨o, es, ep, e, d⟩ := hy
  obtain ⟨its, _, ⟨o', n, e', _, _, d'⟩, _⟩ := I.list h
  rw [(I.bs _ _ e).1] at e'
  cases e'
  rw [d] at d'
  cases d'
theorem flat_reads {v : V} {u : Value} (f : flat v = true) (r : RelV v u) : ∀ h : Heap, Reads h u (flatD v) [] := fun h => by
  cases v with
  | non => cases r; exact Reads.none
  | bl b => cases r; exact Reads.bool b
  | int i => obtain ⟨t, rfl⟩ := r; exact Reads.int i t
  | str x => obtain ⟨t, rfl⟩ := r; exact Reads.str x t
  | _ => cases f
theorem pairs_reads {h : Heap} : ∀ {es : List DictEntry} {vs : List (Key × Value)} {kvs : List (Key × V)}, Pairs (mixKind X.prog X.w) es vs → KV kvs vs → (∀ p ∈ kvs, flat p.2 = true) →
    ReadsAll h (es.map (·.key)) ((kvs.map fun p => (keyD p.1, flatD p.2)).map (·.1)) [] ∧ ReadsAll h (es.map (·.val)) ((kvs.map fun p => (keyD p.1, flatD p.2)).map (·.2)) []
  | _, _, _, .nil, .nil, _ => ⟨.nil, .nil⟩
  | _, _, _, .cons hk hv t, .cons r rr, f => by
    obtain ⟨h1, h2⟩ := pairs_reads (h := h) t rr fun p hp => f p (List.mem_cons_of_mem _ hp)
    obtain ⟨e1, r1⟩ := r
    refine ⟨ReadsAll.cons (as := []) (bs := []) ?_ h1, ReadsAll.cons (as := []) (bs := []) ?_ h2⟩
    · rcases keyIs_shape (show keyIs _ _ = true from hk) with ⟨i, t, ek, ev⟩ | ⟨x, t, ek, ev⟩
      · dsimp only
        rw [ev, e1, ek]
        exact Reads.int i t
      · dsimp only
        rw [ev, e1, ek]
        exact Reads.str x t
    · dsimp only
      rw [hv]
      exact flat_reads (f _ List.mem_cons_self) r1 h
mutual
theorem Da.reads (hy : Sys X) (I : Inv X pins σ H s) : ∀ (d : D) (v : V) (u : Value), Da X.K H v d → okD d = true → RelV v u → ∃ as, Reads s.heap u d as ∧ sysModules ∉ as
  | .none, _, _, h, _, r => by
    cases h
    cases r
    exact ⟨_, Reads.none, by simp⟩
  | .bool b, _, _, h, _, r => by
    cases h
    cases r
    exact ⟨_, Reads.bool b, by simp⟩
  | .int i, _, _, h, _, r => by
    cases h
    obtain ⟨t, rfl⟩ := r
    exact ⟨_, Reads.int i t, by simp⟩
  | .str x, _, _, h, _, r => by
    cases h
    obtain ⟨t, rfl⟩ := r
    exact ⟨_, Reads.str x t, by simp⟩
  | .list ds, _, _, h, ok, r => by
    cases h with
    | lst hs ha =>
      cases r
      obtain ⟨its, rv, ⟨o, n, ho, hc, _, hd⟩, _⟩ := I.list (SqL.of hs)
      obtain ⟨as, hr, hn⟩ := Da.readsAll hy I ds _ its ha ok rv
      refine ⟨_, Reads.list ho hc hd hr, fun hm => ?_⟩
      rcases List.mem_cons.mp hm with e | e
      · exact ne_sysL hy I (SqL.of hs) e.symm
      · exact hn e
  | .tuple ds, _, _, h, ok, r => by
    cases h with
    | tup hs ha =>
      cases r
      obtain ⟨its, rv, ⟨o, ho, hc, n, hd⟩, _⟩ := I.tuple hs
      obtain ⟨as, hr, hn⟩ := Da.readsAll hy I ds _ its ha ok rv
      exact ⟨_, Reads.tuple ho hc hd hr, hn⟩
  | .dict kvs, _, _, h, ok, r => by
    cases h with
    | dct hs hf =>
      cases r
      obtain ⟨z, y, vs, kv, o, es, ep, ho, hx, hd, _, hp, _⟩ := I.hok _ _ hs
      obtain ⟨h1, h2⟩ := pairs_reads (h := s.heap) hp kv hf
      refine ⟨_, Reads.dict ho hx.1 hd h1 h2, fun hm => ?_⟩
      rcases List.mem_cons.mp hm with e | e
      · rw [← e] at y
        exact absurd y (by decide)
      · simp at e
    | obj hs => cases ok
    | cel hs => cases ok
    | fin _ _ _ _ => cases ok
theorem Da.readsAll (hy : Sys X) (I : Inv X pins σ H s) : ∀ (ds : List D) (vs : List V) (us : List Value), DaAll X.K H vs ds → okDs ds = true → Vals vs us → ∃ as, ReadsAll s.heap us ds as ∧ sysModules ∉ as
  | [], _, _, h, _, r => by
    cases h
    cases r
    exact ⟨_, ReadsAll.nil, by simp⟩
  | d :: ds, _, _, h, ok, r => by
    cases h with
    | cons h1 h2 =>
      cases r with
      | cons r1 r2 =>
        simp only [okDs, Bool.and_eq_true] at ok
        obtain ⟨as, q1, n1⟩ := Da.reads hy I d _ _ h1 ok.1 r1
        obtain ⟨bs, q2, n2⟩ := Da.readsAll hy I ds _ _ h2 ok.2 r2
        exact ⟨_, ReadsAll.cons q1 q2, by simp [n1, n2]⟩
end
end
section
variable {K : PySem.W.Frag} {G H : Hp}
mutual
theorem Da.toH (e : SubM G H) : ∀ {d : D} {v : V}, Da K G v d → okD d = true → Da K H v d
  | _, _, .non, _ => .non
  | _, _, .bl b, _ => .bl b
  | _, _, .int i, _ => .int i
  | _, _, .str x, _ => .str x
  | _, _, .lst h a, ok => .lst (e.h _ _ h rfl) (DaAll.toH e a ok)
  | _, _, .tup h a, ok => .tup (sameT e h) (DaAll.toH e a ok)
  | _, _, .dct h a, _ => .dct (e.h _ _ h rfl) a
  | _, _, .obj h, ok => by cases ok
  | _, _, .cel h, ok => by cases ok
  | _, _, .fin _ _ _ _, ok => by cases ok
theorem DaAll.toH (e : SubM G H) : ∀ {ds : List D} {vs : List V}, DaAll K G vs ds → okDs ds = true → DaAll K H vs ds
  | _, _, .nil, _ => .nil
  | _, _, .cons a b, ok => by
    simp only [okDs, Bool.and_eq_true] at ok
    exact .cons (Da.toH e a ok.1) (DaAll.toH e b ok.2)
end
end
/-! ### the state: what a body knows -/
/-- a def's entry: the heap, what of it is data, the deck -/
structure Bs where
  H : Hp
  G : Hp
  dk : Option (Addr × Addr)
  tG : Hp
/-- what a def may change: the deck, the marked things -/
def Bs.fp (B : Bs) (a : Addr) : Prop := (∃ x y, B.dk = some (x, y) ∧ (a = x ∨ a = y)) ∨ ∃ u, B.G a = some u ∧ isMk u = true
def DeckAt (H : Hp) (a b : Addr) (n : Nat) : Prop := ∃ (cells : List Int) (c : Int), H a = some (.lst [.ref b, .int c]) ∧ H b = some (.lst (cells.map V.int)) ∧ a ≠ b ∧ 0 ≤ c ∧ c ≤ (n : Int) ∧ (∀ x ∈ cells, 0 ≤ x) ∧ cells.length ≤ 63
def CellAt (K : PySem.W.Frag) (G H : Hp) (a k : Addr) : Cell → Prop
  | .ins c fs => G a = some (.own k) ∧ ∃ C dx vs, ClsOk K c C ∧ H a = some (.ins C dx vs) ∧ vs.map (·.1) = fs.map (·.1) ∧ DaAll K G (vs.map (·.2)) (fs.map (·.2))
  | .lst ds => G a = some (.met k k) ∧ ∃ xs, H a = some (.lst xs) ∧ DaAll K G xs ds
theorem CellAt.there {K : PySem.W.Frag} {G H : Hp} {a k : Addr} : ∀ {c : Cell}, CellAt K G H a k c → H a ≠ none
  | .ins _ _, ⟨_, C, dx, vs, _, e, _⟩ => by rw [e]; simp
  | .lst _, ⟨_, xs, e, _⟩ => by rw [e]; simp
theorem CellAt.mark {K : PySem.W.Frag} {G H : Hp} {a k : Addr} : ∀ {c : Cell}, CellAt K G H a k c → ∃ u, G a = some u ∧ mkOf u = some k
  | .ins _ _, h => ⟨_, h.1, rfl⟩
  | .lst _, h => ⟨_, h.1, rfl⟩
theorem CellAt.mono {K : PySem.W.Frag} {G H G' H' : Hp} {a k : Addr} (s : Same G G') (e : ∀ o, H a = some o → H' a = some o) : ∀ {c : Cell}, CellAt K G H a k c → CellAt K G' H' a k c
  | .ins _ _, ⟨g, C, dx, vs, n, h, l, d⟩ => ⟨s _ _ g, C, dx, vs, n, e _ h, l, d.mono s⟩
  | .lst _, ⟨g, xs, h, d⟩ => ⟨s _ _ g, xs, e _ h, d.mono s⟩
/-- the marked things are those of the world -/
structure Obs (K : PySem.W.Frag) (H G : Hp) (n : Wd) : Prop where
  at_ : ∀ a u k, G a = some u → mkOf u = some k → ∃ c, n.ob[k]? = some c ∧ CellAt K G H a k c
  inj : ∀ a b u w k, G a = some u → G b = some w → mkOf u = some k → mkOf w = some k → a = b
  all : ∀ k c, n.ob[k]? = some c → ∃ a, CellAt K G H a k c
theorem Obs.grow {K : PySem.W.Frag} {H G H' G' : Hp} {n : Wd} (o : Obs K H G n) (s : Same H H') (sg : Same G G') (mk : ∀ a u, isMk u = true → G' a = some u → G a = some u) : Obs K H' G' n where
  at_ := fun a u k e m => by
    obtain ⟨c, h1, h2⟩ := o.at_ a u k (mk a u (by unfold isMk; rw [m]; rfl) e) m
    exact ⟨c, h1, h2.mono sg fun _ h => s _ _ h⟩
  inj := fun a b u w k e f m m' => o.inj a b u w k (mk a u (by unfold isMk; rw [m]; rfl) e) (mk b w (by unfold isMk; rw [m']; rfl) f) m m'
  all := fun k c e => by
    obtain ⟨a, h⟩ := o.all k c e
    exact ⟨a, h.mono sg fun _ h => s _ _ h⟩
structure Fm (K : PySem.W.Frag) (B : Bs) (H G : Hp) (n : Wd) : Prop where
  keep : ∀ a o, B.H a = some o → ¬ B.fp a → H a = some o
  sub : SubM G H
  old : Same B.G G
  obs : Obs K H G n
  bt : ∀ a, B.H a = none → B.G a = none
  tg : Same B.tG G
  new : ∀ a, B.H a ≠ none → B.G a = none → G a = none
  deck : ∀ a b, B.dk = some (a, b) → DeckAt H a b n.n ∧ B.H a ≠ none ∧ B.H b ≠ none ∧ B.G a = none ∧ B.G b = none
/-- what a slot holds: data, a list of its own (it may be changed), the deck, anything -/
inductive Sl where
  | val (d : D) | own (ds : List D) | deck | any | exn (a : Addr) (od : Option Addr) (fs : List (Str × D))
/-- the fields of an error that is held -/
def XdAt (K : PySem.W.Frag) (G : Hp) (od : Option Addr) (fs : List (Str × D)) : Prop := (fs = [] ∧ od = none) ∨ ∃ dx vs, od = some dx ∧ G dx = some (.xd vs) ∧ vs.map (·.1) = fs.map (·.1) ∧ DaAll K G (vs.map (·.2)) (fs.map (·.2))
theorem XdAt.mono {K : PySem.W.Frag} {G G' : Hp} {od : Option Addr} {fs : List (Str × D)} (s : Same G G') (h : XdAt K G od fs) : XdAt K G' od fs := by
  rcases h with h | ⟨dx, vs, h1, h2, h3, h4⟩
  · exact .inl h
  · exact .inr ⟨dx, vs, h1, s _ _ h2, h3, h4.mono s⟩
structure Ok (K : PySem.W.Frag) (B : Bs) (g : List Sl) (σ : L2.St) (H G : Hp) (n : Wd) : Prop where
  fm : Fm K B H G n
  len : g.length = σ.length
  val : ∀ (i : Nat) (d : D), g[i]? = some (Sl.val d) → ∃ v, σ[i]? = some (some v) ∧ Da K G v d
  own : ∃ f : Nat → Addr, (∀ (i j : Nat) (ds es : List D), g[i]? = some (Sl.own ds) → g[j]? = some (Sl.own es) → f i = f j → i = j) ∧
    ∀ (i : Nat) (ds : List D), g[i]? = some (Sl.own ds) → σ[i]? = some (some (V.ref (f i))) ∧ G (f i) = none ∧ B.H (f i) = none ∧ ∃ xs, H (f i) = some (.lst xs) ∧ DaAll K G xs ds
  dck : ∀ (i : Nat), g[i]? = some Sl.deck → ∃ a b, B.dk = some (a, b) ∧ σ[i]? = some (some (V.ref a))
  adr : ∀ (i : Nat) (a : Addr) (od : Option Addr) (fs : List (Str × D)), g[i]? = some (Sl.exn a od fs) → σ[i]? = some (some (V.ref a)) ∧ XdAt K G od fs
/-- an error as it lies behind the code -/
def ExA (K : PySem.W.Frag) (mg : Str → Option Value) (e : Exn) (G : Hp) (c : Value) (od : Option Addr) : Prop := ∃ C, mg e.cls = some (.ref C) ∧ c = .ref C ∧ XdAt K G od e.fs
abbrev ExAt (X : Cx) (e : Exn) (G : Hp) (_ : Hp) (c : Value) (od : Option Addr) : Prop := ExA X.K X.mg e G c od
/-- what is wished at an exception: w; the slots that are kept: g -/
structure XR where
  w : WX
  g : List Sl
def X0 : XR := ⟨fun _ _ _ _ => False, []⟩
def Xw (X : Cx) (B : Bs) (EX : XR) (ξ : Exn → Wd → Prop) : Prop := ∀ e n' σ' H' G' c od, ξ e n' → Ok X.K B EX.g σ' H' G' n' → ExAt X e G' H' c od → EX.w c od σ' H'
section
variable {K : PySem.W.Frag} {B : Bs} {g : List Sl} {σ : L2.St} {H G H' G' : Hp} {n : Wd}
/-- the heap grows: G grows with it, but not into what stood there -/
theorem Fm.there (f : Fm K B H G n) {a : Addr} {o : HO} (e : G a = some o) : H a ≠ none := fun h => by
  rw [f.sub.t a h] at e
  cases e
theorem Fm.fpThere (f : Fm K B H G n) {a : Addr} (h : B.fp a) : H a ≠ none := by
  rcases h with ⟨x, y, ed, hxy⟩ | ⟨k, e⟩
  · obtain ⟨⟨cs, c, h1, h2, _⟩, _⟩ := f.deck x y ed
    rcases hxy with rfl | rfl
    · rw [h1]; simp
    · rw [h2]; simp
  · exact f.there (f.old _ _ e.1)
theorem Fm.grow (f : Fm K B H G n) (s : Same H H') (sg : Same G G') (sb : SubM G' H') (nw : ∀ a, H a ≠ none → G a = none → G' a = none) (mk : ∀ a u, isMk u = true → G' a = some u → G a = some u) : Fm K B H' G' n where
  keep := fun a o e q => s _ _ (f.keep a o e q)
  sub := sb
  old := f.old.trans sg
  obs := f.obs.grow s sg mk
  bt := f.bt
  tg := f.tg.trans sg
  new := fun a e q => by
    by_cases h : H a = none
    · by_cases hp : B.fp a
      · exact absurd h (f.fpThere hp)
      · cases hb : B.H a with
        | none => exact absurd hb e
        | some o => rw [f.keep a o hb hp] at h; cases h
    · exact nw a h (f.new a e q)
  deck := fun a b e => by
    obtain ⟨⟨cs, c, h1, h2, h3⟩, r⟩ := f.deck a b e
    exact ⟨⟨cs, c, s _ _ h1, s _ _ h2, h3⟩, r⟩
theorem Ok.grow (o : Ok K B g σ H G n) (s : Same H H') (sg : Same G G') (sb : SubM G' H') (nw : ∀ a, H a ≠ none → G a = none → G' a = none) (mk : ∀ a u, isMk u = true → G' a = some u → G a = some u) : Ok K B g σ H' G' n where
  fm := o.fm.grow s sg sb nw mk
  len := o.len
  val := fun i d e => by
    obtain ⟨v, h1, h2⟩ := o.val i d e
    exact ⟨v, h1, h2.mono sg⟩
  own := by
    obtain ⟨f, h1, h2⟩ := o.own
    refine ⟨f, h1, fun i ds e => ?_⟩
    obtain ⟨a, b, c, xs, d, e⟩ := h2 i ds e
    exact ⟨a, nw _ (by rw [d]; simp) b, c, xs, s _ _ d, e.mono sg⟩
  dck := o.dck
  adr := fun i a od fs e => ⟨(o.adr i a od fs e).1, (o.adr i a od fs e).2.mono sg⟩
theorem same_upd {H : Hp} {p : Addr} {o : HO} (h : H p = none) : Same H (upd H p o) := fun b x e => by
  rw [upd_ne (ne_of_none e h)]
  exact e
/-- a new object that is data -/
theorem Ok.alloc (o : Ok K B g σ H G n) {p : Addr} {u : HO} (h : H p = none) (hu : isMk u = false := by rfl) : Ok K B g σ (upd H p u) (upd G p u) n ∧ Same G (upd G p u) := by
  have hg : G p = none := by
    cases e : G p with
    | none => rfl
    | some z => exact absurd h (o.fm.there e)
  refine ⟨o.grow (same_upd h) (same_upd hg) ⟨fun a z e m => ?_, fun a e => ?_⟩ (fun a e q => ?_) (fun a w m e => ?_), same_upd hg⟩
  · unfold upd at e ⊢
    split at e
    · rename_i ha; rw [if_pos ha]; exact e
    · rename_i ha; rw [if_neg ha]; exact o.fm.sub.h _ _ e m
  · unfold upd at e ⊢
    split at e
    · cases e
    · rename_i ha; rw [if_neg ha]; exact o.fm.sub.t a e
  · have : a ≠ p := by rintro rfl; exact e h
    rw [upd_ne this]; exact q
  · unfold upd at e
    split at e
    · cases e; rw [hu] at m; cases m
    · exact e
/-- a new object that is not data (yet) -/
theorem Ok.raw (o : Ok K B g σ H G n) {p : Addr} {u : HO} (h : H p = none) : Ok K B g σ (upd H p u) G n :=
  o.grow (same_upd h) (Same.refl _) (o.fm.sub.trans (same_upd h)) (fun _ _ q => q) fun _ _ _ q => q
theorem Ok.free (o : Ok K B g σ H G n) {p : Addr} (h : H p = none) : G p = none := by
  cases e : G p with
  | none => rfl
  | some z => exact absurd h (o.fm.there e)
end
/-! ### the judgements -/
section
variable {m : Type → Type} [Mo m]
/-- an expression that gives data -/
def teJ (X : Cx) (EX : XR) (g : List Sl) (x : m D) : TE := fun σ H Q => ∃ B G n φ ξ, Ok X.K B g σ H G n ∧ Mo.sat x n φ ξ ∧ (∀ v H' G' d n', Ok X.K B g σ H' G' n' → Same G G' → Da X.K G' v d → φ d n' → Q v H') ∧ Xw X B EX ξ
def EJ (X : Cx) (EX : XR) (e : Expr) (g : List Sl) (x : m D) : Prop := PE X e (teJ X EX g x)
/-- an expression that gives a new list, not data yet -/
def tlJ (X : Cx) (EX : XR) (g : List Sl) (x : m (List D)) : TE := fun σ H Q => ∃ B G n φ ξ, Ok X.K B g σ H G n ∧ Mo.sat x n φ ξ ∧
  (∀ p xs H' G' ds n', Ok X.K B g σ H' G' n' → Same G G' → B.H p = none → G' p = none → H' p = some (.lst xs) → (∀ (i : Nat) (es : List D) (f : Addr), g[i]? = some (Sl.own es) → σ[i]? = some (some (V.ref f)) → f ≠ p) → DaAll X.K G' xs ds → φ ds n' → Q (.ref p) H') ∧ Xw X B EX ξ
def LJ (X : Cx) (EX : XR) (e : Expr) (g : List Sl) (x : m (List D)) : Prop := PE X e (tlJ X EX g x)
def ttJ (X : Cx) (EX : XR) (g : List Sl) (x : m Bool) : TT := fun σ H Q => ∃ B G n φ ξ, Ok X.K B g σ H G n ∧ Mo.sat x n φ ξ ∧ (∀ b H' G' n', Ok X.K B g σ H' G' n' → Same G G' → φ b n' → Q b H') ∧ Xw X B EX ξ
def TJ (X : Cx) (EX : XR) (e : Expr) (g : List Sl) (x : m Bool) : Prop := PT X e (ttJ X EX g x)
/-- arguments: data, or the deck -/
def ArgOk (K : PySem.W.Frag) (B : Bs) (G : Hp) : V → Sl → Prop
  | v, .val d => Da K G v d
  | v, .deck => ∃ a b, B.dk = some (a, b) ∧ v = .ref a
  | _, _ => False
inductive ArgsOk (K : PySem.W.Frag) (B : Bs) (G : Hp) : List V → List Sl → Prop
  | nil : ArgsOk K B G [] []
  | cons {v : V} {vs : List V} {a : Sl} {as : List Sl} : ArgOk K B G v a → ArgsOk K B G vs as → ArgsOk K B G (v :: vs) (a :: as)
def taJ (X : Cx) (EX : XR) (g : List Sl) (x : m (List Sl)) : TA := fun σ H Q => ∃ B G n φ ξ, Ok X.K B g σ H G n ∧ Mo.sat x n φ ξ ∧ (∀ vs H' G' as n', Ok X.K B g σ H' G' n' → Same G G' → ArgsOk X.K B G' vs as → φ as n' → Q vs H') ∧ Xw X B EX ξ
def AJ (X : Cx) (EX : XR) (es : List Expr) (g : List Sl) (x : m (List Sl)) : Prop := PA X es (taJ X EX g x)
end
theorem _root_.L2.PE.weak {X : Cx} {e : Expr} {t t' : TE} (h : PE X e t) (w : ∀ σ H Q, t' σ H Q → t σ H Q) : PE X e t' := ⟨fun pins s σ H Q I q => h.run pins s σ H Q I (w _ _ _ q)⟩
theorem _root_.L2.PT.weak {X : Cx} {e : Expr} {t t' : TT} (h : PT X e t) (w : ∀ σ H Q, t' σ H Q → t σ H Q) : PT X e t' := ⟨fun pins s σ H Q I q => h.run pins s σ H Q I (w _ _ _ q)⟩
theorem _root_.L2.PA.weak {X : Cx} {es : List Expr} {t t' : TA} (h : PA X es t) (w : ∀ σ H Q, t' σ H Q → t σ H Q) : PA X es t' := ⟨fun pos pins s σ H Q I q => h.run pos pins s σ H Q I (w _ _ _ q)⟩
theorem _root_.L2.PSs.weak {X : Cx} {ss : List Stmt} {t t' : TS} (h : PSs X ss t) (w : ∀ D σ H, t' D σ H → t D σ H) : PSs X ss t' := ⟨fun pins s σ H D I q => h.run pins s σ H D I (w _ _ _ q)⟩
theorem _root_.L2.PS.weak {X : Cx} {ss : Stmt} {t t' : TS} (h : PS X ss t) (w : ∀ D σ H, t' D σ H → t D σ H) : PS X ss t' := ⟨fun pins s σ H D I q => h.run pins s σ H D I (w _ _ _ q)⟩
end DD
namespace DD
open PySem PySem.Spec PyProof.Rows L2
/-- the heap and its data grow -/
structure Gr (H G H' G' : Hp) : Prop where
  h : Same H H'
  g : Same G G'
  sub : SubM G' H'
  new : ∀ a, H a ≠ none → G a = none → G' a = none
  mks : ∀ a u, isMk u = true → G' a = some u → G a = some u
theorem Gr.refl {H G : Hp} (s : SubM G H) : Gr H G H G := ⟨Same.refl _, Same.refl _, s, fun _ _ q => q, fun _ _ _ q => q⟩
theorem Ok.gr {K : PySem.W.Frag} {B : Bs} {g : List Sl} {σ : L2.St} {H G H' G' : Hp} {n : Wd} (o : Ok K B g σ H G n) (r : Gr H G H' G') : Ok K B g σ H' G' n := o.grow r.h r.g r.sub r.new r.mks
theorem Gr.alloc {H G : Hp} {p : Addr} {u : HO} (s : SubM G H) (h : H p = none) (hu : isMk u = false := by rfl) : Gr H G (upd H p u) (upd G p u) := by
  have hg : G p = none := s.t p h
  refine ⟨same_upd h, same_upd hg, ⟨fun a z e m => ?_, fun a e => ?_⟩, fun a e q => ?_, fun a w m e => ?_⟩
  · unfold upd at e ⊢
    split at e
    · rename_i ha; rw [if_pos ha]; exact e
    · rename_i ha; rw [if_neg ha]; exact s.h _ _ e m
  · unfold upd at e ⊢
    split at e
    · cases e
    · rename_i ha; rw [if_neg ha]; exact s.t a e
  · have : a ≠ p := by rintro rfl; exact e h
    rw [upd_ne this]; exact q
  · unfold upd at e
    split at e
    · cases e; rw [hu] at m; cases m
    · exact e
theorem Gr.trans {H G H1 G1 H2 G2 : Hp} (a : Gr H G H1 G1) (b : Gr H1 G1 H2 G2) : Gr H G H2 G2 :=
  ⟨a.h.trans b.h, a.g.trans b.g, b.sub, fun x e q => b.new x (by
    cases h : H x with
    | none => exact absurd h e
    | some o => rw [a.h _ _ h]; simp) (a.new x e q), fun x u m e => a.mks x u m (b.mks x u m e)⟩
/-- operations on data behind operations on values -/
def RD (K : PySem.W.Frag) (r : R2) (f : D → D → Option D) : Prop := ∀ (x y : V) (dx dy z : D) (H G : Hp) (Q : VK), Da K G x dx → Da K G y dy → SubM G H → f dx dy = some z → (∀ v H' G', Gr H G H' G' → Da K G' v z → Q v H') → r x y H Q
def RU1 (K : PySem.W.Frag) (r : V → Hp → VK → Prop) (f : D → Option D) : Prop := ∀ (x : V) (dx z : D) (H G : Hp) (Q : VK), Da K G x dx → SubM G H → f dx = some z → (∀ v H' G', Gr H G H' G' → Da K G' v z → Q v H') → r x H Q
def RC1 (K : PySem.W.Frag) (r : List V → Hp → VK → Prop) (f : D → Option D) : Prop := ∀ (x : V) (dx z : D) (H G : Hp) (Q : VK), Da K G x dx → SubM G H → f dx = some z → (∀ v H' G', Gr H G H' G' → Da K G' v z → Q v H') → r [x] H Q
section
variable {m : Type → Type} [Mo m] {X : Cx} {EX : XR} {g : List Sl}
/-! ### names, constants -/
theorem ej_var (i : Nat) {x : Str} {pos : Pos} {d : D} (hs : g[i]? = some (Sl.val d) := by rfl) (hN : X.N[i]? = some x := by rfl) (hv : Vis X.env.scope x := by first | exact Or.inl rfl | exact Or.inr (Or.inl rfl) | exact Or.inr (Or.inr rfl)) (hd : (x == ("__debug__" : Str)) = false := by decide)
    (hcd : (x == ("__classdict__" : Str)) = false := by decide) : EJ (m := m) X EX (.Name x pos) g (pure d) :=
  (pe_var hN hv hd hcd).weak fun σ H Q ⟨B, G, n, φ, ξ, o, s, q, _⟩ => by
    obtain ⟨v, h1, h2⟩ := o.val i d hs
    exact ⟨v, h1, q v H G d n o (Same.refl _) h2 (Mo.sat_pure s)⟩
theorem ej_c {e : Expr} {v : V} {d : D} (h : PE X e (tC v)) (hd : ∀ K G, Da K G v d) : EJ (m := m) X EX e g (pure d) :=
  h.weak fun σ H Q ⟨B, G, n, φ, ξ, o, s, q, _⟩ => q v H G d n o (Same.refl _) (hd _ _) (Mo.sat_pure s)
theorem ej_int {i : Int} {j pos} : EJ (m := m) X EX (.Constant (.int i) j pos) g (pure (.int i)) := ej_c pe_int fun _ _ => .int i
theorem ej_bl {b : Bool} {j pos} : EJ (m := m) X EX (.Constant (.bool b) j pos) g (pure (.bool b)) := ej_c pe_bl fun _ _ => .bl b
theorem ej_non {j pos} : EJ (m := m) X EX (.Constant .none j pos) g (pure .none) := ej_c pe_non fun _ _ => .non
theorem ej_str {x : Str} {j pos} : EJ (m := m) X EX (.Constant (.str x) j pos) g (pure (.str x)) := ej_c pe_str fun _ _ => .str x
theorem ej_gint {x : Str} {i : Int} {t : Tok} {pos : Pos} (hm : X.mg x = some (.int i t)) (hg : Gl X x := by rfl) (hd : (x == ("__debug__" : Str)) = false := by decide) : EJ (m := m) X EX (.Name x pos) g (pure (.int i)) :=
  ej_c (pe_glob (v := .int i) hg hm ⟨t, rfl⟩ hd) fun _ _ => .int i
theorem ej_gstr {x : Str} {i : Str} {t : Tok} {pos : Pos} (hm : X.mg x = some (.str i t)) (hg : Gl X x := by rfl) (hd : (x == ("__debug__" : Str)) = false := by decide) : EJ (m := m) X EX (.Name x pos) g (pure (.str i)) :=
  ej_c (pe_glob (v := .str i) hg hm ⟨t, rfl⟩ hd) fun _ _ => .str i
/-! ### one and two operands -/
theorem te_one {α : Type} {x : m D} {f : D → m α} {n : Wd} {φ : α → Wd → Prop} {ξ : Exn → Wd → Prop} {B : Bs} {σ : L2.St} {H G : Hp} {Q : VK} (o : Ok X.K B g σ H G n) (s : Mo.sat (x >>= f) n φ ξ)
    (q : ∀ v H' G' d n', Ok X.K B g σ H' G' n' → Same G G' → Da X.K G' v d → Mo.sat (f d) n' φ ξ → Q v H') (xw : Xw X B EX ξ) : teJ X EX g x σ H Q :=
  ⟨B, G, n, _, ξ, o, Mo.sat_bind s, q, xw⟩
theorem ej_bin {a b : Expr} {op : Operator} {pos : Pos} {r : R2} {f : D → D → Option D} {x y : m D} (ho : OpR X (binaryOp op) r) (hr : RD X.K r f) (ha : EJ X EX a g x) (hb : EJ X EX b g y) :
    EJ X EX (.BinOp a op b pos) g (x >>= fun dx => y >>= fun dy => Mo.lift (f dx dy)) :=
  (pe_op ho ha hb).weak fun σ H Q ⟨B, G, n, φ, ξ, o, s, q, xw⟩ => te_one o s (fun v H1 G1 d n1 o1 g1 d1 s1 => te_one o1 s1 (fun w H2 G2 e n2 o2 g2 d2 s2 => by
    obtain ⟨z, ez, pz⟩ := Mo.sat_lift s2
    exact hr v w d e z H2 G2 Q (d1.mono g2) d2 o2.fm.sub ez fun u H3 G3 gr du => q u H3 G3 z n2 (o2.gr gr) ((g1.trans g2).trans gr.g) du pz) xw) xw
theorem ej_cmp {a b : Expr} {op : CmpOp} {pos : Pos} {r : R2} {f : D → D → Option D} {x y : m D} (ho : OpR X (compareOp op) r) (hr : RD X.K r f) (ha : EJ X EX a g x) (hb : EJ X EX b g y) (hn : behindInMarks op b = false := by first | exact nobehind _ (by decide) (by decide) | rfl) :
    EJ X EX (.Compare a [op] [b] pos) g (x >>= fun dx => y >>= fun dy => Mo.lift (f dx dy)) :=
  (pe_cmpR ho ha hb hn).weak fun σ H Q ⟨B, G, n, φ, ξ, o, s, q, xw⟩ => te_one o s (fun v H1 G1 d n1 o1 g1 d1 s1 => te_one o1 s1 (fun w H2 G2 e n2 o2 g2 d2 s2 => by
    obtain ⟨z, ez, pz⟩ := Mo.sat_lift s2
    exact hr v w d e z H2 G2 Q (d1.mono g2) d2 o2.fm.sub ez fun u H3 G3 gr du => q u H3 G3 z n2 (o2.gr gr) ((g1.trans g2).trans gr.g) du pz) xw) xw
theorem ej_ix {a b : Expr} {pos : Pos} {r : R2} {f : D → D → Option D} {x y : m D} (ho : IxR X r) (hr : RD X.K r f) (ha : EJ X EX a g x) (hb : EJ X EX b g y) (hs : PlainIx b) :
    EJ X EX (.Subscript a b pos) g (x >>= fun dx => y >>= fun dy => Mo.lift (f dx dy)) :=
  (pe_ix ho ha hb hs).weak fun σ H Q ⟨B, G, n, φ, ξ, o, s, q, xw⟩ => te_one o s (fun v H1 G1 d n1 o1 g1 d1 s1 => te_one o1 s1 (fun w H2 G2 e n2 o2 g2 d2 s2 => by
    obtain ⟨z, ez, pz⟩ := Mo.sat_lift s2
    exact hr v w d e z H2 G2 Q (d1.mono g2) d2 o2.fm.sub ez fun u H3 G3 gr du => q u H3 G3 z n2 (o2.gr gr) ((g1.trans g2).trans gr.g) du pz) xw) xw
theorem ej_un {a : Expr} {op : UnaryOp} {pos : Pos} {r : V → Hp → VK → Prop} {f : D → Option D} {x : m D} (ho : UnR X (unaryOp op) r) (hr : RU1 X.K r f) (ha : EJ X EX a g x) :
    EJ X EX (.UnaryOp op a pos) g (x >>= fun dx => Mo.lift (f dx)) :=
  (pe_un ho ha).weak fun σ H Q ⟨B, G, n, φ, ξ, o, s, q, xw⟩ => te_one o s (fun v H1 G1 d n1 o1 g1 d1 s1 => by
    obtain ⟨z, ez, pz⟩ := Mo.sat_lift s1
    exact hr v d z H1 G1 Q d1 o1.fm.sub ez fun u H3 G3 gr du => q u H3 G3 z n1 (o1.gr gr) (g1.trans gr.g) du pz) xw
theorem ej_call1 {fx : Str} {p pos : Pos} {a : Expr} {id : String} {r : List V → Hp → VK → Prop} {f : D → Option D} {x : m D} (hc : CallR X (.builtin id) r) (hr : RC1 X.K r f) (hm : X.mg fx = none) (ha : EJ X EX a g x) (hv : bootBuiltins fx = some (.builtin id) := by decide +kernel) (hg : Gl X fx := by rfl)
    (hn : fx ≠ "__name__" := by decide) (hdb : (fx == ("__debug__" : Str)) = false := by decide) (hs : starEach [a] X.env = (false, eval a X.env) :: starEach [] X.env := by rfl) :
    EJ X EX (.Call (.Name fx p) [a] [] pos) g (x >>= fun d => Mo.lift (f d)) :=
  (pe_callB hc hg hm hv (pa_cons ha pa_nil hs) hn hdb hs rfl).weak fun σ H Q ⟨B, G, n, φ, ξ, o, s, q, xw⟩ => te_one o s (fun v H1 G1 d n1 o1 g1 d1 s1 => by
    obtain ⟨z, ez, pz⟩ := Mo.sat_lift s1
    exact hr v d z H1 G1 Q d1 o1.fm.sub ez fun u H3 G3 gr du => q u H3 G3 z n1 (o1.gr gr) (g1.trans gr.g) du pz) xw
theorem ej_callT {fx : Str} {p pos : Pos} {a : Expr} {T : String} {r : List V → Hp → VK → Prop} {f : D → Option D} {x : m D} (hc : CallR X (.type T) r) (hr : RC1 X.K r f) (hm : X.mg fx = none) (ha : EJ X EX a g x) (hv : bootBuiltins fx = some (.type T) := by decide +kernel) (hg : Gl X fx := by rfl)
    (hn : fx ≠ "__name__" := by decide) (hdb : (fx == ("__debug__" : Str)) = false := by decide) (hs : starEach [a] X.env = (false, eval a X.env) :: starEach [] X.env := by rfl) :
    EJ X EX (.Call (.Name fx p) [a] [] pos) g (x >>= fun d => Mo.lift (f d)) :=
  (pe_callTy hc hg hm hv (pa_cons ha pa_nil hs) hn hdb hs rfl).weak fun σ H Q ⟨B, G, n, φ, ξ, o, s, q, xw⟩ => te_one o s (fun v H1 G1 d n1 o1 g1 d1 s1 => by
    obtain ⟨z, ez, pz⟩ := Mo.sat_lift s1
    exact hr v d z H1 G1 Q d1 o1.fm.sub ez fun u H3 G3 gr du => q u H3 G3 z n1 (o1.gr gr) (g1.trans gr.g) du pz) xw
/-! ### arguments, displays -/
theorem ArgsOk.mono {K : PySem.W.Frag} {B : Bs} {G G' : Hp} (s : Same G G') : ∀ {vs : List V} {as : List Sl}, ArgsOk K B G vs as → ArgsOk K B G' vs as
  | _, _, .nil => .nil
  | _, _, .cons (a := .val d) h r => .cons (show Da _ _ _ _ from Da.mono s h) (ArgsOk.mono s r)
  | _, _, .cons (a := .deck) h r => .cons h (ArgsOk.mono s r)
  | _, _, .cons (a := .own _) h _ => h.elim
  | _, _, .cons (a := .any) h _ => h.elim
  | _, _, .cons (a := .exn _ _ _) h _ => h.elim
theorem aj_nil : AJ (m := m) X EX [] g (pure []) := pa_nil.weak fun σ H Q ⟨B, G, n, φ, ξ, o, s, q, _⟩ => q [] H G [] n o (Same.refl _) .nil (Mo.sat_pure s)
theorem aj_cons {e : Expr} {es : List Expr} {x : m D} {y : m (List Sl)} (he : EJ X EX e g x) (hr : AJ X EX es g y) (hs : starEach (e :: es) X.env = (false, eval e X.env) :: starEach es X.env := by rfl) : AJ X EX (e :: es) g (x >>= fun d => y >>= fun as => pure (.val d :: as)) :=
  (pa_cons he hr hs).weak fun σ H Q ⟨B, G, n, φ, ξ, o, s, q, xw⟩ => te_one o s (fun v H1 G1 d n1 o1 g1 d1 s1 => ⟨B, G1, n1, _, ξ, o1, Mo.sat_bind s1, fun vs H2 G2 as n2 o2 g2 a2 s2 =>
    q (v :: vs) H2 G2 (.val d :: as) n2 o2 (g1.trans g2) (.cons (show Da _ _ _ _ from d1.mono g2) a2) (Mo.sat_pure s2), xw⟩) xw
theorem aj_deck (i : Nat) {x : Str} {pos : Pos} {es : List Expr} {y : m (List Sl)} (hr : AJ X EX es g y) (hg : g[i]? = some Sl.deck := by rfl) (hN : X.N[i]? = some x := by rfl) (hv : Vis X.env.scope x := by first | exact Or.inl rfl | exact Or.inr (Or.inl rfl) | exact Or.inr (Or.inr rfl))
    (hd : (x == ("__debug__" : Str)) = false := by decide) (hcd : (x == ("__classdict__" : Str)) = false := by decide) (hs : starEach (.Name x pos :: es) X.env = (false, eval (.Name x pos) X.env) :: starEach es X.env := by rfl) : AJ X EX (.Name x pos :: es) g (y >>= fun as => pure (.deck :: as)) :=
  (pa_cons (pe_var hN hv hd hcd) hr hs).weak fun σ H Q ⟨B, G, n, φ, ξ, o, s, q, xw⟩ => by
    obtain ⟨a, b, e1, e2⟩ := o.dck i hg
    exact ⟨.ref a, e2, B, G, n, _, ξ, o, Mo.sat_bind s, fun vs H2 G2 as n2 o2 g2 a2 s2 => q _ H2 G2 (.deck :: as) n2 o2 g2 (.cons ⟨a, b, e1, rfl⟩ a2) (Mo.sat_pure s2), xw⟩
end
end DD
namespace DD
open PySem PySem.Spec PyProof.Rows L2
def boolD : D → Option Bool
  | .bool b => some b
  | _ => none
section
variable {m : Type → Type} [Mo m] {X : Cx} {EX : XR} {g : List Sl}
theorem Da.bool {K : PySem.W.Frag} {G : Hp} {v : V} {d : D} {b : Bool} (h : Da K G v d) (e : boolD d = some b) : v = .bl b := by
  cases h <;> simp [boolD] at e
  rw [e]
/-! ### tests -/
theorem tt_one {α : Type} {x : m Bool} {f : Bool → m α} {n : Wd} {φ : α → Wd → Prop} {ξ : Exn → Wd → Prop} {B : Bs} {σ : L2.St} {H G : Hp} {Q : Bool → Hp → Prop} (o : Ok X.K B g σ H G n) (s : Mo.sat (x >>= f) n φ ξ)
    (q : ∀ b H' G' n', Ok X.K B g σ H' G' n' → Same G G' → Mo.sat (f b) n' φ ξ → Q b H') (xw : Xw X B EX ξ) : ttJ X EX g x σ H Q :=
  ⟨B, G, n, _, ξ, o, Mo.sat_bind s, q, xw⟩
theorem tj_val {e : Expr} {x : m D} (h : EJ X EX e g x) (he : ∀ whole, isTrue e X.env whole = (do let v ← whole; standAt e.pos; holding [v] (truthy v)) := by intro _; rfl) : TJ X EX e g (x >>= fun d => Mo.lift (boolD d)) :=
  (pt_val h he).weak fun σ H Q ⟨B, G, n, φ, ξ, o, s, q, xw⟩ => te_one o s (fun v H1 G1 d n1 o1 g1 d1 s1 => by
    obtain ⟨b, eb, pb⟩ := Mo.sat_lift s1
    exact ⟨b, d1.bool eb, q b H1 G1 n1 o1 g1 pb⟩) xw
theorem tj_cmp {a b : Expr} {op : CmpOp} {pos : Pos} {r : R2} {f : D → D → Option D} {x y : m D} (ho : OpR X (compareOp op) r) (hr : RD X.K r f) (ha : EJ X EX a g x) (hb : EJ X EX b g y) (hn : behindInMarks op b = false := by first | exact nobehind _ (by decide) (by decide) | rfl) :
    TJ X EX (.Compare a [op] [b] pos) g (x >>= fun dx => y >>= fun dy => Mo.lift ((f dx dy).bind boolD)) :=
  (pt_cmpR ho ha hb hn).weak fun σ H Q ⟨B, G, n, φ, ξ, o, s, q, xw⟩ => te_one o s (fun v H1 G1 d n1 o1 g1 d1 s1 => te_one o1 s1 (fun w H2 G2 e n2 o2 g2 d2 s2 => by
    obtain ⟨b, eb, pb⟩ := Mo.sat_lift s2
    obtain ⟨z, ez, eb⟩ := Option.bind_eq_some_iff.mp eb
    exact hr v w d e z H2 G2 _ (d1.mono g2) d2 o2.fm.sub ez fun u H3 G3 gr du => ⟨b, du.bool eb, q b H3 G3 n2 (o2.gr gr) ((g1.trans g2).trans gr.g) pb⟩) xw) xw
/-- a < b < c: the second comparison's answer as it is -/
theorem te_chain {op op' : CmpOp} {a b c : Expr} {pos : Pos} {r r' : R2} {f f' : D → D → Option D} {x y z : m D} (ho : OpR X (compareOp op) r) (hr : RD X.K r f) (ho' : OpR X (compareOp op') r') (hr' : RD X.K r' f') (ha : EJ X EX a g x) (hb : EJ X EX b g y) (hc : EJ X EX c g z) {Q : VK} {σ : L2.St} {H : Hp}
    (h : teJ X EX g (x >>= fun dx => y >>= fun dy => Mo.lift ((f dx dy).bind boolD) >>= fun k => if k = true then (z >>= fun dz => Mo.lift (f' dy dz)) else pure (.bool false)) σ H Q) : tChain r r' (teJ X EX g x) (teJ X EX g y) (teJ X EX g z) σ H Q := by
  obtain ⟨B, G, n, φ, ξ, o, s, q, xw⟩ := h
  refine te_one o s (fun v H1 G1 d n1 o1 g1 d1 s1 => te_one o1 s1 (fun w H2 G2 e n2 o2 g2 d2 s2 => ?_) xw) xw
  obtain ⟨k, ek, s3⟩ := Mo.sat_lift (Mo.sat_bind s2)
  obtain ⟨u, eu, ek⟩ := Option.bind_eq_some_iff.mp ek
  refine hr v w d e u H2 G2 _ (d1.mono g2) d2 o2.fm.sub eu fun u' H3 G3 gr du => ⟨k, du.bool ek, ?_⟩
  cases k with
  | true =>
    rw [if_pos rfl] at s3 ⊢
    refine te_one (o2.gr gr) s3 (fun v' H4 G4 d' n4 o4 g4 d4 s4 => ?_) xw
    obtain ⟨z', ez, pz⟩ := Mo.sat_lift s4
    exact hr' w v' e d' z' H4 G4 Q ((d2.mono gr.g).mono g4) d4 o4.fm.sub ez fun u2 H5 G5 gr5 du5 => q u2 H5 G5 z' n4 (o4.gr gr5) ((((g1.trans g2).trans gr.g).trans g4).trans gr5.g) du5 pz
  | false =>
    rw [if_neg Bool.false_ne_true] at s3 ⊢
    exact q _ H3 G3 _ n2 (o2.gr gr) ((g1.trans g2).trans gr.g) (.bl false) (Mo.sat_pure s3)
theorem ej_chain {op op' : CmpOp} {a b c : Expr} {pos : Pos} {r r' : R2} {f f' : D → D → Option D} {x y z : m D} (ho : OpR X (compareOp op) r) (hr : RD X.K r f) (ho' : OpR X (compareOp op') r') (hr' : RD X.K r' f') (ha : EJ X EX a g x) (hb : EJ X EX b g y) (hc : EJ X EX c g z)
    (hm : lastMarks [op, op'] [b, c] = false := by with_unfolding_all rfl) :
    EJ X EX (.Compare a [op, op'] [b, c] pos) g (x >>= fun dx => y >>= fun dy => Mo.lift ((f dx dy).bind boolD) >>= fun k => if k = true then (z >>= fun dz => Mo.lift (f' dy dz)) else pure (.bool false)) :=
  (pe_chain ho ho' ha hb hc hm).weak fun σ H Q h => te_chain (op := op) (op' := op') (pos := pos) ho hr ho' hr' ha hb hc h
theorem tj_chain {op op' : CmpOp} {a b c : Expr} {pos : Pos} {r r' : R2} {f f' : D → D → Option D} {x y z : m D} (ho : OpR X (compareOp op) r) (hr : RD X.K r f) (ho' : OpR X (compareOp op') r') (hr' : RD X.K r' f') (ha : EJ X EX a g x) (hb : EJ X EX b g y) (hc : EJ X EX c g z)
    (hm : lastMarks [op, op'] [b, c] = false := by with_unfolding_all rfl) :
    TJ X EX (.Compare a [op, op'] [b, c] pos) g ((x >>= fun dx => y >>= fun dy => Mo.lift ((f dx dy).bind boolD) >>= fun k => if k = true then (z >>= fun dz => Mo.lift (f' dy dz)) else pure (.bool false)) >>= fun d => Mo.lift (boolD d)) :=
  (pt_chain ho ho' ha hb hc hm).weak fun σ H Q ⟨B, G, n, φ, ξ, o, s, q, xw⟩ => te_chain (op := op) (op' := op') (pos := pos) ho hr ho' hr' ha hb hc (te_one o s (fun v H1 G1 d n1 o1 g1 d1 s1 => by
    obtain ⟨b, eb, pb⟩ := Mo.sat_lift s1
    exact ⟨b, d1.bool eb, q b H1 G1 n1 o1 g1 pb⟩) xw)
theorem tj_not {a : Expr} {pos : Pos} {x : m Bool} (ha : TJ X EX a g x) : TJ X EX (.UnaryOp .Not a pos) g (x >>= fun b => pure (!b)) :=
  (pt_not ha).weak fun σ H Q ⟨B, G, n, φ, ξ, o, s, q, xw⟩ => tt_one o s (fun b H1 G1 n1 o1 g1 s1 => q _ H1 G1 n1 o1 g1 (Mo.sat_pure s1)) xw
/-- and, or: the rest is a test of its own -/
def WJ (X : Cx) (EX : XR) (e : Expr) (g : List Sl) (x : m Bool) : Prop := PW X e (ttJ X EX g x)
theorem _root_.L2.PW.weak {X : Cx} {e : Expr} {t t' : TT} (h : PW X e t) (w : ∀ σ H Q, t' σ H Q → t σ H Q) : PW X e t' := ⟨fun wh pins s σ H Q I q => h.run wh pins s σ H Q I (w _ _ _ q)⟩
theorem tj_w {e : Expr} {x : m Bool} (h : WJ X EX e g x) : TJ X EX e g x := PW.pt h
theorem wj_and1 {a : Expr} {pos : Pos} {x : m Bool} (ha : TJ X EX a g x) : WJ X EX (.BoolOp .And [a] pos) g x := pw_and1 ha
theorem wj_or1 {a : Expr} {pos : Pos} {x : m Bool} (ha : TJ X EX a g x) : WJ X EX (.BoolOp .Or [a] pos) g x := pw_or1 ha
theorem wj_and {a b : Expr} {rest : List Expr} {pos : Pos} {x y : m Bool} (ha : TJ X EX a g x) (hb : WJ X EX (.BoolOp .And (b :: rest) pos) g y) : WJ X EX (.BoolOp .And (a :: b :: rest) pos) g (x >>= fun k => if k = true then y else pure false) :=
  (pw_and ha hb).weak fun σ H Q ⟨B, G, n, φ, ξ, o, s, q, xw⟩ => tt_one o s (fun b H1 G1 n1 o1 g1 s1 => by
    cases b with
    | true =>
      rw [if_pos rfl] at s1 ⊢
      exact ⟨B, G1, n1, φ, ξ, o1, s1, fun b H2 G2 n2 o2 g2 p2 => q b H2 G2 n2 o2 (g1.trans g2) p2, xw⟩
    | false =>
      rw [if_neg Bool.false_ne_true] at s1 ⊢
      exact q false H1 G1 n1 o1 g1 (Mo.sat_pure s1)) xw
theorem wj_or {a b : Expr} {rest : List Expr} {pos : Pos} {x y : m Bool} (ha : TJ X EX a g x) (hb : WJ X EX (.BoolOp .Or (b :: rest) pos) g y) : WJ X EX (.BoolOp .Or (a :: b :: rest) pos) g (x >>= fun k => if k = true then pure true else y) :=
  (pw_or ha hb).weak fun σ H Q ⟨B, G, n, φ, ξ, o, s, q, xw⟩ => tt_one o s (fun b H1 G1 n1 o1 g1 s1 => by
    cases b with
    | true =>
      rw [if_pos rfl] at s1 ⊢
      exact q true H1 G1 n1 o1 g1 (Mo.sat_pure s1)
    | false =>
      rw [if_neg Bool.false_ne_true] at s1 ⊢
      exact ⟨B, G1, n1, φ, ξ, o1, s1, fun b H2 G2 n2 o2 g2 p2 => q b H2 G2 n2 o2 (g1.trans g2) p2, xw⟩) xw
/-- .. as values -/
theorem ej_one {op} {a : Expr} {pos : Pos} {x : m D} (h : EJ X EX a g x) : EJ X EX (.BoolOp op [a] pos) g x := pe_one h
theorem ej_and {a b : Expr} {rest : List Expr} {pos : Pos} {x y : m D} (ha : EJ X EX a g x) (hb : EJ X EX (.BoolOp .And (b :: rest) pos) g y) : EJ X EX (.BoolOp .And (a :: b :: rest) pos) g (x >>= fun d => Mo.lift (boolD d) >>= fun k => if k = true then y else pure (.bool false)) :=
  (pe_and ha hb).weak fun σ H Q ⟨B, G, n, φ, ξ, o, s, q, xw⟩ => te_one o s (fun v H1 G1 d n1 o1 g1 d1 s1 => by
    obtain ⟨b, eb, s2⟩ := Mo.sat_lift (Mo.sat_bind s1)
    refine ⟨b, d1.bool eb, ?_⟩
    cases b with
    | true =>
      rw [if_pos rfl] at s2 ⊢
      exact ⟨B, G1, n1, φ, ξ, o1, s2, fun v H2 G2 e n2 o2 g2 d2 p2 => q v H2 G2 e n2 o2 (g1.trans g2) d2 p2, xw⟩
    | false =>
      rw [if_neg Bool.false_ne_true] at s2 ⊢
      exact q _ H1 G1 _ n1 o1 g1 (.bl false) (Mo.sat_pure s2)) xw
def notD : D → Option D
  | .bool b => some (.bool (!b))
  | _ => none
theorem ej_not {a : Expr} {pos : Pos} {x : m D} (ha : EJ X EX a g x) : EJ X EX (.UnaryOp .Not a pos) g (x >>= fun d => Mo.lift (notD d)) :=
  (pe_not ha).weak fun σ H Q ⟨B, G, n, φ, ξ, o, s, q, xw⟩ => te_one o s (fun v H1 G1 d n1 o1 g1 d1 s1 => by
    obtain ⟨z, ez, pz⟩ := Mo.sat_lift s1
    cases d with
    | bool b =>
      cases d1
      cases ez
      exact ⟨b, rfl, q _ H1 G1 _ n1 o1 g1 (.bl _) pz⟩
    | _ => cases ez) xw
theorem ej_if {c a b : Expr} {pos : Pos} {t : m Bool} {x y : m D} (hc : TJ X EX c g t) (ha : EJ X EX a g x) (hb : EJ X EX b g y) : EJ X EX (.IfExp c a b pos) g (t >>= fun k => if k = true then x else y) :=
  (pe_ifExp hc ha hb).weak fun σ H Q ⟨B, G, n, φ, ξ, o, s, q, xw⟩ => tt_one o s (fun b H1 G1 n1 o1 g1 s1 => by
    cases b with
    | true =>
      rw [if_pos rfl] at s1 ⊢
      exact ⟨B, G1, n1, φ, ξ, o1, s1, fun v H2 G2 e n2 o2 g2 d2 p2 => q v H2 G2 e n2 o2 (g1.trans g2) d2 p2, xw⟩
    | false =>
      rw [if_neg Bool.false_ne_true] at s1 ⊢
      exact ⟨B, G1, n1, φ, ξ, o1, s1, fun v H2 G2 e n2 o2 g2 d2 p2 => q v H2 G2 e n2 o2 (g1.trans g2) d2 p2, xw⟩) xw
/-! ### displays -/
def itemsD : D → Option (List D)
  | .list ds => some ds
  | .tuple ds => some ds
  | _ => none
theorem Da.seq {K : PySem.W.Frag} {G : Hp} {v : V} {d : D} {ds : List D} (h : Da K G v d) (e : itemsD d = some ds) : ∃ a xs, v = .ref a ∧ (SqT K G a xs ∨ SqL K G a xs) ∧ DaAll K G xs ds := by
  cases h with
  | lst h1 h2 => cases e; exact ⟨_, _, rfl, .inr (SqL.of h1), h2⟩
  | tup h1 h2 => cases e; exact ⟨_, _, rfl, .inl h1, h2⟩
  | _ => cases e
/-- written items: data alone; L their number, where no star stands among them -/
def tdJ (X : Cx) (EX : XR) (g : List Sl) (x : m (List D)) (L : Option Nat) : TA := fun σ H Q => ∃ B G n φ ξ, Ok X.K B g σ H G n ∧ Mo.sat x n φ ξ ∧ (∀ vs H' G' ds n', Ok X.K B g σ H' G' n' → Same G G' → DaAll X.K G' vs ds → (∀ k, L = some k → vs.length = k) → φ ds n' → Q vs H') ∧ Xw X B EX ξ
def DJ (X : Cx) (EX : XR) (es : List Expr) (g : List Sl) (x : m (List D)) (L : Option Nat) : Prop := PA X es (tdJ X EX g x L)
theorem dj_nil : DJ (m := m) X EX [] g (pure []) (some 0) := pa_nil.weak fun σ H Q ⟨B, G, n, φ, ξ, o, s, q, _⟩ => q [] H G [] n o (Same.refl _) .nil (fun k e => by cases e; rfl) (Mo.sat_pure s)
theorem dj_cons {e : Expr} {es : List Expr} {x : m D} {y : m (List D)} {L : Option Nat} (he : EJ X EX e g x) (hr : DJ X EX es g y L) (hs : starEach (e :: es) X.env = (false, eval e X.env) :: starEach es X.env := by rfl) : DJ X EX (e :: es) g (x >>= fun d => y >>= fun ds => pure (d :: ds)) (L.map (· + 1)) :=
  (pa_cons he hr hs).weak fun σ H Q ⟨B, G, n, φ, ξ, o, s, q, xw⟩ => te_one o s (fun v H1 G1 d n1 o1 g1 d1 s1 => ⟨B, G1, n1, _, ξ, o1, Mo.sat_bind s1, fun vs H2 G2 ds n2 o2 g2 a2 l2 s2 =>
    q (v :: vs) H2 G2 (d :: ds) n2 o2 (g1.trans g2) (.cons (d1.mono g2) a2) (fun k e => by
      obtain ⟨j, e1, rfl⟩ := Option.map_eq_some_iff.mp e
      rw [List.length_cons, l2 j e1]) (Mo.sat_pure s2), xw⟩) xw
theorem dj_star {e : Expr} {es : List Expr} {p : Pos} {x : m D} {y : m (List D)} {L : Option Nat} (he : EJ X EX e g x) (hr : DJ X EX es g y L) (hs : starEach (.Starred e p :: es) X.env = (true, eval e X.env) :: starEach es X.env := by rfl) : DJ X EX (.Starred e p :: es) g (x >>= fun d => Mo.lift (itemsD d) >>= fun as => y >>= fun ds => pure (as ++ ds)) none :=
  (StX.pa_star he hr hs).weak fun σ H Q ⟨B, G, n, φ, ξ, o, s, q, xw⟩ => te_one o s (fun v H1 G1 d n1 o1 g1 d1 s1 => by
    obtain ⟨as, ea, s2⟩ := Mo.sat_lift (Mo.sat_bind s1)
    obtain ⟨a, xs, ev, sq, da⟩ := d1.seq ea
    have sq' : SqT X.K H1 a xs ∨ SqL X.K H1 a xs := sq.elim (fun h => .inl (sameT o1.fm.sub h)) fun h => .inr (o1.fm.sub.seq h)
    exact ⟨a, xs, ev, sq', B, G1, n1, _, ξ, o1, Mo.sat_bind s2, fun vs H2 G2 ds n2 o2 g2 a2 _ s3 =>
      q (xs ++ vs) H2 G2 (as ++ ds) n2 o2 (g1.trans g2) ((da.mono g2).append a2) (fun k e => by cases e) (Mo.sat_pure s3), xw⟩) xw
/-- no display is longer than this -/
def small (ds : List D) : Option (List D) := if ds.length ≤ 1000000 then some ds else none
theorem small_eq {ds es : List D} (h : small ds = some es) : es = ds ∧ ds.length ≤ 1000000 := by
  unfold small at h
  split at h
  · rename_i hl; cases h; exact ⟨rfl, hl⟩
  · cases h
theorem le_line {k : Nat} (h : k ≤ 1000000) : k ≤ sizeLine := Nat.le_trans h (by decide)
theorem ej_tup {es : List Expr} {k : Nat} {pos : Pos} {j} {x : m (List D)} (h : DJ X EX es g x (some k)) (hk : k ≤ 1000000 := by decide) : EJ X EX (.Tuple es j pos) g (x >>= fun ds => pure (.tuple ds)) :=
  (pe_tup h).weak fun σ H Q ⟨B, G, n, φ, ξ, o, s, q, xw⟩ => ⟨B, G, n, _, ξ, o, Mo.sat_bind s, fun vs H1 G1 ds n1 o1 g1 a1 l1 s1 => ⟨by rw [l1 k rfl]; exact le_line hk, fun p hp => by
    obtain ⟨o2, g2⟩ := o1.alloc (u := .tup vs) hp
    exact q _ _ _ _ n1 o2 (g1.trans g2) (.tup (.inl (.inl upd_same)) (a1.mono g2)) (Mo.sat_pure s1)⟩, xw⟩
/-- what stood in the heap is not new -/
theorem Ok.fresh {K : PySem.W.Frag} {B : Bs} {σ : L2.St} {H G : Hp} {n : Wd} {p : Addr} (o : Ok K B g σ H G n) (h : H p = none) : B.H p = none ∧ ∀ (i : Nat) (es : List D) (f : Addr), g[i]? = some (Sl.own es) → σ[i]? = some (some (V.ref f)) → f ≠ p := by
  constructor
  · cases e : B.H p with
    | none => rfl
    | some u =>
      by_cases hp : B.fp p
      · exact absurd h (o.fm.fpThere hp)
      · rw [o.fm.keep p u e hp] at h; cases h
  · rintro i es f e1 e2 rfl
    obtain ⟨fn, _, q⟩ := o.own
    obtain ⟨a, _, _, xs, b, _⟩ := q i es e1
    rw [a] at e2
    cases e2
    rw [b] at h; cases h
theorem lj_lst {es : List Expr} {k : Nat} {pos : Pos} {x : m (List D)} (h : DJ X EX es g x (some k)) (hk : k ≤ 1000000 := by decide) : LJ X EX (.List es pos) g x :=
  (pe_lst h).weak fun σ H Q ⟨B, G, n, φ, ξ, o, s, q, xw⟩ => ⟨B, G, n, _, ξ, o, s, fun vs H1 G1 ds n1 o1 g1 a1 l1 s1 => ⟨by rw [l1 k rfl]; exact le_line hk, fun p hp => by
    obtain ⟨f1, f2⟩ := o1.fresh hp
    exact q p vs _ G1 ds n1 (o1.raw hp) g1 f1 (o1.free hp) upd_same f2 a1 s1⟩, xw⟩
theorem lj_lstS {es : List Expr} {L : Option Nat} {pos : Pos} {x : m (List D)} (h : DJ X EX es g x L) : LJ X EX (.List es pos) g (x >>= fun ds => Mo.lift (small ds)) :=
  (pe_lst h).weak fun σ H Q ⟨B, G, n, φ, ξ, o, s, q, xw⟩ => ⟨B, G, n, _, ξ, o, Mo.sat_bind s, fun vs H1 G1 ds n1 o1 g1 a1 l1 s1 => by
    obtain ⟨es', ee, s2⟩ := Mo.sat_lift s1
    obtain ⟨rfl, hl⟩ := small_eq ee
    refine ⟨by rw [a1.length]; exact le_line hl, fun p hp => ?_⟩
    obtain ⟨f1, f2⟩ := o1.fresh hp
    exact q p vs _ G1 _ n1 (o1.raw hp) g1 f1 (o1.free hp) upd_same f2 a1 s2, xw⟩
/-- a new list becomes data -/
theorem Ok.freeze {K : PySem.W.Frag} {B : Bs} {σ : L2.St} {H G : Hp} {n : Wd} {p : Addr} {u : HO} (o : Ok K B g σ H G n) (hb : B.H p = none) (hg : G p = none) (hh : H p = some u) (hf : ∀ (i : Nat) (es : List D) (f : Addr), g[i]? = some (Sl.own es) → σ[i]? = some (some (V.ref f)) → f ≠ p) (hu : isMk u = false := by rfl) :
    Ok K B g σ H (upd G p u) n ∧ Same G (upd G p u) := by
  refine ⟨⟨⟨o.fm.keep, ⟨fun a z e m => ?_, fun a e => ?_⟩, o.fm.old.trans (same_upd hg), o.fm.obs.grow (Same.refl _) (same_upd hg) (fun a w m e => ?_), o.fm.bt, o.fm.tg.trans (same_upd hg), fun a e q => ?_, o.fm.deck⟩, o.len, fun i d e => ?_, ?_, o.dck, fun i a od fs e => ⟨(o.adr i a od fs e).1, (o.adr i a od fs e).2.mono (same_upd hg)⟩⟩, same_upd hg⟩
  · unfold upd at e
    split at e
    · rename_i ha; subst ha; cases e; exact hh
    · exact o.fm.sub.h _ _ e m
  · have : a ≠ p := by rintro rfl; rw [hh] at e; cases e
    rw [upd_ne this]; exact o.fm.sub.t a e
  · unfold upd at e
    split at e
    · cases e; rw [hu] at m; cases m
    · exact e
  · have : a ≠ p := by rintro rfl; exact e hb
    rw [upd_ne this]; exact o.fm.new a e q
  · obtain ⟨v, h1, h2⟩ := o.val i d e
    exact ⟨v, h1, h2.mono (same_upd hg)⟩
  · obtain ⟨f, h1, h2⟩ := o.own
    refine ⟨f, h1, fun i ds e => ?_⟩
    obtain ⟨a, b, c, xs, d, da⟩ := h2 i ds e
    exact ⟨a, by rw [upd_ne (hf i ds _ e a)]; exact b, c, xs, d, da.mono (same_upd hg)⟩
theorem ej_l {e : Expr} {x : m (List D)} (h : LJ X EX e g x) : EJ X EX e g (x >>= fun ds => pure (.list ds)) :=
  PE.weak h fun σ H Q ⟨B, G, n, φ, ξ, o, s, q, xw⟩ => ⟨B, G, n, _, ξ, o, Mo.sat_bind s, fun p xs H1 G1 ds n1 o1 g1 hb hg hh hf a1 s1 => by
    obtain ⟨o2, g2⟩ := o1.freeze hb hg hh hf
    exact q _ H1 _ _ n1 o2 (g1.trans g2) (.lst upd_same (a1.mono g2)) (Mo.sat_pure s1), xw⟩
end
end DD
namespace DD
open PySem PySem.Spec PyProof.Rows L2
/-! ### what is walked -/
structure WalkD (K : PySem.W.Frag) (G : Hp) (J : It) (ds : List D) : Prop where
  goes : ∀ i H, i < ds.length → SubM G H → J.go i H
  stops : ∀ H, SubM G H → J.stop ds.length H
  yields : ∀ i H G1 x H', i < ds.length → Same G G1 → SubM G1 H → J.yld i H x H' → ∃ d G', ds[i]? = some d ∧ Gr H G1 H' G' ∧ Da K G' x d
theorem walkD_list {K : PySem.W.Frag} {G : Hp} {a : Addr} {xs : List V} {ds : List D} (h : SqL K G a xs) (da : DaAll K G xs ds) : WalkD K G (Itl K a) ds where
  goes := fun i H hi s => by
    rw [← da.length] at hi
    exact ⟨xs, xs[i], s.seq h, by simp [hi]⟩
  stops := fun H s => ⟨xs, s.seq h, by rw [da.length]; exact Nat.le_refl _⟩
  yields := fun i H G1 x H' hi s s1 y => by
    obtain ⟨e, y⟩ := y
    subst e
    obtain ⟨d, e1, e2⟩ := da.getV (y xs ((s.subm s1).seq h))
    exact ⟨d, G1, e1, Gr.refl s1, e2.mono s⟩
theorem walkD_tup {K : PySem.W.Frag} {G : Hp} {a : Addr} {xs : List V} {ds : List D} (h : SqT K G a xs) (da : DaAll K G xs ds) : WalkD K G (Itt K a) ds where
  goes := fun i H hi s => by
    rw [← da.length] at hi
    exact ⟨xs, xs[i], sameT s h, by simp [hi]⟩
  stops := fun H s => ⟨xs, sameT s h, by rw [da.length]; exact Nat.le_refl _⟩
  yields := fun i H G1 x H' hi s s1 y => by
    obtain ⟨e, y⟩ := y
    subst e
    obtain ⟨d, e1, e2⟩ := da.getV (y xs (sameT (s.subm s1) h))
    exact ⟨d, G1, e1, Gr.refl s1, e2.mono s⟩
def rangeL (lo : Int) (n : Nat) : List D := (List.range n).map fun i => .int (lo + (i : Nat))
theorem walkD_range {K : PySem.W.Frag} {G : Hp} {lo : Int} {n : Nat} : WalkD K G (Itr lo n) (rangeL lo n) where
  goes := fun i H hi _ => by
    show i < n
    simpa [rangeL] using hi
  stops := fun H _ => by show n ≤ (rangeL lo n).length; simp [rangeL]
  yields := fun i H G1 x H' hi s s1 y => by
    obtain ⟨e, y⟩ := y
    subst e y
    have hi' : i < n := by simpa [rangeL] using hi
    exact ⟨.int (lo + (i : Nat)), G1, by simp [rangeL, hi'], Gr.refl s1, .int _⟩
section
variable {m : Type → Type} [Mo m]
def tiJ (X : Cx) (EX : XR) (g : List Sl) (x : m (List D)) : TI := fun σ H R => ∃ B G n φ ξ, Ok X.K B g σ H G n ∧ Mo.sat x n φ ξ ∧ (∀ J H' G' ds n', Ok X.K B g σ H' G' n' → Same G G' → WalkD X.K G' J ds → φ ds n' → R J H') ∧ Xw X B EX ξ
def IJ (X : Cx) (EX : XR) (tg iter : Expr) (g : List Sl) (x : m (List D)) : Prop := PI X tg iter (tiJ X EX g x)
end
theorem _root_.L2.PI.weak {X : Cx} {tg e : Expr} {t t' : TI} (h : PI X tg e t) (w : ∀ σ H R, t' σ H R → t σ H R) : PI X tg e t' := ⟨fun pins s σ H R I q => h.run pins s σ H R I (w _ _ _ q)⟩
/-- a list or a tuple, whichever has come -/
def iSeq (K : PySem.W.Frag) (tl : TE) : TI := fun σ H R => tl σ H fun x H1 => ∃ a, x = .ref a ∧ (((∃ xs, SqL K H1 a xs) ∧ R (Itl K a) H1) ∨ ((∃ xs, SqT K H1 a xs) ∧ R (Itt K a) H1))
theorem pi_seq {X : Cx} {tg l : Expr} {tl : TE} (hl : PE X l tl) : PI X tg l (iSeq X.K tl) := by
  refine ⟨fun pins s σ H R I h => thn (hl.run pins s σ H _ I h) fun v s1 ⟨x, H1, I1, r1, a, e, q⟩ => ?_⟩
  subst e
  cases r1
  rcases q with ⟨⟨xs, hq⟩, q⟩ | ⟨⟨xs, hq⟩, q⟩
  · obtain ⟨its, rv, p, hz⟩ := I1.list hq
    exact wpAny_pyIter_list p.isList ⟨_, [s1.heap.objs.size], _, _, H1, rfl, I1.kept (t' := s1.toks) (fun b o e => Heap.get?_push_of_some _ e), turn_list a _, ⟨_, Heap.get?_push_size _ rfl, rfl, rfl⟩, (fun b hb => by
      rw [List.mem_singleton.mp hb]; exact I1.fpOk (Nat.le_refl _) (I1.hok.fresh (Nat.le_refl _))), q⟩
  · obtain ⟨its, rv, p, hz⟩ := I1.tuple hq
    exact wpAny_pyIter_tuple (show s1.heap.IsTuple a its.toArray from p) ⟨_, [s1.heap.objs.size], _, _, H1, rfl, I1.kept (t' := s1.toks) (fun b o e => Heap.get?_push_of_some _ e), turn_tuple a _, ⟨_, Heap.get?_push_size _ rfl, rfl, rfl⟩, (fun b hb => by
      rw [List.mem_singleton.mp hb]; exact I1.fpOk (Nat.le_refl _) (I1.hok.fresh (Nat.le_refl _))), q⟩
def rangeD1 : D → Option (List D)
  | .int j => if j.natAbs < 2 ^ 62 then some (rangeL 0 j.toNat) else none
  | _ => none
def rangeD2 : D → D → Option (List D)
  | .int i, .int j => if i.natAbs < 2 ^ 62 ∧ j.natAbs < 2 ^ 62 then some (rangeL i (j - i).toNat) else none
  | _, _ => none
section
variable {m : Type → Type} [Mo m] {X : Cx} {EX : XR} {g : List Sl} {tg : Expr}
theorem ij_seq {e : Expr} {x : m D} (h : EJ X EX e g x) : IJ X EX tg e g (x >>= fun d => Mo.lift (itemsD d)) :=
  (pi_seq h).weak fun σ H R ⟨B, G, n, φ, ξ, o, s, q, xw⟩ => te_one o s (fun v H1 G1 d n1 o1 g1 d1 s1 => by
    obtain ⟨ds, ed, pd⟩ := Mo.sat_lift s1
    obtain ⟨a, xs, ev, sq, da⟩ := d1.seq ed
    refine ⟨a, ev, ?_⟩
    rcases sq with sq | sq
    · exact .inr ⟨⟨xs, sameT o1.fm.sub sq⟩, q _ H1 G1 ds n1 o1 g1 (walkD_tup sq da) pd⟩
    · exact .inl ⟨⟨xs, o1.fm.sub.seq sq⟩, q _ H1 G1 ds n1 o1 g1 (walkD_list sq da) pd⟩) xw
/-- a list of one's own, walked while it stands -/
theorem ij_range1 {a : Expr} {p pos : Pos} {x : m D} (hm : X.mg "range" = none) (h : EJ X EX a g x) (hg : Gl X "range" := by rfl) (hs : starEach [a] X.env = [(false, eval a X.env)] := by rfl) (hs' : starEach [a] X.env = (false, eval a X.env) :: starEach [] X.env := by rfl) :
    IJ X EX tg (.Call (.Name "range" p) [a] [] pos) g (x >>= fun d => Mo.lift (rangeD1 d)) :=
  (pi_range1 hg hm (pa_cons h pa_nil hs') hs).weak fun σ H R ⟨B, G, n, φ, ξ, o, s, q, xw⟩ => te_one o s (fun v H1 G1 d n1 o1 g1 d1 s1 => by
    obtain ⟨ds, ed, pd⟩ := Mo.sat_lift s1
    cases d with
    | int j =>
      cases d1
      unfold rangeD1 at ed
      dsimp only at ed
      split at ed
      · rename_i hj
        cases ed
        exact ⟨j, rfl, by omega, by omega, q _ H1 G1 _ n1 o1 g1 walkD_range pd⟩
      · cases ed
    | _ => cases ed) xw
theorem ij_range2 {a b : Expr} {p pos : Pos} {x y : m D} (hm : X.mg "range" = none) (h : EJ X EX a g x) (h2 : EJ X EX b g y) (hg : Gl X "range" := by rfl) (hs : starEach [a, b] X.env = [(false, eval a X.env), (false, eval b X.env)] := by rfl) (hs2 : starEach [b] X.env = [(false, eval b X.env)] := by rfl)
    (hs' : starEach [a, b] X.env = (false, eval a X.env) :: starEach [b] X.env := by rfl) (hs2' : starEach [b] X.env = (false, eval b X.env) :: starEach [] X.env := by rfl) :
    IJ X EX tg (.Call (.Name "range" p) [a, b] [] pos) g (x >>= fun d => y >>= fun e => Mo.lift (rangeD2 d e)) :=
  (pi_range2 hg hm (pa_cons h (pa_cons h2 pa_nil hs2') hs') hs hs2).weak fun σ H R ⟨B, G, n, φ, ξ, o, s, q, xw⟩ => te_one o s (fun v H1 G1 d n1 o1 g1 d1 s1 => te_one o1 s1 (fun w H2 G2 e n2 o2 g2 d2 s2 => by
    obtain ⟨ds, ed, pd⟩ := Mo.sat_lift s2
    cases d with
    | int i =>
      cases e with
      | int j =>
        cases d1
        cases d2
        unfold rangeD2 at ed
        dsimp only at ed
        split at ed
        · rename_i hj
          cases ed
          exact ⟨i, j, rfl, ⟨by omega, by omega, by omega, by omega⟩, q _ H2 G2 _ n2 o2 (g1.trans g2) walkD_range pd⟩
        · cases ed
      | _ => cases ed
    | _ => cases ed) xw) xw
end
/-! ### slots -/
def wipeG (g : List Sl) (vs : List Nat) : List Sl := g.mapIdx fun i s => if vs.contains i then .any else s
def noOwn : List Sl → List Nat → Bool
  | g, vs => vs.all fun i => match g[i]? with
    | some (.own _) => false
    | _ => true
section
variable {K : PySem.W.Frag} {B : Bs} {g : List Sl} {σ : L2.St} {H G H' G' : Hp} {n n' : Wd} {vs : List Nat}
theorem wipeG_some {i : Nat} {s : Sl} (h : (wipeG g vs)[i]? = some s) (ne : s ≠ .any) : g[i]? = some s ∧ i ∉ vs := by
  unfold wipeG at h
  rw [List.getElem?_mapIdx] at h
  cases e : g[i]? with
  | none => rw [e] at h; cases h
  | some t =>
    rw [e] at h
    simp only [Option.map_some, Option.some.injEq] at h
    split at h
    · exact absurd h.symm ne
    · rename_i hc
      subst h
      exact ⟨rfl, by simpa using hc⟩
theorem wipeG_out {i : Nat} (h : i ∉ vs) : (wipeG g vs)[i]? = g[i]? := by
  unfold wipeG
  rw [List.getElem?_mapIdx]
  have : vs.contains i = false := by simpa using h
  cases g[i]? with
  | none => rfl
  | some t => simp [this, h]
theorem wipeG_length : (wipeG g vs).length = g.length := by simp [wipeG]
theorem wipe_length' : (wipe σ vs).length = σ.length := wipe_length σ vs
/-- the block's own slots are forgotten -/
theorem Ok.wipe (o : Ok K B g σ H G n) : Ok K B (wipeG g vs) (L2.wipe σ vs) H G n where
  fm := o.fm
  len := by rw [wipeG_length, wipe_length', o.len]
  val := fun i d e => by
    obtain ⟨e1, e2⟩ := wipeG_some e (by simp)
    obtain ⟨v, h1, h2⟩ := o.val i d e1
    exact ⟨v, by rw [wipe_out e2]; exact h1, h2⟩
  own := by
    obtain ⟨f, h1, h2⟩ := o.own
    refine ⟨f, fun i j ds es a b => h1 i j ds es (wipeG_some a (by simp)).1 (wipeG_some b (by simp)).1, fun i ds e => ?_⟩
    obtain ⟨e1, e2⟩ := wipeG_some e (by simp)
    obtain ⟨a, r⟩ := h2 i ds e1
    exact ⟨by rw [wipe_out e2]; exact a, r⟩
  dck := fun i e => by
    obtain ⟨e1, e2⟩ := wipeG_some e (by simp)
    obtain ⟨a, b, h1, h2⟩ := o.dck i e1
    exact ⟨a, b, h1, by rw [wipe_out e2]; exact h2⟩
  adr := fun i a od fs e => by
    obtain ⟨e1, e2⟩ := wipeG_some e (by simp)
    rw [wipe_out e2]
    exact o.adr i a od fs e1
theorem Ok.unwipe (o : Ok K B g σ H G n) (o' : Ok K B (wipeG g vs) (L2.wipe σ vs) H' G' n') (s : Same G G') (ho : noOwn g vs = true) : Ok K B g σ H' G' n' where
  fm := o'.fm
  len := o.len
  val := fun i d e => by
    obtain ⟨v, h1, h2⟩ := o.val i d e
    exact ⟨v, h1, h2.mono s⟩
  own := by
    obtain ⟨f, h1, h2⟩ := o'.own
    have out : ∀ (i : Nat) (ds : List D), g[i]? = some (Sl.own ds) → i ∉ vs := fun i ds e hm => by
      have := List.all_eq_true.mp ho i hm
      rw [e] at this
      cases this
    refine ⟨f, fun i j ds es a b => h1 i j ds es (by rw [wipeG_out (out i ds a)]; exact a) (by rw [wipeG_out (out j es b)]; exact b), fun i ds e => ?_⟩
    obtain ⟨a, r⟩ := h2 i ds (by rw [wipeG_out (out i ds e)]; exact e)
    exact ⟨by rw [wipe_out (out i ds e)] at a; exact a, r⟩
  dck := o.dck
  adr := fun i a od fs e => ⟨(o.adr i a od fs e).1, (o.adr i a od fs e).2.mono s⟩
/-- a slot is given data -/
theorem Ok.setV (o : Ok K B g σ H G n) {i : Nat} {v : V} {d : D} (h : Da K G v d) : Ok K B (g.set i (.val d)) (σ.set i (some v)) H G n where
  fm := o.fm
  len := by rw [List.length_set, List.length_set, o.len]
  val := fun j e he => by
    by_cases hj : j = i
    · subst hj
      by_cases hl : j < g.length
      · rw [List.getElem?_set_self hl] at he
        cases he
        exact ⟨v, by rw [List.getElem?_set_self (by rw [← o.len]; exact hl)], h⟩
      · rw [List.getElem?_eq_none (by rw [List.length_set]; omega)] at he
        cases he
    · rw [List.getElem?_set_ne (Ne.symm hj)] at he ⊢
      exact o.val j e he
  own := by
    obtain ⟨f, h1, h2⟩ := o.own
    have out : ∀ (j : Nat) (ds : List D), (g.set i (.val d))[j]? = some (Sl.own ds) → i ≠ j ∧ g[j]? = some (Sl.own ds) := fun j ds e => by
      by_cases hj : i = j
      · subst hj
        by_cases hl : i < g.length
        · rw [List.getElem?_set_self hl] at e
          cases e
        · rw [List.getElem?_eq_none (by rw [List.length_set]; omega)] at e
          cases e
      · rw [List.getElem?_set_ne hj] at e
        exact ⟨hj, e⟩
    refine ⟨f, fun j k ds es a b => h1 j k ds es (out j ds a).2 (out k es b).2, fun j ds e => ?_⟩
    obtain ⟨hj, e⟩ := out j ds e
    rw [List.getElem?_set_ne hj]
    exact h2 j ds e
  dck := fun j e => by
    by_cases hj : i = j
    · subst hj
      by_cases hl : i < g.length
      · rw [List.getElem?_set_self hl] at e
        cases e
      · rw [List.getElem?_eq_none (by rw [List.length_set]; omega)] at e
        cases e
    · rw [List.getElem?_set_ne hj] at e ⊢
      exact o.dck j e
  adr := fun j b od fs e => by
    by_cases hj : i = j
    · subst hj
      by_cases hl : i < g.length
      · rw [List.getElem?_set_self hl] at e
        cases e
      · rw [List.getElem?_eq_none (by rw [List.length_set]; omega)] at e
        cases e
    · rw [List.getElem?_set_ne hj] at e ⊢
      exact o.adr j b od fs e
/-- slots are forgotten -/
theorem Ok.sub {g' : List Sl} (o : Ok K B g σ H G n) (hl : g'.length = g.length) (h : ∀ (i : Nat) (s : Sl), g'[i]? = some s → s = .any ∨ g[i]? = some s) : Ok K B g' σ H G n where
  fm := o.fm
  len := hl.trans o.len
  val := fun i d e => by
    rcases h i _ e with z | z
    · cases z
    · exact o.val i d z
  own := by
    obtain ⟨f, h1, h2⟩ := o.own
    have out : ∀ (j : Nat) (ds : List D), g'[j]? = some (Sl.own ds) → g[j]? = some (Sl.own ds) := fun j ds e => by
      rcases h j _ e with z | z
      · cases z
      · exact z
    exact ⟨f, fun i j ds es a b => h1 i j ds es (out i ds a) (out j es b), fun i ds e => h2 i ds (out i ds e)⟩
  dck := fun i e => by
    rcases h i _ e with z | z
    · cases z
    · exact o.dck i z
  adr := fun i a od fs e => by
    rcases h i _ e with z | z
    · cases z
    · exact o.adr i a od fs z
theorem wipe_wipe : L2.wipe (L2.wipe σ vs) vs = L2.wipe σ vs := by
  apply List.ext_getElem?
  intro i
  by_cases h : i ∈ vs
  · have key : ∀ (τ : L2.St), (L2.wipe τ vs)[i]? = some none ∨ (L2.wipe τ vs)[i]? = none := fun τ => by
      cases e : (L2.wipe τ vs)[i]? with
      | none => exact .inr rfl
      | some x =>
        cases x with
        | none => exact .inl rfl
        | some v => exact absurd h (wipe_some e).2
    have l1 : (L2.wipe (L2.wipe σ vs) vs).length = (L2.wipe σ vs).length := wipe_length _ _
    rcases key (L2.wipe σ vs) with a | a <;> rcases key σ with b | b
    · rw [a, b]
    · rw [List.getElem?_eq_none_iff] at b
      have : (L2.wipe (L2.wipe σ vs) vs)[i]? = none := List.getElem?_eq_none (by omega)
      rw [this] at a; cases a
    · rw [List.getElem?_eq_none_iff] at a
      have : (L2.wipe σ vs)[i]? = none := List.getElem?_eq_none (by omega)
      rw [this] at b; cases b
    · rw [a, b]
  · rw [wipe_out h]
theorem wipe_set {i : Nat} {x : Option V} (h : i ∈ vs) : L2.wipe (σ.set i x) vs = L2.wipe σ vs := by
  apply List.ext_getElem?
  intro j
  by_cases hj : j ∈ vs
  · have key : ∀ (τ : L2.St), τ.length = σ.length → (L2.wipe τ vs)[j]? = if j < σ.length then some none else none := fun τ hl => by
      have l := wipe_length τ vs
      cases e : (L2.wipe τ vs)[j]? with
      | none =>
        rw [List.getElem?_eq_none_iff] at e
        rw [if_neg (by omega)]
      | some x =>
        obtain ⟨hlt, _⟩ := List.getElem?_eq_some_iff.mp e
        rw [if_pos (by omega)]
        cases x with
        | none => rfl
        | some v => exact absurd hj (wipe_some e).2
    rw [key _ (by simp), key _ rfl]
  · rw [wipe_out hj, wipe_out hj, List.getElem?_set_ne (by rintro rfl; exact hj h)]
theorem wipeG_set {i : Nat} {x : Sl} (h : i ∈ vs) : wipeG (g.set i x) vs = wipeG g vs := by
  apply List.ext_getElem?
  intro j
  unfold wipeG
  rw [List.getElem?_mapIdx, List.getElem?_mapIdx]
  by_cases hj : i = j
  · subst hj
    have : vs.contains i = true := by simpa using h
    by_cases hl : i < g.length
    · rw [List.getElem?_set_self hl, List.getElem?_eq_getElem hl]; simp [this, h]
    · rw [List.getElem?_eq_none (by rw [List.length_set]; omega), List.getElem?_eq_none (by omega)]
  · rw [List.getElem?_set_ne hj]
theorem wipeG_wipeG : wipeG (wipeG g vs) vs = wipeG g vs := by
  apply List.ext_getElem?
  intro j
  unfold wipeG
  rw [List.getElem?_mapIdx, List.getElem?_mapIdx]
  cases g[j]? with
  | none => rfl
  | some t =>
    simp only [Option.map_some]
    split <;> rfl
/-- an object of ours that is neither data nor any slot's -/
structure Side (B : Bs) (g : List Sl) (σ : L2.St) (G : Hp) (p : Addr) : Prop where
  b : B.H p = none
  bg : B.G p = none
  no : G p = none
  f : ∀ (i : Nat) (es : List D) (f : Addr), g[i]? = some (Sl.own es) → σ[i]? = some (some (V.ref f)) → f ≠ p
abbrev Bs.pin (B : Bs) (p : Addr) (u : HO) : Bs := { B with H := upd B.H p u }
theorem Fm.side {p : Addr} (o : Fm K B H G n) (b : B.H p = none) : ¬ B.fp p := by
  rintro (⟨x, y, ed, hxy⟩ | ⟨k, e, _⟩)
  · obtain ⟨_, h1, h2, _⟩ := o.deck x y ed
    rcases hxy with rfl | rfl
    · exact h1 b
    · exact h2 b
  · rw [o.bt p b] at e; cases e
theorem Ok.pin {p : Addr} {u : HO} (o : Ok K B g σ H G n) (s : Side B g σ G p) (h : H p = some u) : Ok K (B.pin p u) g σ H G n where
  fm := {
    keep := fun a x e q => by
      by_cases ha : a = p
      · subst ha
        rw [show (B.pin a u).H a = some u from upd_same] at e
        cases e; exact h
      · rw [show (B.pin p u).H a = B.H a from upd_ne ha] at e
        exact o.fm.keep a x e q
    sub := o.fm.sub
    old := o.fm.old
    obs := o.fm.obs
    bt := fun a e => by
      by_cases ha : a = p
      · subst ha; exact s.bg
      · rw [show (B.pin p u).H a = B.H a from upd_ne ha] at e
        exact o.fm.bt a e
    tg := o.fm.tg
    new := fun a e q => by
      by_cases ha : a = p
      · subst ha; exact s.no
      · rw [show (B.pin p u).H a = B.H a from upd_ne ha] at e
        exact o.fm.new a e q
    deck := fun a b e => by
      obtain ⟨d, h1, h2, h3⟩ := o.fm.deck a b e
      refine ⟨d, ?_, ?_, h3⟩
      · show upd B.H p u a ≠ none
        rw [upd_ne (by rintro rfl; exact h1 s.b)]; exact h1
      · show upd B.H p u b ≠ none
        rw [upd_ne (by rintro rfl; exact h2 s.b)]; exact h2 }
  len := o.len
  val := o.val
  own := by
    obtain ⟨f, h1, h2⟩ := o.own
    refine ⟨f, h1, fun i ds e => ?_⟩
    obtain ⟨a, b, c, r⟩ := h2 i ds e
    refine ⟨a, b, ?_, r⟩
    show upd B.H p u (f i) = none
    rw [upd_ne (s.f i ds _ e a)]; exact c
  dck := o.dck
  adr := o.adr
theorem Fm.unpin {H0 G0 : Hp} {n0 : Wd} {p : Addr} {u : HO} (o : Fm K (B.pin p u) H G n) (o0 : Fm K B H0 G0 n0) (b : B.H p = none) : Fm K B H G n where
  keep := fun a x e q => o.keep a x (by
    show upd B.H p u a = some x
    rw [upd_ne (by rintro rfl; rw [b] at e; cases e)]; exact e) q
  sub := o.sub
  old := o.old
  obs := o.obs
  bt := o0.bt
  tg := o.tg
  new := fun a e q => o.new a (by
    show upd B.H p u a ≠ none
    rw [upd_ne (by rintro rfl; exact e b)]; exact e) q
  deck := fun x y e => ⟨(o.deck x y e).1, (o0.deck x y e).2⟩
theorem Ok.unpin {H0 G0 : Hp} {n0 : Wd} {p : Addr} {u : HO} (o : Ok K (B.pin p u) g σ H G n) (o0 : Fm K B H0 G0 n0) (b : B.H p = none) : Ok K B g σ H G n where
  fm := o.fm.unpin o0 b
  len := o.len
  val := o.val
  own := by
    obtain ⟨f, h1, h2⟩ := o.own
    refine ⟨f, h1, fun i ds e => ?_⟩
    obtain ⟨a, c, d, r⟩ := h2 i ds e
    refine ⟨a, c, ?_, r⟩
    have d' : upd B.H p u (f i) = none := d
    by_cases ha : f i = p
    · rw [ha, upd_same] at d'; cases d'
    · rw [upd_ne ha] at d'; exact d'
  dck := o.dck
  adr := o.adr
/-- such an object may be changed -/
theorem Ok.poke {p : Addr} {u : HO} (o : Ok K B g σ H G n) (s : Side B g σ G p) : Ok K B g σ (upd H p u) G n where
  fm := {
    keep := fun a x e q => by
      rw [upd_ne (by rintro rfl; rw [s.b] at e; cases e)]
      exact o.fm.keep a x e q
    sub := ⟨fun a x e m => by
      rw [upd_ne (by rintro rfl; rw [s.no] at e; cases e)]
      exact o.fm.sub.h a x e m, fun a e => by
      by_cases ha : a = p
      · subst ha; exact s.no
      · rw [upd_ne ha] at e; exact o.fm.sub.t a e⟩
    obs := ⟨fun a k w e m => by
      obtain ⟨c, h1, h2⟩ := o.fm.obs.at_ a k w e m
      refine ⟨c, h1, h2.mono (Same.refl _) fun x hx => ?_⟩
      rw [upd_ne (by rintro rfl; rw [s.no] at e; cases e)]
      exact hx, o.fm.obs.inj, fun k c e => by
      obtain ⟨a, h2⟩ := o.fm.obs.all k c e
      obtain ⟨u, e, _⟩ := h2.mark
      refine ⟨a, h2.mono (Same.refl _) fun x hx => ?_⟩
      rw [upd_ne (by rintro rfl; rw [s.no] at e; cases e)]
      exact hx⟩
    bt := o.fm.bt
    tg := o.fm.tg
    old := o.fm.old
    new := o.fm.new
    deck := fun a b e => by
      obtain ⟨⟨cs, c, e1, e2, r⟩, h1, h2, h3⟩ := o.fm.deck a b e
      exact ⟨⟨cs, c, by rw [upd_ne (by rintro rfl; exact h1 s.b)]; exact e1, by rw [upd_ne (by rintro rfl; exact h2 s.b)]; exact e2, r⟩, h1, h2, h3⟩ }
  len := o.len
  val := o.val
  own := by
    obtain ⟨f, h1, h2⟩ := o.own
    refine ⟨f, h1, fun i ds e => ?_⟩
    obtain ⟨a, c, d, xs, hx, da⟩ := h2 i ds e
    exact ⟨a, c, d, xs, by rw [upd_ne (s.f i ds _ e a)]; exact hx, da⟩
  dck := o.dck
  adr := o.adr
theorem Side.grow {p : Addr} {u : HO} (s : Side B g σ G p) (o : Ok K (B.pin p u) g σ H G' n) : Side B g σ G' p :=
  ⟨s.b, s.bg, o.fm.new p (by show upd B.H p u p ≠ none; rw [upd_same]; simp) s.bg, s.f⟩
theorem Ok.side {p : Addr} (o : Ok K B g σ H G n) (h : H p = none) : Side B g σ G p := by
  obtain ⟨h1, h2⟩ := o.fresh h
  refine ⟨h1, ?_, o.free h, h2⟩
  cases e : B.G p with
  | none => rfl
  | some z => exact absurd h (o.fm.there (o.fm.old _ _ e))
/-! ### comprehensions -/
end
section
variable {m : Type → Type} [Mo m]
def lcA (f : D → m (Option D)) : List D → List D → m (List D)
  | [], acc => pure acc
  | d :: r, acc => f d >>= fun o => lcA f r (acc ++ o.toList)
/-- one turn of a block: target, tests, element -/
def CSem (K : PySem.W.Frag) (g : List Sl) (vs : List Nat) (f : D → m (Option D)) (gT : TG) (tt : TT) (te : TE) : Prop :=
  ∀ (B : Bs) (σ : L2.St) (H G : Hp) (n : Wd) (d : D) (v : V) (φ : Option D → Wd → Prop) (Qy : VK) (Qn : Hp → Prop), Ok K B (wipeG g vs) (L2.wipe σ vs) H G n → Da K G v d → Mo.sat (f d) n φ (fun _ _ => False) →
    (∀ H' G' n' y yv, Ok K B (wipeG g vs) (L2.wipe σ vs) H' G' n' → Same G G' → Da K G' yv y → φ (some y) n' → Qy yv H') →
    (∀ H' G' n', Ok K B (wipeG g vs) (L2.wipe σ vs) H' G' n' → Same G G' → φ none n' → Qn H') →
    gT v (L2.wipe σ vs) H fun σ2 H2 => L2.wipe σ2 vs = L2.wipe σ vs ∧ tt σ2 H2 fun b H3 => if b = true then te σ2 H3 Qy else Qn H3
variable [Calm m] {X : Cx} {EX : XR} {g : List Sl}
theorem tlc_of {gT : TG} {tt : TT} {te : TE} {x : m (List D)} {f : D → m (Option D)} {vs : List Nat} (hsem : CSem X.K g vs f gT tt te) (how : noOwn g vs = true) {σ : L2.St} {H : Hp} {Q : VK}
    (h : tlJ X EX g (x >>= fun ds => Mo.lift (small ds) >>= fun ds => lcA f ds []) σ H Q) : tLc (tiJ X EX g x) gT tt te vs σ H Q := by
  obtain ⟨B, G, n, φ, ξ, o, s, q, xw⟩ := h
  refine ⟨B, G, n, _, ξ, o, Mo.sat_bind s, fun J H1 G1 ds n1 o1 g1 wk s1 => ?_, xw⟩
  obtain ⟨es, ee, s1'⟩ := Mo.sat_lift (Mo.sat_bind s1)
  obtain ⟨rfl, hlen⟩ := small_eq ee
  intro D hD
  have sd := o1.side hD
  refine ⟨fun i k H' => k = es.length - i ∧ i ≤ es.length ∧ ∃ G' n' acc ac, Ok X.K B g σ H' G' n' ∧ Same G1 G' ∧ Side B g σ G' D ∧ H' D = some (.lst acc) ∧ DaAll X.K G' acc ac ∧ acc.length ≤ i ∧ Mo.sat (lcA f (es.drop i) ac) n' φ ξ, ⟨es.length, by omega, Nat.zero_le _, G1, n1, [], [], o1.raw hD, Same.refl _, sd, upd_same, .nil, Nat.zero_le _, s1'⟩, ?_⟩
  rintro i k H' ⟨rfl, hi, G', n', acc, ac, o', g', sd', hD', da, hal, s'⟩
  by_cases hlt : i < es.length
  · refine .inr ⟨wk.goes i H' hlt (g'.subm o'.fm.sub), fun H2 => ∃ G2 n2 acc2 ac2, Ok X.K B g σ H2 G2 n2 ∧ Same G1 G2 ∧ Side B g σ G2 D ∧ H2 D = some (.lst acc2) ∧ DaAll X.K G2 acc2 ac2 ∧ acc2.length ≤ i + 1 ∧ Mo.sat (lcA f (es.drop (i + 1)) ac2) n2 φ ξ,
      fun H2 ⟨G2, n2, acc2, ac2, r⟩ => ⟨es.length - (i + 1), by omega, rfl, hlt, G2, n2, acc2, ac2, r⟩, fun v H2 hy => ?_⟩
    obtain ⟨d, G2, ed, gr, dv⟩ := wk.yields i H' G' v H2 hlt g' o'.fm.sub hy
    have o2 := o'.gr gr
    have sd2 : Side B g σ G2 D := ⟨sd'.b, sd'.bg, gr.new D (by rw [hD']; simp) sd'.no, sd'.f⟩
    have hD2 : H2 D = some (.lst acc) := gr.h _ _ hD'
    have e0 : es.drop i = d :: es.drop (i + 1) := by
      rw [List.drop_eq_getElem_cons hlt]
      congr 1
      rw [List.getElem?_eq_getElem hlt] at ed
      exact Option.some.inj ed
    rw [e0] at s'
    have s2 := Calm.calm (ξ' := fun _ _ => False) (Mo.sat_bind s')
    have sdw : Side B (wipeG g vs) (L2.wipe σ vs) G2 D := ⟨sd2.b, sd2.bg, sd2.no, fun j es2 f2 e1 e2 => sd2.f j es2 f2 (wipeG_some e1 (by simp)).1 (wipe_some e2).1⟩
    refine hsem (B.pin D (.lst acc)) σ H2 G2 n' d v _ _ _ (o2.wipe.pin sdw hD2) dv s2 (fun H3 G3 n3 y yv o3 g3 dy s3 => ?_) (fun H3 G3 n3 o3 g3 s3 => ?_)
    · have o3' := o2.unwipe (o3.unpin o2.fm sd2.b) g3 how
      have sd3 : Side B g σ G3 D := ⟨sd2.b, sd2.bg, (sdw.grow o3).no, sd2.f⟩
      have h3 : H3 D = some (.lst acc) := o3.fm.keep D _ upd_same (o2.fm.side sd2.b)
      refine ⟨acc, h3, Nat.lt_of_le_of_lt hal (Nat.lt_of_lt_of_le hlt (le_line hlen)), G3, n3, _, ac ++ [y], o3'.poke sd3, (g'.trans gr.g).trans g3, sd3, upd_same, ((da.mono gr.g).mono g3).append (.one dy), ?_, s3⟩
      rw [List.length_append, List.length_singleton]
      omega
    · have o3' := o2.unwipe (o3.unpin o2.fm sd2.b) g3 how
      have sd3 : Side B g σ G3 D := ⟨sd2.b, sd2.bg, (sdw.grow o3).no, sd2.f⟩
      have h3 : H3 D = some (.lst acc) := o3.fm.keep D _ upd_same (o2.fm.side sd2.b)
      refine ⟨G3, n3, acc, ac, o3', (g'.trans gr.g).trans g3, sd3, h3, (da.mono gr.g).mono g3, by omega, ?_⟩
      have e9 : ac ++ (none : Option PyData).toList = ac := by simp
      have s4 : Mo.sat (lcA f (es.drop (i + 1)) (ac ++ (none : Option PyData).toList)) n3 φ ξ := s3
      rw [e9] at s4
      exact s4
  · have e : i = es.length := by omega
    subst e
    rw [List.drop_length] at s'
    have p := Mo.sat_pure s'
    exact .inl ⟨wk.stops H' (g'.subm o'.fm.sub), q D acc H' G' ac n' o' (g1.trans g') sd'.b sd'.no hD' sd'.f da p⟩
/-- a comprehension as a value, and as what a name is given on one line -/
structure LcP (X : Cx) (EX : XR) (e : Expr) (g : List Sl) (x : m (List D)) : Prop where
  expr : LJ X EX e g x
  stmt : ∀ {i : Nat} {y : Str} {py spos : Pos}, X.N.Nodup → X.N[i]? = some y → X.env.scope.names.lookup y = some .local → swapsWith e (some (.Name y py)) spos.line X.env = pure true → PS X (.Assign [.Name y py] e spos) (tAsg (tlJ X EX g x) (gName i))
theorem lj_lc {elt tg iter : Expr} {ifs : List Expr} {scope : Scope} {own : List (Str × Nat)} {pos : Pos} {gT : TG} {tt : TT} {te : TE} {x : m (List D)} {f : D → m (Option D)} (hc : X.calm = true) (hN : X.N.Nodup) (hi : IJ X EX tg iter g x) (ok : BlkOk X.N X.env.scope scope own)
    (hg : ∀ (s : Shared) (H : Hp) (C : Addr) (cl : List (Str × Addr)) (fp : List Addr), PG (X.blk s H scope (compEnvC scope cl C X.env) fp) tg gT) (ht : ∀ (s : Shared) (H : Hp) (C : Addr) (cl : List (Str × Addr)) (fp : List Addr), PTs (X.blk s H scope (compEnvC scope cl C X.env) fp) ifs tt)
    (he : ∀ (s : Shared) (H : Hp) (C : Addr) (cl : List (Str × Addr)) (fp : List Addr), PE (X.blk s H scope (compEnvC scope cl C X.env) fp) elt te) (hsem : CSem X.K g (own.map (·.2)) f gT tt te) (how : noOwn g (own.map (·.2)) = true) (hs : ∀ x, foldedSetIterable iter X.env x = pure x := by intro _; rfl) :
    LcP X EX (.ListComp elt [⟨tg, iter, ifs, 0⟩] scope pos) g (x >>= fun ds => Mo.lift (small ds) >>= fun ds => lcA f ds []) :=
  ⟨(pe_lc hc hN hi ok hg ht he hs).weak fun σ H Q h => tlc_of hsem how h, fun nd hy hl hsw => (ps_setLc hc nd hy hl hsw hi ok hg ht he hs).weak fun De σ H h => tlc_of hsem how h⟩
end
end DD
namespace DD
open PySem PySem.Spec PyProof.Rows L2
theorem pe_u {ι : Type} {X : Cx} {e : Expr} {F : ι → TE} (h : ∀ i, PE X e (F i)) : PE X e (fun σ H Q => ∃ i, F i σ H Q) := ⟨fun pins s σ H Q I ⟨i, q⟩ => (h i).run pins s σ H Q I q⟩
theorem pt_u {ι : Type} {X : Cx} {e : Expr} {F : ι → TT} (h : ∀ i, PT X e (F i)) : PT X e (fun σ H Q => ∃ i, F i σ H Q) := ⟨fun pins s σ H Q I ⟨i, q⟩ => (h i).run pins s σ H Q I q⟩
section
variable {K : PySem.W.Frag} {B : Bs} {g : List Sl} {σ : L2.St} {H G H' G' : Hp} {n n' : Wd} {vs : List Nat}
theorem Ok.rewipe {g' : List Sl} {σ' : L2.St} (o : Ok K B g' σ' H G n) (eg : wipeG g' vs = wipeG g vs) (es : L2.wipe σ' vs = L2.wipe σ vs) : Ok K B (wipeG g vs) (L2.wipe σ vs) H G n := by
  have := o.wipe (vs := vs)
  rw [eg, es] at this
  exact this
end
section
variable {m : Type → Type} [Mo m] [Calm m] {X : Cx} {EX : XR} {g : List Sl}
/-- the element alone -/
def someM (x : m D) : m (Option D) := x >>= fun y => pure (some y)
def ifM (t : m Bool) (x : m D) : m (Option D) := t >>= fun k => if k = true then someM x else pure none
theorem csem_end {vs : List Nat} {g' : List Sl} {σ σ' : L2.St} {B : Bs} {H G : Hp} {n : Wd} {x : m D} {φ : Option D → Wd → Prop} {Qy : VK} (eg : wipeG g' vs = wipeG g vs) (es : L2.wipe σ' vs = L2.wipe σ vs) (o : Ok X.K B g' σ' H G n) (s : Mo.sat (someM x) n φ (fun _ _ => False))
    (hy : ∀ H' G' n' y yv, Ok X.K B (wipeG g vs) (L2.wipe σ vs) H' G' n' → Same G G' → Da X.K G' yv y → φ (some y) n' → Qy yv H') : teJ X X0 g' x σ' H Qy :=
  ⟨B, G, n, _, _, o, Mo.sat_bind s, fun v H' G' d n' o' g' dv s' => hy H' G' n' d v (o'.rewipe eg es) g' dv (Mo.sat_pure s'), fun _ _ _ _ _ _ _ z => z.elim⟩
theorem csem1 {i : Nat} {vs : List Nat} {f : D → m D} (hin : i ∈ vs) : CSem X.K g vs (fun d => someM (f d)) (gName i) tYes (fun σ H Q => ∃ d : D, teJ X X0 ((wipeG g vs).set i (.val d)) (f d) σ H Q) := by
  intro B σ H G n d v φ Qy Qn o dv s hy hn
  have es : L2.wipe ((L2.wipe σ vs).set i (some v)) vs = L2.wipe σ vs := by rw [wipe_set hin, wipe_wipe]
  refine ⟨es, ?_⟩
  unfold tYes; dsimp only
  rw [if_pos rfl]
  exact ⟨d, csem_end (by rw [wipeG_set hin, wipeG_wipeG]) es (o.setV dv) s hy⟩
theorem csem1i {i : Nat} {vs : List Nat} {f : D → m D} {t : D → m Bool} (hin : i ∈ vs) : CSem X.K g vs (fun d => ifM (t d) (f d)) (gName i) (fun σ H Q => ∃ d : D, ttJ X X0 ((wipeG g vs).set i (.val d)) (t d) σ H Q) (fun σ H Q => ∃ d : D, teJ X X0 ((wipeG g vs).set i (.val d)) (f d) σ H Q) := by
  intro B σ H G n d v φ Qy Qn o dv s hy hn
  have es : L2.wipe ((L2.wipe σ vs).set i (some v)) vs = L2.wipe σ vs := by rw [wipe_set hin, wipe_wipe]
  have eg : wipeG ((wipeG g vs).set i (.val d)) vs = wipeG g vs := by rw [wipeG_set hin, wipeG_wipeG]
  refine ⟨es, d, tt_one (EX := X0) (o.setV dv) s (fun b H1 G1 n1 o1 g1 s1 => ?_) fun _ _ _ _ _ _ _ z => z.elim⟩
  cases b with
  | true =>
    rw [if_pos rfl] at s1 ⊢
    exact ⟨d, csem_end eg es o1 s1 fun H' G' n' y yv o' g' => hy H' G' n' y yv o' (g1.trans g')⟩
  | false =>
    rw [if_neg Bool.false_ne_true] at s1 ⊢
    exact hn H1 G1 n1 (o1.rewipe eg es) g1 (Mo.sat_pure s1)
/-- two names -/
def pairM {α : Type} (d : D) (f : D → D → m α) : m α := match d with
  | .tuple [a, b] => f a b
  | _ => Mo.lift none
theorem pair_set {vs : List Nat} {i j : Nat} {φ : Option D → Wd → Prop} {B : Bs} {σ : L2.St} {H G : Hp} {n : Wd} {d : D} {v : V} {f : D → D → m (Option D)} {Q : L2.St → Hp → Prop} (hi : i ∈ vs) (hj : j ∈ vs) (o : Ok X.K B (wipeG g vs) (L2.wipe σ vs) H G n) (dv : Da X.K G v d) (s : Mo.sat (pairM d f) n φ (fun _ _ => False))
    (q : ∀ a b u w, L2.wipe (((L2.wipe σ vs).set i (some u)).set j (some w)) vs = L2.wipe σ vs → wipeG (((wipeG g vs).set i (.val a)).set j (.val b)) vs = wipeG g vs → Ok X.K B (((wipeG g vs).set i (.val a)).set j (.val b)) (((L2.wipe σ vs).set i (some u)).set j (some w)) H G n → Mo.sat (f a b) n φ (fun _ _ => False) → Q (((L2.wipe σ vs).set i (some u)).set j (some w)) H) :
    gTup X.K 2 (gCons (gName i) (gCons (gName j) gNil)) v (L2.wipe σ vs) H Q := by
  unfold pairM at s
  split at s
  · rename_i a b
    cases dv with
    | tup h da =>
      cases da with
      | cons d1 r =>
        cases r with
        | cons d2 r =>
          cases r
          refine ⟨_, _, rfl, sameT o.fm.sub h, rfl, _, _, rfl, _, _, rfl, rfl, q a b _ _ ?_ ?_ ((o.setV d1).setV d2) s⟩
          · rw [wipe_set hj, wipe_set hi, wipe_wipe]
          · rw [wipeG_set hj, wipeG_set hi, wipeG_wipeG]
  · obtain ⟨_, e, _⟩ := Mo.sat_lift s
    cases e
theorem csem2 {i j : Nat} {vs : List Nat} {f : D → D → m D} (hi : i ∈ vs) (hj : j ∈ vs) : CSem X.K g vs (fun d => pairM d fun a b => someM (f a b)) (gTup X.K 2 (gCons (gName i) (gCons (gName j) gNil))) tYes
    (fun σ H Q => ∃ d : D × D, teJ X X0 (((wipeG g vs).set i (.val d.1)).set j (.val d.2)) (f d.1 d.2) σ H Q) := by
  intro B σ H G n d v φ Qy Qn o dv s hy hn
  refine pair_set hi hj o dv s fun a b u w es eg o' s' => ⟨es, ?_⟩
  unfold tYes; dsimp only
  rw [if_pos rfl]
  exact ⟨(a, b), csem_end eg es o' s' hy⟩
theorem csem2i {i j : Nat} {vs : List Nat} {f : D → D → m D} {t : D → D → m Bool} (hi : i ∈ vs) (hj : j ∈ vs) : CSem X.K g vs (fun d => pairM d fun a b => ifM (t a b) (f a b)) (gTup X.K 2 (gCons (gName i) (gCons (gName j) gNil)))
    (fun σ H Q => ∃ d : D × D, ttJ X X0 (((wipeG g vs).set i (.val d.1)).set j (.val d.2)) (t d.1 d.2) σ H Q) (fun σ H Q => ∃ d : D × D, teJ X X0 (((wipeG g vs).set i (.val d.1)).set j (.val d.2)) (f d.1 d.2) σ H Q) := by
  intro B σ H G n d v φ Qy Qn o dv s hy hn
  refine pair_set hi hj o dv s fun a b u w es eg o' s' => ⟨es, (a, b), tt_one (EX := X0) o' s' (fun k H1 G1 n1 o1 g1 s1 => ?_) fun _ _ _ _ _ _ _ z => z.elim⟩
  cases k with
  | true =>
    rw [if_pos rfl] at s1 ⊢
    exact ⟨(a, b), csem_end eg es o1 s1 fun H' G' n' y yv o' g' => hy H' G' n' y yv o' (g1.trans g')⟩
  | false =>
    rw [if_neg Bool.false_ne_true] at s1 ⊢
    exact hn H1 G1 n1 (o1.rewipe eg es) g1 (Mo.sat_pure s1)
theorem ej_blk {s : Shared} {H : Hp} {scope : Scope} {env : Env} {fp : List Addr} {e : Expr} {x : m D} (h : EJ (X.blk s H scope env fp) X0 e g x) : PE (X.blk s H scope env fp) e (teJ X X0 g x) := h
theorem tj_blk {s : Shared} {H : Hp} {scope : Scope} {env : Env} {fp : List Addr} {e : Expr} {x : m Bool} (h : TJ (X.blk s H scope env fp) X0 e g x) : PT (X.blk s H scope env fp) e (ttJ X X0 g x) := h
/-- [e for x in it] -/
theorem lj_lc1 (own : List (Str × Nat)) (i : Nat) {elt tg iter : Expr} {scope : Scope} {pos : Pos} {x : m (List D)} {f : D → m D} (hN : X.N.Nodup) (hi : IJ X EX tg iter g x) (ok : BlkOk X.N X.env.scope scope own)
    (hg : ∀ (s : Shared) (H : Hp) (C : Addr) (cl : List (Str × Addr)) (fp : List Addr), PG (X.blk s H scope (compEnvC scope cl C X.env) fp) tg (gName i))
    (he : ∀ (s : Shared) (H : Hp) (C : Addr) (cl : List (Str × Addr)) (fp : List Addr) (d : D), EJ (X.blk s H scope (compEnvC scope cl C X.env) fp) X0 elt ((wipeG g (own.map (·.2))).set i (.val d)) (f d))
    (hin : i ∈ own.map (·.2) := by decide) (how : noOwn g (own.map (·.2)) = true := by rfl) (hc : X.calm = true := by rfl) (hs : ∀ x, foldedSetIterable iter X.env x = pure x := by intro _; rfl) :
    LcP X EX (.ListComp elt [⟨tg, iter, [], 0⟩] scope pos) g (x >>= fun ds => Mo.lift (small ds) >>= fun ds => lcA (fun d => someM (f d)) ds []) :=
  lj_lc hc hN hi ok hg (fun _ _ _ _ _ => pts_nil) (fun s H C cl fp => pe_u fun d => ej_blk (he s H C cl fp d)) (csem1 hin) how hs
/-- [e for x, y in it] -/
theorem lj_lc2 (own : List (Str × Nat)) (i j : Nat) {elt tg iter : Expr} {scope : Scope} {pos : Pos} {x : m (List D)} {f : D → D → m D} (hN : X.N.Nodup) (hi : IJ X EX tg iter g x) (ok : BlkOk X.N X.env.scope scope own)
    (hg : ∀ (s : Shared) (H : Hp) (C : Addr) (cl : List (Str × Addr)) (fp : List Addr), PG (X.blk s H scope (compEnvC scope cl C X.env) fp) tg (gTup X.K 2 (gCons (gName i) (gCons (gName j) gNil))))
    (he : ∀ (s : Shared) (H : Hp) (C : Addr) (cl : List (Str × Addr)) (fp : List Addr) (a b : D), EJ (X.blk s H scope (compEnvC scope cl C X.env) fp) X0 elt (((wipeG g (own.map (·.2))).set i (.val a)).set j (.val b)) (f a b))
    (hin : i ∈ own.map (·.2) := by decide) (hjn : j ∈ own.map (·.2) := by decide) (how : noOwn g (own.map (·.2)) = true := by rfl) (hc : X.calm = true := by rfl) (hs : ∀ x, foldedSetIterable iter X.env x = pure x := by intro _; rfl) :
    LcP X EX (.ListComp elt [⟨tg, iter, [], 0⟩] scope pos) g (x >>= fun ds => Mo.lift (small ds) >>= fun ds => lcA (fun d => pairM d fun a b => someM (f a b)) ds []) :=
  lj_lc hc hN hi ok hg (fun _ _ _ _ _ => pts_nil) (fun s H C cl fp => pe_u fun d => ej_blk (he s H C cl fp d.1 d.2)) (csem2 hin hjn) how hs
/-- [e for x, y in it if t] -/
theorem lj_lc2i (own : List (Str × Nat)) (i j : Nat) {elt tg iter c : Expr} {scope : Scope} {pos : Pos} {x : m (List D)} {f : D → D → m D} {t : D → D → m Bool} (hN : X.N.Nodup) (hi : IJ X EX tg iter g x) (ok : BlkOk X.N X.env.scope scope own)
    (hg : ∀ (s : Shared) (H : Hp) (C : Addr) (cl : List (Str × Addr)) (fp : List Addr), PG (X.blk s H scope (compEnvC scope cl C X.env) fp) tg (gTup X.K 2 (gCons (gName i) (gCons (gName j) gNil))))
    (ht : ∀ (s : Shared) (H : Hp) (C : Addr) (cl : List (Str × Addr)) (fp : List Addr) (a b : D), TJ (X.blk s H scope (compEnvC scope cl C X.env) fp) X0 c (((wipeG g (own.map (·.2))).set i (.val a)).set j (.val b)) (t a b))
    (he : ∀ (s : Shared) (H : Hp) (C : Addr) (cl : List (Str × Addr)) (fp : List Addr) (a b : D), EJ (X.blk s H scope (compEnvC scope cl C X.env) fp) X0 elt (((wipeG g (own.map (·.2))).set i (.val a)).set j (.val b)) (f a b))
    (hin : i ∈ own.map (·.2) := by decide) (hjn : j ∈ own.map (·.2) := by decide) (how : noOwn g (own.map (·.2)) = true := by rfl) (hc : X.calm = true := by rfl) (hs : ∀ x, foldedSetIterable iter X.env x = pure x := by intro _; rfl) :
    LcP X EX (.ListComp elt [⟨tg, iter, [c], 0⟩] scope pos) g (x >>= fun ds => Mo.lift (small ds) >>= fun ds => lcA (fun d => pairM d fun a b => ifM (t a b) (f a b)) ds []) :=
  lj_lc hc hN hi ok hg (fun s H C cl fp => pts_one (pt_u fun d => tj_blk (ht s H C cl fp d.1 d.2))) (fun s H C cl fp => pe_u fun d => ej_blk (he s H C cl fp d.1 d.2)) (csem2i hin hjn) how hs
end
end DD
namespace DD
open PySem PySem.Spec PyProof.Rows L2
/-! ### statements -/
inductive Fl (A : Type) where
  | nx (a : A) | rt (d : D)
section
variable {m : Type → Type} [Mo m] {A A' : Type}
def tsJ (X : Cx) (EX : XR) (g : List Sl) (x : m A) (P : A → List Sl) : TS := fun De σ H => ∃ B G n φ ξ, Ok X.K B g σ H G n ∧ Mo.sat x n φ ξ ∧ (∀ a σ' H' G' n', Ok X.K B (P a) σ' H' G' n' → Same G G' → φ a n' → De.nx σ' H') ∧ Xw X B EX ξ
/-- a plain statement: no return within -/
def SJ (X : Cx) (EX : XR) (s : Stmt) (g : List Sl) (x : m A) (P : A → List Sl) : Prop := PS X s (tsJ X EX g x P)
def tbJ (X : Cx) (EX : XR) (g : List Sl) (x : m (Fl A)) (P : A → List Sl) : TS := fun De σ H => ∃ B G n φ ξ, Ok X.K B g σ H G n ∧ Mo.sat x n φ ξ ∧ (∀ a σ' H' G' n', Ok X.K B (P a) σ' H' G' n' → Same G G' → φ (.nx a) n' → De.nx σ' H') ∧
  (∀ v H' G' d n', Fm X.K B H' G' n' → Da X.K G' v d → φ (.rt d) n' → De.rt v H') ∧ Xw X B EX ξ
/-- a block that may end or return -/
def BJ (X : Cx) (EX : XR) (ss : List Stmt) (g : List Sl) (x : m (Fl A)) (P : A → List Sl) : Prop := PSs X ss (tbJ X EX g x P)
def tfJ (X : Cx) (EX : XR) (fall : Bool) (g : List Sl) (x : m D) : TS := fun De σ H => ∃ B G n φ ξ, Ok X.K B g σ H G n ∧ Mo.sat x n φ ξ ∧ (∀ v H' G' d n', Fm X.K B H' G' n' → Da X.K G' v d → φ d n' → De.rt v H') ∧
  (fall = true → ∀ σ' H' G' n', Fm X.K B H' G' n' → φ .none n' → De.nx σ' H') ∧ Xw X B EX ξ
/-- the rest of a def's body (fall: it may come to its end, which hands back None) -/
def FJ (X : Cx) (EX : XR) (fall : Bool) (ss : List Stmt) (g : List Sl) (x : m D) : Prop := PSs X ss (tfJ X EX fall g x)
end
section
variable {m : Type → Type} [Mo m] {A A' : Type} {X : Cx} {EX : XR} {g : List Sl} {fall : Bool}
theorem fj_seq {s : Stmt} {rest : List Stmt} {x : m A} {P : A → List Sl} {y : A → m D} (h : SJ X EX s g x P) (hr : ∀ a, FJ X EX fall rest (P a) (y a)) : FJ X EX fall (s :: rest) g (x >>= y) :=
  (pss_cons h (u := fun De σ H => ∃ a, tfJ X EX fall (P a) (y a) De σ H) ⟨fun pins s σ H De I ⟨a, q⟩ => (hr a).run pins s σ H De I q⟩).weak fun De σ H ⟨B, G, n, φ, ξ, o, s, q1, q2, xw⟩ =>
    ⟨B, G, n, _, ξ, o, Mo.sat_bind s, fun a σ' H' G' n' o' g' s' => ⟨a, B, G', n', φ, ξ, o', s', q1, q2, xw⟩, xw⟩
theorem bj_seq {s : Stmt} {rest : List Stmt} {x : m A} {P : A → List Sl} {y : A → m (Fl A')} {P' : A' → List Sl} (h : SJ X EX s g x P) (hr : ∀ a, BJ X EX rest (P a) (y a) P') : BJ X EX (s :: rest) g (x >>= y) P' :=
  (pss_cons h (u := fun De σ H => ∃ a, tbJ X EX (P a) (y a) P' De σ H) ⟨fun pins s σ H De I ⟨a, q⟩ => (hr a).run pins s σ H De I q⟩).weak fun De σ H ⟨B, G, n, φ, ξ, o, s, q1, q2, xw⟩ =>
    ⟨B, G, n, _, ξ, o, Mo.sat_bind s, fun a σ' H' G' n' o' g' s' => ⟨a, B, G', n', φ, ξ, o', s', fun c τ K' L' k oc gc pc => q1 c τ K' L' k oc (g'.trans gc) pc, q2, xw⟩, xw⟩
/-- what a later block need not know is forgotten -/
def Sub : List Sl → List Sl → Prop
  | [], [] => True
  | s :: g, t :: h => (t = .any ∨ t = s) ∧ Sub g h
  | _, _ => False
theorem Sub.len : ∀ {g h : List Sl}, Sub g h → h.length = g.length
  | [], [], _ => rfl
  | _ :: _, _ :: _, q => by simp [Sub.len q.2]
  | [], _ :: _, q => q.elim
  | _ :: _, [], q => q.elim
theorem Sub.get : ∀ {g h : List Sl}, Sub g h → ∀ (i : Nat) (s : Sl), h[i]? = some s → s = .any ∨ g[i]? = some s
  | [], [], _, i, s, e => by simp at e
  | a :: g, b :: h, q, 0, s, e => by
    simp at e
    subst e
    rcases q.1 with z | z
    · exact .inl z
    · exact .inr (by simp [z])
  | a :: g, b :: h, q, i + 1, s, e => by
    simp only [List.getElem?_cons_succ] at e ⊢
    exact Sub.get q.2 i s e
  | [], _ :: _, q, _, _, _ => q.elim
  | _ :: _, [], q, _, _, _ => q.elim
theorem Ok.forget {K : PySem.W.Frag} {B : Bs} {σ : L2.St} {H G : Hp} {n : Wd} {g' : List Sl} (o : Ok K B g σ H G n) (h : Sub g g') : Ok K B g' σ H G n := o.sub h.len h.get
theorem bj_nil {a : A} {P : A → List Sl} (h : Sub g (P a)) : BJ (m := m) X EX [] g (pure (.nx a)) P := pss_nil.weak fun De σ H ⟨B, G, n, φ, ξ, o, s, q1, q2, xw⟩ => q1 a σ H G n (o.forget h) (Same.refl _) (Mo.sat_pure s)
theorem pss_ret {e : Expr} {rest : List Stmt} {pos : Pos} {te : TE} (h : PE X e te) : PSs X (.Return (some e) pos :: rest) (fun De σ H => te σ H De.rt) := (pss_cons (ps_ret h) (u := tNever) ⟨fun _ _ _ _ _ _ h => h.elim⟩)
theorem fj_ret {e : Expr} {rest : List Stmt} {pos : Pos} {x : m D} (h : EJ X EX e g x) : FJ X EX fall (.Return (some e) pos :: rest) g x :=
  (pss_ret h).weak fun De σ H ⟨B, G, n, φ, ξ, o, s, q1, q2, xw⟩ => ⟨B, G, n, φ, ξ, o, s, fun v H' G' d n' o' g' d' p => q1 v H' G' d n' o'.fm d' p, xw⟩
theorem bj_ret {e : Expr} {rest : List Stmt} {pos : Pos} {x : m D} {P : A → List Sl} (h : EJ X EX e g x) : BJ X EX (.Return (some e) pos :: rest) g (x >>= fun d => pure (.rt d)) P :=
  (pss_ret h).weak fun De σ H ⟨B, G, n, φ, ξ, o, s, q1, q2, xw⟩ => ⟨B, G, n, _, ξ, o, Mo.sat_bind s, fun v H' G' d n' o' g' d' p => q2 v H' G' d n' o'.fm d' (Mo.sat_pure p), xw⟩
/-! ### if -/
/-- if c: .. (it returns) -/
theorem fj_ifr {c : Expr} {thn rest : List Stmt} {pos : Pos} {t : m Bool} {x y : m D} (hc : TJ X EX c g t) (h1 : FJ X EX false thn g x) (h2 : FJ X EX fall rest g y) : FJ X EX fall (.If c thn [] pos :: rest) g (t >>= fun k => if k = true then x else y) :=
  (pss_cons (ps_if hc h1 pss_nil) h2).weak fun De σ H ⟨B, G, n, φ, ξ, o, s, q1, q2, xw⟩ => tt_one o s (fun b H1 G1 n1 o1 g1 s1 => by
    cases b with
    | true =>
      rw [if_pos rfl] at s1 ⊢
      exact ⟨B, G1, n1, φ, ξ, o1, s1, q1, (fun z => by cases z), xw⟩
    | false =>
      rw [if_neg Bool.false_ne_true] at s1 ⊢
      exact ⟨B, G1, n1, φ, ξ, o1, s1, q1, q2, xw⟩) xw
theorem bj_ifr {c : Expr} {thn rest : List Stmt} {pos : Pos} {t : m Bool} {x : m D} {y : m (Fl A)} {P : A → List Sl} (hc : TJ X EX c g t) (h1 : FJ X EX false thn g x) (h2 : BJ X EX rest g y P) : BJ X EX (.If c thn [] pos :: rest) g (t >>= fun k => if k = true then (x >>= fun d => pure (.rt d)) else y) P :=
  (pss_cons (ps_if hc h1 pss_nil) h2).weak fun De σ H ⟨B, G, n, φ, ξ, o, s, q1, q2, xw⟩ => tt_one o s (fun b H1 G1 n1 o1 g1 s1 => by
    cases b with
    | true =>
      rw [if_pos rfl] at s1 ⊢
      exact ⟨B, G1, n1, _, ξ, o1, Mo.sat_bind s1, (fun v H' G' d n' f' d' p => q2 v H' G' d n' f' d' (Mo.sat_pure p)), (fun z => by cases z), xw⟩
    | false =>
      rw [if_neg Bool.false_ne_true] at s1 ⊢
      exact ⟨B, G1, n1, φ, ξ, o1, s1, fun c τ K' L' k oc gc pc => q1 c τ K' L' k oc (g1.trans gc) pc, q2, xw⟩) xw
def thenM (f : Fl A) (y : A → m D) : m D := match f with
  | .nx a => y a
  | .rt d => pure d
def thenB (f : Fl A) (y : A → m (Fl A')) : m (Fl A') := match f with
  | .nx a => y a
  | .rt d => pure (.rt d)
theorem pss_any {ι : Type} {ss : List Stmt} {F : ι → TS} (h : ∀ i, PSs X ss (F i)) : PSs X ss (fun De σ H => ∃ i, F i De σ H) := ⟨fun pins s σ H De I ⟨i, q⟩ => (h i).run pins s σ H De I q⟩
/-- if c: .. else: .., both may go on -/
theorem fj_if {c : Expr} {thn els rest : List Stmt} {pos : Pos} {t : m Bool} {x1 x2 : m (Fl A)} {P : A → List Sl} {y : A → m D} (hc : TJ X EX c g t) (h1 : BJ X EX thn g x1 P) (h2 : BJ X EX els g x2 P) (hr : ∀ a, FJ X EX fall rest (P a) (y a)) :
    FJ X EX fall (.If c thn els pos :: rest) g (t >>= fun k => (if k = true then x1 else x2) >>= fun f => thenM f y) :=
  (pss_cons (ps_if hc h1 h2) (pss_any hr)).weak fun De σ H ⟨B, G, n, φ, ξ, o, s, q1, q2, xw⟩ => tt_one o s (fun b H1 G1 n1 o1 g1 s1 => by
    cases b with
    | true =>
      rw [if_pos rfl] at s1 ⊢
      exact ⟨B, G1, n1, _, ξ, o1, Mo.sat_bind s1, (fun a σ' H' G' n' o' g' s' => ⟨a, B, G', n', φ, ξ, o', s', q1, q2, xw⟩), (fun v H' G' d n' f' d' p => q1 v H' G' d n' f' d' (Mo.sat_pure p)), xw⟩
    | false =>
      rw [if_neg Bool.false_ne_true] at s1 ⊢
      exact ⟨B, G1, n1, _, ξ, o1, Mo.sat_bind s1, (fun a σ' H' G' n' o' g' s' => ⟨a, B, G', n', φ, ξ, o', s', q1, q2, xw⟩), (fun v H' G' d n' f' d' p => q1 v H' G' d n' f' d' (Mo.sat_pure p)), xw⟩) xw
/-! ### for -/
def loopM (f : D → A → m (Fl A)) : List D → A → m (Fl A)
  | [], a => pure (.nx a)
  | d :: r, a => f d a >>= fun z => match z with
    | .nx a' => loopM f r a'
    | .rt v => pure (.rt v)
/-- the target's store at a turn: from the loop's slots P a and the item d to what the body finds -/
def GSem (K : PySem.W.Frag) (gT : TG) (P : A → List Sl) (b : D → A → m (Fl A)) (f : D → A → List Sl → m (Fl A) → Prop) : Prop :=
  ∀ (B : Bs) (σ : L2.St) (H G : Hp) (n : Wd) (d : D) (a : A) (v : V) (φ : Fl A → Wd → Prop) (ξ : Exn → Wd → Prop) (Q : L2.St → Hp → Prop), Ok K B (P a) σ H G n → Da K G v d → Mo.sat (b d a) n φ ξ → (∀ g' y σ', f d a g' y → Ok K B g' σ' H G n → Mo.sat y n φ ξ → Q σ' H) → gT v σ H Q
theorem for_core {tg iter : Expr} {body : List Stmt} {pos : Pos} {xi : m (List D)} {gT : TG} {P : A → List Sl} {a0 : A} {b : D → A → m (Fl A)} {F : D → A → List Sl → m (Fl A) → Prop} (hp : PassesOwn (model X.prog X.w) X.A X.env X.xe) (hc : X.calm = true) (hi : IJ X EX tg iter g xi) (hg : PG X tg gT)
    (hb : ∀ d a g' y, F d a g' y → BJ X EX body g' y P) (hsem : GSem X.K gT P b F) (h0 : Sub g (P a0)) (hs : ∀ x, foldedSetIterable iter X.env x = pure x := by intro _; rfl) :
    PS X (.For tg iter body [] pos) (tbJ X EX g (xi >>= fun ds => loopM b ds a0) P) := by
  have hbody : PSs X body (fun De σ H => ∃ t : { t : D × A × List Sl × m (Fl A) // F t.1 t.2.1 t.2.2.1 t.2.2.2 }, tbJ X EX t.1.2.2.1 t.1.2.2.2 P De σ H) := pss_any fun t => hb _ _ _ _ t.2
  refine (ps_for hp hc hi hg hbody hs).weak fun De σ H ⟨B, G, n, φ, ξ, o, s, q1, q2, xw⟩ => ⟨B, G, n, _, ξ, o, Mo.sat_bind s, fun J H1 G1 ds n1 o1 g1 wk s1 => ?_, xw⟩
  refine ⟨fun i k σ' H' => k = ds.length - i ∧ i ≤ ds.length ∧ ∃ G' n' a, Ok X.K B (P a) σ' H' G' n' ∧ Same G1 G' ∧ Mo.sat (loopM b (ds.drop i) a) n' φ ξ, ⟨ds.length, by omega, Nat.zero_le _, G1, n1, a0, o1.forget h0, Same.refl _, s1⟩, ?_⟩
  rintro i k σ' H' ⟨rfl, hi, G', n', a, o', g', s'⟩
  by_cases hlt : i < ds.length
  · refine .inr ⟨wk.goes i H' hlt (g'.subm o'.fm.sub), fun σ2 H2 => ∃ G2 n2 a2, Ok X.K B (P a2) σ2 H2 G2 n2 ∧ Same G1 G2 ∧ Mo.sat (loopM b (ds.drop (i + 1)) a2) n2 φ ξ, fun σ2 H2 ⟨G2, n2, a2, r⟩ => ⟨ds.length - (i + 1), by omega, rfl, hlt, G2, n2, a2, r⟩, fun v H2 hy => ?_⟩
    obtain ⟨d, G2, ed, gr, dv⟩ := wk.yields i H' G' v H2 hlt g' o'.fm.sub hy
    have e0 : ds.drop i = d :: ds.drop (i + 1) := by
      rw [List.drop_eq_getElem_cons hlt]
      congr 1
      rw [List.getElem?_eq_getElem hlt] at ed
      exact Option.some.inj ed
    rw [e0] at s'
    refine hsem B σ' H2 G2 n' d a v _ ξ _ (o'.gr gr) dv (Mo.sat_bind s') fun g2 y σ2 hF o2 s2 => ?_
    refine ⟨⟨(d, a, g2, y), hF⟩, B, G2, n', _, ξ, o2, s2, fun a3 σ3 H3 G3 n3 o3 g3 s3 => ⟨G3, n3, a3, o3, (g'.trans gr.g).trans g3, s3⟩, fun w H3 G3 e n3 f3 d3 s3 => q2 w H3 G3 e n3 f3 d3 (Mo.sat_pure s3), xw⟩
  · have e : i = ds.length := by omega
    subst e
    rw [List.drop_length] at s'
    exact .inl ⟨wk.stops H' (g'.subm o'.fm.sub), q1 a σ' H' G' n' o' (g1.trans g') (Mo.sat_pure s')⟩
end
end DD
namespace DD
open PySem PySem.Spec PyProof.Rows L2
section
variable {m : Type → Type} [Mo m] {A A' : Type} {X : Cx} {EX : XR} {g : List Sl} {fall : Bool}
/-! ### for, by its target -/
theorem gsem1 {i : Nat} {P : A → List Sl} {b : D → A → m (Fl A)} : GSem X.K (gName i) P b (fun d a g' y => g' = (P a).set i (.val d) ∧ y = b d a) := by
  intro B σ H G n d a v φ ξ Q o dv s q
  exact q _ _ _ ⟨rfl, rfl⟩ (o.setV dv) s
theorem gsem2 {i j : Nat} {P : A → List Sl} {b : D → D → A → m (Fl A)} : GSem X.K (gTup X.K 2 (gCons (gName i) (gCons (gName j) gNil))) P (fun d a => pairM d fun u w => b u w a) (fun d a g' y => ∃ u w, g' = ((P a).set i (.val u)).set j (.val w) ∧ y = b u w a) := by
  intro B σ H G n d a v φ ξ Q o dv s q
  unfold pairM at s
  dsimp only at s
  split at s
  · rename_i u w
    cases dv with
    | tup h da =>
      cases da with
      | cons d1 r =>
        cases r with
        | cons d2 r =>
          cases r
          exact ⟨_, _, rfl, sameT o.fm.sub h, rfl, _, _, rfl, _, _, rfl, rfl, q _ _ _ ⟨u, w, rfl, rfl⟩ ((o.setV d1).setV d2) s⟩
  · obtain ⟨_, e, _⟩ := Mo.sat_lift s
    cases e
theorem fj_of_for {s : Stmt} {rest : List Stmt} {x : m (Fl A)} {P : A → List Sl} {y : A → m D} (h : PS X s (tbJ X EX g x P)) (hr : ∀ a, FJ X EX fall rest (P a) (y a)) : FJ X EX fall (s :: rest) g (x >>= fun f => thenM f y) :=
  (pss_cons h (pss_any hr)).weak fun De σ H ⟨B, G, n, φ, ξ, o, s, q1, q2, xw⟩ =>
    ⟨B, G, n, _, ξ, o, Mo.sat_bind s, fun a σ' H' G' n' o' g' s' => ⟨a, B, G', n', φ, ξ, o', s', q1, q2, xw⟩, fun v H' G' d n' f' d' p => q1 v H' G' d n' f' d' (Mo.sat_pure p), xw⟩
theorem bj_of_for {s : Stmt} {rest : List Stmt} {x : m (Fl A)} {P : A → List Sl} {y : A → m (Fl A')} {P' : A' → List Sl} (h : PS X s (tbJ X EX g x P)) (hr : ∀ a, BJ X EX rest (P a) (y a) P') : BJ X EX (s :: rest) g (x >>= fun f => thenB f y) P' :=
  (pss_cons h (pss_any hr)).weak fun De σ H ⟨B, G, n, φ, ξ, o, s, q1, q2, xw⟩ =>
    ⟨B, G, n, _, ξ, o, Mo.sat_bind s, fun a σ' H' G' n' o' g' s' => ⟨a, B, G', n', φ, ξ, o', s', fun c τ K' L' k oc gc pc => q1 c τ K' L' k oc (g'.trans gc) pc, q2, xw⟩, fun v H' G' d n' f' d' p => q2 v H' G' d n' f' d' (Mo.sat_pure p), xw⟩
theorem for1 (i : Nat) {tg iter : Expr} {body : List Stmt} {pos : Pos} {xi : m (List D)} {P : A → List Sl} {a0 : A} {b : D → A → m (Fl A)} (hp : PassesOwn (model X.prog X.w) X.A X.env X.xe) (hi : IJ X EX tg iter g xi) (hg : PG X tg (gName i))
    (hb : ∀ d a, BJ X EX body ((P a).set i (.val d)) (b d a) P) (h0 : Sub g (P a0)) (hc : X.calm = true := by rfl) (hs : ∀ x, foldedSetIterable iter X.env x = pure x := by intro _; rfl) :
    PS X (.For tg iter body [] pos) (tbJ X EX g (xi >>= fun ds => loopM b ds a0) P) :=
  for_core hp hc hi hg (fun d a g' y ⟨e1, e2⟩ => by subst e1 e2; exact hb d a) gsem1 h0 hs
theorem for2 (i j : Nat) {tg iter : Expr} {body : List Stmt} {pos : Pos} {xi : m (List D)} {P : A → List Sl} {a0 : A} {b : D → D → A → m (Fl A)} (hp : PassesOwn (model X.prog X.w) X.A X.env X.xe) (hi : IJ X EX tg iter g xi) (hg : PG X tg (gTup X.K 2 (gCons (gName i) (gCons (gName j) gNil))))
    (hb : ∀ u w a, BJ X EX body (((P a).set i (.val u)).set j (.val w)) (b u w a) P) (h0 : Sub g (P a0)) (hc : X.calm = true := by rfl) (hs : ∀ x, foldedSetIterable iter X.env x = pure x := by intro _; rfl) :
    PS X (.For tg iter body [] pos) (tbJ X EX g (xi >>= fun ds => loopM (fun d a => pairM d fun u w => b u w a) ds a0) P) :=
  for_core hp hc hi hg (fun d a g' y ⟨u, w, e1, e2⟩ => by subst e1 e2; exact hb u w a) gsem2 h0 hs
/-! ### plain statements -/
theorem sj_set (i : Nat) {y : Str} {py pos : Pos} {e : Expr} {x : m D} (hN : X.N.Nodup) (h : EJ X EX e g x) (hi : X.N[i]? = some y := by rfl) (hx : Loc X.env.scope y := by first | exact Or.inl rfl | exact Or.inr rfl) (hs : swapsWith e (some (.Name y py)) pos.line X.env = pure false := by kernel_rfl)
    (hf : X.fn y = true ∨ X.env.scope.names.lookup y = some .local := by first | exact .inl rfl | exact .inr rfl) : SJ X EX (.Assign [.Name y py] e pos) g x (fun d => g.set i (.val d)) :=
  (ps_set hN hi hx h hs hf).weak fun De σ H ⟨B, G, n, φ, ξ, o, s, q, xw⟩ => ⟨B, G, n, φ, ξ, o, s, fun v H' G' d n' o' g' dv p => q d _ H' G' n' (o'.setV dv) g' p, xw⟩
theorem sj_expr {e : Expr} {pos : Pos} {x : m D} (h : EJ X EX e g x) (hs : swapsWith e none pos.line X.env = pure false := by kernel_rfl) : SJ X EX (.Expr e pos) g x (fun _ => g) :=
  (ps_expr h hs).weak fun De σ H ⟨B, G, n, φ, ξ, o, s, q, xw⟩ => ⟨B, G, n, φ, ξ, o, s, fun v H' G' d n' o' g' dv p => q d _ H' G' n' o' g' p, xw⟩
/-- a slot is given a list of its own -/
theorem Ok.setO {K : PySem.W.Frag} {B : Bs} {σ : L2.St} {H G : Hp} {n : Wd} {p : Addr} {xs : List V} {ds : List D} {i : Nat} (o : Ok K B g σ H G n) (hb : B.H p = none) (hg : G p = none) (hh : H p = some (.lst xs))
    (hf : ∀ (i : Nat) (es : List D) (f : Addr), g[i]? = some (Sl.own es) → σ[i]? = some (some (V.ref f)) → f ≠ p) (da : DaAll K G xs ds) : Ok K B (g.set i (.own ds)) (σ.set i (some (.ref p))) H G n where
  fm := o.fm
  len := by rw [List.length_set, List.length_set, o.len]
  val := fun j e he => by
    by_cases hj : i = j
    · subst hj
      by_cases hl : i < g.length
      · rw [List.getElem?_set_self hl] at he; cases he
      · rw [List.getElem?_eq_none (by rw [List.length_set]; omega)] at he; cases he
    · rw [List.getElem?_set_ne hj] at he ⊢
      exact o.val j e he
  own := by
    obtain ⟨f, h1, h2⟩ := o.own
    have out : ∀ (j : Nat) (es : List D), i ≠ j → (g.set i (.own ds))[j]? = some (Sl.own es) → g[j]? = some (Sl.own es) := fun j es hj e => by
      rw [List.getElem?_set_ne hj] at e; exact e
    refine ⟨fun j => if j = i then p else f j, fun j k es es' a b e => ?_, fun j es e => ?_⟩
    · dsimp only at e
      by_cases hj : j = i <;> by_cases hk : k = i
      · rw [hj, hk]
      · rw [if_pos hj, if_neg hk] at e
        have b' := out k es' (Ne.symm hk) b
        obtain ⟨q, _⟩ := h2 k es' b'
        exact absurd e.symm (hf k es' _ b' q)
      · rw [if_neg hj, if_pos hk] at e
        have a' := out j es (Ne.symm hj) a
        obtain ⟨q, _⟩ := h2 j es a'
        exact absurd e (hf j es _ a' q)
      · rw [if_neg hj, if_neg hk] at e
        exact h1 j k es es' (out j es (Ne.symm hj) a) (out k es' (Ne.symm hk) b) e
    · dsimp only
      by_cases hj : j = i
      · subst hj
        by_cases hl : j < g.length
        · rw [List.getElem?_set_self hl] at e
          cases e
          rw [if_pos rfl, List.getElem?_set_self (by rw [← o.len]; exact hl)]
          exact ⟨rfl, hg, hb, xs, hh, da⟩
        · rw [List.getElem?_eq_none (by rw [List.length_set]; omega)] at e; cases e
      · rw [if_neg hj, List.getElem?_set_ne (Ne.symm hj)]
        exact h2 j es (out j es (Ne.symm hj) e)
  dck := fun j e => by
    by_cases hj : i = j
    · subst hj
      by_cases hl : i < g.length
      · rw [List.getElem?_set_self hl] at e; cases e
      · rw [List.getElem?_eq_none (by rw [List.length_set]; omega)] at e; cases e
    · rw [List.getElem?_set_ne hj] at e ⊢
      exact o.dck j e
  adr := fun j b od fs e => by
    by_cases hj : i = j
    · subst hj
      by_cases hl : i < g.length
      · rw [List.getElem?_set_self hl] at e; cases e
      · rw [List.getElem?_eq_none (by rw [List.length_set]; omega)] at e; cases e
    · rw [List.getElem?_set_ne hj] at e ⊢
      exact o.adr j b od fs e
theorem sj_setO (i : Nat) {y : Str} {py pos : Pos} {e : Expr} {x : m (List D)} (hN : X.N.Nodup) (h : LJ X EX e g x) (hi : X.N[i]? = some y := by rfl) (hx : Loc X.env.scope y := by first | exact Or.inl rfl | exact Or.inr rfl) (hs : swapsWith e (some (.Name y py)) pos.line X.env = pure false := by kernel_rfl)
    (hf : X.fn y = true ∨ X.env.scope.names.lookup y = some .local := by first | exact .inl rfl | exact .inr rfl) : SJ X EX (.Assign [.Name y py] e pos) g x (fun ds => g.set i (.own ds)) :=
  (ps_set hN hi hx h hs hf).weak fun De σ H ⟨B, G, n, φ, ξ, o, s, q, xw⟩ => ⟨B, G, n, φ, ξ, o, s, fun p xs H' G' ds n' o' g' hb hg hh hf da pd => q ds _ H' G' n' (o'.setO hb hg hh hf da) g' pd, xw⟩
/-- y = [..] on one line, y a local -/
theorem sj_lcV (i : Nat) {y : Str} {py pos : Pos} {e : Expr} {x : m (List D)} (hN : X.N.Nodup) (h : LcP X EX e g x) (hw : swapsWith e (some (.Name y py)) pos.line X.env = pure true) (hi : X.N[i]? = some y := by rfl) (hl : X.env.scope.names.lookup y = some .local := by rfl) :
    SJ X EX (.Assign [.Name y py] e pos) g x (fun ds => g.set i (.val (.list ds))) :=
  (h.stmt hN hi hl hw).weak fun De σ H ⟨B, G, n, φ, ξ, o, s, q, xw⟩ => ⟨B, G, n, φ, ξ, o, s, fun p xs H' G' ds n' o' g' hb hg hh hf da pd => by
    obtain ⟨o2, g2⟩ := o'.freeze hb hg hh hf
    exact q ds _ H' _ n' (o2.setV (.lst upd_same (da.mono g2))) (g'.trans g2) pd, xw⟩
theorem sj_lcO (i : Nat) {y : Str} {py pos : Pos} {e : Expr} {x : m (List D)} (hN : X.N.Nodup) (h : LcP X EX e g x) (hw : swapsWith e (some (.Name y py)) pos.line X.env = pure true) (hi : X.N[i]? = some y := by rfl) (hl : X.env.scope.names.lookup y = some .local := by rfl) :
    SJ X EX (.Assign [.Name y py] e pos) g x (fun ds => g.set i (.own ds)) :=
  (h.stmt hN hi hl hw).weak fun De σ H ⟨B, G, n, φ, ξ, o, s, q, xw⟩ => ⟨B, G, n, φ, ξ, o, s, fun p xs H' G' ds n' o' g' hb hg hh hf da pd => q ds _ H' G' n' (o'.setO hb hg hh hf da) g' pd, xw⟩
/-- the list in slot i is changed -/
theorem Ok.write {K : PySem.W.Frag} {B : Bs} {σ : L2.St} {H G : Hp} {n : Wd} {a : Addr} {xs : List V} {ds es : List D} {i : Nat} (o : Ok K B g σ H G n) (hi : g[i]? = some (Sl.own es)) (ha : σ[i]? = some (some (V.ref a))) (da : DaAll K G xs ds) : Ok K B (g.set i (.own ds)) σ (upd H a (.lst xs)) G n := by
  obtain ⟨f, h1, h2⟩ := id o.own
  obtain ⟨e1, e2, e3, ys, e4, e5⟩ := h2 i es hi
  rw [ha] at e1
  obtain rfl : a = f i := by cases e1; rfl
  have hl : i < g.length := (List.getElem?_eq_some_iff.mp hi).1
  have sd : Side B (g.set i .any) σ G (f i) := by
    refine ⟨e3, ?_, e2, fun j es' q z y => ?_⟩
    · cases e : B.G (f i) with
      | none => rfl
      | some z => rw [o.fm.old _ _ e] at e2; cases e2
    · by_cases hj : i = j
      · subst hj
        rw [List.getElem?_set_self hl] at z; cases z
      · rw [List.getElem?_set_ne hj] at z
        rintro rfl
        obtain ⟨q1, _⟩ := h2 j es' z
        rw [q1] at y
        exact hj (h1 i j es es' hi z (V.ref.inj (Option.some.inj (Option.some.inj y))).symm)
  have o1 : Ok K B (g.set i .any) σ H G n := o.sub (by simp) fun j s e => by
    by_cases hj : i = j
    · subst hj
      rw [List.getElem?_set_self hl] at e
      cases e
      exact .inl rfl
    · rw [List.getElem?_set_ne hj] at e
      exact .inr e
  have o2 := (o1.poke (u := .lst xs) sd).setO (i := i) (p := f i) sd.b sd.no upd_same sd.f da
  rw [List.set_set] at o2
  have : σ.set i (some (V.ref (f i))) = σ := by
    apply List.ext_getElem?
    intro j
    by_cases hj : i = j
    · subst hj
      rw [List.getElem?_set_self (by rw [← o.len]; exact hl), ha]
    · rw [List.getElem?_set_ne hj]
  rw [this] at o2
  exact o2
end
end DD
namespace DD
open PySem PySem.Spec PyProof.Rows L2
section
variable {m : Type → Type} [Mo m] {A A' : Type} {X : Cx} {EX : XR} {g : List Sl} {fall : Bool}
theorem own_at {K : PySem.W.Frag} {B : Bs} {σ : L2.St} {H G : Hp} {n : Wd} {i : Nat} {ds : List D} (o : Ok K B g σ H G n) (hi : g[i]? = some (Sl.own ds)) : ∃ a xs, σ[i]? = some (some (V.ref a)) ∧ H a = some (.lst xs) ∧ DaAll K G xs ds := by
  obtain ⟨f, _, h2⟩ := o.own
  obtain ⟨e1, _, _, xs, e4, e5⟩ := h2 i ds hi
  exact ⟨f i, xs, e1, e4, e5⟩
def fits (k : Nat) : Option Unit := if k < 1000000 then some () else none
theorem fits_lt {k : Nat} {u : Unit} (h : fits k = some u) : k < sizeLine := by
  unfold fits at h
  split at h
  · rename_i hl; exact Nat.lt_trans hl (by decide)
  · cases h
/-- x.append(e), x a list of one's own -/
theorem sj_append (i : Nat) {ds : List D} {y : Str} {py apos cpos pos : Pos} {e : Expr} {x : m D} (h : EJ X EX e g x) (hg : g[i]? = some (Sl.own ds) := by rfl) (hN : X.N[i]? = some y := by rfl) (hv : Vis X.env.scope y := by first | exact Or.inl rfl | exact Or.inr (Or.inl rfl) | exact Or.inr (Or.inr rfl))
    (hd : (y == ("__debug__" : Str)) = false := by decide) (hcd : (y == ("__classdict__" : Str)) = false := by decide)
    (hbase : attributeBase (.Name y py) "append" X.env (eval (.Name y py) X.env) = eval (.Name y py) X.env := by rfl)
    (hfew : ((backTo cpos (starEach [e] X.env)).all (fun x => !x.1) && (backToKw cpos (keywordEach [] X.env)).all (fun x => x.1.isSome) && decide ([e].length + ([] : List Keyword).length + (if ([] : List Keyword).isEmpty then 0 else 1) < 30)) = true := by rfl)
    (hline : (apos.endLine == cpos.line) = true := by rfl) (hs : starEach [e] X.env = (false, eval e X.env) :: starEach [] X.env := by rfl) (hpl : (backTo cpos (starEach [] X.env)).any (·.1) = false := by rfl)
    (hw : swapsWith (.Call (.Attribute (.Name y py) "append" apos) [e] [] cpos) none pos.line X.env = pure false := by rfl) :
    SJ X EX (.Expr (.Call (.Attribute (.Name y py) "append" apos) [e] [] cpos) pos) g (x >>= fun d => Mo.lift (fits ds.length) >>= fun _ => pure d) (fun d => g.set i (.own (ds ++ [d]))) :=
  (ps_expr (pe_bm PySem.F.plainAttrs_list PySem.F.slot_list_append PySem.F.type_list_append mt_append (pe_var hN hv hd hcd) (pa_cons h pa_nil hs) hbase hfew hline hs hpl) hw).weak fun De σ H ⟨B, G, n, φ, ξ, o, s, q, xw⟩ => by
    obtain ⟨a, xs, e1, e2, e3⟩ := own_at o hg
    refine ⟨.ref a, e1, .inl ⟨rfl, xs, .inl (.inl e2)⟩, te_one o s (fun v H1 G1 d n1 o1 g1 d1 s1 => ?_) xw⟩
    obtain ⟨u, eu, s2⟩ := Mo.sat_lift (Mo.sat_bind s1)
    obtain ⟨a', xs', e1', e2', e3'⟩ := own_at o1 hg
    rw [e1] at e1'
    cases e1'
    refine ⟨a, xs', v, rfl, rfl, e2', by rw [e3'.length]; exact fits_lt eu, q d _ _ G1 n1 (o1.write hg e1 (e3'.append (.one d1))) g1 (Mo.sat_pure s2)⟩
def putD (ds : List D) (k : D) (d : D) : Option (List D) := match k with
  | .int j => (ixN ds.length j).map fun i => ds.set i d
  | _ => none
/-- x[k] = e, x a list of one's own -/
theorem sj_put (i : Nat) {ds : List D} {y : Str} {py p2 pos : Pos} {k e : Expr} {x z : m D} (h : EJ X EX e g x) (hk : EJ X EX k g z) (hg : g[i]? = some (Sl.own ds) := by rfl) (hN : X.N[i]? = some y := by rfl) (hv : Vis X.env.scope y := by first | exact Or.inl rfl | exact Or.inr (Or.inl rfl) | exact Or.inr (Or.inr rfl))
    (hd : (y == ("__debug__" : Str)) = false := by decide) (hcd : (y == ("__classdict__" : Str)) = false := by decide)
    (ha : ∀ v, assign (.Subscript (.Name y py) k p2) X.env v = (do
      let ov ← holding [v] (eval (.Name y py) X.env)
      let iv ← holding [v, ov] (eval k X.env)
      standAt p2
      holding [v, ov, iv] (setItem ov iv v)
      release [v, ov, iv] []) := by intro _; rfl)
    (hs : swapsWithSole [.Subscript (.Name y py) k p2] e pos.line X.env = pure false := by kernel_rfl) (hw : swappedStores [.Subscript (.Name y py) k p2] e X.env = pure none := by kernel_rfl)
    (h1 : (assignEach [.Subscript (.Name y py) k p2] X.env).map (·.2) = [assign (.Subscript (.Name y py) k p2) X.env] := by rfl) :
    SJ X EX (.Assign [.Subscript (.Name y py) k p2] e pos) g (x >>= fun d => z >>= fun j => Mo.lift (putD ds j d)) (fun es => g.set i (.own es)) :=
  (ps_asg h (pg_sub (pe_var hN hv hd hcd) hk set_list ha) hs hw h1).weak fun De σ H ⟨B, G, n, φ, ξ, o, s, q, xw⟩ => te_one o s (fun v H1 G1 d n1 o1 g1 d1 s1 => by
    obtain ⟨a, xs, e1, e2, e3⟩ := own_at o1 hg
    refine ⟨.ref a, e1, te_one o1 s1 (fun w H2 G2 j n2 o2 g2 d2 s2 => ?_) xw⟩
    obtain ⟨es, ee, pe⟩ := Mo.sat_lift s2
    obtain ⟨a', xs', e1', e2', e3'⟩ := own_at o2 hg
    rw [e1] at e1'
    cases e1'
    unfold putD at ee
    cases j with
    | int j =>
      obtain ⟨t, et, rfl⟩ := Option.map_eq_some_iff.mp ee
      cases d2
      exact ⟨a, xs', j, t, rfl, rfl, e2', by rw [e3'.length]; exact et, q _ _ _ G2 n2 (o2.write hg e1 (e3'.set (d1.mono g2) t)) (g1.trans g2) pe⟩
    | _ => cases ee) xw
/-- a, b = e1, e2 -/
theorem sj_par (i j : Nat) {y z : Str} {a b : Expr} {px py pt pos : Pos} {kt k2 pt2} {x1 x2 : m D} (hN : X.N.Nodup) (ha : EJ X EX a g x1) (hb : EJ X EX b g x2) (hij : i ≠ j := by decide) (hi : X.N[i]? = some y := by rfl) (hj : X.N[j]? = some z := by rfl) (hc : X.calm = true := by rfl)
    (hx : X.env.scope.names.lookup y = some .local := by rfl) (hy : X.env.scope.names.lookup z = some .local := by rfl)
    (hw : swappedStores [.Tuple [.Name y px, .Name z py] kt pt] (.Tuple [a, b] k2 pt2) X.env = pure (some [y, z]) := by kernel_rfl) (hs : swapsWithSole [.Tuple [.Name y px, .Name z py] kt pt] (.Tuple [a, b] k2 pt2) pos.line X.env = pure false := by kernel_rfl)
    (hs1 : starEach [a, b] X.env = (false, eval a X.env) :: starEach [b] X.env := by rfl) (hs2 : starEach [b] X.env = (false, eval b X.env) :: starEach [] X.env := by rfl) :
    SJ X EX (.Assign [.Tuple [.Name y px, .Name z py] kt pt] (.Tuple [a, b] k2 pt2) pos) g (x1 >>= fun d => x2 >>= fun e => pure (d, e)) (fun de => (g.set i (.val de.1)).set j (.val de.2)) :=
  (ps_par hc hN hi hj hij hx hy (pa_cons ha (pa_cons hb pa_nil hs2) hs1) hw hs).weak fun De σ H ⟨B, G, n, φ, ξ, o, s, q, xw⟩ => te_one o s (fun v H1 G1 d n1 o1 g1 d1 s1 => te_one o1 s1 (fun w H2 G2 e n2 o2 g2 d2 s2 =>
    ⟨v, w, rfl, q (d, e) _ H2 G2 n2 ((o2.setV (d1.mono g2)).setV d2) (g1.trans g2) (Mo.sat_pure s2)⟩) xw) xw
/-- .. b a list of its own -/
theorem sj_parO (i j : Nat) {y z : Str} {a b : Expr} {px py pt pos : Pos} {kt k2 pt2} {x1 : m D} {x2 : m (List D)} (hN : X.N.Nodup) (ha : EJ X EX a g x1) (hb : LJ X EX b g x2) (hij : i ≠ j := by decide) (hi : X.N[i]? = some y := by rfl) (hj : X.N[j]? = some z := by rfl) (hc : X.calm = true := by rfl)
    (hx : X.env.scope.names.lookup y = some .local := by rfl) (hy : X.env.scope.names.lookup z = some .local := by rfl) (hno : noOwn g [i] = true := by rfl)
    (hw : swappedStores [.Tuple [.Name y px, .Name z py] kt pt] (.Tuple [a, b] k2 pt2) X.env = pure (some [y, z]) := by kernel_rfl) (hs : swapsWithSole [.Tuple [.Name y px, .Name z py] kt pt] (.Tuple [a, b] k2 pt2) pos.line X.env = pure false := by kernel_rfl)
    (hs1 : starEach [a, b] X.env = (false, eval a X.env) :: starEach [b] X.env := by rfl) (hs2 : starEach [b] X.env = (false, eval b X.env) :: starEach [] X.env := by rfl) :
    SJ X EX (.Assign [.Tuple [.Name y px, .Name z py] kt pt] (.Tuple [a, b] k2 pt2) pos) g (x1 >>= fun d => x2 >>= fun e => pure (d, e)) (fun de => (g.set i (.val de.1)).set j (.own de.2)) :=
  (ps_par hc hN hi hj hij hx hy (pa_cons ha (pa_cons hb pa_nil hs2) hs1) hw hs).weak fun De σ H ⟨B, G, n, φ, ξ, o, s, q, xw⟩ => te_one o s (fun v H1 G1 d n1 o1 g1 d1 s1 => ⟨B, G1, n1, _, ξ, o1, Mo.sat_bind s1, fun p xs H2 G2 es n2 o2 g2 hb' hg' hh hf da s2 =>
    ⟨v, .ref p, rfl, q (d, es) _ H2 G2 n2 ((o2.setV (d1.mono g2)).setO hb' hg' hh (fun k es' f e1 e2 => by
      by_cases hk : i = k
      · subst hk
        by_cases hl : i < g.length
        · rw [List.getElem?_set_self hl] at e1; cases e1
        · rw [List.getElem?_eq_none (by rw [List.length_set]; omega)] at e1; cases e1
      · rw [List.getElem?_set_ne hk] at e1 e2
        exact hf k es' f e1 e2) da) (g1.trans g2) (Mo.sat_pure s2)⟩, xw⟩) xw
/-! ### a list of one's own, read -/
theorem Ok.freezeS {K : PySem.W.Frag} {B : Bs} {σ : L2.St} {H G : Hp} {n : Wd} {i : Nat} {ds : List D} (o : Ok K B g σ H G n) (hi : g[i]? = some (Sl.own ds)) : ∃ G', Ok K B (g.set i (.val (.list ds))) σ H G' n ∧ Same G G' := by
  obtain ⟨f, h1, h2⟩ := id o.own
  obtain ⟨e1, e2, e3, ys, e4, e5⟩ := h2 i ds hi
  have hl : i < g.length := (List.getElem?_eq_some_iff.mp hi).1
  have o1 : Ok K B (g.set i .any) σ H G n := o.sub (by simp) fun j s e => by
    by_cases hj : i = j
    · subst hj
      rw [List.getElem?_set_self hl] at e
      cases e
      exact .inl rfl
    · rw [List.getElem?_set_ne hj] at e
      exact .inr e
  obtain ⟨o2, g2⟩ := o1.freeze e3 e2 e4 fun j es' q z y => by
    by_cases hj : i = j
    · subst hj
      rw [List.getElem?_set_self hl] at z; cases z
    · rw [List.getElem?_set_ne hj] at z
      rintro rfl
      obtain ⟨q1, _⟩ := h2 j es' z
      rw [q1] at y
      exact hj (h1 i j ds es' hi z (V.ref.inj (Option.some.inj (Option.some.inj y))).symm)
  refine ⟨_, ?_, g2⟩
  have o3 := o2.setV (i := i) (v := .ref (f i)) (d := .list ds) (.lst upd_same (e5.mono g2))
  rw [List.set_set] at o3
  have : σ.set i (some (V.ref (f i))) = σ := by
    apply List.ext_getElem?
    intro j
    by_cases hj : i = j
    · subst hj
      rw [List.getElem?_set_self (by rw [← o.len]; exact hl), e1]
    · rw [List.getElem?_set_ne hj]
  rw [this] at o3
  exact o3
/-- from here on the list in slot i is data -/
theorem fj_fr (i : Nat) {ds : List D} {ss : List Stmt} {x : m D} (h : FJ X EX fall ss (g.set i (.val (.list ds))) x) (hi : g[i]? = some (Sl.own ds) := by rfl) : FJ X EX fall ss g x :=
  PSs.weak h fun De σ H ⟨B, G, n, φ, ξ, o, s, q1, q2, xw⟩ => by
    obtain ⟨G', o', g'⟩ := o.freezeS hi
    exact ⟨B, G', n, φ, ξ, o', s, q1, q2, xw⟩
end
end DD
namespace DD
open PySem PySem.Spec PyProof.Rows L2
/-! ### defs: as FnOk, where no repr runs around the call -/
structure FnG (P : Program) (w : World) (K : PySem.W.Frag) (mg : Str → Option Value) (base : Heap) (k : Nat) (f : Addr) (fd : FuncData) (ps : List Str) (sp : Sp) : Prop where
  len : ∀ vs H Q E, sp vs H Q E → vs.length = ps.length
  run : ∀ (A : Around) (outer : List Env) (s : Shared) (H : Hp) (args : Args) (us : List Value) (vs : List V) (Q : VK) (E : XK), Room k A → A.guards = some [] → Env0 P w K mg base A outer s H → BindsTo s fd args (ps.zip us) → Vals vs us → sp vs H Q E →
    codeAny (model P w) A (.call (.ref f) args) (CR CX0 outer P w H s Q E) s
theorem FnG.mono {P : Program} {w : World} {K : PySem.W.Frag} {mg : Str → Option Value} {base : Heap} {j k : Nat} {f : Addr} {fd : FuncData} {ps : List Str} {sp : Sp} (F : FnG P w K mg base j f fd ps sp) (h : j ≤ k) : FnG P w K mg base k f fd ps sp :=
  ⟨F.len, fun A outer s H args us vs Q E hr => F.run A outer s H args us vs Q E (hr.mono h)⟩
theorem fng_of {P : Program} {w : World} {K : PySem.W.Frag} {mg : Str → Option Value} {base : Heap} {k : Nat} {x qual : Str} {st : Stmt} {f : Addr} {fd : FuncData} {N ps : List Str} {sp : Sp} (F : Fun K x qual st f fd) (S : FnScope N ps (defScope st)) (len : ∀ vs H Q E, sp vs H Q E → vs.length = ps.length)
    (hb : ∀ (cdv : Value) (A : Around) (outer : List Env) (s : Shared) (H : Hp) (vs : List V) (Q : VK) (E : XK), Room k (A.deeper (envOfC qual (defScope st) s.heap.objs.size f cdv)) → A.guards = some [] → sp vs H Q E →
      ∃ t, PSs (cxOf CX0 P w K mg base N qual (defScope st) f cdv A outer s H E).nox (defBody st) t ∧ t { nx := fun _ H' => Q .non H', rt := Q } (start N vs) H) : FnG P w K mg base (k + 1) f fd ps sp := by
  obtain ⟨oc, od, kV, doc, pm, an, cdv, ct, osl, rfl, lk, hcd⟩ := F.ex
  refine ⟨len, fun A outer s H args us vs Q E room gu e0 bi rv hsp => ?_⟩
  have KH : K.In s.heap := e0.mod.kin.keeps fun b o z => (e0.bs b o z).1
  have kinds : ∀ y ∈ ps.zip us, (defScope st).names.lookup y.1 = some .local ∨ ((defScope st).names.lookup y.1 = some .cell ∧ ((cellsFrom (s.heap.objs.size + 1) (defScope st).names []).lookup y.1).isSome = true) := by
    rintro ⟨nm, _⟩ hy
    exact (S.par nm (List.of_mem_zip hy).1).imp id fun z => ⟨z, PySem.W.cellsFrom_some _ _ _ (.inl z)⟩
  refine codeAny_call_function room.depth (KH _ _ lk) rfl S.co S.gen rfl (PySem.W.codeRec_of KH hcd) (bi _ _ _ _ (wpAny_newFunctionEnv_cells S.kind kinds fun env he s1 nw => ?_))
  subst he
  refine ⟨(e0.mod.nolimit.keeps fun b o z => (e0.bs b o z).1).keeps nw.toInCall.keep, codeAny_func ?_⟩
  obtain ⟨t, ht, hq⟩ := hb cdv A outer s H vs Q E (room.deeper _) gu hsp
  refine wpAny_mono (ht.nox.run [] s1 (start N vs) H _ (inv_start S room.hd e0 (len _ _ _ _ hsp) rv nw) hq) (fun fl s' h => ?_) fun _ _ z => z
  cases fl with
  | ret u =>
    obtain ⟨v, _, H', J, r', q⟩ := h
    exact ⟨v, H', J.os, J.bare, J.base, J.hok, r', q⟩
  | next =>
    obtain ⟨_, H', J, q⟩ := h
    exact ⟨.non, H', J.os, J.bare, J.base, J.hok, rfl, q⟩
  | brk => obtain ⟨_, _, _, q⟩ := h; exact q.elim
  | cont => obtain ⟨_, _, _, q⟩ := h; exact q.elim
/-! ### promises by mirrors -/
section
variable {m : Type → Type} [Mo m]
def spJ (K : PySem.W.Frag) (F : List Sl → m D) : Sp := fun vs H Q _ => ∃ G n dk as φ, ArgsOk K ⟨H, G, dk, G⟩ G vs as ∧ Fm K ⟨H, G, dk, G⟩ H G n ∧ Mo.sat (F as) n φ (fun _ _ => False) ∧
  ∀ v H' G' d n', Fm K ⟨H, G, dk, G⟩ H' G' n' → Da K G' v d → φ d n' → Q v H'
theorem ArgsOk.length {K : PySem.W.Frag} {B : Bs} {G : Hp} : ∀ {vs : List V} {as : List Sl}, ArgsOk K B G vs as → vs.length = as.length
  | _, _, .nil => rfl
  | _, _, .cons _ r => by simp [ArgsOk.length r]
theorem ArgsOk.get {K : PySem.W.Frag} {B : Bs} {G : Hp} : ∀ {vs : List V} {as : List Sl}, ArgsOk K B G vs as → ∀ (i : Nat) (a : Sl), as[i]? = some a → ∃ v, vs[i]? = some v ∧ ArgOk K B G v a
  | _, _, .nil, _, _, e => by simp at e
  | _, _, .cons h _, 0, a, e => by simp at e; subst e; exact ⟨_, rfl, h⟩
  | _, _, .cons _ r, i + 1, a, e => by
    obtain ⟨v, h1, h2⟩ := r.get i a (by simpa using e)
    exact ⟨v, by simpa using h1, h2⟩
theorem ok_start {K : PySem.W.Frag} {B : Bs} {H G : Hp} {n : Wd} {N : List Str} {vs : List V} {as : List Sl} (a : ArgsOk K B G vs as) (f : Fm K B H G n) : Ok K B (as ++ List.replicate (N.length - as.length) .any) (start N vs) H G n := by
  have hl := a.length
  have pick : ∀ (i : Nat) (s : Sl), (as ++ List.replicate (N.length - as.length) Sl.any)[i]? = some s → s ≠ .any → ∃ v, (start N vs)[i]? = some (some v) ∧ ArgOk K B G v s := fun i s e ne => by
    by_cases hi : i < as.length
    · rw [List.getElem?_append_left hi] at e
      obtain ⟨v, h1, h2⟩ := a.get i s e
      refine ⟨v, ?_, h2⟩
      unfold L2.start
      rw [List.getElem?_append_left (by rw [List.length_map]; omega), List.getElem?_map, h1]
      rfl
    · rw [List.getElem?_append_right (by omega), List.getElem?_replicate] at e
      split at e
      · cases e; exact absurd rfl ne
      · cases e
  refine ⟨f, ?_, fun i d e => ?_, ⟨fun _ => 0, fun i j ds es e => ?_, fun i ds e => ?_⟩, fun i e => ?_, fun i a od fs e => ?_⟩
  · unfold L2.start
    simp only [List.length_append, List.length_map, List.length_replicate]
    omega
  · obtain ⟨v, h1, h2⟩ := pick i _ e (by simp)
    exact ⟨v, h1, h2⟩
  · obtain ⟨v, _, h2⟩ := pick i _ e (by simp)
    exact h2.elim
  · obtain ⟨v, _, h2⟩ := pick i _ e (by simp)
    exact h2.elim
  · obtain ⟨v, h1, a, b, h2, rfl⟩ := pick i _ e (by simp)
    exact ⟨a, b, h2, h1⟩
  · obtain ⟨v, _, h2⟩ := pick i _ e (by simp)
    exact h2.elim
/-- a def keeps its mirror's promise, by its body -/
theorem fn_j {P : Program} {w : World} {K : PySem.W.Frag} {mg : Str → Option Value} {base : Heap} {k : Nat} {x qual : Str} {st : Stmt} {f : Addr} {fd : FuncData} {N ps : List Str} {F : List Sl → m D} (Fu : Fun K x qual st f fd) (S : FnScope N ps (defScope st))
    (hb : ∀ (as : List Sl) (n : Wd) (φ : D → Wd → Prop), Mo.sat (F as) n φ (fun _ _ => False) → as.length = ps.length ∧ ∀ (cdv : Value) (A : Around) (outer : List Env) (s : Shared) (H : Hp) (E : XK), Room k (A.deeper (envOfC qual (defScope st) s.heap.objs.size f cdv)) → A.guards = some [] →
      FJ (cxOf CX0 P w K mg base N qual (defScope st) f cdv A outer s H E).nox X0 true (defBody st) (as ++ List.replicate (N.length - as.length) .any) (F as)) : FnG P w K mg base (k + 1) f fd ps (spJ K F) := by
  refine fng_of Fu S (fun vs H Q E ⟨G, n, dk, as, φ, a, _, s, _⟩ => a.length.trans (hb as n φ s).1) fun cdv A outer s H vs Q E hr gu ⟨G, n, dk, as, φ, a, fm, st, q⟩ => ⟨_, (hb as n φ st).2 cdv A outer s H E hr gu, ⟨H, G, dk, G⟩, G, n, φ, fun _ _ => False, ok_start a fm, st, q, fun _ σ' H' G' n' f' p => q .non H' G' .none n' f' .non p, fun _ _ _ _ _ _ _ z => z.elim⟩
/-! ### calls of such defs -/
variable {X : Cx} {EX : XR} {g : List Sl} {k : Nat} {f : Addr} {fd : FuncData} {ps : List Str}
theorem call_g {pins : List (Addr × Obj)} {σ : L2.St} {H : Hp} {s : Shared} {Q : VK} {us : List Value} {vs : List V} {sp : Sp} (F : FnG X.prog X.w X.K X.mg X.base k f fd ps sp) (hr : Room k X.A) (gu : X.A.guards = some []) (hb : Binds X.K fd ps [])
    (I : Inv X pins σ H s) (r : Vals vs us) (h : sp vs H Q E0) : wpAny (model X.prog X.w) X.A (call (.ref f) us) (EP X pins σ Q) X.xe s := by
  have hl : us.length = ps.length := by rw [← r.length]; exact F.len _ _ _ _ h
  have hb' := hb s us I.kIn (by rw [List.append_nil]; exact hl)
  rw [List.append_nil] at hb'
  refine wpAny_call (codeAny_mono (F.run X.A X.stack s H ⟨us, []⟩ us vs Q E0 hr gu I.env0 hb' r h) fun z s' hq => ?_)
  cases z with
  | error e => exact False.elim hq
  | ok fl =>
    cases fl with
    | ret u => exact I.after hq
    | next => exact False.elim hq
    | brk => exact False.elim hq
    | cont => exact False.elim hq
theorem pe_g {x : Str} {p pos : Pos} {e : Expr} {es : List Expr} {t : TA} {sp : Sp} (F : FnG X.prog X.w X.K X.mg X.base k f fd ps sp) (hr : Room k X.A) (gu : X.A.guards = some []) (hg : Gl X x) (hm : X.mg x = some (.ref f)) (hk : PySem.W.keepIn X.K (.ref f) = true) (hb : Binds X.K fd ps [])
    (ha : PA X (e :: es) t) (hd : (x == ("__debug__" : Str)) = false) (he : starEach (e :: es) X.env = (false, eval e X.env) :: starEach es X.env) (hpl : (backTo pos (starEach es X.env)).any (·.1) = false) : PE X (.Call (.Name x p) (e :: es) [] pos) (fun σ H Q => t σ H fun vs H1 => sp vs H1 Q E0) :=
  ⟨fun pins s σ H Q I h => wpAny_Call_Name_kw (ld_glob I hg hm (PySem.W.callWith_K (h₀ := X.base) I.ok.mod.kin hk (thn (ha.run pos pins s σ H _ I h) fun us s1 ⟨vs, H1, I1, r, q⟩ => ⟨I1.kIn, call_g F hr gu hb I1 r q⟩) he hpl) hd)⟩
/-- a deck that the callee does not see stays -/
theorem Fm.back {K : PySem.W.Frag} {B : Bs} {H G H' G' : Hp} {n n' : Wd} {dk : Option (Addr × Addr)} {σ : L2.St} (o : Ok K B g σ H G n) (hd : dk = none ∧ n'.n = n.n ∨ dk = B.dk) (f : Fm K ⟨H, G, dk, G⟩ H' G' n') : Ok K B g σ H' G' n' ∧ Same G G' := by
  have old : Same G G' := f.old
  have dkB : ∀ x y, dk = some (x, y) → B.dk = some (x, y) := fun x y e => by
    rcases hd with ⟨hd, _⟩ | hd
    · rw [hd] at e; cases e
    · exact hd.symm.trans e
  have hfp : ∀ a, B.H a ≠ none → (⟨H, G, dk, G⟩ : Bs).fp a → B.fp a := fun a ha hp => by
    rcases hp with ⟨x, y, e, r⟩ | ⟨k, e, m⟩
    · exact .inl ⟨x, y, dkB x y e, r⟩
    · cases eb : B.G a with
      | none =>
        have e' : G a = some k := e
        rw [o.fm.new a ha eb] at e'
        cases e'
      | some u =>
        have e' : G a = some k := e
        rw [o.fm.old _ _ eb] at e'
        cases e'
        exact .inr ⟨_, eb, m⟩
  have nfp : ∀ a, B.H a = none → G a = none → ¬ (⟨H, G, dk, G⟩ : Bs).fp a := fun a ha hg hp => by
    rcases hp with ⟨x, y, e, r⟩ | ⟨k, e, _⟩
    · exact o.fm.side ha (.inl ⟨x, y, dkB x y e, r⟩)
    · have e' : G a = some k := e
      rw [hg] at e'; cases e'
  have some_of : ∀ a, B.H a ≠ none → H a ≠ none := fun a ha => by
    by_cases hp : B.fp a
    · exact o.fm.fpThere hp
    · cases hb : B.H a with
      | none => exact absurd hb ha
      | some z => rw [o.fm.keep a z hb hp]; simp
  refine ⟨⟨⟨fun a z e q => f.keep a z (o.fm.keep a z e q) fun hp => q (hfp a (by rw [e]; simp) hp), f.sub, o.fm.old.trans old, f.obs, o.fm.bt, o.fm.tg.trans old, fun a e q => f.new a (some_of a e) (o.fm.new a e q), fun a b e => ?_⟩, o.len, fun i d e => ?_, ?_, o.dck, fun i a od fs e => ⟨(o.adr i a od fs e).1, (o.adr i a od fs e).2.mono old⟩⟩, old⟩
  · obtain ⟨d1, r⟩ := o.fm.deck a b e
    rcases hd with ⟨hd, hn⟩ | hd
    · obtain ⟨cs, c, h1, h2, h3⟩ := d1
      have nf : ∀ z, B.H z ≠ none → B.G z = none → ¬ (⟨H, G, dk, G⟩ : Bs).fp z := fun z hz hg hp => by
        rcases hp with ⟨x, y, e2, _⟩ | ⟨k, e2, _⟩
        · have e' : dk = some (x, y) := e2
          rw [hd] at e'; cases e'
        · have e' : G z = some k := e2
          rw [o.fm.new z hz hg] at e'; cases e'
      exact ⟨⟨cs, c, f.keep a _ h1 (nf a r.1 r.2.2.1), f.keep b _ h2 (nf b r.2.1 r.2.2.2), by rw [hn]; exact h3⟩, r⟩
    · exact ⟨(f.deck a b (by show dk = some (a, b); rw [hd]; exact e)).1, r⟩
  · obtain ⟨v, h1, h2⟩ := o.val i d e
    exact ⟨v, h1, h2.mono old⟩
  · obtain ⟨fn, h1, h2⟩ := o.own
    refine ⟨fn, h1, fun i ds e => ?_⟩
    obtain ⟨a, b, c, xs, d, da⟩ := h2 i ds e
    exact ⟨a, f.new _ (by show H (fn i) ≠ none; rw [d]; simp) b, c, xs, f.keep _ _ d (nfp _ c b), da.mono old⟩
theorem ArgsOk.base {K : PySem.W.Frag} {B B' : Bs} {G : Hp} (h : B'.dk = B.dk) : ∀ {vs : List V} {as : List Sl}, ArgsOk K B G vs as → ArgsOk K B' G vs as
  | _, _, .nil => .nil
  | _, _, .cons (a := .val d) q r => .cons (show Da _ _ _ _ from q) (r.base h)
  | _, _, .cons (a := .deck) ⟨a, b, e, ev⟩ r => .cons ⟨a, b, h.trans e, ev⟩ (r.base h)
  | _, _, .cons (a := .own _) q _ => q.elim
  | _, _, .cons (a := .any) q _ => q.elim
  | _, _, .cons (a := .exn _ _ _) q _ => q.elim
theorem Fm.at_call {K : PySem.W.Frag} {B : Bs} {H G : Hp} {n : Wd} (f : Fm K B H G n) : Fm K ⟨H, G, B.dk, G⟩ H G n where
  keep := fun a o e _ => e
  sub := f.sub
  old := Same.refl _
  obs := f.obs
  bt := f.sub.t
  tg := Same.refl _
  new := fun a _ q => q
  deck := fun a b e => by
    obtain ⟨d, h1, h2, h3, h4⟩ := f.deck a b e
    obtain ⟨cs, c, e1, e2, r⟩ := id d
    exact ⟨d, by show H a ≠ none; rw [e1]; simp, by show H b ≠ none; rw [e2]; simp, f.new a h1 h3, f.new b h2 h4⟩
/-- f(..) by its mirror -/
theorem ej_call {x : Str} {p pos : Pos} {e : Expr} {es : List Expr} {F : List Sl → m D} {y : m (List Sl)} [Calm m] (Fn : FnG X.prog X.w X.K X.mg X.base k f fd ps (spJ X.K F)) (hr : Room k X.A) (gu : X.A.guards = some []) (hm : X.mg x = some (.ref f)) (hk : PySem.W.keepIn X.K (.ref f) = true) (hb : Binds X.K fd ps [])
    (ha : AJ X EX (e :: es) g y) (hg : Gl X x := by rfl) (hd : (x == ("__debug__" : Str)) = false := by decide) (he : starEach (e :: es) X.env = (false, eval e X.env) :: starEach es X.env := by rfl) (hpl : (backTo pos (starEach es X.env)).any (·.1) = false := by rfl) :
    EJ X EX (.Call (.Name x p) (e :: es) [] pos) g (y >>= F) :=
  (pe_g Fn hr gu hg hm hk hb ha hd he hpl).weak fun σ H Q ⟨B, G, n, φ, ξ, o, s, q, xw⟩ => ⟨B, G, n, _, ξ, o, Mo.sat_bind s, fun vs H1 G1 as n1 o1 g1 a1 s1 =>
    ⟨G1, n1, B.dk, as, φ, ArgsOk.base (B := B) (B' := ⟨H1, G1, B.dk, G1⟩) rfl a1, o1.fm.at_call, Calm.calm s1, fun v H' G' d n' f' dv p => by
      obtain ⟨o2, g2⟩ := Fm.back o1 (.inr rfl) f'
      exact q v H' G' d n' o2 (g1.trans g2) dv p⟩, xw⟩
/-- .. a mirror without the deck, lifted -/
class Up (m' m : Type → Type) [Mo m'] [Mo m] where
  up : {α : Type} → m' α → m α
  sat_up : ∀ {α : Type} {x : m' α} {n : Wd} {φ : α → Wd → Prop} {ξ : Exn → Wd → Prop}, Mo.sat (up x) n φ ξ → Mo.sat x n φ ξ
instance : Up Option W where
  up := Mo.lift
  sat_up := fun {α x n φ ξ} h => by
    obtain ⟨h1, a, e, h2⟩ := h
    obtain ⟨k, ob⟩ := n
    cases h1
    exact ⟨rfl, a, e, h2⟩
instance : Up Option Option where
  up := fun o => o
  sat_up := fun h => h
theorem ej_callU {m' : Type → Type} [Mo m'] [Calm m'] [Up m' m] {x : Str} {p pos : Pos} {e : Expr} {es : List Expr} {F : List Sl → m' D} {y : m (List Sl)} (Fn : FnG X.prog X.w X.K X.mg X.base k f fd ps (spJ X.K F)) (hr : Room k X.A) (gu : X.A.guards = some []) (hm : X.mg x = some (.ref f)) (hk : PySem.W.keepIn X.K (.ref f) = true) (hb : Binds X.K fd ps [])
    (ha : AJ X EX (e :: es) g y) (hg : Gl X x := by rfl) (hd : (x == ("__debug__" : Str)) = false := by decide) (he : starEach (e :: es) X.env = (false, eval e X.env) :: starEach es X.env := by rfl) (hpl : (backTo pos (starEach es X.env)).any (·.1) = false := by rfl) :
    EJ X EX (.Call (.Name x p) (e :: es) [] pos) g (y >>= fun as => Up.up (m' := m') (F as)) :=
  (pe_g Fn hr gu hg hm hk hb ha hd he hpl).weak fun σ H Q ⟨B, G, n, φ, ξ, o, s, q, xw⟩ => ⟨B, G, n, _, ξ, o, Mo.sat_bind s, fun vs H1 G1 as n1 o1 g1 a1 s1 =>
    ⟨G1, n1, B.dk, as, φ, ArgsOk.base (B := B) (B' := ⟨H1, G1, B.dk, G1⟩) rfl a1, o1.fm.at_call, Calm.calm (Up.sat_up s1), fun v H' G' d n' f' dv p => by
      obtain ⟨o2, g2⟩ := Fm.back o1 (.inr rfl) f'
      exact q v H' G' d n' o2 (g1.trans g2) dv p⟩, xw⟩
end
end DD
namespace DD
open PySem PySem.Spec PyProof.Rows L2
def orR (r q : R2) : R2 := fun x y H Q => r x y H Q ∨ q x y H Q
theorem op_or {X : Cx} {f : Value → Value → Sem Value} {r q : R2} (a : OpR X f r) (b : OpR X f q) : OpR X f (orR r q) := by
  intro pins s σ H x y v u Q I rx ry h
  rcases h with h | h
  · exact a pins s σ H x y v u Q I rx ry h
  · exact b pins s σ H x y v u Q I rx ry h
section
variable {X : Cx} {K : PySem.W.Frag}
theorem Da.toI {G : Hp} {v : V} {i : Int} (h : Da K G v (.int i)) : v = .int i := by cases h; rfl
theorem Da.toS {G : Hp} {v : V} {i : Str} (h : Da K G v (.str i)) : v = .str i := by cases h; rfl
theorem Da.toT {G : Hp} {v : V} {ds : List D} (h : Da K G v (.tuple ds)) : ∃ a xs, v = .ref a ∧ SqT K G a xs ∧ DaAll K G xs ds := by cases h with | tup a b => exact ⟨_, _, rfl, a, b⟩
theorem Da.toL {G : Hp} {v : V} {ds : List D} (h : Da K G v (.list ds)) : ∃ a xs, v = .ref a ∧ G a = some (.lst xs) ∧ DaAll K G xs ds := by cases h with | lst a b => exact ⟨_, _, rfl, a, b⟩
/-! ### + -/
def addD : D → D → Option D
  | .int i, .int j => some (.int (i + j))
  | .tuple a, .tuple b => (small (a ++ b)).map .tuple
  | .list a, .list b => (small (a ++ b)).map .list
  | .str a, .str b => if a.length + b.length ≤ 1000000 then some (.str (a ++ b)) else none
  | _, _ => none
abbrev rAddD (K : PySem.W.Frag) : R2 := orR (rI0 fun i j => .int (i + j)) (orR (rCatA K) (orR rCat (fun x y H Q => ∃ a b, x = .str a ∧ y = .str b ∧ a.length + b.length ≤ sizeLine ∧ Q (.str (a ++ b)) H)))
theorem op_addD : OpR X (binaryOp .Add) (rAddD X.K) := op_or op_add (op_or op_catA (op_or op_cat op_add_str))
theorem rd_add : RD K (rAddD K) addD := by
  intro x y dx dy z H G Q hx hy hs e q
  unfold addD at e
  split at e
  · cases e
    exact .inl ⟨_, _, hx.toI, hy.toI, q _ H G (Gr.refl hs) (.int _)⟩
  · rename_i as bs
    obtain ⟨es, ee, rfl⟩ := Option.map_eq_some_iff.mp e
    obtain ⟨rfl, hl⟩ := small_eq ee
    obtain ⟨a, xs, rfl, ha, da⟩ := hx.toT
    obtain ⟨b, ys, rfl, hb, db⟩ := hy.toT
    rw [List.length_append] at hl
    refine .inr (.inl ⟨a, b, xs, ys, rfl, rfl, sameT hs ha, sameT hs hb, by rw [da.length, db.length]; exact le_line hl, fun e => ?_, fun n e => ?_, fun n k p hp => ?_⟩)
    · subst e
      cases da
      exact q _ H G (Gr.refl hs) (.tup hb db)
    · subst e
      cases db
      rw [List.append_nil] at q
      exact q _ H G (Gr.refl hs) (.tup ha da)
    · have gr := Gr.alloc (u := .tup (xs ++ ys)) hs hp
      exact q _ _ _ gr (.tup (.inl (.inl upd_same)) ((da.append db).mono gr.g))
  · rename_i as bs
    obtain ⟨es, ee, rfl⟩ := Option.map_eq_some_iff.mp e
    obtain ⟨rfl, hl⟩ := small_eq ee
    obtain ⟨a, xs, rfl, ha, da⟩ := hx.toL
    obtain ⟨b, ys, rfl, hb, db⟩ := hy.toL
    rw [List.length_append] at hl
    refine .inr (.inr (.inl ⟨a, b, xs, ys, rfl, rfl, hs.h _ _ ha rfl, hs.h _ _ hb rfl, by rw [da.length, db.length]; exact le_line hl, fun p hp => ?_⟩))
    have gr := Gr.alloc (u := .lst (xs ++ ys)) hs hp
    exact q _ _ _ gr (.lst upd_same ((da.append db).mono gr.g))
  · split at e
    · rename_i hl
      cases e
      exact .inr (.inr (.inr ⟨_, _, hx.toS, hy.toS, le_line hl, q _ H G (Gr.refl hs) (.str _)⟩))
    · cases e
  · cases e
/-! ### ints -/
def intD2 (f : Int → Int → Option D) : D → D → Option D
  | .int i, .int j => f i j
  | _, _ => none
theorem rd_int0 {h : Int → Int → V} {f : Int → Int → Option D} (hf : ∀ i j z, f i j = some z → ∀ K G, Da K G (h i j) z) : RD K (rI0 h) (intD2 f) := by
  intro x y dx dy z H G Q hx hy hs e q
  unfold intD2 at e
  split at e
  · exact ⟨_, _, hx.toI, hy.toI, q _ H G (Gr.refl hs) (hf _ _ _ e _ _)⟩
  · cases e
def subD : D → D → Option D := intD2 fun i j => some (.int (i - j))
theorem rd_sub : RD K (rI0 fun i j => .int (i - j)) subD := rd_int0 fun i j z e _ _ => by cases e; exact .int _
def ltD : D → D → Option D := intD2 fun i j => some (.bool (decide (i < j)))
def leD : D → D → Option D := intD2 fun i j => some (.bool (decide (i ≤ j)))
def gtD : D → D → Option D := intD2 fun i j => some (.bool (decide (j < i)))
def geD : D → D → Option D := intD2 fun i j => some (.bool (decide (j ≤ i)))
theorem rd_lt : RD K (rI0 fun i j => .bl (decide (i < j))) ltD := rd_int0 fun i j z e _ _ => by cases e; exact .bl _
theorem rd_le : RD K (rI0 fun i j => .bl (decide (i ≤ j))) leD := rd_int0 fun i j z e _ _ => by cases e; exact .bl _
theorem rd_gt : RD K (rI0 fun i j => .bl (decide (j < i))) gtD := rd_int0 fun i j z e _ _ => by cases e; exact .bl _
def negD : D → Option D
  | .int i => some (.int (-i))
  | _ => none
theorem ru_neg : RU1 K (rU fun i => .int (-i)) negD := by
  intro x dx z H G Q hx hs e q
  unfold negD at e
  split at e
  · cases e; exact ⟨_, hx.toI, q _ H G (Gr.refl hs) (.int _)⟩
  · cases e
/-! ### == != of data -/
/-- == of what is told apart (or alike) without a look at the items: lists of unlike lengths, a tuple and the empty one -/
def lensD : D → D → Option Bool
  | .list xs, .list ys => if xs.length = ys.length then none else some false
  | .tuple xs, .tuple ys => if xs.length = 0 ∨ ys.length = 0 then some (decide (xs.length = ys.length)) else none
  | _, _ => none
def eqD : D → D → Option D
  | .str a, .str b => some (.bool (decide (a = b)))
  | a, b => if SeqAt.shaped a = true ∧ SeqAt.shaped b = true then some (.bool (PyData.eqv a b)) else (lensD a b).map fun k => .bool k
def neD : D → D → Option D
  | .str a, .str b => some (.bool (!decide (a = b)))
  | a, b => if SeqAt.shaped a = true ∧ SeqAt.shaped b = true then some (.bool (!PyData.eqv a b)) else (lensD a b).map fun k => .bool (!k)
def rEqS (K : PySem.W.Frag) : R2 := fun x y H Q => ∃ d e, Da K H x d ∧ Da K H y e ∧ SeqAt.shaped d = true ∧ SeqAt.shaped e = true ∧ Q (.bl (PyData.eqv d e)) H
def rNeS (K : PySem.W.Frag) : R2 := fun x y H Q => ∃ d e, Da K H x d ∧ Da K H y e ∧ SeqAt.shaped d = true ∧ SeqAt.shaped e = true ∧ Q (.bl (!PyData.eqv d e)) H
def LenAt (K : PySem.W.Frag) (H : Hp) (x y : V) (k : Bool) : Prop := (∃ a b xs ys, x = .ref a ∧ y = .ref b ∧ SqL K H a xs ∧ SqL K H b ys ∧ xs.length ≠ ys.length ∧ k = false) ∨
  (∃ a b xs ys, x = .ref a ∧ y = .ref b ∧ SqT K H a xs ∧ SqT K H b ys ∧ (xs.length = 0 ∨ ys.length = 0) ∧ k = decide (xs.length = ys.length))
def rEqL (K : PySem.W.Frag) : R2 := fun x y H Q => ∃ k, LenAt K H x y k ∧ Q (.bl k) H
def rNeL (K : PySem.W.Frag) : R2 := fun x y H Q => ∃ k, LenAt K H x y k ∧ Q (.bl (!k)) H
abbrev rEqA (K : PySem.W.Frag) : R2 := orR (rEqS K) (orR (rEqL K) rEq)
abbrev rNeA (K : PySem.W.Frag) : R2 := orR (rNeS K) (orR (rNeL K) rNe)
theorem op_eqS (hy : Sys X) (hu : X.A.units + 64 < cLine) : OpR X (compareOp .Eq) (rEqS X.K) := by
  intro pins s σ H x y v u Q I rx ry ⟨d, e, hd, he, sd, se, q⟩
  obtain ⟨as, r1, _⟩ := Da.reads hy I d x v hd (ok_canLay d (SeqAt.canLay_of_shaped sd)) rx
  obtain ⟨bs, r2, _⟩ := Da.reads hy I e y u he (ok_canLay e (SeqAt.canLay_of_shaped se)) ry
  exact SeqAt.compareEq_shaped r1 r2 sd se hu ⟨.bl _, H, I, rfl, q⟩
theorem op_neS (hy : Sys X) (hu : X.A.units + 64 < cLine) : OpR X (compareOp .NotEq) (rNeS X.K) := by
  intro pins s σ H x y v u Q I rx ry ⟨d, e, hd, he, sd, se, q⟩
  obtain ⟨as, r1, _⟩ := Da.reads hy I d x v hd (ok_canLay d (SeqAt.canLay_of_shaped sd)) rx
  obtain ⟨bs, r2, _⟩ := Da.reads hy I e y u he (ok_canLay e (SeqAt.canLay_of_shaped se)) ry
  exact SeqAt.compareNe_shaped r1 r2 sd se hu ⟨.bl _, H, I, rfl, q⟩
theorem lens_at {pins : List (Addr × Obj)} {σ : L2.St} {H : Hp} {s : Shared} {A : Around} {x y : V} {k : Bool} {v u : Value} (I : Inv X pins σ H s) (rx : RelV x v) (ry : RelV y u) (hk : LenAt X.K H x y k) (hu : A.units < cLine) : SeqAt.RcAt A s v u k ∧ SeqAt.RcNeAt A s v u (!k) := by
  rcases hk with ⟨a, b, xs, ys, rfl, rfl, ha, hb, hne, rfl⟩ | ⟨a, b, xs, ys, rfl, rfl, ha, hb, hz, rfl⟩
  · cases rx
    cases ry
    obtain ⟨its, rv, ⟨o, n, h1, h2, _, h3⟩, _⟩ := I.list ha
    obtain ⟨jts, rw, ⟨p, m, k1, k2, _, k3⟩, _⟩ := I.list hb
    have n1 := rv.length
    have n2 := rw.length
    exact ⟨SeqAt.RcAt.lists_lengths ⟨_, h1, h2, _, h3⟩ ⟨_, k1, k2, _, k3⟩ (by simp at n1 n2 ⊢; omega) hu, SeqAt.RcNeAt.lists_lengths ⟨_, h1, h2, _, h3⟩ ⟨_, k1, k2, _, k3⟩ (by simp at n1 n2 ⊢; omega) hu⟩
  · cases rx
    cases ry
    obtain ⟨its, rv, ⟨o, h1, h2, n, h3⟩, _⟩ := I.tuple ha
    obtain ⟨jts, rw, ⟨p, k1, k2, m, k3⟩, _⟩ := I.tuple hb
    have n1 : its.toArray.size = xs.length := by simpa using rv.length.symm
    have n2 : jts.toArray.size = ys.length := by simpa using rw.length.symm
    have e0 : ((List.range (min its.toArray.size jts.toArray.size)).all (fun _ => true) && its.toArray.size == jts.toArray.size) = decide (xs.length = ys.length) := by
      rw [n1, n2]
      rw [Bool.eq_iff_iff]; simp
    have q1 := SeqAt.RcAt.tuples (A := A) (e := fun _ => true) (s := s) (l := a) (b := b) (items := its.toArray) (items2 := jts.toArray) ⟨_, h1, h2, _, h3⟩ ⟨_, k1, k2, _, k3⟩ hu (fun j j1 j2 => by omega)
    have q2 := SeqAt.RcNeAt.tuples (A := A) (e := fun _ => true) (s := s) (l := a) (b := b) (items := its.toArray) (items2 := jts.toArray) ⟨_, h1, h2, _, h3⟩ ⟨_, k1, k2, _, k3⟩ hu (fun j j1 j2 => by omega)
    rw [e0] at q1 q2
    exact ⟨q1, q2⟩
theorem op_eqL (hu : X.A.units + 64 < cLine) : OpR X (compareOp .Eq) (rEqL X.K) := by
  intro pins s σ H x y v u Q I rx ry ⟨k, hk, q⟩
  exact (lens_at I rx ry hk (by omega)).1 X.prog X.w X.xe _ ⟨.bl _, H, I, rfl, q⟩
theorem op_neL (hu : X.A.units + 64 < cLine) : OpR X (compareOp .NotEq) (rNeL X.K) := by
  intro pins s σ H x y v u Q I rx ry ⟨k, hk, q⟩
  exact (lens_at I rx ry hk (by omega)).2 X.prog X.w X.xe _ ⟨.bl _, H, I, rfl, q⟩
theorem lens_da {x y : V} {dx dy : D} {k : Bool} {G H : Hp} (hx : Da K G x dx) (hy : Da K G y dy) (hs : SubM G H) (hk : lensD dx dy = some k) : LenAt K H x y k := by
  unfold lensD at hk
  split at hk
  · split at hk
    · cases hk
    · rename_i hne
      cases hk
      obtain ⟨a, xs, rfl, ha, da⟩ := hx.toL
      obtain ⟨b, ys, rfl, hb, db⟩ := hy.toL
      exact .inl ⟨a, b, xs, ys, rfl, rfl, .of (hs.h _ _ ha rfl), .of (hs.h _ _ hb rfl), by rw [da.length, db.length]; exact hne, rfl⟩
  · split at hk
    · rename_i hz
      cases hk
      obtain ⟨a, xs, rfl, ha, da⟩ := hx.toT
      obtain ⟨b, ys, rfl, hb, db⟩ := hy.toT
      exact .inr ⟨a, b, xs, ys, rfl, rfl, sameT hs ha, sameT hs hb, by rw [da.length, db.length]; exact hz, by rw [da.length, db.length]⟩
    · cases hk
  · cases hk
theorem op_eqA (hy : Sys X) (hu : X.A.units + 64 < cLine) : OpR X (compareOp .Eq) (rEqA X.K) := op_or (op_eqS hy hu) (op_or (op_eqL hu) op_eq)
theorem op_neA (hy : Sys X) (hu : X.A.units + 64 < cLine) : OpR X (compareOp .NotEq) (rNeA X.K) := op_or (op_neS hy hu) (op_or (op_neL hu) op_ne)
theorem str_eqV (a b : Str) : decide (V.str a = V.str b) = decide (a = b) := by
  by_cases h : a = b
  · rw [decide_eq_true h, decide_eq_true (by rw [h])]
  · rw [decide_eq_false h, decide_eq_false (fun e => h (V.str.inj e))]
theorem rd_eq : RD K (rEqA K) eqD := by
  intro x y dx dy z H G Q hx hy hs e q
  unfold eqD at e
  split at e
  · rename_i a b
    cases e
    cases hx
    cases hy
    exact .inr (.inr ⟨rfl, by rw [str_eqV]; exact q _ H G (Gr.refl hs) (.bl _)⟩)
  · split at e
    · rename_i h
      cases e
      exact .inl ⟨dx, dy, hx.toH hs (ok_canLay _ (SeqAt.canLay_of_shaped h.1)), hy.toH hs (ok_canLay _ (SeqAt.canLay_of_shaped h.2)), h.1, h.2, q _ H G (Gr.refl hs) (.bl _)⟩
    · obtain ⟨k, hk, rfl⟩ := Option.map_eq_some_iff.mp e
      exact .inr (.inl ⟨k, lens_da hx hy hs hk, q _ H G (Gr.refl hs) (.bl _)⟩)
theorem rd_ne : RD K (rNeA K) neD := by
  intro x y dx dy z H G Q hx hy hs e q
  unfold neD at e
  split at e
  · rename_i a b
    cases e
    cases hx
    cases hy
    exact .inr (.inr ⟨rfl, by rw [str_eqV]; exact q _ H G (Gr.refl hs) (.bl _)⟩)
  · split at e
    · rename_i h
      cases e
      exact .inl ⟨dx, dy, hx.toH hs (ok_canLay _ (SeqAt.canLay_of_shaped h.1)), hy.toH hs (ok_canLay _ (SeqAt.canLay_of_shaped h.2)), h.1, h.2, q _ H G (Gr.refl hs) (.bl _)⟩
    · obtain ⟨k, hk, rfl⟩ := Option.map_eq_some_iff.mp e
      exact .inr (.inl ⟨k, lens_da hx hy hs hk, q _ H G (Gr.refl hs) (.bl _)⟩)
/-! ### is None -/
def isNone : D → Bool
  | .none => true
  | _ => false
def isD (a b : D) : Option D := if isNone b then some (.bool (isNone a)) else none
def isnD (a b : D) : Option D := if isNone b then some (.bool (!isNone a)) else none
theorem Da.isN {G : Hp} {v : V} {d : D} (h : Da K G v d) : decide (v = .non) = isNone d := by
  cases h <;> simp [isNone]
theorem Da.eqN {G : Hp} {v : V} {d : D} (h : Da K G v d) (e : isNone d = true) : v = .non := by
  rw [← h.isN] at e
  exact of_decide_eq_true e
theorem rd_is : RD K (fun x y H Q => y = .non ∧ Q (.bl (decide (x = .non))) H) isD := by
  intro x y dx dy z H G Q hx hy hs e q
  unfold isD at e
  split at e
  · rename_i h
    cases e
    refine ⟨hy.eqN h, ?_⟩
    rw [hx.isN]
    exact q _ H G (Gr.refl hs) (.bl _)
  · cases e
theorem rd_isn : RD K (fun x y H Q => y = .non ∧ Q (.bl (!decide (x = .non))) H) isnD := by
  intro x y dx dy z H G Q hx hy hs e q
  unfold isnD at e
  split at e
  · rename_i h
    cases e
    refine ⟨hy.eqN h, ?_⟩
    rw [hx.isN]
    exact q _ H G (Gr.refl hs) (.bl _)
  · cases e
/-! ### subscripts -/
theorem DaAll.atI {G : Hp} {vs : List V} {ds : List D} {i : Int} {d : D} (h : DaAll K G vs ds) (e : L2.atI ds i = some d) : ∃ v, L2.atI vs i = some v ∧ Da K G v d := by
  unfold L2.atI at e ⊢
  rw [h.length]
  cases hk : ixN ds.length i with
  | none => rw [hk] at e; cases e
  | some j =>
    rw [hk] at e
    obtain ⟨v, h1, h2⟩ := h.get (i := j) (d := d) e
    exact ⟨v, h1, h2⟩
def getD : D → D → Option D
  | .list ds, .int i => L2.atI ds i
  | .tuple ds, .int i => L2.atI ds i
  | .str z, .int i => if z.length ≤ 1000000 then (L2.atI z.cps.toList i).map fun c => .str ⟨#[c]⟩ else none
  | _, _ => none
theorem rd_ix : RD K (rIx K) getD := by
  intro x y dx dy z H G Q hx hy hs e q
  unfold getD at e
  split at e
  · obtain ⟨a, xs, rfl, ha, da⟩ := hx.toL
    obtain ⟨v, h1, h2⟩ := da.atI e
    exact .inl ⟨a, xs, _, v, rfl, hy.toI, .of (hs.h _ _ ha rfl), h1, q v H G (Gr.refl hs) h2⟩
  · obtain ⟨a, xs, rfl, ha, da⟩ := hx.toT
    obtain ⟨v, h1, h2⟩ := da.atI e
    exact .inr (.inl ⟨a, xs, _, v, rfl, hy.toI, sameT hs ha, h1, q v H G (Gr.refl hs) h2⟩)
  · split at e
    · rename_i hl
      obtain ⟨c, hc, rfl⟩ := Option.map_eq_some_iff.mp e
      exact .inr (.inr ⟨_, _, c, hx.toS, hy.toI, le_line hl, hc, q _ H G (Gr.refl hs) (.str _)⟩)
    · cases e
  · cases e
end
end DD
namespace DD
open PySem PySem.Spec PyProof.Rows L2
/-! ### * -/
theorem tuple_mul1 (l : Addr) (items : Array Value) (n : Nat) (dd : Option Addr) (sl : Array (Option Value)) (u : Tok) :
    Meets (Builtin.«tuple.__mul__» ⟨[.ref l, .int 1 u], []⟩) (fun _ R s => s.heap.get? l = some { cls := .type "tuple", dict := dd, data := .seq items n, slots := sl } ∧ R (.ok (.ret (Value.ref l))) s) :=
  .of_wp fun prog w A R s h => by
    obtain ⟨hp, g, d, tk, os⟩ := s
    obtain ⟨hl, h⟩ := h
    have f1 := AutoSeq1.idx_int
    have c1 : (items.isEmpty || (1 : Int) == 1) = true := by simp
    wp_walk using wpAny_loadPart' hl
    exact ⟨_, rfl, h⟩
def rMul1 (K : PySem.W.Frag) : R2 := fun x y H Q => ∃ l xs, x = .ref l ∧ y = .int 1 ∧ SqT K H l xs ∧ Q (.ref l) H
section
variable {X : Cx} {K : PySem.W.Frag}
theorem op_mul1 : OpR X (binaryOp .Mult) (rMul1 X.K) := by
  intro pins s σ H x y v u Q I rx ry ⟨l, xs, ex, ey, hT, q⟩
  subst ex ey
  cases rx
  obtain ⟨t, rfl⟩ := ry
  obtain ⟨its, r, ⟨⟨cls, dd, data, sl⟩, ho, hc, n, hd⟩, hs⟩ := I.tuple hT
  simp only at hc hd
  subst hc hd
  exact wpAny_binaryOp_repeat_ref (T := "tuple") (U := "int") (by decide) ⟨_, ho, rfl⟩ (fun s' => typeIs_int s' 1 t) noFill_tuple_mul F.fills_int_mul F.slot_int_rmul repeat_tuple F.slot_int_index.lookup
    (call_meets F.slot_int_rmul (typeIs_int s 1 t) F.entry_int_rmul (F.args_int_rmul_2 _ _) (int_rmul_tuple 1 t l its.toArray n dd sl)
      ⟨ho, rfl, ⟨_, ho, rfl⟩, call_meets F.slot_tuple_mul ⟨_, ho, rfl⟩ F.entry_tuple_mul (F.args_tuple_mul_2 _ _) (tuple_mul1 l its.toArray n dd sl t) ⟨ho, ⟨.ref l, H, I, rfl, q⟩⟩⟩)
theorem tuple_mul0 (l : Addr) (items : Array Value) (n : Nat) (dd : Option Addr) (sl : Array (Option Value)) (u : Tok) (c1 : (items.isEmpty || (0 : Int) == 1) = false) :
    Meets (Builtin.«tuple.__mul__» ⟨[.ref l, .int 0 u], []⟩) (fun _ R s => s.heap.get? l = some { cls := .type "tuple", dict := dd, data := .seq items n, slots := sl } ∧ R (.ok (.ret (Value.ref s.heap.objs.size))) { s with heap := s.heap.push { cls := Value.type "tuple", data := Data.seq #[] }, toks := s.toks }) :=
  .of_wp fun prog w A R s h => by
    obtain ⟨hp, g, d, tk, os⟩ := s
    obtain ⟨hl, h⟩ := h
    have f1 := AutoSeq1.idx_int
    wp_walk using wpAny_loadPart' hl
    refine wpAny_ite_false (decide_eq_false (by rw [c1]; exact Bool.false_ne_true)) ?_
    wp_walk using wpAny_loadPart' hl
    exact ⟨_, rfl, h⟩
def rMul0 (K : PySem.W.Frag) : R2 := fun x y H Q => ∃ l xs, x = .ref l ∧ y = .int 0 ∧ SqT K H l xs ∧ xs ≠ [] ∧ ∀ p, H p = none → Q (.ref p) (upd H p (.tup []))
theorem op_mul0 : OpR X (binaryOp .Mult) (rMul0 X.K) := by
  intro pins s σ H x y v u Q I rx ry ⟨l, xs, ex, ey, hT, hne, q⟩
  subst ex ey
  cases rx
  obtain ⟨t, rfl⟩ := ry
  obtain ⟨its, r, ⟨⟨cls, dd, data, sl⟩, ho, hc, n, hd⟩, hs⟩ := I.tuple hT
  simp only at hc hd
  subst hc hd
  have c1 : (its.toArray.isEmpty || (0 : Int) == 1) = false := by
    cases its with
    | nil => cases r; exact absurd rfl hne
    | cons a b => rfl
  exact wpAny_binaryOp_repeat_ref (T := "tuple") (U := "int") (by decide) ⟨_, ho, rfl⟩ (fun s' => typeIs_int s' 0 t) noFill_tuple_mul F.fills_int_mul F.slot_int_rmul repeat_tuple F.slot_int_index.lookup
    (call_meets F.slot_int_rmul (typeIs_int s 0 t) F.entry_int_rmul (F.args_int_rmul_2 _ _) (int_rmul_tuple 0 t l its.toArray n dd sl)
      ⟨ho, rfl, ⟨_, ho, rfl⟩, call_meets F.slot_tuple_mul ⟨_, ho, rfl⟩ F.entry_tuple_mul (F.args_tuple_mul_2 _ _) (tuple_mul0 l its.toArray n dd sl t c1) ⟨ho, ⟨.ref _, _, I.laid (t' := s.toks) (o := .tup []) (fun b ob q => Heap.get?_push_of_some _ q) (Nat.le_refl _) ⟨Nat.zero_le _, [], .nil, IsTup.new _ _⟩, rfl, q _ (I.hok.fresh (Nat.le_refl _))⟩⟩⟩)
abbrev rMulD (K : PySem.W.Frag) : R2 := orR (rI CMul fun i j => .int (i * j)) (orR (rRepT K) (orR (rMul1 K) (orR (rMul0 K) rRep)))
theorem op_mulD : OpR X (binaryOp .Mult) (rMulD X.K) := op_or op_mul (op_or op_repT (op_or op_mul1 (op_or op_mul0 op_rep)))
def mulD : D → D → Option D
  | .int i, .int j => if i.natAbs < 2 ^ 64 ∨ j.natAbs < 2 ^ 64 then some (.int (i * j)) else none
  | .tuple a, .int k => if k = 1 then some (.tuple a) else if a ≠ [] ∧ 2 ≤ k ∧ k ≤ 1000 ∧ a.length ≤ 1000 then some (.tuple (List.replicate k.toNat a).flatten) else if a ≠ [] ∧ k = 0 then some (.tuple []) else none
  | .list a, .int k => if 0 ≤ k ∧ k ≤ 1000 ∧ a.length ≤ 1000 then some (.list (List.replicate k.toNat a).flatten) else none
  | _, _ => none
theorem rd_mul : RD K (rMulD K) mulD := by
  intro x y dx dy z H G Q hx hy hs e q
  unfold mulD at e
  split at e
  · split at e
    · rename_i h
      cases e
      exact .inl ⟨_, _, hx.toI, hy.toI, (show (-(2 ^ 64) < _ ∧ _ < 2 ^ 64) ∨ (-(2 ^ 64) < _ ∧ _ < 2 ^ 64) by omega), q _ H G (Gr.refl hs) (.int _)⟩
    · cases e
  · obtain ⟨a, xs, rfl, ha, da⟩ := hx.toT
    rename_i as k
    split at e
    · rename_i h
      subst h
      cases e
      exact .inr (.inr (.inl ⟨a, xs, rfl, hy.toI, sameT hs ha, q _ H G (Gr.refl hs) (.tup ha da)⟩))
    · split at e
      · rename_i h
        cases e
        refine .inr (.inl ⟨a, _, xs, rfl, hy.toI, sameT hs ha, fun z => h.1 (by subst z; cases da; rfl), h.2.1, h.2.2.1, by rw [da.length]; exact h.2.2.2, fun p hp => ?_⟩)
        have gr := Gr.alloc (u := .tup (List.replicate k.toNat xs).flatten) hs hp
        exact q _ _ _ gr (.tup (.inl (.inl upd_same)) ((da.flatReplicate _).mono gr.g))
      · split at e
        · rename_i h
          obtain ⟨h1, h2⟩ := h
          subst h2
          cases e
          refine .inr (.inr (.inr (.inl ⟨a, xs, rfl, hy.toI, sameT hs ha, fun z => h1 (by subst z; cases da; rfl), fun p hp => ?_⟩)))
          have gr := Gr.alloc (u := .tup []) hs hp
          exact q _ _ _ gr (.tup (.inl (.inl upd_same)) .nil)
        · cases e
  · obtain ⟨a, xs, rfl, ha, da⟩ := hx.toL
    rename_i as k
    split at e
    · rename_i h
      cases e
      refine .inr (.inr (.inr (.inr ⟨a, _, xs, rfl, hy.toI, hs.h _ _ ha rfl, by omega, by omega, ?_, fun p hp => ?_⟩)))
      · have h1 : xs.length * k.toNat ≤ 1000 * 1000 := Nat.mul_le_mul (by rw [da.length]; exact h.2.2) (by omega)
        exact le_line h1
      · have gr := Gr.alloc (u := .lst (List.replicate k.toNat xs).flatten) hs hp
        exact q _ _ _ gr (.lst upd_same ((da.flatReplicate _).mono gr.g))
    · cases e
  · cases e
/-! ### built-ins -/
def callOr (r q : List V → Hp → VK → Prop) : List V → Hp → VK → Prop := fun xs H Q => r xs H Q ∨ q xs H Q
theorem call_or {f : Value} {r q : List V → Hp → VK → Prop} (a : CallR X f r) (b : CallR X f q) : CallR X f (callOr r q) := by
  intro pins s σ H xs us Q I rx h
  rcases h with h | h
  · exact a pins s σ H xs us Q I rx h
  · exact b pins s σ H xs us Q I rx h
def lenD : D → Option D
  | .list ds => some (.int ds.length)
  | .tuple ds => some (.int ds.length)
  | .str z => if z.length ≤ 1000000 then some (.int z.length) else none
  | _ => none
abbrev rLenD (K : PySem.W.Frag) := callOr (fun xs H Q => ∃ p ys, xs = [V.ref p] ∧ (SqL K H p ys ∨ SqT K H p ys) ∧ Q (.int ys.length) H) (fun xs H Q => ∃ z : Str, xs = [V.str z] ∧ z.length ≤ sizeLine ∧ Q (.int z.length) H)
theorem call_lenD' : CallR X (.builtin "len") (rLenD X.K) := call_or call_len_seq call_len_str
theorem rc_len : RC1 K (rLenD K) lenD := by
  intro x dx z H G Q hx hs e q
  unfold lenD at e
  split at e
  · cases e
    obtain ⟨a, xs, rfl, ha, da⟩ := hx.toL
    rw [← da.length] at q
    exact .inl ⟨a, xs, rfl, .inl (.of (hs.h _ _ ha rfl)), q _ H G (Gr.refl hs) (.int _)⟩
  · cases e
    obtain ⟨a, xs, rfl, ha, da⟩ := hx.toT
    rw [← da.length] at q
    exact .inl ⟨a, xs, rfl, .inr (sameT hs ha), q _ H G (Gr.refl hs) (.int _)⟩
  · split at e
    · rename_i h
      cases e
      cases hx
      exact .inr ⟨_, rfl, le_line h, q _ H G (Gr.refl hs) (.int _)⟩
    · cases e
  · cases e
def intD : D → Option D
  | .int i => some (.int i)
  | .bool b => some (.int (if b then 1 else 0))
  | _ => none
theorem rc_int : RC1 K (fun xs H Q => (∃ i, xs = [V.int i] ∧ Q (.int i) H) ∨ ∃ k, xs = [V.bl k] ∧ Q (.int (if k then 1 else 0)) H) intD := by
  intro x dx z H G Q hx hs e q
  unfold intD at e
  split at e
  · cases e; cases hx; exact .inl ⟨_, rfl, q _ H G (Gr.refl hs) (.int _)⟩
  · cases e; cases hx; exact .inr ⟨_, rfl, q _ H G (Gr.refl hs) (.int _)⟩
  · cases e
def tupleD : D → Option D
  | .list ds => some (.tuple ds)
  | .tuple ds => some (.tuple ds)
  | _ => none
theorem rc_tuple : RC1 K (fun xs H Q => ∃ p ys, xs = [V.ref p] ∧ ((SqL K H p ys ∧ ∀ l, H l = none → Q (.ref l) (upd H l (.tup ys))) ∨ (SqT K H p ys ∧ Q (.ref p) H))) tupleD := by
  intro x dx z H G Q hx hs e q
  unfold tupleD at e
  split at e
  · cases e
    obtain ⟨a, xs, rfl, ha, da⟩ := hx.toL
    refine ⟨a, xs, rfl, .inl ⟨.of (hs.h _ _ ha rfl), fun l hl => ?_⟩⟩
    have gr := Gr.alloc (u := .tup xs) hs hl
    exact q _ _ _ gr (.tup (.inl (.inl upd_same)) (da.mono gr.g))
  · cases e
    obtain ⟨a, xs, rfl, ha, da⟩ := hx.toT
    exact ⟨a, xs, rfl, .inr ⟨sameT hs ha, q _ H G (Gr.refl hs) (.tup ha da)⟩⟩
  · cases e
def bools : List D → Option (List Bool)
  | [] => some []
  | .bool b :: r => (bools r).map (b :: ·)
  | _ :: _ => none
theorem DaAll.bools {G : Hp} : ∀ {ds : List D} {vs : List V} {bs : List Bool}, DaAll K G vs ds → bools ds = some bs → vs = bs.map V.bl
  | [], _, _, .nil, e => by cases e; rfl
  | .bool b :: r, _, _, .cons h t, e => by
    obtain ⟨cs, ec, rfl⟩ := Option.map_eq_some_iff.mp e
    cases h
    rw [t.bools ec]
    rfl
  | .none :: _, _, _, _, e => by cases e
  | .int _ :: _, _, _, _, e => by cases e
  | .str _ :: _, _, _, _, e => by cases e
  | .list _ :: _, _, _, _, e => by cases e
  | .tuple _ :: _, _, _, _, e => by cases e
  | .dict _ :: _, _, _, _, e => by cases e
def allD : D → Option D
  | .list ds => (bools ds).map fun bs => .bool (bs.all id)
  | _ => none
def anyD : D → Option D
  | .list ds => (bools ds).map fun bs => .bool (bs.any id)
  | _ => none
theorem rc_all : RC1 K (rAll K) allD := by
  intro x dx z H G Q hx hs e q
  unfold allD at e
  split at e
  · obtain ⟨bs, eb, rfl⟩ := Option.map_eq_some_iff.mp e
    obtain ⟨a, xs, rfl, ha, da⟩ := hx.toL
    have := da.bools eb
    subst this
    exact ⟨a, bs, rfl, .of (hs.h _ _ ha rfl), q _ H G (Gr.refl hs) (.bl _)⟩
  · cases e
def intsD : List D → Option (List Int)
  | [] => some []
  | .int b :: r => (intsD r).map (b :: ·)
  | _ :: _ => none
theorem ints_map : ∀ {ds : List D} {ns : List Int}, intsD ds = some ns → ds = ns.map .int
  | [], _, e => by cases e; rfl
  | .int b :: r, _, e => by
    obtain ⟨cs, ec, rfl⟩ := Option.map_eq_some_iff.mp e
    rw [ints_map ec]
    rfl
  | .none :: _, _, e => by cases e
  | .bool _ :: _, _, e => by cases e
  | .str _ :: _, _, e => by cases e
  | .list _ :: _, _, e => by cases e
  | .tuple _ :: _, _, e => by cases e
  | .dict _ :: _, _, e => by cases e
/-! ### sum, max, min of lists and tuples of ints -/
section
variable {prog : Program} {w : World} {A : Around} {E : Value → Shared → Prop} {s : Shared} {l : Addr} {its : List Value} {ns : List Int} {Q : Value → Shared → Prop}
theorem iter_tup {items : Array Value} (hl : s.heap.IsTuple l items)
    (h : ∀ s2 : Shared, s2 = { s with heap := s.heap.push { cls := .type "tuple_iterator", data := .fields #[.ref l, .int 0 0] } } → (s2.heap.IsTupleIter s.heap.objs.size l 0 ∧ s2.heap.IsTuple l items) → (∀ b ∈ [s.heap.objs.size, l], b < s2.heap.objs.size) → l ≠ s.heap.objs.size → Q (.ref s.heap.objs.size) s2) :
    wpAny (model prog w) A (pyIter (.ref l)) Q E s := by
  have hlt : l < s.heap.objs.size := by obtain ⟨_, e, _⟩ := hl; exact Heap.lt_size e
  refine wpAny_pyIter_tuple hl (h _ rfl ⟨⟨_, Heap.get?_push_size _ rfl, rfl, rfl⟩, hl.push _⟩ (fun b hb => ?_) (Nat.ne_of_lt hlt))
  show b < (s.heap.push _).objs.size
  rw [Heap.size_push]
  have hb' : b = s.heap.objs.size ∨ b = l := by simpa using hb
  rcases hb' with rfl | rfl
  · exact Nat.lt_succ_self _
  · exact Nat.lt_succ_of_lt hlt
theorem kept_tup {h' : Heap} (hk : ∀ b o, b ∉ [s.heap.objs.size] → (s.heap.push { cls := .type "tuple_iterator", data := .fields #[.ref l, .int 0 0] }).get? b = some o → h'.get? b = some o) : ∀ b o, s.heap.get? b = some o → h'.get? b = some o := fun b o e =>
  hk b o (fun hm => by rw [List.mem_singleton.mp hm] at e; exact absurd (Heap.lt_size e) (Nat.lt_irrefl _)) (Heap.get?_push_of_some _ e)
theorem sum_tup (hh : A.handled = none) (hl : s.heap.IsTuple l its.toArray) (hi : IntsAre its ns)
    (h : ∀ h' tk t', (∀ b o, s.heap.get? b = some o → h'.get? b = some o) → Q (.int ns.sum t') { s with heap := h', toks := tk }) : wpAny (model prog w) A (call (.builtin "sum") [.ref l]) Q E s := by
  obtain ⟨xs, e⟩ := hi.allInts.items
  have hn : numsOf (intItems xs).toList = ns := by rw [← e]; exact hi.numsOf
  rw [nums_intItems] at hn
  rw [e] at hl
  refine call_sum_walkG (iter_tup hl fun s2 e2 st hfp hne => ?_)
  subst e2
  refine ⟨_, _, _, _, _, _, numAt xs, rfl, Walks.tuple (A := A.in1) hh _ l hne (intItems xs), st, hfp, (fun _ _ => intItems_at), fun h' tk t' hk => ?_⟩
  have q := h h' tk t' (kept_tup hk)
  rw [preSum_eq, List.take_of_length_le (by simp [intItems]), hn]
  exact q
theorem max_tup (hh : A.handled = none) (hl : s.heap.IsTuple l its.toArray) (hi : IntsAre its ns) (hne : 0 < ns.length)
    (h : ∀ h' tk M t', (∀ b o, s.heap.get? b = some o → h'.get? b = some o) → M ∈ ns → (∀ a, a ∈ ns → a ≤ M) → Q (.int M t') { s with heap := h', toks := tk }) : wpAny (model prog w) A (call (.builtin "max") [.ref l]) Q E s := by
  obtain ⟨xs, e⟩ := hi.allInts.items
  have hn : numsOf (intItems xs).toList = ns := by rw [← e]; exact hi.numsOf
  rw [nums_intItems] at hn
  subst hn
  rw [e] at hl
  have hsz : 0 < xs.size := by simpa using hne
  refine call_max_walk (iter_tup hl fun s2 e2 st hfp hn2 => ?_)
  subst e2
  refine ⟨_, _, _, _, _, _, _, rfl, Walks.tuple (A := A.in1) hh _ l hn2 (intItems xs), st, hfp, by simpa [intItems] using hsz, CmpOf.ints_gt (numAt xs) (fun _ _ => intItems_at), fun v h' tk hP hk => ?_⟩
  have hP' : (intItems xs)[argBest (fun i j => decide (numAt xs i > numAt xs j)) (xs.size - 1)]? = some v := by simpa [intItems] using hP
  obtain ⟨t, rfl⟩ := intItems_at hP'
  obtain ⟨h1, h2⟩ := argBest_gt (numAt xs) (xs.size - 1)
  refine h h' tk _ t (kept_tup hk) ?_ fun a ha => ?_
  · rw [numAt_eq]; exact PySem.getD_mem (by rw [List.length_map, Array.length_toList]; omega)
  · obtain ⟨j, hj, rfl⟩ := mem_getD ha
    rw [List.length_map, Array.length_toList] at hj
    rw [← numAt_eq]; exact h2 j (by omega)
end
end
end DD
namespace DD
open PySem PySem.Spec PyProof.Rows L2
section
variable {X : Cx} {K : PySem.W.Frag}
def rSumT (K : PySem.W.Frag) : List V → Hp → VK → Prop := fun vs H Q => ∃ (a : Addr) (ns : List Int), vs = [V.ref a] ∧ SqT K H a (ns.map V.int) ∧ Q (.int ns.sum) H
def rMaxT (K : PySem.W.Frag) : List V → Hp → VK → Prop := fun vs H Q => ∃ (a : Addr) (ns : List Int), vs = [V.ref a] ∧ SqT K H a (ns.map V.int) ∧ 0 < ns.length ∧ ∀ m, m ∈ ns → (∀ y, y ∈ ns → y ≤ m) → Q (.int m) H
theorem cr_sumT (hc : X.calm = true) : CallR X (.builtin "sum") (rSumT X.K) := by
  intro pins s σ H vs us Q I r ⟨a, ns, e, hs, q⟩
  subst e
  obtain ⟨its, rv, hl, _⟩ := I.tuple hs
  rw [Vals.ref1 r]
  exact sum_tup (I.ok.hd hc) hl rv.ints fun h' tk t' hk => ⟨.int _, H, I.kept hk, ⟨_, rfl⟩, q⟩
theorem cr_maxT (hc : X.calm = true) : CallR X (.builtin "max") (rMaxT X.K) := by
  intro pins s σ H vs us Q I r ⟨a, ns, e, hs, hne, q⟩
  subst e
  obtain ⟨its, rv, hl, _⟩ := I.tuple hs
  rw [Vals.ref1 r]
  exact max_tup (I.ok.hd hc) hl rv.ints hne fun h' tk m t' hk h1 h2 => ⟨.int _, H, I.kept hk, ⟨_, rfl⟩, q m h1 h2⟩
def sumD : D → Option D
  | .list ds => (intsD ds).map fun ns => .int ns.sum
  | .tuple ds => (intsD ds).map fun ns => .int ns.sum
  | _ => none
def maxD : D → Option D
  | .list ds => (intsD ds).bind fun ns => ns.max?.map .int
  | .tuple ds => (intsD ds).bind fun ns => ns.max?.map .int
  | _ => none
abbrev rSumD (K : PySem.W.Frag) := callOr (rSum K) (rSumT K)
abbrev rMaxD (K : PySem.W.Frag) := callOr (rMax K) (rMaxT K)
theorem call_sumD (hc : X.calm = true) : CallR X (.builtin "sum") (rSumD X.K) := call_or (cr_sum hc) (cr_sumT hc)
theorem call_maxD (hc : X.calm = true) : CallR X (.builtin "max") (rMaxD X.K) := call_or (cr_max hc) (cr_maxT hc)
theorem rc_sum : RC1 K (rSumD K) sumD := by
  intro x dx z H G Q hx hs e q
  unfold sumD at e
  split at e
  · obtain ⟨ns, en, rfl⟩ := Option.map_eq_some_iff.mp e
    have := ints_map en
    subst this
    obtain ⟨a, xs, rfl, ha, da⟩ := hx.toL
    have := da.ints
    subst this
    exact .inl ⟨a, ns, rfl, .of (hs.h _ _ ha rfl), q _ H G (Gr.refl hs) (.int _)⟩
  · obtain ⟨ns, en, rfl⟩ := Option.map_eq_some_iff.mp e
    have := ints_map en
    subst this
    obtain ⟨a, xs, rfl, ha, da⟩ := hx.toT
    have := da.ints
    subst this
    exact .inr ⟨a, ns, rfl, sameT hs ha, q _ H G (Gr.refl hs) (.int _)⟩
  · cases e
theorem max_is {ns : List Int} {m k : Int} (h1 : m ∈ ns) (h2 : ∀ y, y ∈ ns → y ≤ m) (e : ns.max? = some k) : m = k := by
  obtain ⟨a, b⟩ := List.max?_eq_some_iff.mp e
  have := b m h1
  have := h2 k a
  omega
theorem max_ne {ns : List Int} {k : Int} (e : ns.max? = some k) : 0 < ns.length := by
  cases ns with
  | nil => cases e
  | cons a b => simp
theorem rc_max : RC1 K (rMaxD K) maxD := by
  intro x dx z H G Q hx hs e q
  unfold maxD at e
  split at e
  · obtain ⟨ns, en, e⟩ := Option.bind_eq_some_iff.mp e
    obtain ⟨k, ek, rfl⟩ := Option.map_eq_some_iff.mp e
    have := ints_map en
    subst this
    obtain ⟨a, xs, rfl, ha, da⟩ := hx.toL
    have := da.ints
    subst this
    exact .inl ⟨a, ns, rfl, .of (hs.h _ _ ha rfl), max_ne ek, fun m h1 h2 => by rw [max_is h1 h2 ek]; exact q _ H G (Gr.refl hs) (.int _)⟩
  · obtain ⟨ns, en, e⟩ := Option.bind_eq_some_iff.mp e
    obtain ⟨k, ek, rfl⟩ := Option.map_eq_some_iff.mp e
    have := ints_map en
    subst this
    obtain ⟨a, xs, rfl, ha, da⟩ := hx.toT
    have := da.ints
    subst this
    exact .inr ⟨a, ns, rfl, sameT hs ha, max_ne ek, fun m h1 h2 => by rw [max_is h1 h2 ek]; exact q _ H G (Gr.refl hs) (.int _)⟩
  · cases e
def max2D : D → D → Option D := intD2 fun i j => some (.int (if j > i then j else i))
def min2D : D → D → Option D := intD2 fun i j => some (.int (if j < i then j else i))
/-! ### repr -/
/-! ### isinstance of a built-in class -/
def typeN : D → String
  | .none => "NoneType"
  | .bool _ => "bool"
  | .int _ => "int"
  | .str _ => "str"
  | .list _ => "list"
  | .tuple _ => "tuple"
  | .dict _ => "dict"
def isiB (T : String) (d : D) : Bool := typeN d == T || (typeN d == "bool" && T == "int")
theorem typeN_mem (d : D) : typeN d ∈ ["NoneType", "bool", "int", "str", "list", "tuple", "dict"] := by cases d <;> simp [typeN]
def isRf : D → Bool
  | .dict ((.none, _) :: _) => true
  | .dict ((.bool _, _) :: _) => true
  | _ => false
def isRl : D → Bool
  | .dict ((.bool false, _) :: _) => true
  | _ => false
theorem Da.ty {B : Bs} {H G : Hp} {n : Wd} {v : V} {d : D} (fm : Fm K B H G n) (h : Da K G v d) : (TyX K H v (.type (typeN d)) ∧ isRf d = false) ∨ (isRl d = true ∧ typeN d = "dict" ∧ TyX K H v (.type "list")) ∨ (isRl d = false ∧ typeN d = "dict" ∧ ∃ c C, ClsOk K c C ∧ TyX K H v (.ref C)) := by
  cases h with
  | non => exact .inl ⟨.base .non, rfl⟩
  | bl b => exact .inl ⟨.base (.bl b), rfl⟩
  | int i => exact .inl ⟨.base (.int i), rfl⟩
  | str x => exact .inl ⟨.base (.str x), rfl⟩
  | lst e _ => exact .inl ⟨.base (.lst (fm.sub.h _ _ e rfl)), rfl⟩
  | tup e _ =>
    refine .inl ⟨?_, rfl⟩
    rcases sameT fm.sub e with (e | ⟨o, e⟩) | ⟨o, its, n, hk, hc, _⟩
    · exact .base (.tup e)
    · exact .fTuple e
    · exact .kTuple hk hc
  | @dct a kvs e _ =>
    refine .inl ⟨.base (.dK (fm.sub.h _ _ e rfl)), ?_⟩
    cases kvs with
    | nil => rfl
    | cons p r =>
      obtain ⟨k, v⟩ := p
      cases k <;> rfl
  | obj e =>
    obtain ⟨c, _, h⟩ := fm.obs.at_ _ _ _ e rfl
    cases c with
    | ins c fs =>
      obtain ⟨_, C, dx, vs, ck, h, _⟩ := h
      exact .inr (.inr ⟨rfl, rfl, c, C, ck, .base (.ins h ck.cl ck.ha ck.hn ck.ht ck.hm)⟩)
    | lst ds =>
      have := h.1
      rw [e] at this
      cases this
  | cel e =>
    obtain ⟨c, _, h⟩ := fm.obs.at_ _ _ _ e rfl
    cases c with
    | ins c fs =>
      have := h.1
      rw [e] at this
      cases this
    | lst ds =>
      obtain ⟨_, xs, h, _⟩ := h
      exact .inr (.inl ⟨rfl, rfl, .base (.lst h)⟩)
  | fin e ck _ _ => exact .inr (.inr ⟨rfl, rfl, _, _, ck, .base (.ins (fm.sub.h _ _ e rfl) ck.cl ck.ha ck.hn ck.ht ck.hm)⟩)
theorem ClsOk.kitF {c : Str} {C : Addr} (h : ClsOk K c C) {T : String} (hT : T ∈ ["NoneType", "bool", "int", "str", "list", "tuple", "dict"]) : PySem.W.kitOne K (.ref C) (.type T) = some false := eq_of_beq (List.all_eq_true.mp h.kit _ hT)
variable {m : Type → Type} [Mo m] {EX : XR} {g : List Sl}
theorem isi_core (T : String) {tn : Str} {a : Expr} {p p2 pos : Pos} {x : m D} (ha : EJ X EX a g x) (hm : X.mg "isinstance" = none) (hmt : X.mg tn = none) (hT : (["NoneType", "bool", "int", "str", "list", "tuple", "dict"].all fun t => kitB t T == some (t == T || (t == "bool" && T == "int"))) = true)
    (hvt : bootBuiltins tn = some (.type T)) (hgt : Gl X tn) (hg : Gl X "isinstance") (hnt : tn ≠ "__name__") (hdt : (tn == ("__debug__" : Str)) = false)
    (hs : starEach [a, .Name tn p2] X.env = (false, eval a X.env) :: starEach [.Name tn p2] X.env) (hs2 : starEach [.Name tn p2] X.env = (false, eval (.Name tn p2) X.env) :: starEach [] X.env) (hTm : T ∈ ["NoneType", "bool", "int", "str", "list", "tuple"]) {f : D → m D} (hf : ∀ (d : D) (n : Wd) (φ : D → Wd → Prop) (ξ : Exn → Wd → Prop), Mo.sat (f d) n φ ξ → ¬ (isRl d = true ∧ T = "list") ∧ φ (.bool (isiB T d)) n) :
    EJ X EX (.Call (.Name "isinstance" p) [a, .Name tn p2] [] pos) g (x >>= f) :=
  (pe_callB call_isi hg hm (by decide +kernel) (pa_cons ha (pa_cons (pe_bltn (v := .ty T) hgt hmt hvt rfl hnt hdt) pa_nil hs2) hs) (by decide) (by decide) hs (by rw [hs2]; rfl)).weak fun σ H Q ⟨B, G, n, φ, ξ, o, s, q, xw⟩ => te_one o s (fun v H1 G1 d n1 o1 g1 d1 s1 => by
    obtain ⟨hn, s2⟩ := hf _ _ _ _ s1
    have fin := q _ H1 G1 _ n1 o1 g1 (.bl (isiB T d)) s2
    have hT' : T ∈ ["NoneType", "bool", "int", "str", "list", "tuple", "dict"] := by
      simp only [List.mem_cons, List.not_mem_nil, or_false] at hTm ⊢
      rcases hTm with h | h | h | h | h | h <;> simp [h]
    rcases d1.ty o1.fm with ⟨t1, _⟩ | ⟨t0, t1, t2⟩ | ⟨_, t1, c, C, ck, t2⟩
    · exact ⟨v, .ty T, .type (typeN d), .type T, isiB T d, rfl, .ty T, t1, kit_ty (eq_of_beq (List.all_eq_true.mp hT _ (typeN_mem d))), fin⟩
    · have hl : T ≠ "list" := fun e => hn ⟨t0, e⟩
      refine ⟨v, .ty T, .type "list", .type T, isiB T d, rfl, .ty T, t2, ?_, fin⟩
      have e1 := eq_of_beq (List.all_eq_true.mp hT "list" (by decide))
      rw [kit_ty e1]
      have e2 : isiB T d = false := by
        unfold isiB
        rw [t1]
        simp only [List.mem_cons, List.not_mem_nil, or_false] at hTm
        rcases hTm with h | h | h | h | h | h <;> subst h <;> first | rfl | exact absurd rfl hl
      rw [e2]
      simp only [List.mem_cons, List.not_mem_nil, or_false] at hTm
      rcases hTm with h | h | h | h | h | h <;> subst h <;> first | rfl | exact absurd rfl hl
    · refine ⟨v, .ty T, .ref C, .type T, isiB T d, rfl, .ty T, t2, ?_, fin⟩
      rw [ck.kitF hT']
      have e2 : isiB T d = false := by
        unfold isiB
        rw [t1]
        simp only [List.mem_cons, List.not_mem_nil, or_false] at hTm
        rcases hTm with h | h | h | h | h | h <;> subst h <;> rfl
      rw [e2]) xw
theorem ej_isi (T : String) {tn : Str} {a : Expr} {p p2 pos : Pos} {x : m D} (ha : EJ X EX a g x) (hm : X.mg "isinstance" = none) (hmt : X.mg tn = none) (hT : (["NoneType", "bool", "int", "str", "list", "tuple", "dict"].all fun t => kitB t T == some (t == T || (t == "bool" && T == "int"))) = true := by decide +kernel)
    (hvt : bootBuiltins tn = some (.type T) := by decide +kernel) (hgt : Gl X tn := by rfl) (hg : Gl X "isinstance" := by rfl) (hnt : tn ≠ "__name__" := by decide) (hdt : (tn == ("__debug__" : Str)) = false := by decide)
    (hs : starEach [a, .Name tn p2] X.env = (false, eval a X.env) :: starEach [.Name tn p2] X.env := by rfl) (hs2 : starEach [.Name tn p2] X.env = (false, eval (.Name tn p2) X.env) :: starEach [] X.env := by rfl) (hTm : T ∈ ["NoneType", "bool", "int", "str", "list", "tuple"] := by decide) (hL : (T == "list") = false := by decide) :
    EJ X EX (.Call (.Name "isinstance" p) [a, .Name tn p2] [] pos) g (x >>= fun d => pure (.bool (isiB T d))) :=
  isi_core T ha hm hmt hT hvt hgt hg hnt hdt hs hs2 hTm fun d n φ ξ h => ⟨fun z => (by rw [z.2] at hL; exact absurd hL (by decide)), Mo.sat_pure h⟩
/-! ### slices -/
def cutD (ds : List D) (lo hi : Option Int) : List D := (ds.drop (HT.sIx ds.length 0 lo)).take (HT.sIx ds.length ds.length hi - HT.sIx ds.length 0 lo)
theorem DaAll.cut {G : Hp} {vs : List V} {ds : List D} (h : DaAll K G vs ds) (lo hi : Option Int) : DaAll K G (cutV vs lo hi) (cutD ds lo hi) := by
  unfold cutV cutD
  rw [h.length]
  exact (h.drop _).take _
def sliceD (d : D) (lo hi : Option Int) : Option D := match d with
  | .list ds => some (.list (cutD ds lo hi))
  | .tuple ds => some (.tuple (cutD ds lo hi))
  | _ => none
def oint : D → Option (Option Int)
  | .int i => some (some i)
  | _ => none
theorem sl_or {r q : V → Option Int → Option Int → Hp → VK → Prop} (a : SlR X r) (b : SlR X q) : SlR X (fun x l u H Q => r x l u H Q ∨ q x l u H Q) := by
  intro pins s σ H x v vl vu l u sl Q I rx hs pl pu h
  rcases h with h | h
  · exact a pins s σ H x v vl vu l u sl Q I rx hs pl pu h
  · exact b pins s σ H x v vl vu l u sl Q I rx hs pl pu h
theorem whole_cut {α : Type} {xs : List α} {lo hi : Option Int} (h : HT.sIx xs.length 0 lo = 0 ∧ HT.sIx xs.length xs.length hi = xs.length) : (xs.drop (HT.sIx xs.length 0 lo)).take (HT.sIx xs.length xs.length hi - HT.sIx xs.length 0 lo) = xs := by
  rw [h.1, h.2]
  simp
theorem sl_data {x : V} {d z : D} {H G : Hp} {lo hi : Option Int} {Q : VK} (hx : Da K G x d) (hs : SubM G H) (e : sliceD d lo hi = some z) (q : ∀ v H' G', Gr H G H' G' → Da K G' v z → Q v H') : rSlL K x lo hi H Q ∨ rSlA K x lo hi H Q := by
  unfold sliceD at e
  split at e
  · cases e
    obtain ⟨a, xs, rfl, ha, da⟩ := hx.toL
    refine .inl ⟨a, xs, rfl, .of (hs.h _ _ ha rfl), fun p hp => ?_⟩
    have gr := Gr.alloc (u := .lst (cutV xs lo hi)) hs hp
    exact q _ _ _ gr (.lst upd_same ((da.cut lo hi).mono gr.g))
  · cases e
    obtain ⟨a, xs, rfl, ha, da⟩ := hx.toT
    refine .inr ⟨a, xs, rfl, sameT hs ha, fun hw => ?_, fun hw p hp => ?_⟩
    · rw [da.length] at hw
      have : cutD _ lo hi = _ := whole_cut hw
      rw [this] at q
      exact q _ H G (Gr.refl hs) (.tup ha da)
    · have gr := Gr.alloc (u := .tup (cutV xs lo hi)) hs hp
      exact q _ _ _ gr (.tup (.inl (.inl upd_same)) ((da.cut lo hi).mono gr.g))
  · cases e
def toJ (X : Cx) (EX : XR) (g : List Sl) (x : m (Option Int)) : TO := fun σ H Q => ∃ B G n φ ξ, Ok X.K B g σ H G n ∧ Mo.sat x n φ ξ ∧ (∀ d H' G' n', Ok X.K B g σ H' G' n' → Same G G' → φ d n' → Q d H') ∧ Xw X B EX ξ
/-- a part of a slice -/
def OJ (X : Cx) (EX : XR) (e : Option Expr) (g : List Sl) (x : m (Option Int)) : Prop := PO X e (toJ X EX g x)
theorem _root_.L2.PO.weak {X : Cx} {e : Option Expr} {t t' : TO} (h : PO X e t) (w : ∀ σ H Q, t' σ H Q → t σ H Q) : PO X e t' := ⟨fun pins s σ H Q I q => h.run pins s σ H Q I (w _ _ _ q)⟩
theorem oj_none : OJ (m := m) X EX none g (pure none) := po_none.weak fun σ H Q ⟨B, G, n, φ, ξ, o, s, q, _⟩ => q none H G n o (Same.refl _) (Mo.sat_pure s)
theorem oj_some {e : Expr} {x : m D} (h : EJ X EX e g x) : OJ X EX (some e) g (x >>= fun d => Mo.lift (oint d)) :=
  (po_some h).weak fun σ H Q ⟨B, G, n, φ, ξ, o, s, q, xw⟩ => te_one o s (fun v H1 G1 d n1 o1 g1 d1 s1 => by
    obtain ⟨w, ew, pw⟩ := Mo.sat_lift s1
    cases d with
    | int i => cases ew; exact ⟨i, d1.toI, q _ H1 G1 n1 o1 g1 pw⟩
    | _ => cases ew) xw
theorem ej_slice {a : Expr} {lo hi : Option Expr} {pos p2 : Pos} {x : m D} {y z : m (Option Int)} (ha : EJ X EX a g x) (hb : OJ X EX lo g y) (hc : OJ X EX hi g z) : EJ X EX (.Subscript a (.Slice lo hi none p2) pos) g (x >>= fun d => y >>= fun l => z >>= fun h => Mo.lift (sliceD d l h)) :=
  (pe_slice (sl_or sl_list sl_tupA) ha hb hc).weak fun σ H Q ⟨B, G, n, φ, ξ, o, s, q, xw⟩ => te_one o s (fun v H1 G1 d n1 o1 g1 d1 s1 => ⟨B, G1, n1, _, ξ, o1, Mo.sat_bind s1, fun l H2 G2 n2 o2 g2 s2 => ⟨B, G2, n2, _, ξ, o2, Mo.sat_bind s2, fun h H3 G3 n3 o3 g3 s3 => by
    obtain ⟨w, ew, pw⟩ := Mo.sat_lift s3
    exact sl_data ((d1.mono g2).mono g3) o3.fm.sub ew fun u H4 G4 gr du => q u H4 G4 w n3 (o3.gr gr) (((g1.trans g2).trans g3).trans gr.g) du pw, xw⟩, xw⟩) xw
end
end DD
namespace DD
open PySem PySem.Spec PyProof.Rows
theorem forIn_wp {α β : Type} {M : Model} {A : Around} {E : Value → Shared → Prop} {Q : β → Shared → Prop} {b : α → β → Sem (ForInStep β)} (P : Nat → β → Shared → Prop) : ∀ (l : List α) (j : Nat) (r : β) (s : Shared), P j r s →
    (∀ i x r s, l[i]? = some x → P (j + i) r s → wpAny M A (b x r) (fun st s' => ∃ r', st = .yield r' ∧ P (j + i + 1) r' s') E s) → (∀ r s, P (j + l.length) r s → Q r s) → wpAny M A (forIn l r b) Q E s
  | [], j, r, s, h, _, hq => by
    simp only [List.forIn_nil]
    exact wpAny_pure (hq r s h)
  | x :: l, j, r, s, h, hs, hq => by
    simp only [List.forIn_cons]
    refine wpAny_bind (wpAny_mono (hs 0 x r s rfl h) (fun st s' ⟨r', e, p⟩ => ?_) fun _ _ z => z)
    subst e
    refine forIn_wp P l (j + 1) r' s' p (fun i y r2 s2 e p2 => ?_) fun r2 s2 p2 => hq r2 s2 (by rw [List.length_cons, show j + (l.length + 1) = j + 1 + l.length by omega]; exact p2)
    have := hs (i + 1) y r2 s2 (by simpa using e) (by rw [show j + (i + 1) = j + 1 + i by omega]; exact p2)
    rw [show j + (i + 1) + 1 = j + 1 + i + 1 by omega] at this
    exact this
/-! a list or a tuple, by its kind -/
def SqOf (k : Bool) (h : Heap) (l : Addr) (items : Array Value) : Prop := if k = true then h.IsList l items else h.IsTuple l items
def SqIter (k : Bool) (h : Heap) (a l : Addr) (i : Nat) : Prop := if k = true then h.IsListIter a l i else h.IsTupleIter a l i
section
variable {k : Bool} {h h' : Heap} {a l b : Addr} {i : Nat} {items : Array Value}
theorem SqOf.at (x : SqOf k h l items) (e : ∀ o, h.get? l = some o → h'.get? l = some o) : SqOf k h' l items := by
  cases k
  · obtain ⟨o, ho, r⟩ := (show h.IsTuple l items from x)
    exact (show h'.IsTuple l items from ⟨o, e o ho, r⟩)
  · obtain ⟨o, ho, r⟩ := (show h.IsList l items from x)
    exact (show h'.IsList l items from ⟨o, e o ho, r⟩)
theorem SqIter.at (x : SqIter k h a l i) (e : ∀ o, h.get? a = some o → h'.get? a = some o) : SqIter k h' a l i := by
  cases k
  · obtain ⟨o, ho, r⟩ := (show h.IsTupleIter a l i from x)
    exact (show h'.IsTupleIter a l i from ⟨o, e o ho, r⟩)
  · obtain ⟨o, ho, r⟩ := (show h.IsListIter a l i from x)
    exact (show h'.IsListIter a l i from ⟨o, e o ho, r⟩)
theorem SqOf.extBut (x : SqOf k h l items) (hs : Heap.ExtBut b h h') (hb : l ≠ b) : SqOf k h' l items := x.at fun o e => hs l o hb e
theorem SqIter.extBut (x : SqIter k h a l i) (hs : Heap.ExtBut b h h') (hb : a ≠ b) : SqIter k h' a l i := x.at fun o e => hs a o hb e
theorem SqIter.ex (x : SqIter k h a l i) : ∃ o, h.get? a = some o ∧ True ∧ o.data = .fields #[.ref l, .int i 0] := by
  cases k
  · obtain ⟨o, ho, _, r⟩ := (show h.IsTupleIter a l i from x)
    exact ⟨o, ho, trivial, r⟩
  · obtain ⟨o, ho, _, r⟩ := (show h.IsListIter a l i from x)
    exact ⟨o, ho, trivial, r⟩
end
section
variable {prog : Program} {w : World} {A : Around} {E : Value → Shared → Prop} {s : Shared} {k : Bool}
theorem sq_item {it l : Addr} {i : Nat} {items} {x : Value} {Q : Value → Shared → Prop} (hit : SqIter k s.heap it l i) (hl : SqOf k s.heap l items) (hx : items[i]? = some x) (hQ : ∀ h', SqIter k h' it l (i + 1) → Heap.SameBut it s.heap h' → Q x { s with heap := h' }) : wpAny (model prog w) A (Builtin.SmallTypes.nextOf (.ref it)) Q E s := by
  cases k
  · exact RZ.nextOf_tuple_item hit hl hx hQ
  · exact wpAny_nextOf_list_item hit hl hx hQ
theorem sq_end {it l : Addr} {i : Nat} {items} {Q : Value → Shared → Prop} (hh : A.handled = none) (hit : SqIter k s.heap it l i) (hl : SqOf k s.heap l items) (hx : items[i]? = none) (hE : ∀ h' e, Heap.ExtBut it s.heap h' → (∃ o, h'.get? e = some o ∧ o.cls = .type "StopIteration") → E (.ref e) { s with heap := h' }) : wpAny (model prog w) A (Builtin.SmallTypes.nextOf (.ref it)) Q E s := by
  cases k
  · exact RZ.nextOf_tuple_end hh hit hl hx hE
  · exact wpAny_nextOf_list_end hh hit hl hx hE
theorem sq_pyIter {l : Addr} {items} {Q : Value → Shared → Prop} (hl : SqOf k s.heap l items) (hQ : ∀ o : Obj, SqIter k (s.heap.push o) s.heap.objs.size l 0 → Q (.ref s.heap.objs.size) { s with heap := s.heap.push o }) : wpAny (model prog w) A (pyIter (.ref l)) Q E s := by
  cases k
  · exact wpAny_pyIter_tuple hl (hQ _ ⟨_, Heap.get?_push_size _ rfl, rfl, rfl⟩)
  · exact wpAny_pyIter_list hl (hQ _ ⟨_, Heap.get?_push_size _ rfl, rfl, rfl⟩)
end
def ZObj (f0 f1 : Value) (TI TO : Addr) : Obj := { cls := .type "zip", dict := none, data := .fields #[f0, f1, .bool false, .ref TI, .ref TO], slots := #[] }
/-- the zip at z, its iterators its over the tuples ls, each at turn i -/
structure ZSt (kd : Nat → Bool) (h : Heap) (z TI TO : Addr) (its ls : List Addr) (i : Nat) : Prop where
  zo : ∃ f0 f1, h.get? z = some (ZObj f0 f1 TI TO) ∧ (f0 = .none ∨ ∃ a : Int, f0 = rawInt a)
  ti : h.get? TI = some { cls := .type "tuple", data := .seq (its.map Value.ref).toArray }
  to : ∃ kept k, h.get? TO = some { cls := .type "tuple", data := .seq kept k } ∧ kept.size = its.length
  it : ∀ (t : Nat) (a l : Addr), its[t]? = some a → ls[t]? = some l → SqIter (kd t) h a l i
structure ZAp (z TI TO : Addr) (its ls : List Addr) : Prop where
  ne : its ≠ []
  len : ls.length = its.length
  few : its.length ≤ 1000
  nd : (z :: TI :: TO :: its).Nodup
  old : ∀ l ∈ ls, l ∉ z :: TI :: TO :: its
section
variable {prog : Program} {w : World} {A : Around} {E : Value → Shared → Prop} {s : Shared} {kd : Nat → Bool}
theorem ZAp.TIz {z TI TO : Addr} {its ls : List Addr} (D : ZAp z TI TO its ls) : TI ≠ z := fun e => by
  have := D.nd; subst e; simp at this
theorem ZAp.TOz {z TI TO : Addr} {its ls : List Addr} (D : ZAp z TI TO its ls) : TO ≠ z := fun e => by
  have := D.nd; subst e; simp at this
theorem ZAp.TITO {z TI TO : Addr} {its ls : List Addr} (D : ZAp z TI TO its ls) : TI ≠ TO := fun e => by
  have := D.nd; subst e; simp at this
theorem ZAp.itz {z TI TO a : Addr} {its ls : List Addr} (D : ZAp z TI TO its ls) (h : a ∈ its) : a ≠ z ∧ a ≠ TI ∧ a ≠ TO := by
  have := D.nd
  refine ⟨?_, ?_, ?_⟩ <;> (rintro rfl; simp_all)
theorem ZAp.inj {z TI TO a : Addr} {its ls : List Addr} {t u : Nat} (D : ZAp z TI TO its ls) (h : its[t]? = some a) (h' : its[u]? = some a) : t = u := by
  have nd : its.Nodup := ((D.nd.sublist (List.sublist_cons_self ..)).sublist (List.sublist_cons_self ..)).sublist (List.sublist_cons_self ..)
  exact L2.nd_ix nd h h'
theorem wpAny_alive {M : Model} {a : Addr} {Q : Option Obj → Shared → Prop} (h : Q (s.heap.get? a) s) : wpAny M A (loadIfAlive a) Q E s := fun Γ p _ => by
  unfold loadIfAlive
  rw [Sem.wp_loadIfAlive]
  exact (wpAny_pure (M := M) (A := A) (E := E) h) Γ p (by assumption)
theorem zipN_free {z TI TO : Addr} {its ls : List Addr} {i : Nat} {f1 : Value} {xs : List Value} {Q : Value → Shared → Prop} (D : ZAp z TI TO its ls) {f0 : Value} (hz : s.heap.get? z = some (ZObj f0 f1 TI TO)) (hf0 : f0 = .none ∨ ∃ a : Int, f0 = rawInt a ∧ s.heap.get? a.toNat = none) (S : ZSt kd s.heap z TI TO its ls i)
    (hl : xs.length = its.length) (hx : ∀ (t : Nat) (l : Addr) (x : Value), ls[t]? = some l → xs[t]? = some x → ∃ items, SqOf (kd t) s.heap l items ∧ items[i]? = some x)
    (hQ : ∀ h', ZSt kd h' z TI TO its ls (i + 1) → (h'.get? z = some (ZObj (rawInt s.heap.objs.size) (.bool false) TI TO)) → h'.get? s.heap.objs.size = some { cls := .type "tuple", data := .seq xs.toArray } → h'.objs.size = s.heap.objs.size + 1 →
      (∀ c o, c ∉ z :: TO :: its → s.heap.get? c = some o → h'.get? c = some o) → Q (.ref s.heap.objs.size) { s with heap := h' }) :
    wpAny (model prog w) A (Builtin.«zip.__next__» ⟨[.ref z], []⟩) (fun fin s' => ∃ v, fin = .done (.ret v) ∧ Q v s') E s := by
  obtain ⟨kept, k0, hTO, hks⟩ := S.to
  have hTI := S.ti
  show wpAny _ _ (field (.ref z) 2 >>= _) _ _ _
  refine wpAny_bind (wpAny_field hz rfl (x := .bool false) rfl ?_)
  show wpAny _ _ (field (.ref z) 3 >>= _) _ _ _
  refine wpAny_bind (wpAny_field hz rfl (x := .ref TI) rfl ?_)
  refine wpAny_bind (wpAny_seqItems hTI rfl ?_)
  have he : (its.map Value.ref).toArray.isEmpty = false := by have := D.ne; cases its <;> simp_all
  simp only [he]
  refine wpAny_bind ?_
  have isfree : ∀ {R : Bool → Shared → Prop}, R true s → wpAny (model prog w) A (Builtin.SmallTypes.ownedTupleIsFree (.ref z)) R E s := fun {R} hR => by
    unfold Builtin.SmallTypes.ownedTupleIsFree
    refine wpAny_bind (wpAny_field hz rfl (x := f0) rfl ?_)
    rcases hf0 with rfl | ⟨a, rfl, ha⟩
    · exact wpAny_pure hR
    · refine wpAny_bind (wpAny_alive ?_)
      rw [ha]
      exact wpAny_pure hR
  refine isfree ?_
  simp only [if_true]
  refine wpAny_bind (wpAny_rule ?_)
  refine wpAny_bind (wpAny_field hz rfl (x := .ref TO) rfl ?_)
  refine wpAny_bind (wpAny_setField_rec hz (by simp) fun h₁ hz₁ hs₁ => ?_)
  replace hz₁ : h₁.get? z = some (ZObj .ellipsis f1 TI TO) := hz₁
  have up1 : ∀ c o, c ≠ z → s.heap.get? c = some o → h₁.get? c = some o := fun c o hc e => (hs₁.2 c hc).trans e
  refine wpAny_bind (forIn_wp (fun j r s' => r = (none, ()) ∧ ∃ h kj kk, s' = { s with heap := h } ∧ h.get? z = some (ZObj .ellipsis f1 TI TO) ∧ h.get? TO = some { cls := .type "tuple", data := .seq kj kk } ∧ kj.size = its.length ∧ (∀ t : Nat, t < j → kj[t]? = xs[t]?) ∧
      (∀ (t : Nat) (a l : Addr), its[t]? = some a → ls[t]? = some l → SqIter (kd t) h a l (if t < j then i + 1 else i)) ∧ h.objs.size = s.heap.objs.size ∧ (∀ c o, c ∉ z :: TO :: its → s.heap.get? c = some o → h.get? c = some o)) _ 0 _ _
    ⟨rfl, h₁, kept, k0, rfl, hz₁, up1 _ _ D.TOz hTO, hks, fun t ht => absurd ht (Nat.not_lt_zero _), fun t a l e1 e2 => (S.it t a l e1 e2).extBut hs₁.extBut (D.itz (List.mem_of_getElem? e1)).1, hs₁.1, fun c o hc e => up1 c o (fun z => hc (by simp [z])) e⟩ (fun j p r s' e hp => ?_) fun r s' hp => ?_)
  · obtain ⟨rfl, h, kj, kk, rfl, hz2, hTO2, hk2, hpre, hit, hsz, hold⟩ := hp
    rw [Nat.zero_add] at *
    obtain ⟨a, ea⟩ : ∃ a, its[j]? = some a ∧ p = (Value.ref a, j) := by
      rw [List.getElem?_zipIdx, List.getElem?_map] at e
      cases hj : its[j]? with
      | none => rw [hj] at e; cases e
      | some a => rw [hj] at e; cases e; exact ⟨a, rfl, by simp⟩
    obtain ⟨ea, rfl⟩ := ea
    have hjl : j < its.length := (List.getElem?_eq_some_iff.mp ea).1
    obtain ⟨l, el⟩ : ∃ l, ls[j]? = some l := ⟨ls[j]'(by rw [D.len]; exact hjl), by simp [D.len, hjl]⟩
    obtain ⟨x, ex⟩ : ∃ x, xs[j]? = some x := ⟨xs[j]'(by rw [hl]; exact hjl), by simp [hl, hjl]⟩
    obtain ⟨items, ht, hix⟩ := hx j l x el ex
    have hlo : l ∉ z :: TI :: TO :: its := D.old l (List.mem_of_getElem? el)
    have ht2 : SqOf (kd j) h l items := ht.at fun o e => hold l o (fun hm => hlo (by
      simp only [List.mem_cons] at hm ⊢
      rcases hm with h | h | h
      · exact .inl h
      · exact .inr (.inr (.inl h))
      · exact .inr (.inr (.inr h)))) e
    have hi2 := hit j a l ea el
    rw [if_neg (Nat.lt_irrefl _)] at hi2
    have am := D.itz (List.mem_of_getElem? ea)
    refine wpAny_bind (wpAny_onRaise ?_)
    show wpAny _ _ (Builtin.SmallTypes.nextOf (.ref a) >>= _) _ _ _
    refine wpAny_bind (sq_item hi2 ht2 hix fun h₂ hi3 hs₂ => wpAny_pure ?_)
    have hTO3 : h₂.get? TO = some { cls := .type "tuple", data := .seq kj kk } := (hs₂.2 TO (Ne.symm am.2.2)).trans hTO2
    refine wpAny_bind (wpAny_seqItems hTO3 rfl ?_)
    have hfew := D.few
    have line : (1000 : Nat) ≤ sizeLine := by decide
    refine wpAny_bind (wpAny_updateSeq hTO3 rfl ?_ (by rw [hk2]; omega) (by rw [Array.size_setIfInBounds, hk2]; omega))
    refine wpAny_bind (wpAny_letGo (wpAny_pure ⟨_, rfl, rfl, _, _, _, rfl, ?_, Heap.get?_update_self _ hTO3 rfl, ?_, ?_, ?_, ?_, ?_⟩))
    · rw [Heap.get?_update_other _ _ D.TOz, hs₂.2 z am.1.symm]; exact hz2
    · simp [hk2]
    · intro t ht
      show (kj.setIfInBounds j x)[t]? = _
      by_cases htj : t = j
      · subst htj
        rw [Array.getElem?_setIfInBounds_self_of_lt (by rw [hk2]; exact hjl)]
        exact ex.symm
      · rw [Array.getElem?_setIfInBounds_ne (Ne.symm htj)]
        exact hpre t (by omega)
    · intro t a' l' e1 e2
      have am' := D.itz (List.mem_of_getElem? e1)
      by_cases htj : t = j
      · subst htj
        rw [ea] at e1; cases e1
        rw [el] at e2; cases e2
        rw [if_pos (Nat.lt_succ_self _)]
        exact hi3.at fun o e => (Heap.get?_update_other _ _ am'.2.2.symm).trans e
      · have hne : a' ≠ a := fun z => htj (D.inj e1 (z ▸ ea))
        have := hit t a' l' e1 e2
        have ei : (if t < j + 1 then i + 1 else i) = (if t < j then i + 1 else i) := by split <;> split <;> omega
        rw [ei]
        exact this.at fun o e => (Heap.get?_update_other _ _ am'.2.2.symm).trans ((hs₂.2 a' hne).trans e)
    · rw [show ∀ hh : Heap, (hh.update TO (Obj.mapSeq fun b => b.setIfInBounds j x)).objs.size = hh.objs.size from fun _ => by simp [Heap.update], hs₂.1]; exact hsz
    · intro c o hc e
      have h1 : c ≠ TO := fun z => hc (by simp [z])
      have h2 : c ≠ a := fun z => hc (by subst z; exact List.mem_cons_of_mem _ (List.mem_cons_of_mem _ (List.mem_of_getElem? ea)))
      exact (Heap.get?_update_other _ _ h1.symm).trans ((hs₂.2 c h2).trans (hold c o hc e))
  · obtain ⟨rfl, h, kj, kk, rfl, hz2, hTO2, hk2, hpre, hit, hsz, hold⟩ := hp
    rw [Nat.zero_add, List.length_zipIdx, List.length_map] at hpre
    have hkx : kj = xs.toArray := by
      apply Array.ext_getElem?
      intro t
      by_cases ht : t < its.length
      · rw [hpre t ht]; simp
      · rw [Array.getElem?_eq_none (by omega), Array.getElem?_eq_none (by simp; omega)]
    subst hkx
    refine wpAny_bind (wpAny_seqItems hTO2 rfl ?_)
    refine wpAny_bind (wpAny_newTuple ?_ (by have := D.few; have line : (1000 : Nat) ≤ sizeLine := (by decide); simp at hk2 ⊢; omega))
    have hit' : ∀ (t : Nat) (a l : Addr), its[t]? = some a → ls[t]? = some l → SqIter (kd t) h a l (i + 1) := fun t a l e1 e2 => by
      have := hit t a l e1 e2
      rw [if_pos (by rw [Nat.zero_add, List.length_zipIdx, List.length_map]; exact (List.getElem?_eq_some_iff.mp e1).1)] at this
      exact this
    have zlt : z < h.objs.size := Heap.lt_size hz2
    refine wpAny_bind ?_
    unfold Builtin.SmallTypes.ownedTupleHandOut
    have hz3 : (h.push { cls := .type "tuple", data := .seq xs.toArray }).get? z = some (ZObj .ellipsis f1 TI TO) := Heap.get?_push_of_some _ hz2
    refine wpAny_bind (wpAny_setField_rec hz3 (by simp) fun h₇ hz₇ hs₇ => ?_)
    replace hz₇ : h₇.get? z = some (ZObj (rawInt h.objs.size) f1 TI TO) := hz₇
    refine wpAny_setField_rec hz₇ (by simp) fun h₈ hz₈ hs₈ => ?_
    replace hz₈ : h₈.get? z = some (ZObj (rawInt h.objs.size) (.bool false) TI TO) := hz₈
    have up : ∀ c o, c ≠ z → h.get? c = some o → h₈.get? c = some o := fun c o c1 e => (hs₈.2 c c1).trans ((hs₇.2 c c1).trans (Heap.get?_push_of_some _ e))
    have hT : h₈.get? h.objs.size = some { cls := .type "tuple", data := .seq xs.toArray } := (hs₈.2 _ (Nat.ne_of_gt zlt)).trans ((hs₇.2 _ (Nat.ne_of_gt zlt)).trans (Heap.get?_push_size _ rfl))
    have hz8 : h₈.objs.size = h.objs.size + 1 := by rw [hs₈.1, hs₇.1, Heap.size_push]
    have hTI2 : h.get? TI = _ := hold TI _ (fun hm => by
      rcases List.mem_cons.mp hm with q | hm
      · exact D.TIz q
      rcases List.mem_cons.mp hm with q | hm
      · exact D.TITO q
      · exact (D.itz hm).2.1 rfl) hTI
    have st : ZSt kd h₈ z TI TO its ls (i + 1) := ⟨⟨_, _, hz₈, .inr ⟨_, rfl⟩⟩, up _ _ D.TIz hTI2, ⟨_, _, up _ _ D.TOz hTO2, hk2⟩, fun t a l e1 e2 => (hit' t a l e1 e2).at fun o e => up _ o (D.itz (List.mem_of_getElem? e1)).1 e⟩
    rw [hsz] at hz₈ hT hz8
    refine wpAny_pure ⟨_, rfl, ?_⟩
    show Q (.ref h.objs.size) _
    rw [hsz]
    exact hQ h₈ st hz₈ hT hz8 fun c o hc e => up c o (fun q => hc (by simp [q])) (hold c o hc e)
theorem zipN_busy {z TI TO : Addr} {its ls : List Addr} {i : Nat} {a0 : Int} {f1 : Value} {xs : List Value} {Q : Value → Shared → Prop} (D : ZAp z TI TO its ls) (hz : s.heap.get? z = some (ZObj (rawInt a0) f1 TI TO)) {oa : Obj} (ha : s.heap.get? a0.toNat = some oa) (S : ZSt kd s.heap z TI TO its ls i)
    (hl : xs.length = its.length) (hx : ∀ (t : Nat) (l : Addr) (x : Value), ls[t]? = some l → xs[t]? = some x → ∃ items, SqOf (kd t) s.heap l items ∧ items[i]? = some x)
    (hQ : ∀ h', ZSt kd h' z TI TO its ls (i + 1) → h'.get? s.heap.objs.size = some { cls := .type "tuple", data := .seq xs.toArray } → h'.objs.size = s.heap.objs.size + 1 →
      (∀ c o, c ∉ z :: TO :: its → s.heap.get? c = some o → h'.get? c = some o) → Q (.ref s.heap.objs.size) { s with heap := h' }) :
    wpAny (model prog w) A (Builtin.«zip.__next__» ⟨[.ref z], []⟩) (fun fin s' => ∃ v, fin = .done (.ret v) ∧ Q v s') E s := by
  obtain ⟨kept, k0, hTO, hks⟩ := S.to
  have hTI := S.ti
  show wpAny _ _ (field (.ref z) 2 >>= _) _ _ _
  refine wpAny_bind (wpAny_field hz rfl (x := .bool false) rfl ?_)
  show wpAny _ _ (field (.ref z) 3 >>= _) _ _ _
  refine wpAny_bind (wpAny_field hz rfl (x := .ref TI) rfl ?_)
  refine wpAny_bind (wpAny_seqItems hTI rfl ?_)
  have he : (its.map Value.ref).toArray.isEmpty = false := by have := D.ne; cases its <;> simp_all
  simp only [he]
  refine wpAny_bind ?_
  have isbusy : ∀ {R : Bool → Shared → Prop}, (∀ h f1', h.get? z = some (ZObj (rawInt a0) f1' TI TO) → Heap.SameBut z s.heap h → R false { s with heap := h }) → wpAny (model prog w) A (Builtin.SmallTypes.ownedTupleIsFree (.ref z)) R E s := fun {R} hR => by
    unfold Builtin.SmallTypes.ownedTupleIsFree
    refine wpAny_bind (wpAny_field hz rfl (x := rawInt a0) rfl ?_)
    refine wpAny_bind (wpAny_alive ?_)
    rw [ha]
    refine wpAny_bind (wpAny_field hz rfl (x := f1) rfl ?_)
    by_cases hf : (f1 != Value.bool true) = true
    · simp only [hf, if_true]
      exact wpAny_bind (wpAny_setField_rec hz (by simp) fun h1 hz1 hs1 => wpAny_pure (hR h1 _ hz1 hs1))
    · simp only [hf]
      exact wpAny_pure (hR s.heap f1 hz (Heap.SameBut.refl _ _))
  refine isbusy fun h₁ f2 hz₁ hs₁ => ?_
  simp only [Bool.false_eq_true, if_false, List.forIn_toArray]
  have up1 : ∀ c o, c ≠ z → s.heap.get? c = some o → h₁.get? c = some o := fun c o hc e => (hs₁.2 c hc).trans e
  refine wpAny_bind (forIn_wp (fun j r s' => r = (none, (xs.take j).toArray) ∧ ∃ h, s' = { s with heap := h } ∧ h.get? z = some (ZObj (rawInt a0) f2 TI TO) ∧
      (∀ (t : Nat) (a l : Addr), its[t]? = some a → ls[t]? = some l → SqIter (kd t) h a l (if t < j then i + 1 else i)) ∧ h.objs.size = s.heap.objs.size ∧ (∀ c o, c ∉ z :: its → s.heap.get? c = some o → h.get? c = some o)) _ 0 _ _
    ⟨by simp, h₁, rfl, hz₁, fun t a l e1 e2 => (S.it t a l e1 e2).extBut hs₁.extBut (D.itz (List.mem_of_getElem? e1)).1, hs₁.1, fun c o hc e => up1 c o (fun z => hc (by simp [z])) e⟩ (fun j p r s' e hp => ?_) fun r s' hp => ?_)
  · obtain ⟨rfl, h, rfl, hz2, hit, hsz, hold⟩ := hp
    rw [Nat.zero_add] at *
    obtain ⟨a, ea, rfl⟩ : ∃ a, its[j]? = some a ∧ p = Value.ref a := by
      rw [List.getElem?_map] at e
      cases hj : its[j]? with
      | none => rw [hj] at e; cases e
      | some a => rw [hj] at e; cases e; exact ⟨a, rfl, rfl⟩
    have hjl : j < its.length := (List.getElem?_eq_some_iff.mp ea).1
    obtain ⟨l, el⟩ : ∃ l, ls[j]? = some l := ⟨ls[j]'(by rw [D.len]; exact hjl), by simp [D.len, hjl]⟩
    obtain ⟨x, ex⟩ : ∃ x, xs[j]? = some x := ⟨xs[j]'(by rw [hl]; exact hjl), by simp [hl, hjl]⟩
    obtain ⟨items, ht, hix⟩ := hx j l x el ex
    have hlo : l ∉ z :: TI :: TO :: its := D.old l (List.mem_of_getElem? el)
    have ht2 : SqOf (kd j) h l items := ht.at fun o e => hold l o (fun hm => hlo (by
      simp only [List.mem_cons] at hm ⊢
      rcases hm with h | h
      · exact .inl h
      · exact .inr (.inr (.inr h)))) e
    have hi2 := hit j a l ea el
    rw [if_neg (Nat.lt_irrefl _)] at hi2
    refine wpAny_bind (wpAny_holding ?_)
    show wpAny _ _ (Builtin.SmallTypes.nextOf (.ref a) >>= _) _ _ _
    refine wpAny_bind (sq_item hi2 ht2 hix fun h₂ hi3 hs₂ => wpAny_pure ?_)
    refine wpAny_pure ⟨_, rfl, ?_, h₂, rfl, ?_, ?_, ?_, ?_⟩
    · show (none, (xs.take j).toArray.push x) = _
      rw [List.take_add_one, ex]
      simp
    · rw [hs₂.2 z (D.itz (List.mem_of_getElem? ea)).1.symm]; exact hz2
    · intro t a' l' e1 e2
      by_cases htj : t = j
      · subst htj
        rw [ea] at e1; cases e1
        rw [el] at e2; cases e2
        rw [if_pos (Nat.lt_succ_self _)]
        exact hi3
      · have hne : a' ≠ a := fun z => htj (D.inj e1 (z ▸ ea))
        have := hit t a' l' e1 e2
        have ei : (if t < j + 1 then i + 1 else i) = (if t < j then i + 1 else i) := by split <;> split <;> omega
        rw [ei]
        exact this.at fun o e => (hs₂.2 a' hne).trans e
    · rw [hs₂.1]; exact hsz
    · intro c o hc e
      exact (hs₂.2 c (fun z => hc (by subst z; exact List.mem_cons_of_mem _ (List.mem_of_getElem? ea)))).trans (hold c o hc e)
  · obtain ⟨rfl, h, rfl, hz2, hit, hsz, hold⟩ := hp
    have hlen : 0 + (its.map Value.ref).length = xs.length := by rw [Nat.zero_add, List.length_map, hl]
    rw [hlen, List.take_length]
    have few := D.few
    have line : (1000 : Nat) ≤ sizeLine := by decide
    refine wpAny_bind (wpAny_newTuple ?_ (by simp; omega))
    have hit' : ∀ (t : Nat) (a l : Addr), its[t]? = some a → ls[t]? = some l → SqIter (kd t) h a l (i + 1) := fun t a l e1 e2 => by
      have := hit t a l e1 e2
      rw [if_pos (by rw [hlen, hl]; exact (List.getElem?_eq_some_iff.mp e1).1)] at this
      exact this
    have notin : ∀ c, (c = TI ∨ c = TO) → c ∉ z :: its := fun c hc hm => by
      rcases List.mem_cons.mp hm with q | hm
      · rcases hc with rfl | rfl
        · exact D.TIz q
        · exact D.TOz q
      · rcases hc with rfl | rfl
        · exact (D.itz hm).2.1 rfl
        · exact (D.itz hm).2.2 rfl
    have st : ZSt kd (h.push { cls := .type "tuple", data := .seq xs.toArray }) z TI TO its ls (i + 1) := ⟨⟨_, _, Heap.get?_push_of_some _ hz2, .inr ⟨_, rfl⟩⟩, Heap.get?_push_of_some _ (hold _ _ (notin TI (.inl rfl)) hTI), ⟨_, _, Heap.get?_push_of_some _ (hold _ _ (notin TO (.inr rfl)) hTO), hks⟩,
      fun t a l e1 e2 => (hit' t a l e1 e2).at fun o e => Heap.get?_push_of_some _ e⟩
    refine wpAny_pure ⟨_, rfl, ?_⟩
    show Q (.ref h.objs.size) _
    have hT := Heap.get?_push_size h (o := { cls := .type "tuple", data := .seq xs.toArray }) rfl
    have hz8 : (h.push { cls := .type "tuple", data := .seq xs.toArray }).objs.size = h.objs.size + 1 := Heap.size_push ..
    rw [hsz] at hT hz8 ⊢
    exact hQ _ st hT hz8 fun c o hc e => Heap.get?_push_of_some _ (hold c o (fun hm => hc (by
      rcases List.mem_cons.mp hm with q | hm
      · simp [q]
      · exact List.mem_cons_of_mem _ (List.mem_cons_of_mem _ hm))) e)
/-- one item more: the tuple of the i-th items -/
theorem zipN_item {z TI TO : Addr} {its ls : List Addr} {i : Nat} {xs : List Value} {Q : Option Value → Shared → Prop} (D : ZAp z TI TO its ls) (S : ZSt kd s.heap z TI TO its ls i)
    (hl : xs.length = its.length) (hx : ∀ (t : Nat) (l : Addr) (x : Value), ls[t]? = some l → xs[t]? = some x → ∃ items, SqOf (kd t) s.heap l items ∧ items[i]? = some x)
    (hQ : ∀ h', ZSt kd h' z TI TO its ls (i + 1) → h'.get? s.heap.objs.size = some { cls := .type "tuple", data := .seq xs.toArray } → h'.objs.size = s.heap.objs.size + 1 →
      (∀ c o, c ∉ z :: TO :: its → s.heap.get? c = some o → h'.get? c = some o) → Q (some (.ref s.heap.objs.size)) { s with heap := h' }) :
    wpAny (model prog w) A (pyNext (.ref z)) Q E s := by
  obtain ⟨f0, f1, hz, hf⟩ := id S.zo
  have hT : s.TypeIs (.ref z) "zip" := ⟨_, hz, rfl⟩
  unfold pyNext
  refine wpAny_bind (wpAny_attempt (wpAny_callSpecial?_slot (name := Str.ofString "__next__") hT F.slot_zip_next (wpAny_call_entry F.slot_zip_next hT F.entry_zip_next ?_ (F.args_zip_next_1 _))))
  rcases hf with rfl | ⟨a, rfl⟩
  · exact zipN_free D hz (.inl rfl) S hl hx fun h' a1 _ a3 a4 a5 => wpAny_pure (hQ h' a1 a3 a4 a5)
  · cases ea : s.heap.get? a.toNat with
    | none => exact zipN_free D hz (.inr ⟨a, rfl, ea⟩) S hl hx fun h' a1 _ a3 a4 a5 => wpAny_pure (hQ h' a1 a3 a4 a5)
    | some oa => exact zipN_busy D hz ea S hl hx fun h' a1 a3 a4 a5 => wpAny_pure (hQ h' a1 a3 a4 a5)
/-- a turn of the walk over the parts that ends in an error -/
theorem forIn_stop {α β : Type} {M : Model} {Q : β → Shared → Prop} {b : α → β → Sem (ForInStep β)} (P : Nat → β → Shared → Prop) : ∀ (t : Nat) (l : List α) (j : Nat) (r : β) (s : Shared) (x : α), l[t]? = some x → P j r s →
    (∀ i x r s, i < t → l[i]? = some x → P (j + i) r s → wpAny M A (b x r) (fun st s' => ∃ r', st = .yield r' ∧ P (j + i + 1) r' s') E s) → (∀ r s, P (j + t) r s → wpAny M A (b x r) (fun _ _ => False) E s) → wpAny M A (forIn l r b) Q E s
  | _, [], j, r, s, x, hx, _, _, _ => by simp at hx
  | 0, y :: l, j, r, s, x, hx, h, _, hq => by
    simp only [List.forIn_cons]
    obtain rfl : y = x := by simpa using hx
    exact wpAny_bind (wpAny_mono (hq r s h) (fun _ _ z => z.elim) fun _ _ z => z)
  | t + 1, y :: l, j, r, s, x, hx, h, hs, hq => by
    simp only [List.forIn_cons]
    refine wpAny_bind (wpAny_mono (hs 0 y r s (Nat.succ_pos _) rfl h) (fun st s' ⟨r', e, p⟩ => ?_) fun _ _ z => z)
    subst e
    refine forIn_stop P t l (j + 1) r' s' x (by simpa using hx) p (fun i y r2 s2 hi e p2 => ?_) fun r2 s2 p2 => hq r2 s2 (by rw [show j + (t + 1) = j + 1 + t by omega]; exact p2)
    have := hs (i + 1) y r2 s2 (by omega) (by simpa using e) (by rw [show j + (i + 1) = j + 1 + i by omega]; exact p2)
    rw [show j + (i + 1) + 1 = j + 1 + i + 1 by omega] at this
    exact this
/-- the part at place t is at its end, the ones ahead are not -/
theorem zipN_stop {z TI TO a l : Addr} {its ls : List Addr} {i t : Nat} {items : Array Value} {Q : Fin → Shared → Prop} (hh : A.handled = none) (D : ZAp z TI TO its ls) (S : ZSt kd s.heap z TI TO its ls i) (hta : its[t]? = some a) (htl : ls[t]? = some l) (ht : SqOf (kd t) s.heap l items) (hend : items[i]? = none)
    (hx : ∀ (u : Nat) (l : Addr), u < t → ls[u]? = some l → ∃ items x, SqOf (kd u) s.heap l items ∧ items[i]? = some x)
    (hE : ∀ h' e, (∀ c o, c ∉ z :: TO :: its → s.heap.get? c = some o → h'.get? c = some o) → (∃ o, h'.get? e = some o ∧ o.cls = .type "StopIteration") → E (.ref e) { s with heap := h' }) :
    wpAny (model prog w) A (Builtin.«zip.__next__» ⟨[.ref z], []⟩) Q E s := by
  obtain ⟨kept, k0, hTO, hks⟩ := S.to
  obtain ⟨f0, f1, hz, hf⟩ := id S.zo
  have hTI := S.ti
  have am := D.itz (List.mem_of_getElem? hta)
  have notin : ∀ {u : Nat} {l : Addr}, ls[u]? = some l → l ∉ z :: TO :: its := fun {u l} el hm => D.old l (List.mem_of_getElem? el) (by
    simp only [List.mem_cons] at hm ⊢
    rcases hm with h | h | h
    · exact .inl h
    · exact .inr (.inr (.inl h))
    · exact .inr (.inr (.inr h)))
  show wpAny _ _ (field (.ref z) 2 >>= _) _ _ _
  refine wpAny_bind (wpAny_field hz rfl (x := .bool false) rfl ?_)
  show wpAny _ _ (field (.ref z) 3 >>= _) _ _ _
  refine wpAny_bind (wpAny_field hz rfl (x := .ref TI) rfl ?_)
  refine wpAny_bind (wpAny_seqItems hTI rfl ?_)
  have he : (its.map Value.ref).toArray.isEmpty = false := by have := D.ne; cases its <;> simp_all
  simp only [he]
  refine wpAny_bind ?_
  have freeGo : wpAny (model prog w) A (Builtin.SmallTypes.ownedTupleIsFree (.ref z)) (fun b s' => s' = s ∧ b = true ∨ b = false ∧ ∃ h, s' = { s with heap := h } ∧ Heap.SameBut z s.heap h) E s := by
    unfold Builtin.SmallTypes.ownedTupleIsFree
    refine wpAny_bind (wpAny_field hz rfl (x := f0) rfl ?_)
    rcases hf with rfl | ⟨a9, rfl⟩
    · exact wpAny_pure (.inl ⟨rfl, rfl⟩)
    · refine wpAny_bind (wpAny_alive ?_)
      cases ea : s.heap.get? a9.toNat with
      | none => exact wpAny_pure (.inl ⟨rfl, rfl⟩)
      | some oa =>
        refine wpAny_bind (wpAny_field hz rfl (x := f1) rfl ?_)
        by_cases hf : (f1 != Value.bool true) = true
        · simp only [hf, if_true]
          exact wpAny_bind (wpAny_setField_rec hz (by simp) fun h1 hz1 hs1 => wpAny_pure (.inr ⟨rfl, h1, rfl, hs1⟩))
        · simp only [hf]
          exact wpAny_pure (.inr ⟨rfl, s.heap, rfl, Heap.SameBut.refl _ _⟩)
  refine wpAny_mono freeGo (fun b s' hb => ?_) fun _ _ z => z
  have itAt : ∀ {u : Nat} {p : Value × Nat}, (its.map Value.ref).zipIdx[u]? = some p → ∃ a, its[u]? = some a ∧ p = (Value.ref a, u) := fun {u p} e => by
    rw [List.getElem?_zipIdx, List.getElem?_map] at e
    cases hj : its[u]? with
    | none => rw [hj] at e; cases e
    | some a => rw [hj] at e; cases e; exact ⟨a, rfl, by simp⟩
  rcases hb with ⟨rfl, rfl⟩ | ⟨rfl, h₁, rfl, hs₁⟩
  · simp only [if_true]
    refine wpAny_bind (wpAny_rule ?_)
    refine wpAny_bind (wpAny_field hz rfl (x := .ref TO) rfl ?_)
    refine wpAny_bind (wpAny_setField_rec hz (by simp) fun h₁ hz₁ hs₁ => ?_)
    replace hz₁ : h₁.get? z = some (ZObj .ellipsis f1 TI TO) := hz₁
    have up1 : ∀ c o, c ≠ z → s'.heap.get? c = some o → h₁.get? c = some o := fun c o hc e => (hs₁.2 c hc).trans e
    refine wpAny_bind (forIn_stop (fun j r s2 => r = (none, ()) ∧ ∃ h kj kk, s2 = { s' with heap := h } ∧ h.get? z = some (ZObj .ellipsis f1 TI TO) ∧ h.get? TO = some { cls := .type "tuple", data := .seq kj kk } ∧ kj.size = its.length ∧
        (∀ (u : Nat) (a l : Addr), its[u]? = some a → ls[u]? = some l → SqIter (kd u) h a l (if u < j then i + 1 else i)) ∧ (∀ c o, c ∉ z :: TO :: its → s'.heap.get? c = some o → h.get? c = some o)) t _ 0 _ _ (Value.ref a, t)
      (by rw [List.getElem?_zipIdx, List.getElem?_map, hta]; simp) ⟨rfl, h₁, kept, k0, rfl, hz₁, up1 _ _ D.TOz hTO, hks, fun u a l e1 e2 => (S.it u a l e1 e2).extBut hs₁.extBut (D.itz (List.mem_of_getElem? e1)).1, fun c o hc e => up1 c o (fun z => hc (by simp [z])) e⟩ (fun j p r s2 hj e hp => ?_) fun r s2 hp => ?_)
    · obtain ⟨rfl, h, kj, kk, rfl, hz2, hTO2, hk2, hit, hold⟩ := hp
      rw [Nat.zero_add] at *
      obtain ⟨a, ea, rfl⟩ := itAt e
      have hjl : j < its.length := (List.getElem?_eq_some_iff.mp ea).1
      obtain ⟨l, el⟩ : ∃ l, ls[j]? = some l := ⟨ls[j]'(by rw [D.len]; exact hjl), by simp [D.len, hjl]⟩
      obtain ⟨items, x, ht, hix⟩ := hx j l hj el
      have ht2 : SqOf (kd j) h l items := ht.at fun o e => hold l o (notin el) e
      have hi2 := hit j a l ea el
      rw [if_neg (Nat.lt_irrefl _)] at hi2
      have am := D.itz (List.mem_of_getElem? ea)
      refine wpAny_bind (wpAny_onRaise ?_)
      show wpAny _ _ (Builtin.SmallTypes.nextOf (.ref a) >>= _) _ _ _
      refine wpAny_bind (sq_item hi2 ht2 hix fun h₂ hi3 hs₂ => wpAny_pure ?_)
      have hTO3 : h₂.get? TO = some { cls := .type "tuple", data := .seq kj kk } := (hs₂.2 TO (Ne.symm am.2.2)).trans hTO2
      refine wpAny_bind (wpAny_seqItems hTO3 rfl ?_)
      have hfew := D.few
      have line : (1000 : Nat) ≤ sizeLine := by decide
      refine wpAny_bind (wpAny_updateSeq hTO3 rfl ?_ (by rw [hk2]; omega) (by rw [Array.size_setIfInBounds, hk2]; omega))
      refine wpAny_bind (wpAny_letGo (wpAny_pure ⟨_, rfl, rfl, _, _, _, rfl, ?_, Heap.get?_update_self _ hTO3 rfl, ?_, ?_, ?_⟩))
      · rw [Heap.get?_update_other _ _ D.TOz, hs₂.2 z am.1.symm]; exact hz2
      · simp [hk2]
      · intro u a' l' e1 e2
        have am' := D.itz (List.mem_of_getElem? e1)
        by_cases htj : u = j
        · subst htj
          rw [ea] at e1; cases e1
          rw [el] at e2; cases e2
          rw [if_pos (Nat.lt_succ_self _)]
          exact hi3.at fun o e => (Heap.get?_update_other _ _ am'.2.2.symm).trans e
        · have hne : a' ≠ a := fun z => htj (D.inj e1 (z ▸ ea))
          have := hit u a' l' e1 e2
          have ei : (if u < j + 1 then i + 1 else i) = (if u < j then i + 1 else i) := by split <;> split <;> omega
          rw [ei]
          exact this.at fun o e => (Heap.get?_update_other _ _ am'.2.2.symm).trans ((hs₂.2 a' hne).trans e)
      · intro c o hc e
        have h1 : c ≠ TO := fun z => hc (by simp [z])
        have h2 : c ≠ a := fun z => hc (by subst z; exact List.mem_cons_of_mem _ (List.mem_cons_of_mem _ (List.mem_of_getElem? ea)))
        exact (Heap.get?_update_other _ _ h1.symm).trans ((hs₂.2 c h2).trans (hold c o hc e))
    · obtain ⟨rfl, h, kj, kk, rfl, hz2, hTO2, hk2, hit, hold⟩ := hp
      rw [Nat.zero_add] at *
      have hi2 := hit t a l hta htl
      rw [if_neg (Nat.lt_irrefl _)] at hi2
      refine wpAny_bind (wpAny_onRaise ?_)
      show wpAny _ _ (Builtin.SmallTypes.nextOf (.ref a) >>= _) _ _ _
      refine wpAny_bind (sq_end hh hi2 (ht.at fun o e => hold l o (notin htl) e) hend fun h₂ e hs₂ he => ?_)
      obtain ⟨oe, hoe, hce⟩ := he
      have hz₂ : h₂.get? z = some (ZObj .ellipsis f1 TI TO) := hs₂ _ _ am.1.symm hz2
      have hez : e ≠ z := fun x => by subst x; rw [hz₂] at hoe; cases hoe; simp [ZObj] at hce
      refine wpAny_setField_rec hz₂ (by simp) fun h₃ _ hs₃ => hE h₃ e (fun c o hc x => hs₃.extBut _ _ (fun q => hc (by simp [q])) (hs₂ _ _ (fun q => hc (by subst q; exact List.mem_cons_of_mem _ (List.mem_cons_of_mem _ (List.mem_of_getElem? hta)))) (hold c o hc x))) ⟨oe, hs₃.extBut _ _ hez hoe, hce⟩
  · simp only [Bool.false_eq_true, if_false, List.forIn_toArray]
    have up1 : ∀ c o, c ≠ z → s.heap.get? c = some o → h₁.get? c = some o := fun c o hc e => (hs₁.2 c hc).trans e
    refine wpAny_bind (forIn_stop (fun j r s2 => r.1 = none ∧ ∃ h, s2 = { s with heap := h } ∧
        (∀ (u : Nat) (a l : Addr), its[u]? = some a → ls[u]? = some l → SqIter (kd u) h a l (if u < j then i + 1 else i)) ∧ (∀ c o, c ∉ z :: TO :: its → s.heap.get? c = some o → h.get? c = some o)) t _ 0 _ _ (Value.ref a)
      (by rw [List.getElem?_map, hta]; rfl) ⟨rfl, h₁, rfl, fun u a l e1 e2 => (S.it u a l e1 e2).extBut hs₁.extBut (D.itz (List.mem_of_getElem? e1)).1, fun c o hc e => up1 c o (fun z => hc (by simp [z])) e⟩ (fun j p r s2 hj e hp => ?_) fun r s2 hp => ?_)
    · obtain ⟨r1, r2⟩ := r
      obtain ⟨rfl, h, rfl, hit, hold⟩ := hp
      rw [Nat.zero_add] at *
      obtain ⟨a, ea, rfl⟩ : ∃ a, its[j]? = some a ∧ p = Value.ref a := by
        rw [List.getElem?_map] at e
        cases hj : its[j]? with
        | none => rw [hj] at e; cases e
        | some a => rw [hj] at e; cases e; exact ⟨a, rfl, rfl⟩
      have hjl : j < its.length := (List.getElem?_eq_some_iff.mp ea).1
      obtain ⟨l, el⟩ : ∃ l, ls[j]? = some l := ⟨ls[j]'(by rw [D.len]; exact hjl), by simp [D.len, hjl]⟩
      obtain ⟨items, x, ht, hix⟩ := hx j l hj el
      have ht2 : SqOf (kd j) h l items := ht.at fun o e => hold l o (notin el) e
      have hi2 := hit j a l ea el
      rw [if_neg (Nat.lt_irrefl _)] at hi2
      refine wpAny_bind (wpAny_holding ?_)
      show wpAny _ _ (Builtin.SmallTypes.nextOf (.ref a) >>= _) _ _ _
      refine wpAny_bind (sq_item hi2 ht2 hix fun h₂ hi3 hs₂ => wpAny_pure ?_)
      refine wpAny_pure ⟨_, rfl, rfl, h₂, rfl, ?_, ?_⟩
      · intro u a' l' e1 e2
        by_cases htj : u = j
        · subst htj
          rw [ea] at e1; cases e1
          rw [el] at e2; cases e2
          rw [if_pos (Nat.lt_succ_self _)]
          exact hi3
        · have hne : a' ≠ a := fun z => htj (D.inj e1 (z ▸ ea))
          have := hit u a' l' e1 e2
          have ei : (if u < j + 1 then i + 1 else i) = (if u < j then i + 1 else i) := by split <;> split <;> omega
          rw [ei]
          exact this.at fun o e => (hs₂.2 a' hne).trans e
      · intro c o hc e
        exact (hs₂.2 c (fun z => hc (by subst z; exact List.mem_cons_of_mem _ (List.mem_cons_of_mem _ (List.mem_of_getElem? ea))))).trans (hold c o hc e)
    · obtain ⟨r1, r2⟩ := r
      obtain ⟨rfl, h, rfl, hit, hold⟩ := hp
      rw [Nat.zero_add] at *
      have hi2 := hit t a l hta htl
      rw [if_neg (Nat.lt_irrefl _)] at hi2
      refine wpAny_bind (wpAny_holding ?_)
      show wpAny _ _ (Builtin.SmallTypes.nextOf (.ref a) >>= _) _ _ _
      refine wpAny_bind (sq_end hh hi2 (ht.at fun o e => hold l o (notin htl) e) hend fun h₂ e hs₂ he => ?_)
      exact hE h₂ e (fun c o hc x => hs₂ _ _ (fun q => hc (by subst q; exact List.mem_cons_of_mem _ (List.mem_cons_of_mem _ (List.mem_of_getElem? hta)))) (hold c o hc x)) he
theorem zipN_end {z TI TO a l : Addr} {its ls : List Addr} {i t : Nat} {items : Array Value} {Q : Option Value → Shared → Prop} (hh : A.handled = none) (D : ZAp z TI TO its ls) (S : ZSt kd s.heap z TI TO its ls i) (hta : its[t]? = some a) (htl : ls[t]? = some l) (ht : SqOf (kd t) s.heap l items) (hend : items[i]? = none)
    (hx : ∀ (u : Nat) (l : Addr), u < t → ls[u]? = some l → ∃ items x, SqOf (kd u) s.heap l items ∧ items[i]? = some x)
    (hQ : ∀ h', (∀ c o, c ∉ z :: TO :: its → s.heap.get? c = some o → h'.get? c = some o) → Q none { s with heap := h' }) : wpAny (model prog w) A (pyNext (.ref z)) Q E s := by
  obtain ⟨f0, f1, hz, hf⟩ := id S.zo
  have hT : s.TypeIs (.ref z) "zip" := ⟨_, hz, rfl⟩
  unfold pyNext
  refine wpAny_bind (wpAny_attempt (wpAny_callSpecial?_slot (name := Str.ofString "__next__") hT F.slot_zip_next (wpAny_call_entry F.slot_zip_next hT F.entry_zip_next (zipN_stop hh D S hta htl ht hend hx fun h' e hk he => ?_) (F.args_zip_next_1 _))))
  obtain ⟨o, ho, hc⟩ := he
  exact wpAny_bind (wpAny_isInstance (T := "StopIteration") (b := true) ⟨o, ho, hc⟩ isSubtype_stop (wpAny_pure (hQ _ hk)))
theorem zip_self {z TI TO : Addr} {f0 f1 : Value} {Q : Value → Shared → Prop} (hz : s.heap.get? z = some (ZObj f0 f1 TI TO)) (h : Q (.ref z) s) : wpAny (model prog w) A (pyIter (.ref z)) Q E s := by
  have hT : s.TypeIs (.ref z) "zip" := ⟨_, hz, rfl⟩
  refine wpAny_pyIter_slot hT F.slot_zip_iter (wpAny_call_entry F.slot_zip_iter hT F.entry_zip_iter ?_ (F.args_zip_iter_1 _))
  show wpAny _ _ (ret (.ref z)) _ _ s
  exact wpAny_pure ⟨_, rfl, "zip", _, hT, F.slot_zip_next.lookup, h⟩
/-- zip(..) of tuples -/
theorem meets_zipN (ls : List Addr) (hl : ls.length ≤ 1000) : Meets (Builtin.«zip.__new__» ⟨.type "zip" :: ls.map Value.ref, []⟩) (fun _ R s => (∀ (t : Nat) (l : Addr), ls[t]? = some l → ∃ items, SqOf (kd t) s.heap l items) ∧
    ∀ h' its, ZSt kd h' (s.heap.objs.size + ls.length + 2) (s.heap.objs.size + ls.length) (s.heap.objs.size + ls.length + 1) its ls 0 → its = (List.range ls.length).map (s.heap.objs.size + ·) → (∀ c o, s.heap.get? c = some o → h'.get? c = some o) → R (.ok (.ret (.ref (s.heap.objs.size + ls.length + 2)))) { s with heap := h' }) :=
  .of_wp fun prog w A R s ⟨ht, h⟩ => by
    have hsub := sub_zip
    obtain ⟨hp, g, d, tk, os⟩ := s
    wp_walk
    show wpAny (model prog w) A.in1 (forIn (ls.map Value.ref) (#[] : Array Value) (fun x its => do let v ← holding its.toList (pyIter x); pure (ForInStep.yield (its.push v)))) _ _ _
    refine forIn_wp (fun j r s' => r = ((List.range j).map fun t => Value.ref (hp.objs.size + t)).toArray ∧ ∃ hh, s' = ⟨hh, g, d, tk, os⟩ ∧ hh.objs.size = hp.objs.size + j ∧ (∀ (t : Nat) (l : Addr), t < j → ls[t]? = some l → SqIter (kd t) hh (hp.objs.size + t) l 0) ∧ ∀ c o, hp.get? c = some o → hh.get? c = some o) _ 0 _ _
      ⟨rfl, hp, rfl, rfl, fun t l ht => absurd ht (Nat.not_lt_zero _), fun _ _ e => e⟩ (fun j x r s' e hq => ?_) fun r s' hq => ?_
    · obtain ⟨rfl, hh, rfl, hsz, hit, hold⟩ := hq
      rw [Nat.zero_add] at *
      obtain ⟨l, el, rfl⟩ : ∃ l, ls[j]? = some l ∧ x = Value.ref l := by
        rw [List.getElem?_map] at e
        cases hj : ls[j]? with
        | none => rw [hj] at e; cases e
        | some a => rw [hj] at e; cases e; exact ⟨a, rfl, rfl⟩
      obtain ⟨items, htl⟩ := ht j l el
      have htl' : SqOf (kd j) hp l items := htl
      refine wpAny_bind (wpAny_holding (sq_pyIter (s := ⟨hh, g, d, tk, os⟩) (htl'.at fun o e => hold l o e) fun ob hob => wpAny_pure ⟨_, rfl, ?_, _, rfl, ?_, ?_, ?_⟩))
      · rw [List.range_succ, List.map_append]
        show Array.push _ (Value.ref hh.objs.size) = _
        rw [hsz]
        simp
      · rw [Heap.size_push, hsz]; omega
      · intro t l' ht' el'
        by_cases htj : t = j
        · subst htj
          rw [el] at el'; cases el'
          rw [← hsz]
          exact hob
        · exact (hit t l' (by omega) el').at fun o e => Heap.get?_push_of_some _ e
      · exact fun c o e => Heap.get?_push_of_some _ (hold c o e)
    · obtain ⟨rfl, hh, rfl, hsz, hit, hold⟩ := hq
      rw [Nat.zero_add, List.length_map] at *
      have line : (1000 : Nat) ≤ sizeLine := (by decide)
      refine wpAny_pure ?_
      refine wpAny_bind (wpAny_newTuple ?_ (by simp; omega))
      refine wpAny_bind (wpAny_newTuple ?_ (by simp; omega))
      show wpAny _ _ (newObj (.type "zip") (.fields #[.none, .bool false, .bool false, _, _]) >>= _) _ _ _
      refine wpAny_bind (wpAny_newObj_type ?_)
      have e1 : ((List.range ls.length).map fun t => Value.ref (hp.objs.size + t)).toArray.toList = ((List.range ls.length).map (hp.objs.size + ·)).map Value.ref := by simp
      have s1 : (hh.push { cls := .type "tuple", data := .seq (((List.range ls.length).map fun t => Value.ref (hp.objs.size + t)).toArray.toList).toArray }).objs.size = hp.objs.size + ls.length + 1 := by rw [Heap.size_push, hsz]
      refine wpAny_pure ⟨_, rfl, ?_⟩
      have hgo := h
      simp only at hgo
      rw [e1] at s1 ⊢
      generalize hits : (List.range ls.length).map (hp.objs.size + ·) = its at *
      have lits : its.length = ls.length := by rw [← hits]; simp
      generalize hA : hh.push { cls := .type "tuple", data := .seq (its.map Value.ref).toArray } = h1 at *
      have zA : h1.objs.size = hp.objs.size + ls.length + 1 := s1
      generalize hB : h1.push { cls := .type "tuple", data := .seq ((its.map Value.ref).map fun _ => Value.none).toArray } = h2 at *
      have zB : h2.objs.size = hp.objs.size + ls.length + 2 := by rw [← hB, Heap.size_push, zA]
      have up : ∀ c o, hh.get? c = some o → h2.get? c = some o := fun c o e => by rw [← hB, ← hA]; exact Heap.get?_push_of_some _ (Heap.get?_push_of_some _ e)
      have gI : h2.get? (hp.objs.size + ls.length) = some { cls := .type "tuple", data := .seq (its.map Value.ref).toArray } := by
        rw [← hB]
        refine Heap.get?_push_of_some _ ?_
        rw [← hA, ← hsz]
        exact Heap.get?_push_size _ rfl
      have gO : h2.get? (hp.objs.size + ls.length + 1) = some { cls := .type "tuple", data := .seq ((its.map Value.ref).map fun _ => Value.none).toArray } := by
        rw [← hB, ← zA]
        exact Heap.get?_push_size _ rfl
      show R (.ok (.ret (.ref h2.objs.size))) ⟨h2.push { cls := .type "zip", data := .fields #[.none, .bool false, .bool false, .ref hh.objs.size, .ref h1.objs.size] }, g, d, tk, os⟩
      rw [hsz, zA]
      have gZ := Heap.get?_push_size h2 (o := { cls := .type "zip", data := .fields #[.none, .bool false, .bool false, .ref (hp.objs.size + ls.length), .ref (hp.objs.size + ls.length + 1)] }) rfl
      rw [zB] at gZ ⊢
      refine hgo _ its ⟨⟨_, _, gZ, .inl rfl⟩, Heap.get?_push_of_some _ gI, ⟨_, _, Heap.get?_push_of_some _ gO, by simp⟩, fun t a l e2 e3 => ?_⟩ rfl fun c o e => Heap.get?_push_of_some _ (up c o (hold c o e))
      have ht3 : t < ls.length := (List.getElem?_eq_some_iff.mp e3).1
      have ea : a = hp.objs.size + t := by
        rw [← hits, List.getElem?_map, List.getElem?_range ht3] at e2
        cases e2; rfl
      subst ea
      exact (hit t l ht3 e3).at fun o e => Heap.get?_push_of_some _ (up _ o e)
end
end DD
namespace DD
open PySem PySem.Spec PyProof.Rows L2
theorem typeCall_zip1 (a : Value) : checkTypeCall "zip" ⟨[a], []⟩ = pure () := by kernel_rfl
theorem typeCall_zip3 (a b c : Value) : checkTypeCall "zip" ⟨[a, b, c], []⟩ = pure () := by kernel_rfl
theorem typeCall_zip4 (a b c d : Value) : checkTypeCall "zip" ⟨[a, b, c, d], []⟩ = pure () := by kernel_rfl
theorem newCall_zip1 (a : Value) : checkBuiltinCall "zip.__new__" ⟨[.type "zip", a], []⟩ = pure () := by kernel_rfl
theorem newCall_zip3 (a b c : Value) : checkBuiltinCall "zip.__new__" ⟨[.type "zip", a, b, c], []⟩ = pure () := by kernel_rfl
theorem newCall_zip4 (a b c d : Value) : checkBuiltinCall "zip.__new__" ⟨[.type "zip", a, b, c, d], []⟩ = pure () := by kernel_rfl
theorem initOk4 (a b c d : Value) : argsOk "object.__init__" ⟨[a, b, c, d], []⟩ := by
  unfold argsOk
  rw [signature?_of (id := "object.__init__") (n := ['_', '_', 't', 'i', 'n', 'i', '_', '_']) (o := ['t', 'c', 'e', 'j', 'b', 'o']) (by kernel_rfl) F.owner_object]
  kernel_rfl
theorem initOk5 (a b c d e : Value) : argsOk "object.__init__" ⟨[a, b, c, d, e], []⟩ := by
  unfold argsOk
  rw [signature?_of (id := "object.__init__") (n := ['_', '_', 't', 'i', 'n', 'i', '_', '_']) (o := ['t', 'c', 'e', 'j', 'b', 'o']) (by kernel_rfl) F.owner_object]
  kernel_rfl
section
variable {prog : Program} {w : World} {A : Around} {E : Value → Shared → Prop} {s : Shared} {kd : Nat → Bool}
theorem call_zipN {ls : List Addr} {Q : Value → Shared → Prop} (h0 : ls ≠ []) (h4 : ls.length ≤ 4) (ht : ∀ (t : Nat) (l : Addr), ls[t]? = some l → ∃ items, SqOf (kd t) s.heap l items)
    (h : ∀ h' its, ZSt kd h' (s.heap.objs.size + ls.length + 2) (s.heap.objs.size + ls.length) (s.heap.objs.size + ls.length + 1) its ls 0 → its = (List.range ls.length).map (s.heap.objs.size + ·) → (∀ c o, s.heap.get? c = some o → h'.get? c = some o) → Q (.ref (s.heap.objs.size + ls.length + 2)) { s with heap := h' }) :
    wpAny (model prog w) A (call (.type "zip") (ls.map Value.ref)) Q E s := by
  have hct : checkTypeCall "zip" ⟨ls.map Value.ref, []⟩ = pure () := by
    match ls, h0, h4 with
    | [a], _, _ => exact typeCall_zip1 _
    | [a, b], _, _ => exact F.typeCall_zip_2 _ _
    | [a, b, c], _, _ => exact typeCall_zip3 _ _ _
    | [a, b, c, d], _, _ => exact typeCall_zip4 _ _ _ _
    | _ :: _ :: _ :: _ :: _ :: _, _, h => simp at h
  have hcn : checkBuiltinCall "zip.__new__" ⟨.type "zip" :: ls.map Value.ref, []⟩ = pure () := by
    match ls, h0, h4 with
    | [a], _, _ => exact newCall_zip1 _
    | [a, b], _, _ => exact F.newCall_zip_2 _ _
    | [a, b, c], _, _ => exact newCall_zip3 _ _ _
    | [a, b, c, d], _, _ => exact newCall_zip4 _ _ _ _
    | _ :: _ :: _ :: _ :: _ :: _, _, h => simp at h
  have hok : ∀ obj, argsOk "object.__init__" ⟨obj :: ls.map Value.ref, []⟩ := fun obj => by
    match ls, h0, h4 with
    | [a], _, _ => exact F.args_object_init_2 _ _
    | [a, b], _, _ => exact F.args_object_init_3 _ _ _
    | [a, b, c], _, _ => exact initOk4 _ _ _ _
    | [a, b, c, d], _, _ => exact initOk5 _ _ _ _ _
    | _ :: _ :: _ :: _ :: _ :: _, _, h => simp at h
  have h5 : ls.length ≤ 1000 := by omega
  refine callType_new F.called_zip (by decide) hct hcn hok F.entry_zip_new (meets_zipN (kd := kd) ls h5) ?_
  refine ⟨ht, fun h' its hz he hk => ?_⟩
  obtain ⟨f0, f1, hzo, _⟩ := hz.zo
  exact ⟨⟨_, hzo, rfl⟩, h h' its hz he hk⟩
end
/-- a list or a tuple, by its kind -/
def SqK (k : Bool) (K : PySem.W.Frag) (H : Hp) (a : Addr) (row : List V) : Prop := if k = true then SqL K H a row else SqT K H a row
theorem SqK.mono {k : Bool} {K : PySem.W.Frag} {H H' : Hp} {a : Addr} {row : List V} (e : SubM H H') (h : SqK k K H a row) : SqK k K H' a row := by
  cases k
  · exact sameT e h
  · exact e.seq h
theorem sqk_inv {X : Cx} {pins : List (Addr × Obj)} {σ : L2.St} {H : Hp} {s : Shared} (I : Inv X pins σ H s) {k : Bool} {a : Addr} {row : List V} (h : SqK k X.K H a row) : ∃ its : List Value, Vals row its ∧ SqOf k s.heap a its.toArray ∧ row.length ≤ sizeLine := by
  cases k
  · obtain ⟨its, r, p, z⟩ := I.tuple h
    exact ⟨its, r, p, z⟩
  · obtain ⟨its, r, p, z⟩ := I.list h
    exact ⟨its, r, p.isList, z⟩
theorem sqk_inj {X : Cx} {pins : List (Addr × Obj)} {σ : L2.St} {H : Hp} {s : Shared} (I : Inv X pins σ H s) {k : Bool} {a : Addr} {row row' : List V} (h : SqK k X.K H a row) (h' : SqK k X.K H a row') : row = row' := by
  cases k
  · exact I.tuple_inj h h'
  · exact I.list_inj h h'
/-- the sequences at as, turn by turn: new tuples of their items -/
def Itn (K : PySem.W.Frag) (kd : Nat → Bool) (as : List Addr) : It :=
  ⟨fun i H => ∀ (t : Nat) (a : Addr), as[t]? = some a → ∃ row x, SqK (kd t) K H a row ∧ row[i]? = some x,
    fun i H v H' => ∃ T xs, v = .ref T ∧ H T = none ∧ H' = upd H T (.tup xs) ∧ xs.length = as.length ∧ ∀ (t : Nat) (a : Addr) (row : List V), as[t]? = some a → SqK (kd t) K H a row → ∃ x, xs[t]? = some x ∧ row[i]? = some x,
    fun i H => ∃ t a row, as[t]? = some a ∧ SqK (kd t) K H a row ∧ row.length ≤ i ∧ ∀ (u : Nat) (b : Addr), u < t → as[u]? = some b → ∃ row x, SqK (kd u) K H b row ∧ row[i]? = some x⟩
theorem zip_go {prog : Program} {w : World} {A : Around} {E : Value → Shared → Prop} {s : Shared} {tg : Expr} {z TI TO T : Addr} {its as : List Addr} {i : Nat} {kd : Nat → Bool} {R : Unit → Shared → Prop} (D : ZAp z TI TO its as) (st : ZSt kd s.heap z TI TO its as i)
    (hR : ∀ h2, ZSt kd h2 z TI TO its as i → (∀ c o, c ≠ z → s.heap.get? c = some o → h2.get? c = some o) → R () { s with heap := h2 }) : wpAny (model prog w) A (letOwnedTupleGo tg (.ref z) (.ref T)) R E s := by
  have plain : wpAny (model prog w) A (pure ()) R E s := wpAny_pure (hR s.heap st fun _ _ _ e => e)
  obtain ⟨f0, f1, hz, hf0⟩ := id st.zo
  have hit : ∀ {R' : Unit → Shared → Prop}, (∀ s', R () s' → R' () s') → wpAny (model prog w) A (setField (.ref z) 0 .none) R' E s := fun {R'} hw => by
    refine wpAny_setField_rec hz (by simp) fun h2 hz2 hs2 => hw _ (hR h2 ?_ fun c o hc e => (hs2.2 c hc).trans e)
    obtain ⟨kp, k0, hTO, hks⟩ := st.to
    exact ⟨⟨.none, f1, hz2, .inl rfl⟩, (hs2.2 _ D.TIz).trans st.ti, ⟨kp, k0, (hs2.2 _ D.TOz).trans hTO, hks⟩, fun t a l e1 e2 => (st.it t a l e1 e2).at fun o e => (hs2.2 a (D.itz (List.mem_of_getElem? e1)).1).trans e⟩
  unfold letOwnedTupleGo
  split
  · refine wpAny_bind (wpAny_load hz ?_)
    simp only [ZObj]
    split
    · exact wpAny_bind (wpAny_rule (hit fun _ h => h))
    · exact plain
  · refine wpAny_bind (wpAny_load hz ?_)
    simp only [ZObj]
    split
    · exact wpAny_bind (wpAny_rule (hit fun _ h => h))
    · exact plain
  · exact plain
theorem turn_zipN {P : Program} {w : World} {K : PySem.W.Frag} {tg : Expr} {z TI TO : Addr} {its as : List Addr} {kd : Nat → Bool} (D : ZAp z TI TO its as) : Turn P w K tg (Itn K kd as) (z :: TI :: TO :: its) z (fun i h => ZSt kd h z TI TO its as i) where
  mem := by simp
  obj := fun i h st c hc => by
    obtain ⟨f0, f1, hz, _⟩ := st.zo
    obtain ⟨kp, k0, hTO, _⟩ := st.to
    simp only [List.mem_cons] at hc
    rcases hc with rfl | rfl | rfl | hc
    · exact ⟨_, hz, fun v q => nomatch q⟩
    · exact ⟨_, st.ti, fun v q => nomatch q⟩
    · exact ⟨_, hTO, fun v q => nomatch q⟩
    · obtain ⟨t, ht⟩ := List.getElem?_of_mem hc
      have hl : t < as.length := by rw [D.len]; exact (List.getElem?_eq_some_iff.mp ht).1
      obtain ⟨o, ho, _, hd⟩ := (st.it t c as[t] ht (List.getElem?_eq_getElem hl)).ex
      exact ⟨o, ho, fun v q => by rw [hd] at q; cases q⟩
  keep := fun i h h' st k => by
    obtain ⟨f0, f1, hz, hf⟩ := st.zo
    obtain ⟨kp, k0, hTO, hs⟩ := st.to
    exact ⟨⟨f0, f1, k z (by simp) _ hz, hf⟩, k TI (by simp) _ st.ti, ⟨kp, k0, k TO (by simp) _ hTO, hs⟩, fun t a l e1 e2 => (st.it t a l e1 e2).at fun o q => k a (by simp [List.mem_of_getElem? e1]) o q⟩
  item := by
    intro X hP hw hK hc i pins s σ H E I hf st hg
    subst hP hw hK
    have hg' : ∀ (t : Nat) (a : Addr), as[t]? = some a → ∃ row x, SqK (kd t) X.K H a row ∧ row[i]? = some x := hg
    -- the values, one a tuple
    have vals : ∀ (bs : List Addr) (off : Nat), (∀ (t : Nat) (a : Addr), bs[t]? = some a → ∃ row x, SqK (kd (off + t)) X.K H a row ∧ row[i]? = some x) → ∃ (xs : List V) (us : List Value), Vals xs us ∧ xs.length = bs.length ∧ ∀ (t : Nat) (a : Addr), bs[t]? = some a → ∃ x u row items, xs[t]? = some x ∧ us[t]? = some u ∧ SqK (kd (off + t)) X.K H a row ∧ row[i]? = some x ∧ SqOf (kd (off + t)) s.heap a items ∧ items[i]? = some u := by
      intro bs
      induction bs with
      | nil => intro _ _; exact ⟨[], [], .nil, rfl, fun t a e => by simp at e⟩
      | cons b bs ih =>
        intro off hb
        obtain ⟨xs, us, r, hl, q⟩ := ih (off + 1) fun t a e => by
          have := hb (t + 1) a (by simpa using e)
          rwa [show off + (t + 1) = off + 1 + t by omega] at this
        obtain ⟨row, x, sq, hx⟩ := hb 0 b rfl
        obtain ⟨its', rv, p, _⟩ := sqk_inv I sq
        obtain ⟨u, hu, ru⟩ := rv.get hx
        refine ⟨x :: xs, u :: us, .cons ru r, by simp [hl], fun t a e => ?_⟩
        cases t with
        | zero =>
          simp at e
          subst e
          exact ⟨x, u, row, _, rfl, rfl, sq, hx, p, by simpa using hu⟩
        | succ t =>
          have := q t a (by simpa using e)
          rw [show off + 1 + t = off + (t + 1) by omega] at this
          simpa using this
    obtain ⟨xs, us, rv, hlx, q⟩ := vals as 0 fun t a e => by rw [Nat.zero_add]; exact hg' t a e
    simp only [Nat.zero_add] at q
    obtain ⟨f0', f1', hz0, _⟩ := id st.zo
    have hzl : ∀ c ∈ z :: TI :: TO :: its, c < s.heap.objs.size := fun c hc => by
      obtain ⟨kp, k0, hTO, _⟩ := st.to
      simp only [List.mem_cons] at hc
      rcases hc with rfl | rfl | rfl | hc
      · exact Heap.lt_size hz0
      · exact Heap.lt_size st.ti
      · exact Heap.lt_size hTO
      · obtain ⟨t, ht⟩ := List.getElem?_of_mem hc
        have hl : t < as.length := by rw [D.len]; exact (List.getElem?_eq_some_iff.mp ht).1
        obtain ⟨o, ho, _, hd⟩ := (st.it t c as[t] ht (List.getElem?_eq_getElem hl)).ex
        exact Heap.lt_size ho
    have hus : us.length = its.length := by rw [← rv.length, hlx, D.len]
    have hux : ∀ (t : Nat) (l : Addr) (x : Value), as[t]? = some l → us[t]? = some x → ∃ items, SqOf (kd t) s.heap l items ∧ items[i]? = some x := fun t l x e1 e2 => by
      obtain ⟨x', u, row, items, _, e4, _, _, e5, e6⟩ := q t l e1
      rw [e2] at e4
      cases e4
      exact ⟨items, e5, e6⟩
    apply zipN_item D st hus hux
    intro h' st' hT hsz hk
    refine ⟨_, rfl, ?_⟩
    refine zip_go (s := { s with heap := h' }) D st' fun h2 st2 hk2 => ?_
    have hT2 : h2.get? s.heap.objs.size = some { cls := .type "tuple", data := .seq us.toArray } := hk2 _ _ (Nat.ne_of_gt (hzl z (by simp))) hT
    have few := D.few
    have line : (1000 : Nat) ≤ sizeLine := by decide
    have new : ObjOk X.prog X.w (upd H s.heap.objs.size (.tup xs)) h2 s.heap.objs.size (.tup xs) := ⟨by rw [hlx, D.len]; omega, us, rv, ⟨_, hT2, rfl, _, rfl⟩⟩
    have I1 : Inv X pins σ (upd H s.heap.objs.size (.tup xs)) { s with heap := h2 } :=
      I.turnedNew (t' := s.toks) (ch := z :: TI :: TO :: its) (fun c o hb e => hk2 c o (fun q => hb (by simp [q])) (hk c o (fun hm => hb (by
        simp only [List.mem_cons] at hm ⊢
        rcases hm with h | h | h
        · exact .inl h
        · exact .inr (.inr (.inl h))
        · exact .inr (.inr (.inr h)))) e)) hf (Nat.le_refl _) new
    have hy : (Itn X.K kd as).yld i H (.ref s.heap.objs.size) (upd H s.heap.objs.size (.tup xs)) := by
      refine ⟨s.heap.objs.size, xs, rfl, I.hok.fresh (Nat.le_refl _), rfl, hlx, fun t a row e1 e2 => ?_⟩
      obtain ⟨x', u, row', items, h1, _, h3, h4, _⟩ := q t a e1
      rw [sqk_inj I h3 e2] at h4
      exact ⟨x', h1, h4⟩
    have hfree : ∀ b ∈ z :: TI :: TO :: its, (upd H s.heap.objs.size (.tup xs)) b = none := fun c hcm => by
      rw [upd_ne (Nat.ne_of_lt (hzl c hcm))]
      exact (hf c hcm).1
    exact ⟨.ref s.heap.objs.size, upd H s.heap.objs.size (.tup xs), I1, rfl, hy, st2, hfree⟩
  done := by
    intro X hP hw hK hc i pins s σ H E I hf st hg
    subst hP hw hK
    obtain ⟨t, a, row, ha, sq, hlen, hpre⟩ := hg
    obtain ⟨its', rv, p, _⟩ := sqk_inv I sq
    have htl : t < its.length := by rw [← D.len]; exact (List.getElem?_eq_some_iff.mp ha).1
    refine zipN_end (I.ok.hd hc) D st (List.getElem?_eq_getElem htl) ha p (by rw [List.getElem?_toArray, ← List.getElem?_eq_none_iff.mpr (show its'.length ≤ i by rw [← rv.length]; exact hlen)]) (fun u l hu el => by
      obtain ⟨row', x, sq', hx'⟩ := hpre u l hu el
      obtain ⟨its2, rv2, p2, _⟩ := sqk_inv I sq'
      obtain ⟨v, hv, _⟩ := rv2.get hx'
      exact ⟨_, v, p2, by simpa using hv⟩) fun h' hk => ⟨rfl, I.turnedL (t' := s.toks) (ch := z :: TI :: TO :: its) (fun c o hb e => hk c o (fun hm => hb (by
        simp only [List.mem_cons] at hm ⊢
        rcases hm with h | h | h
        · exact .inl h
        · exact .inr (.inr (.inl h))
        · exact .inr (.inr (.inr h)))) e) hf⟩
  self := fun A i s Q E st h => let ⟨_, _, hz, _⟩ := st.zo; zip_self hz h
end DD
namespace DD
open PySem PySem.Spec PyProof.Rows L2
def iZipN (K : PySem.W.Frag) (ta : TA) : TI := fun σ H R => ta σ H fun vs H1 => ∃ (kd : Nat → Bool) (as : List Addr), vs = as.map V.ref ∧ as ≠ [] ∧ as.length ≤ 4 ∧ (∀ (t : Nat) (a : Addr), as[t]? = some a → ∃ row, SqK (kd t) K H1 a row) ∧ R (Itn K kd as) H1
theorem vals_refs : ∀ {as : List Addr} {us : List Value}, Vals (as.map V.ref) us → us = as.map Value.ref
  | [], _, .nil => rfl
  | a :: as, _, .cons r rs => by
    rw [vals_refs rs]
    cases r
    rfl
section
variable {X : Cx} {tg : Expr}
theorem zip_come {pins : List (Addr × Obj)} {s : Shared} {σ : L2.St} {H : Hp} {R : It → Hp → Prop} {as : List Addr} {kd : Nat → Bool} (I : Inv X pins σ H s) (h0 : as ≠ []) (h4 : as.length ≤ 4) (ht : ∀ (t : Nat) (a : Addr), as[t]? = some a → ∃ row, SqK (kd t) X.K H a row) (hR : R (Itn X.K kd as) H) :
    wpAny (model X.prog X.w) X.A (call (.type "zip") (as.map Value.ref)) (fun v s1 => wpAny (model X.prog X.w) X.A (pyIter v) (PIE X pins σ tg R) X.xe s1) X.xe s := by
  have htl : ∀ a : Nat, a ∈ as → a < s.heap.objs.size := fun a ha => by
    obtain ⟨t, hta⟩ := List.getElem?_of_mem ha
    obtain ⟨row, sq⟩ := ht t a hta
    obtain ⟨its, _, p, _⟩ := sqk_inv I sq
    generalize kd t = k at p
    cases k
    · obtain ⟨o, ho, _⟩ := (show s.heap.IsTuple a _ from p)
      exact Heap.lt_size ho
    · obtain ⟨o, ho, _⟩ := (show s.heap.IsList a _ from p)
      exact Heap.lt_size ho
  refine call_zipN (kd := kd) h0 h4 (fun t l hl => by obtain ⟨row, sq⟩ := ht t l hl; obtain ⟨its, _, p, _⟩ := sqk_inv I sq; exact ⟨_, p⟩) fun h' its hz he hk => ?_
  obtain ⟨f0, f1, hzo, _⟩ := id hz.zo
  refine zip_self hzo ?_
  have I2 : Inv X pins σ H { s with heap := h' } := I.kept (t' := s.toks) hk
  have hle : ∀ c : Nat, c ∈ (s.heap.objs.size + as.length + 2) :: (s.heap.objs.size + as.length) :: (s.heap.objs.size + as.length + 1) :: its → s.heap.objs.size ≤ c := fun c hc => by
    simp only [List.mem_cons] at hc
    rcases hc with rfl | rfl | rfl | hc
    · omega
    · omega
    · omega
    · rw [he] at hc
      obtain ⟨t, _, rfl⟩ := List.mem_map.mp hc
      omega
  have D : ZAp (s.heap.objs.size + as.length + 2) (s.heap.objs.size + as.length) (s.heap.objs.size + as.length + 1) its as := by
    have hi : ∀ c : Nat, c ∈ its → c < s.heap.objs.size + as.length := fun c hc => by
      rw [he] at hc
      obtain ⟨t, ht, rfl⟩ := List.mem_map.mp hc
      have := List.mem_range.mp ht
      omega
    refine ⟨?_, by rw [he]; simp, by rw [he]; simp; omega, ?_, fun l hl hm => ?_⟩
    · rw [he]
      intro e
      have : as.length = 0 := by simpa using congrArg List.length e
      exact h0 (List.eq_nil_of_length_eq_zero this)
    · refine List.nodup_cons.mpr ⟨fun hm => ?_, List.nodup_cons.mpr ⟨fun hm => ?_, List.nodup_cons.mpr ⟨fun hm => ?_, ?_⟩⟩⟩
      · simp only [List.mem_cons] at hm
        rcases hm with e | e | e
        · exact absurd (show (_ : Nat) = _ from e) (by omega)
        · exact absurd (show (_ : Nat) = _ from e) (by omega)
        · have := hi _ e; omega
      · simp only [List.mem_cons] at hm
        rcases hm with e | e
        · exact absurd (show (_ : Nat) = _ from e) (by omega)
        · have := hi _ e; omega
      · have := hi _ hm; omega
      · rw [he]
        exact (List.pairwise_map.mpr (List.nodup_range.imp (fun {a b} h e => h (Nat.add_left_cancel e))))
    · have := hle l hm
      have := htl l hl
      omega
  exact ⟨_, _, _, _, H, rfl, I2, turn_zipN D, hz, fun b hb => I.fpOk (hle b hb) (I.hok.fresh (hle b hb)), hR⟩
theorem callWith_typeS {M : Model} {A : Around} {E : Value → Shared → Prop} {s : Shared} {env : Env} {pos p : Pos} {T : String} {e : Expr} {Q : Value → Shared → Prop}
    (h : wpAny M A (eval e env) (fun v s₁ => PySem.W.StarOf M A E v (fun vs s₂ => wpAny M A (call (.type T) vs) Q E s₂) s₁) E s)
    (he : starEach [.Starred e p] env = [(true, eval e env)] := by rfl) :
    wpAny M A (callWith pos (.type T) [] (backTo pos (starEach [.Starred e p] env)) []) Q E s := by
  rw [he]
  refine PySem.W.ks_call (P := fun _ => True) rfl (fun h _ => ⟨.machine, .inr (.inl rfl), PySem.W.Looks.now⟩) (PySem.W.ks_lone (wpAny_mono h (fun v s1 h1 => ?_) fun _ _ x => x))
  unfold PySem.W.StarOf at h1 ⊢
  exact wpAny_mono h1 (fun b s2 h2 => ⟨h2.1, wpAny_mono h2.2 (fun vs s3 h3 => ⟨trivial, h3⟩) fun _ _ x => x⟩) fun _ _ x => x
/-- zip(*e) -/
def iZipS (K : PySem.W.Frag) (te : TE) : TI := fun σ H R => te σ H fun x H1 => ∃ (kd : Nat → Bool) (p : Addr) (as : List Addr), x = V.ref p ∧ (SqT K H1 p (as.map V.ref) ∨ SqL K H1 p (as.map V.ref)) ∧ as ≠ [] ∧ as.length ≤ 4 ∧ (∀ (t : Nat) (a : Addr), as[t]? = some a → ∃ row, SqK (kd t) K H1 a row) ∧ R (Itn K kd as) H1
theorem pi_zipS {e : Expr} {te : TE} {p sp pos : Pos} (hg : Gl X "zip") (hm : X.mg "zip" = none) (he : PE X e te) (hs : starEach [.Starred e sp] X.env = [(true, eval e X.env)] := by rfl) :
    PI X tg (.Call (.Name "zip" p) [.Starred e sp] [] pos) (iZipS X.K te) := by
  refine ⟨fun pins s σ H R I h => ?_⟩
  refine Call_ (ld_blt I hg hm PyProof.Rows.boot_zip (callWith_typeS (thn (he.run pins s σ H _ I h) fun v s1 ⟨x, H1, I1, r1, q1⟩ => ?_) hs))
  obtain ⟨kd, a, as, ex, hx, h0, h4, ht, q⟩ := q1
  subst ex
  obtain rfl : v = Value.ref a := r1
  refine StX.star_any I1 hx fun us s2 I2 rv => ?_
  rw [vals_refs rv]
  exact zip_come I2 h0 h4 ht q
theorem pi_zipN {e : Expr} {es : List Expr} {ta : TA} {p pos : Pos} (hg : Gl X "zip") (hm : X.mg "zip" = none) (ha : PA X (e :: es) ta)
    (hs : starEach (e :: es) X.env = (false, eval e X.env) :: starEach es X.env := by rfl) (hpl : (backTo pos (starEach es X.env)).any (·.1) = false := by rfl) :
    PI X tg (.Call (.Name "zip" p) (e :: es) [] pos) (iZipN X.K ta) := by
  refine ⟨fun pins s σ H R I h => ?_⟩
  refine Call_ (ld_blt I hg hm PyProof.Rows.boot_zip (PyProof.Rows.callWith_type1 (thn (ha.run pos pins s σ H _ I h) fun us s1 ⟨vs, H1, I1, r1, q1⟩ => ?_) hs hpl))
  obtain ⟨kd, as, ex, h0, h4, ht, q⟩ := q1
  subst ex
  rw [vals_refs r1]
  exact zip_come I1 h0 h4 ht q
end
/-- the rows of a table: tuples or lists -/
def rowsD : List D → Option (List (List D))
  | [] => some []
  | .tuple r :: ds => (rowsD ds).map (r :: ·)
  | .list r :: ds => (rowsD ds).map (r :: ·)
  | _ :: _ => none
def kindsD : List D → List Bool
  | [] => []
  | .list _ :: ds => true :: kindsD ds
  | _ :: ds => false :: kindsD ds
/-- the least length -/
def leastL : Nat → List (List D) → Nat
  | n, [] => n
  | n, r :: rs => leastL (min n r.length) rs
theorem leastL_le : ∀ (n : Nat) (rs : List (List D)), leastL n rs ≤ n
  | n, [] => Nat.le_refl _
  | n, r :: rs => Nat.le_trans (leastL_le _ rs) (Nat.min_le_left ..)
theorem leastL_mem : ∀ (n : Nat) (rs : List (List D)) (r : List D), r ∈ rs → leastL n rs ≤ r.length
  | n, r' :: rs, r, h => by
    rcases List.mem_cons.mp h with rfl | h
    · exact Nat.le_trans (leastL_le _ rs) (Nat.min_le_right ..)
    · exact leastL_mem _ rs r h
theorem leastL_eq : ∀ (n : Nat) (rs : List (List D)), (∀ r ∈ rs, n ≤ r.length) → leastL n rs = n
  | n, [], _ => rfl
  | n, r :: rs, h => by
    unfold leastL
    rw [Nat.min_eq_left (h r List.mem_cons_self)]
    exact leastL_eq n rs fun x hx => h x (List.mem_cons_of_mem _ hx)
/-- the first that is that short -/
theorem leastL_at : ∀ (r : List D) (rs : List (List D)), ∃ (t : Nat) (x : List D), (r :: rs)[t]? = some x ∧ x.length = leastL r.length rs ∧ ∀ (u : Nat) (y : List D), u < t → (r :: rs)[u]? = some y → leastL r.length rs < y.length := by
  intro r rs
  have ex : ∃ (t : Nat) (x : List D), (r :: rs)[t]? = some x ∧ x.length = leastL r.length rs := by
    have gen : ∀ (n : Nat) (rs : List (List D)), leastL n rs = n ∨ ∃ x ∈ rs, x.length = leastL n rs := by
      intro n rs
      induction rs generalizing n with
      | nil => exact .inl rfl
      | cons a rs ih =>
        unfold leastL
        rcases ih (min n a.length) with h | ⟨x, hx, e⟩
        · rcases Nat.le_total n a.length with h2 | h2
          · left; rw [h, Nat.min_eq_left h2]
          · right; exact ⟨a, List.mem_cons_self, by rw [h, Nat.min_eq_right h2]⟩
        · exact .inr ⟨x, List.mem_cons_of_mem _ hx, e⟩
    rcases gen r.length rs with h | ⟨x, hx, e⟩
    · exact ⟨0, r, rfl, h.symm⟩
    · obtain ⟨t, ht⟩ := List.getElem?_of_mem hx
      exact ⟨t + 1, x, by simpa using ht, e⟩
  obtain ⟨t, x, h1, h2⟩ := ex
  induction t using Nat.strongRecOn generalizing x with
  | ind t ih =>
    by_cases hc : ∃ (u : Nat) (y : List D), u < t ∧ (r :: rs)[u]? = some y ∧ y.length = leastL r.length rs
    · obtain ⟨u, y, hu, e1, e2⟩ := hc
      exact ih u hu y e1 e2
    · refine ⟨t, x, h1, h2, fun u y hu e => ?_⟩
      have hle : leastL r.length rs ≤ y.length := by
        cases u with
        | zero => simp at e; subst e; exact leastL_le _ _
        | succ u => exact leastL_mem _ _ _ (List.mem_of_getElem? (by simpa using e))
      rcases Nat.lt_or_eq_of_le hle with h | h
      · exact h
      · exact absurd ⟨u, y, hu, e, h.symm⟩ hc
def zipD (ds : List D) : Option (List D) :=
  match rowsD ds with
  | some (r :: rs) => if rs.length ≤ 3 then some ((List.range (leastL r.length rs)).map fun i => .tuple ((r :: rs).map fun x => x.getD i .none)) else none
  | _ => none
theorem zipD_old {ds : List D} {r : List D} {rs : List (List D)} (h : rowsD ds = some (r :: rs)) (h3 : rs.length ≤ 3) (hl : ∀ x ∈ rs, r.length ≤ x.length) : zipD ds = some ((List.range r.length).map fun i => .tuple ((r :: rs).map fun x => x.getD i .none)) := by
  unfold zipD
  rw [h]
  simp only
  rw [if_pos h3, leastL_eq _ _ hl]
theorem rows_da {K : PySem.W.Frag} {G : Hp} : ∀ {ds : List D} {rs : List (List D)} {xs : List V}, DaAll K G xs ds → rowsD ds = some rs → ∃ as : List Addr, xs = as.map V.ref ∧ as.length = rs.length ∧ ∀ (t : Nat) (a : Addr), as[t]? = some a → ∃ row r, SqK ((kindsD ds).getD t false) K G a row ∧ rs[t]? = some r ∧ DaAll K G row r
  | [], rs, _, .nil, e => by cases e; exact ⟨[], rfl, rfl, fun t a h => by simp at h⟩
  | .tuple r :: ds, rs, _, .cons h hs, e => by
    unfold rowsD at e
    obtain ⟨rs', e', rfl⟩ := Option.map_eq_some_iff.mp e
    obtain ⟨as, ex, el, q⟩ := rows_da hs e'
    obtain ⟨a, xs, rfl, sq, da⟩ := h.toT
    refine ⟨a :: as, by rw [ex]; rfl, by simp [el], fun t b hb => ?_⟩
    cases t with
    | zero => simp at hb; subst hb; exact ⟨xs, r, sq, rfl, da⟩
    | succ t => exact q t b (by simpa using hb)
  | .list r :: ds, rs, _, .cons h hs, e => by
    unfold rowsD at e
    obtain ⟨rs', e', rfl⟩ := Option.map_eq_some_iff.mp e
    obtain ⟨as, ex, el, q⟩ := rows_da hs e'
    cases h with
    | lst hl da =>
      rename_i a xs
      refine ⟨a :: as, by rw [ex]; rfl, by simp [el], fun t b hb => ?_⟩
      cases t with
      | zero => simp at hb; subst hb; exact ⟨xs, r, SqL.of hl, rfl, da⟩
      | succ t => exact q t b (by simpa using hb)
  | .none :: _, _, _, .cons _ _, e => by cases e
  | .bool _ :: _, _, _, .cons _ _, e => by cases e
  | .int _ :: _, _, _, .cons _ _, e => by cases e
  | .str _ :: _, _, _, .cons _ _, e => by cases e
  | .dict _ :: _, _, _, .cons _ _, e => by cases e
theorem zipD_w {K : PySem.W.Frag} {G : Hp} {ds out : List D} {xs : List V} (da : DaAll K G xs ds) (e : zipD ds = some out) : ∃ (kd : Nat → Bool) (as : List Addr), xs = as.map V.ref ∧ as ≠ [] ∧ as.length ≤ 4 ∧ (∀ (t : Nat) (a : Addr), as[t]? = some a → ∃ row, SqK (kd t) K G a row) ∧ WalkD K G (Itn K kd as) out := by
  unfold zipD at e
  split at e
  · rename_i r rs er
    split at e
    · rename_i h3
      cases e
      obtain ⟨as, rfl, el, q⟩ := rows_da da er
      have hlen : ∀ (t : Nat) (x : List D), (r :: rs)[t]? = some x → leastL r.length rs ≤ x.length := fun t x hx => by
        cases t with
        | zero => simp at hx; subst hx; exact leastL_le _ _
        | succ t => exact leastL_mem _ _ x (List.mem_of_getElem? (by simpa using hx))
      refine ⟨fun t => (kindsD ds).getD t false, as, rfl, fun e => by subst e; simp at el, by simp at el; omega, fun t a ht => ?_, ?_, ?_, ?_⟩
      · obtain ⟨row, _, sq, _⟩ := q t a ht
        exact ⟨row, sq⟩
      · intro i H hi sm t a ht
        obtain ⟨row, x, sq, hx, dr⟩ := q t a ht
        have h1 := hlen t x hx
        have h2 := dr.length
        have h3 : i < row.length := by simp at hi; omega
        exact ⟨row, row[i], sq.mono sm, by simp [h3]⟩
      · intro H sm
        obtain ⟨t, x, hx, hxl, hpre⟩ := leastL_at r rs
        have ht : t < as.length := by rw [el]; exact (List.getElem?_eq_some_iff.mp hx).1
        obtain ⟨row, x', sq, hx', dr⟩ := q t as[t] (List.getElem?_eq_getElem ht)
        rw [hx] at hx'
        cases hx'
        refine ⟨t, as[t], row, List.getElem?_eq_getElem ht, sq.mono sm, by rw [dr.length, hxl]; simp, fun u b hu hb => ?_⟩
        obtain ⟨row', y, sq', hy, dr'⟩ := q u b hb
        have h1 := hpre u y hu hy
        have h2 := dr'.length
        have h3 : leastL r.length rs < row'.length := by omega
        exact ⟨row', row'[leastL r.length rs], sq'.mono sm, by simp [h3]⟩
      · intro i H G1 x H' hi sm s1 y
        obtain ⟨T, ys, rfl, hT, rfl, hyl, hy⟩ := y
        have hi' : i < leastL r.length rs := by simpa using hi
        refine ⟨.tuple ((r :: rs).map fun x => x.getD i .none), upd G1 T (.tup ys), by simp [hi'], Gr.alloc s1 hT, ?_⟩
        have gr := Gr.alloc (u := .tup ys) s1 hT
        refine .tup (.inl (.inl upd_same)) ?_
        have all : ∀ (bs : List Addr) (zs : List V) (rr : List (List D)), zs.length = bs.length → bs.length = rr.length → (∀ (t : Nat) (a : Addr), bs[t]? = some a → ∃ x row r', zs[t]? = some x ∧ row[i]? = some x ∧ rr[t]? = some r' ∧ DaAll K G row r') → DaAll K (upd G1 T (.tup ys)) zs (rr.map fun x => x.getD i .none) := by
          intro bs
          induction bs with
          | nil =>
            intro zs rr e1 e2 _
            obtain rfl := List.eq_nil_of_length_eq_zero (by simpa using e1)
            obtain rfl := List.eq_nil_of_length_eq_zero (by simpa using e2.symm)
            exact .nil
          | cons b bs ih =>
            intro zs rr e1 e2 hq
            cases zs with
            | nil => simp at e1
            | cons z zs =>
              cases rr with
              | nil => simp at e2
              | cons r1 rr =>
                refine .cons ?_ (ih zs rr (by simpa using e1) (by simpa using e2) fun t a ha => by
                  have := hq (t + 1) a (by simpa using ha)
                  simpa using this)
                obtain ⟨x, row, r', z1, z2, z3, z4⟩ := hq 0 b rfl
                simp at z1 z3
                subst z1 z3
                obtain ⟨d, z5, z6⟩ := z4.getV z2
                have : r1.getD i .none = d := by simp [List.getD, z5]
                show Da K _ z (r1.getD i .none)
                rw [this]
                exact z6.mono (sm.trans gr.g)
        refine all as ys (r :: rs) (by omega) el fun t a ha => ?_
        obtain ⟨row, x, sq, hx, dr⟩ := q t a ha
        obtain ⟨z, z1, z2⟩ := hy t a row ha (sq.mono (sm.subm s1))
        exact ⟨z, row, x, z1, z2, hx, dr⟩
    · cases e
  · cases e
section
variable {m : Type → Type} [Mo m] {X : Cx} {EX : XR} {g : List Sl} {tg : Expr}
theorem ij_zipS {e : Expr} {p sp pos : Pos} {x : m D} (hm : X.mg "zip" = none) (h : EJ X EX e g x) (hg : Gl X "zip" := by rfl) (hs : starEach [.Starred e sp] X.env = [(true, eval e X.env)] := by rfl) :
    IJ X EX tg (.Call (.Name "zip" p) [.Starred e sp] [] pos) g (x >>= fun d => Mo.lift ((itemsD d).bind zipD)) :=
  (pi_zipS hg hm h hs).weak fun σ H R ⟨B, G, n, φ, ξ, o, s, q, xw⟩ => te_one o s (fun v H1 G1 d n1 o1 g1 d1 s1 => by
    obtain ⟨out, ed, pd⟩ := Mo.sat_lift s1
    obtain ⟨ds, e1, e2⟩ := Option.bind_eq_some_iff.mp ed
    obtain ⟨a, xs, ev, sq, da⟩ := d1.seq e1
    obtain ⟨kd, as, rfl, h0, h4, ht, wk⟩ := zipD_w da e2
    refine ⟨kd, a, as, ev, ?_, h0, h4, fun t b hb => by obtain ⟨row, z⟩ := ht t b hb; exact ⟨row, z.mono o1.fm.sub⟩, q _ H1 G1 out n1 o1 g1 wk pd⟩
    rcases sq with sq | sq
    · exact .inl (sameT o1.fm.sub sq)
    · exact .inr (o1.fm.sub.seq sq)) xw
/-- zip(a, b), tuples -/
theorem ij_zip2 {a b : Expr} {p pos : Pos} {x y : m D} (hm : X.mg "zip" = none) (h : EJ X EX a g x) (h2 : EJ X EX b g y) (hg : Gl X "zip" := by rfl)
    (hs' : starEach [a, b] X.env = (false, eval a X.env) :: starEach [b] X.env := by rfl) (hs2' : starEach [b] X.env = (false, eval b X.env) :: starEach [] X.env := by rfl) (hpl : (backTo pos (starEach [b] X.env)).any (·.1) = false := by rfl) :
    IJ X EX tg (.Call (.Name "zip" p) [a, b] [] pos) g (x >>= fun d => y >>= fun e => Mo.lift (zipD [d, e])) :=
  (pi_zipN hg hm (pa_cons h (pa_cons h2 pa_nil hs2') hs') hs' hpl).weak fun σ H R ⟨B, G, n, φ, ξ, o, s, q, xw⟩ => te_one o s (fun v H1 G1 d n1 o1 g1 d1 s1 => te_one o1 s1 (fun w H2 G2 e n2 o2 g2 d2 s2 => by
    obtain ⟨out, ed, pd⟩ := Mo.sat_lift s2
    obtain ⟨kd, as, ex, h0, h4, ht, wk⟩ := zipD_w (.cons (d1.mono g2) (.cons d2 .nil)) ed
    exact ⟨kd, as, ex, h0, h4, fun t b hb => by obtain ⟨row, z⟩ := ht t b hb; exact ⟨row, z.mono o2.fm.sub⟩, q _ H2 G2 out n2 o2 (g1.trans g2) wk pd⟩) xw) xw
end
end DD
namespace DD
open PySem PySem.Spec PyProof.Rows L2
/-! ### the law's call, where no repr runs around it -/
abbrev SysAt (h : Heap) : Prop := ∃ o es ep, h.get? sysModules = some o ∧ o.data = .dict es ep
def scrO (vs : List Value) : Obj := { cls := .type "list", data := .seq vs.toArray }
def scrH (K : PySem.W.Frag) (a : Addr) (vs : List Value) (ns : List Int) : Hp := fun b => if b = a ∧ K.lookup a = none then some (.frz (scrO vs) (.lst (ns.map V.int))) else none
theorem scr_at {K : PySem.W.Frag} {a b : Addr} {vs : List Value} {ns : List Int} {u : HO} (h : scrH K a vs ns b = some u) : b = a ∧ K.lookup a = none ∧ u = .frz (scrO vs) (.lst (ns.map V.int)) := by
  unfold scrH at h
  split at h
  · rename_i e
    cases h
    exact ⟨e.1, e.2, rfl⟩
  · cases h
theorem scr_seq {K : PySem.W.Frag} {h : Heap} {a : Addr} {vs : List Value} {ns : List Int} (KX : K.In h) (ha : h.get? a = some (scrO vs)) (hi : IntsAre vs ns) (hl : ns.length ≤ sizeLine) : SqL K (scrH K a vs ns) a (ns.map V.int) := by
  cases hk : K.lookup a with
  | none => exact .inl (.inr ⟨scrO vs, by unfold scrH; rw [if_pos ⟨rfl, hk⟩]⟩)
  | some o =>
    have e := (KX a o hk).symm.trans ha
    cases e
    exact .inr ⟨_, vs.toArray, _, hk, rfl, rfl, rfl, by rw [List.size_toArray, hi.length]; exact hl, by simpa using vals_ints hi⟩
theorem call_lawG {P : Program} {w : World} {K : PySem.W.Frag} {mg mb : Str → Option Value} {k : Nat} {fa a : Addr} {fd : FuncData} {x : Str} {sp : Sp} {s : Shared} {vs : List Value} {ns : List Int}
    (KX : K.In s.heap) (hns : s.heap.Ns mainGlobals mg) (hb : s.heap.Ns builtinsNs mb) (hbb : ∀ y : Str, y ≠ "__name__" → mb y = bootBuiltins y) (hlim : s.heap.NoLimit) (hy : SysAt s.heap) (hg : s.gens = #[])
    (ha : s.heap.get? a = some (scrO vs)) (hi : IntsAre vs ns) (hl : ns.length ≤ sizeLine) (hr : Room k callerA)
    (F : ∀ base : Heap, K.In base → base.Ns mainGlobals mg → SysAt base → FnG P w K mg base k fa fd [x] sp) (hbind : ∀ (s : Shared) (u : Value), BindsTo s fd ⟨[u], []⟩ [(x, u)])
    (hsp : ∀ H : Hp, SqL K H a (ns.map V.int) → sp [.ref a] H (fun v _ => v = .bl true) E0) :
    codeAny (model P w) callerA (.call (.ref fa) ⟨[.ref a], []⟩) (fun r s' => r = .ok (.ret (.bool true)) ∧ OldK s.heap s'.heap ∧ s'.os = s.os ∧ AllBare s'.gens) s := by
  have hok : HOk P w (scrH K a vs ns) s.heap := fun b u z => by
    obtain ⟨rfl, _, rfl⟩ := scr_at z
    exact ⟨ha, by rw [List.length_map]; exact hl, vs, _, vals_ints hi, ha⟩
  have noA : ∀ {b : Addr} {o : Obj} {es : Array DictEntry} {ep : Nat}, s.heap.get? b = some o → o.data = .dict es ep → scrH K a vs ns b = none := fun {b o es ep} e d => by
    cases q : scrH K a vs ns b with
    | none => rfl
    | some u =>
      obtain ⟨rfl, _, _⟩ := scr_at q
      rw [ha] at e
      cases e
      exact absurd (show Data.seq vs.toArray _ = Data.dict es ep from d) (by simp)
  have nsK : ∀ {b : Addr} {m : Str → Option Value}, s.heap.Ns b m → (hidT s.heap (scrH K a vs ns)).Ns b m := fun ⟨o, es, ep, e, d, r⟩ => ⟨o, es, ep, hidT_get e (noA e d), d, r⟩
  have hKb : K.In (hidT s.heap (scrH K a vs ns)) := fun b o e => hidT_get (KX b o e) (by
    cases q : scrH K a vs ns b with
    | none => rfl
    | some u =>
      obtain ⟨rfl, hn, _⟩ := scr_at q
      rw [hn] at e
      cases e)
  have hyb : SysAt (hidT s.heap (scrH K a vs ns)) := let ⟨o, es, ep, e, d⟩ := hy; ⟨o, es, ep, hidT_get e (noA e d), d⟩
  have hM : Mod K mg (hidT s.heap (scrH K a vs ns)) := ⟨hKb, nsK hns, ⟨mb, nsK hb, hbb⟩, let ⟨mc, h1, h2⟩ := hlim; ⟨mc, nsK h1, h2⟩⟩
  have nil : ∀ b : Addr, ¬ b ∈ frs ([] : List Env) := fun b h => by simp [frs] at h
  have e0 : Env0 P w K mg (hidT s.heap (scrH K a vs ns)) callerA [] s (scrH K a vs ns) := ⟨rfl, hM, fun b o e => of_hidT e, Nat.le_of_eq (hidT_size _ _), trivial, fun b h => absurd h (nil b), hok, .of_eq hg⟩
  refine codeAny_mono ((F _ hKb (nsK hns) hyb).run callerA [] s _ ⟨[.ref a], []⟩ [.ref a] [.ref a] _ _ hr rfl e0 (hbind s (.ref a)) (.cons rfl .nil) (hsp _ (scr_seq KX ha hi hl))) fun r s' h => ?_
  match r, h with
  | .error _, h => exact False.elim h
  | .ok (.ret u), ⟨v, H', os, bare, un, hok', r', q⟩ =>
    have q' : v = .bl true := q
    subst q'
    obtain rfl : u = Value.bool true := r'
    refine ⟨rfl, OldK.of_keep fun b o e => ?_, os, bare⟩
    cases q : scrH K a vs ns b with
    | none => exact un.keep b o e q (nil b) (by simp)
    | some z =>
      obtain ⟨rfl, _, rfl⟩ := scr_at q
      rw [ha] at e
      cases e
      exact (hok' _ _ (un.frzs _ _ _ q)).1
theorem walk_g {l : PySem.W.OpenLaw} {n k : Nat} {q : Program} {loose : List Str} {XP : (Str → Option Value) → Heap → Prop} {YP : World → Heap → Prop} {d : DefRec} {K : Params → PySem.W.Frag} {sp : World → Sp} {x : Str}
    (hn : l.most = some n) (hn2 : n ≤ sizeLine) (hdf : d.params.defaults = []) (hr : Room k callerA) (himp : importsNone q = true) (hY : ∀ (w : World) (h : Heap), YP w h → (K w.params).In h)
    (F : ∀ (w : World) (mg : Str → Option Value) (fa : Addr) (h : Heap), (K w.params).In h → h.Ns mainGlobals mg → mg d.name = some (.ref fa) →
      ∃ fd : FuncData, (∀ (s : Shared) (u : Value), BindsTo s fd ⟨[u], []⟩ [(x, u)]) ∧ ∀ base : Heap, (K w.params).In base → base.Ns mainGlobals mg → SysAt base → FnG l.prog w (K w.params) mg base k fa fd [x] (sp w))
    (hsp : ∀ (w : World) (H : Hp) (a : Addr) (ns : List Int), ns.length ≤ n → SqL (K w.params) H a (ns.map V.int) → sp w [.ref a] H (fun v _ => v = .bl true) E0) :
    PySem.W.WalkO q loose XP YP l.row.toRowW d [] (fun f vs => PySem.call f vs) := by
  refine Att.attach_call hn hdf fun w s0 s1 mg mb fa o pm cd doc a vs ns G Y ho hd hcd hmg hobj hints hlen hg => ?_
  obtain ⟨fd, hb, hF⟩ := F w mg fa _ (hY w _ Y) G.T.g hmg
  have hy : SysAt s1.heap := let ⟨_, ⟨o, es, ep, e, d, _⟩, _⟩ := (G.T.seer himp).mods; ⟨o, es, ep, e, d⟩
  exact call_lawG (hY w _ Y) G.T.g G.T.b G.T.builtins G.T.nolimit hy hg hobj hints (Nat.le_trans hlen hn2) hr hF hb fun H hS => hsp w H a ns hlen hS
end DD
namespace DD
open PySem PySem.Spec PyProof.Rows L2
/-! ### the deck: made, drawn from -/
def drawW (as : List Sl) : W D := fun n φ => ∃ many : Int, as = [.deck, .val (.int many)] ∧ 0 < many ∧ many < 1073741824 ∧ n < 2 ^ 40 ∧ ∀ r : Int, 0 ≤ r → r < many → φ (.int r) (n + 1)
def spDraw : Sp := fun vs H Q _ => ∃ (a b : Addr) (n : Nat) (many : Int), vs = [.ref a, .int many] ∧ DeckAt H a b n ∧ 0 < many ∧ many < 1073741824 ∧ n < 2 ^ 40 ∧
  ∀ (r : Int) (H' : Hp), 0 ≤ r → r < many → DeckAt H' a b (n + 1) → (∀ c o, c ≠ a → c ≠ b → H c = some o → H' c = some o) → Q (.int r) H'
def spDeck (K : PySem.W.Frag) : Sp := fun vs H Q _ => ∃ (a : Addr) (ns : List Int), vs = [.ref a] ∧ SqL K H a (ns.map V.int) ∧
  ∀ (x y : Addr) (H' : Hp), Same H H' → DeckAt H' x y 0 → Q (.ref x) H'
def spLaw (K : PySem.W.Frag) : Sp := fun vs H Q _ => ∃ (a : Addr) (ns : List Int), vs = [.ref a] ∧ SqL K H a (ns.map V.int) ∧ ∀ H', Q (.bl true) H'
theorem FnG.weak {P : Program} {w : World} {K : PySem.W.Frag} {mg : Str → Option Value} {base : Heap} {k : Nat} {f : Addr} {fd : FuncData} {ps : List Str} {sp sp' : Sp} (F : FnG P w K mg base k f fd ps sp) (h : ∀ vs H Q E, sp' vs H Q E → sp vs H Q E) : FnG P w K mg base k f fd ps sp' :=
  ⟨fun vs H Q E q => F.len vs H Q E (h _ _ _ _ q), fun A outer s H args us vs Q E r gu e b v q => F.run A outer s H args us vs Q E r gu e b v (h _ _ _ _ q)⟩
theorem drawn {P : Program} {w : World} {K : PySem.W.Frag} {mg : Str → Option Value} {base : Heap} {k : Nat} {f : Addr} {fd : FuncData} {ps : List Str} (F : FnG P w K mg base k f fd ps spDraw) : FnG P w K mg base k f fd ps (spJ K drawW) :=
  F.weak fun vs H Q E ⟨G, n, dk, as, φ, a, fm, st, q⟩ => by
    obtain ⟨nn, ob⟩ := n
    obtain ⟨hn0, many, rfl, h0, h1, h2, hr⟩ := (show ob = [] ∧ drawW as nn (fun a n' => φ a ⟨n', []⟩) from st)
    subst hn0
    cases a with
    | cons x1 r =>
      cases r with
      | cons x2 r =>
        cases r
        obtain ⟨a, b, hd, rfl⟩ := x1
        have hd' : dk = some (a, b) := hd
        subst hd'
        cases (show Da K G _ (.int many) from x2)
        obtain ⟨dkA, n1, n2, g1, g2⟩ := fm.deck a b rfl
        refine ⟨a, b, nn, many, rfl, dkA, h0, h1, h2, fun r H' r0 r1 dk' hk => ?_⟩
        have ne : ∀ {c : Addr} {o : HO}, G c = some o → c ≠ a ∧ c ≠ b := fun {c o} e => ⟨fun z => absurd ((z ▸ e).symm.trans (show G a = none from g1)) (by simp), fun z => absurd ((z ▸ e).symm.trans (show G b = none from g2)) (by simp)⟩
        have hobs : Obs K H' G ⟨nn + 1, []⟩ := ⟨fun c u k e m => by
            obtain ⟨x, y1, y2⟩ := fm.obs.at_ c u k e m
            exact ⟨x, y1, y2.mono (Same.refl _) fun o z => hk c o (ne e).1 (ne e).2 z⟩, fm.obs.inj, fun k x e => by
            obtain ⟨c, y⟩ := fm.obs.all k x e
            obtain ⟨u, e2, _⟩ := y.mark
            exact ⟨c, y.mono (Same.refl _) fun o z => hk c o (ne e2).1 (ne e2).2 z⟩⟩
        refine q (.int r) H' G (.int r) ⟨nn + 1, []⟩ ⟨fun c o e nf => ?_, ⟨fun c o e m => ?_, fun c e => ?_⟩, fm.old, hobs, fm.bt, fm.tg, fun c e z => fm.new c e z, fun a' b' e => ?_⟩ (.int r) (hr r r0 r1)
        · exact hk c o (fun z => nf (.inl ⟨a, b, rfl, .inl z⟩)) (fun z => nf (.inl ⟨a, b, rfl, .inr z⟩)) e
        · exact hk c o (ne e).1 (ne e).2 (fm.sub.h c o e m)
        · cases eg : G c with
          | none => rfl
          | some u =>
            have := fm.there eg
            cases eh : H c with
            | none => exact absurd eh this
            | some o => rw [hk c o (ne eg).1 (ne eg).2 eh] at e; cases e
        · cases e
          exact ⟨dk', n1, n2, g1, g2⟩
/-- the law: its first statement makes the deck, the rest runs by a mirror -/
theorem law_j {P : Program} {w : World} {K : PySem.W.Frag} {mg : Str → Option Value} {base : Heap} {k : Nat} {x qual y z : Str} {st : Stmt} {f fk : Addr} {fd fkd : FuncData} {N : List Str} {px pn pc ps : Pos} {rest : List Stmt} {dx : Str} {pks : List Str} {m : Type → Type} [Mo m] {M : m D} (Fu : Fun K x qual st f fd) (S : FnScope N [y] (defScope st)) (Fk : FnG P w K mg base k fk fkd pks (spDeck K)) (bk : Binds K fkd pks []) (mk : mg dx = some (.ref fk))
    (hbody : defBody st = .Assign [.Name z px] (.Call (.Name dx pn) [.Name y pc] [] ps) pos :: rest) (hN0 : N[0]? = some y) (hN1 : N[1]? = some z)
    (hset : ∀ (cdv : Value) (A : Around) (outer : List Env) (s : Shared) (H : Hp) (E : XK), Room k (A.deeper (envOfC qual (defScope st) s.heap.objs.size f cdv)) → A.guards = some [] →
      PS (cxOf CX0 P w K mg base N qual (defScope st) f cdv A outer s H E).nox (.Assign [.Name z px] (.Call (.Name dx pn) [.Name y pc] [] ps) pos) (tAsg (fun σ H Q => tCons (tVar 0) tNil σ H fun vs H1 => spDeck K vs H1 Q E0) (gName 1)))
    (hrest : ∀ (cdv : Value) (A : Around) (outer : List Env) (s : Shared) (H : Hp) (E : XK), Room k (A.deeper (envOfC qual (defScope st) s.heap.objs.size f cdv)) → A.guards = some [] →
      FJ (cxOf CX0 P w K mg base N qual (defScope st) f cdv A outer s H E).nox X0 true rest (.any :: .deck :: List.replicate (N.length - 2) .any) M)
    (hM : Mo.sat M 0 (fun d _ => d = .bool true) (fun _ _ => False)) : FnG P w K mg base (k + 1) f fd [y] (spLaw K) := by
  refine fng_of Fu S (fun vs H Q E ⟨a, ns, e, _⟩ => by rw [e]; rfl) fun cdv A outer s H vs Q E hr gu ⟨a, ns, e, hS, hQ⟩ => ?_
  subst e
  rw [hbody]
  refine ⟨_, pss_cons (hset cdv A outer s H E hr gu) (hrest cdv A outer s H E hr gu), ?_⟩
  refine ⟨.ref a, ?_, a, ns, rfl, hS, fun x1 y1 H' sm dk => ?_⟩
  · unfold L2.start
    cases N with
    | nil => cases hN0
    | cons _ _ => rfl
  · have hx : H' x1 ≠ none ∧ H' y1 ≠ none := by
      obtain ⟨cs, c, h1, h2, _⟩ := dk
      exact ⟨by rw [h1]; simp, by rw [h2]; simp⟩
    refine ⟨⟨H', fun _ => none, some (x1, y1), fun _ => none⟩, fun _ => none, 0, _, _, ⟨⟨fun c o e _ => e, ⟨fun c o e => (nomatch e), fun _ _ => rfl⟩, fun c o e => (nomatch e), ⟨fun _ _ _ e => (nomatch e), fun _ _ _ _ _ e => (nomatch e), fun _ _ e => (nomatch e)⟩, fun _ _ => rfl, (fun c o e => nomatch e), fun c _ _ => rfl, fun a' b' e => ?_⟩, ?_, fun i d e => ?_, ⟨fun _ => 0, fun i j ds es e => ?_, fun i ds e => ?_⟩, fun i e => ?_, fun i _ _ _ e2 => ?_⟩, hM, fun v H2 G2 d n2 _ dv p => ?_, fun _ σ2 H2 G2 n2 _ p => ?_, fun _ _ _ _ _ _ _ z => z.elim⟩
    · cases e
      exact ⟨dk, hx.1, hx.2, rfl, rfl⟩
    · match N, hN1 with
      | n0 :: n1 :: N', _ => simp [L2.start]
    · match i with
      | 0 => cases e
      | 1 => cases e
      | i + 2 =>
        simp only [List.getElem?_cons_succ] at e
        rw [List.getElem?_replicate] at e
        split at e <;> cases e
    · match i with
      | 0 => cases e
      | 1 => cases e
      | i + 2 =>
        simp only [List.getElem?_cons_succ] at e
        rw [List.getElem?_replicate] at e
        split at e <;> cases e
    · match i with
      | 0 => cases e
      | 1 => cases e
      | i + 2 =>
        simp only [List.getElem?_cons_succ] at e
        rw [List.getElem?_replicate] at e
        split at e <;> cases e
    · match i with
      | 0 => cases e
      | 1 =>
        refine ⟨x1, y1, rfl, ?_⟩
        match N, hN1 with
        | n0 :: n1 :: N', _ => simp [L2.start]
      | i + 2 =>
        simp only [List.getElem?_cons_succ] at e
        rw [List.getElem?_replicate] at e
        split at e <;> cases e
    · match i with
      | 0 => cases e2
      | 1 => cases e2
      | i + 2 =>
        simp only [List.getElem?_cons_succ] at e2
        rw [List.getElem?_replicate] at e2
        split at e2 <;> cases e2
    · subst p
      cases dv
      exact hQ H2
    · cases p
end DD
namespace DD
open PySem PySem.Spec PyProof.Rows L2
/-! ### the deck's own code: what it means -/
def rAbs : List V → Hp → VK → Prop := fun xs H Q => ∃ i, xs = [.int i] ∧ Q (.int (if i < 0 then -i else i)) H
def deckT (K : PySem.W.Frag) (c : Int) : TS := tRet (tLst (tCons (tLc (iList K (tSl (rSlL K) (tVar 0) tNoPart (tPart (tC (.int c))))) (gName 1) tYes (tCB rAbs (tCons (tVar 1) tNil)) [1]) (tCons (tC (.int 0)) tNil)))
theorem cut_map (ns : List Int) (lo hi : Option Int) : ∃ ms : List Int, cutV (ns.map V.int) lo hi = ms.map V.int := by
  refine ⟨(ns.drop (HT.sIx (ns.map V.int).length 0 lo)).take (HT.sIx (ns.map V.int).length (ns.map V.int).length hi - HT.sIx (ns.map V.int).length 0 lo), ?_⟩
  unfold cutV
  rw [List.map_take, List.map_drop]
theorem cut63 (xs : List V) {c : Int} (h0 : 0 ≤ c) (h1 : c ≤ 63) : (cutV xs none (some c)).length ≤ 63 := by
  unfold cutV
  rw [List.length_take, List.length_drop]
  have : HT.sIx xs.length xs.length (some c) ≤ 63 := by
    unfold HT.sIx
    simp only
    rw [if_neg (by omega)]
    omega
  omega
theorem same_new {H : Hp} {p : Addr} (h : H p = none) (o : HO) : Same H (upd H p o) := same_upd h
theorem line63 {n : Nat} (h : n ≤ 1000) : n ≤ sizeLine := Nat.le_trans h (by decide)
theorem deck_ok {K : PySem.W.Frag} {c : Int} (h0 : 0 ≤ c) (h1 : c ≤ 63) {De : Ends} {σ : L2.St} {H : Hp} {a : Addr} {ns : List Int} (hl : 1 < σ.length) (hσ : σ[0]? = some (some (.ref a))) (hS : SqL K H a (ns.map V.int))
    (q : ∀ (x y : Addr) (H' : Hp), Same H H' → DeckAt H' x y 0 → De.rt (.ref x) H') : deckT K c De σ H := by
  obtain ⟨ms, hms⟩ := cut_map ns none (some c)
  have hm63 : ms.length ≤ 63 := by
    have := cut63 (ns.map V.int) h0 h1
    rw [hms, List.length_map] at this
    exact this
  refine ⟨.ref a, hσ, c, rfl, a, _, rfl, hS, fun p hp => ⟨p, rfl, ⟨_, SqL.of upd_same⟩, fun A hA => ?_⟩⟩
  rw [hms] at hA ⊢
  have hpA : p ≠ A := fun e => by rw [← e, upd_same] at hA; cases hA
  refine ⟨fun i m H2 => ∃ acc : List Int, acc.length = i ∧ m + i = ms.length ∧ (∀ x ∈ acc, 0 ≤ x) ∧ H2 A = some (.lst (acc.map V.int)) ∧ H2 p = some (.lst (ms.map V.int)) ∧ Same H H2, ⟨ms.length, [], rfl, rfl, by simp, upd_same, by rw [upd_ne hpA, upd_same], (same_new hp _).trans (same_new hA _)⟩, ?_⟩
  rintro i m H2 ⟨acc, e1, e2, e3, e4, e5, e6⟩
  have Hlt : Same H H2 := e6
  by_cases hi : i = ms.length
  · refine .inl ⟨⟨_, SqL.of e5, by rw [List.length_map]; omega⟩, (by show 2 ≤ sizeLine; decide), fun z hz => q z A _ (e6.trans (same_new hz _)) ?_⟩
    have hzA : A ≠ z := fun e => by rw [← e, e4] at hz; cases hz
    exact ⟨acc, 0, upd_same, by rw [upd_ne hzA]; exact e4, hzA.symm, by omega, by omega, e3, by omega⟩
  · have hi' : i < ms.length := by omega
    refine .inr ⟨⟨_, .int ms[i], SqL.of e5, by rw [List.getElem?_map, List.getElem?_eq_getElem hi']; rfl⟩, fun H' => ∃ acc : List Int, acc.length = i + 1 ∧ (m - 1) + (i + 1) = ms.length ∧ (∀ x ∈ acc, 0 ≤ x) ∧ H' A = some (.lst (acc.map V.int)) ∧ H' p = some (.lst (ms.map V.int)) ∧ Same H H', fun H' h => ⟨m - 1, by omega, h⟩, ?_⟩
    rintro x H' ⟨rfl, hy⟩
    have hx := hy _ (SqL.of e5)
    rw [List.getElem?_map, List.getElem?_eq_getElem hi'] at hx
    cases hx
    refine ⟨by simp [wipe], ?_⟩
    refine ⟨.int ms[i], by simp [wipe, hl], ms[i], rfl, acc.map V.int, e4, ?_, acc ++ [if ms[i] < 0 then -ms[i] else ms[i]], by simp [e1], by omega, fun y hy => ?_, ?_, ?_, ?_⟩
    · rw [List.length_map]
      exact Nat.lt_of_lt_of_le (show acc.length < 1000 by omega) (line63 (Nat.le_refl _))
    · rcases List.mem_append.mp hy with hy | hy
      · exact e3 y hy
      · rw [List.mem_singleton.mp hy]
        split <;> omega
    · rw [upd_same, List.map_append]
      rfl
    · rw [upd_ne hpA]
      exact e5
    · intro b o hb
      by_cases hbA : b = A
      · subst hbA
        have h9 : upd H p (HO.lst (ms.map V.int)) b = some o := by rw [upd_ne (fun e => hpA e.symm)]; exact hb
        rw [h9] at hA
        cases hA
      · rw [upd_ne hbA]
        exact e6 b o hb
/-- a comprehension's scope, checked -/
def blkB (N : List Str) (sc scope : Scope) (own : List (Str × Nat)) : Bool :=
  decide (scope.kind = .function) && scope.names.all (fun y => decide (scope.names.lookup y.1 = some y.2)) && own.all (fun p => decide (N[p.2]? = some p.1)) &&
  scope.names.all (fun y => !decide (y.2 = .free) || (decide (sc.names.lookup y.1 = some .cell) || decide (sc.names.lookup y.1 = some .free))) &&
  scope.names.all (fun y => !(decide (y.2 = .local) || decide (y.2 = .cell)) || (decide (y.1 ∈ own.map (·.1)) || !decide (y.1 ∈ N)))
theorem blk_of {N : List Str} {sc scope : Scope} {own : List (Str × Nat)} (h : blkB N sc scope own = true) : BlkOk N sc scope own := by
  unfold blkB at h
  simp only [Bool.and_eq_true, List.all_eq_true, Bool.or_eq_true, Bool.not_eq_true', decide_eq_true_eq, decide_eq_false_iff_not, Bool.or_eq_false_iff] at h
  obtain ⟨⟨⟨⟨h1, h2⟩, h3⟩, h4⟩, h5⟩ := h
  refine ⟨h1, h2, h3, fun y hy e => ?_, fun y hy e => ?_⟩
  · rcases h4 y hy with z | z
    · exact absurd e z
    · exact z
  · rcases h5 y hy with z | z
    · rcases e with e | e
      · exact absurd e z.1
      · exact absurd e z.2
    · exact z
theorem atI_at {α : Type} {xs : List α} {i : Int} {j : Nat} {x : α} (h : i = (j : Int)) (e : xs[j]? = some x) : atI xs i = some x := by
  subst h
  exact atI_nat e
theorem ixN_at {n : Nat} {i : Int} {j : Nat} (h : i = (j : Int)) (e : j < n) : ixN n i = some j := by
  subst h
  unfold ixN
  rw [if_pos (by omega), if_pos (by omega)]
  simp
abbrev rPlus : R2 := rI0 fun i j => .int (i + j)
abbrev rTimes : R2 := rI CMul fun i j => .int (i * j)
abbrev rOver : R2 := rI CDiv fun i j => .int (i / j)
abbrev rMod : R2 := rI (fun _ j => 0 < j) fun i j => .int (i % j)
abbrev rPow : R2 := rI CPow fun i j => .int (i ^ j.toNat)
abbrev rLenQ (K : PySem.W.Frag) : List V → Hp → VK → Prop := fun xs H Q => ∃ p ys, xs = [.ref p] ∧ (SqL K H p ys ∨ SqT K H p ys) ∧ Q (.int ys.length) H
abbrev dIx (K : PySem.W.Frag) (i : Int) : TE := tOp (rIxL K) (tVar 0) (tC (.int i))
/-- the last statements of a draw: a long cell is cut, a short one is mixed (t: the mixing) -/
def drawTail (K : PySem.W.Frag) (t : TE) : TS :=
  tSeq (tIfS (tTest (tOp (rI0 fun i j => .bl (decide (j ≤ i))) (tVar 2) (tOp rPow (tC (.int 10)) (tC (.int 18)))))
    (tSeq (tAsg (tOp rOver (tVar 2) (tVar 1)) (gSub (dIx K 0) (tVar 3) rSetL)) (tRet (tOp rMod (tVar 2) (tVar 1)))) tNext) (tRet t)
def drawMid (K : PySem.W.Frag) : TS := tIfS (tTest (tOp (rI0 fun i j => .bl (decide (j < i))) (tCB (rLenQ K) (tCons (dIx K 0) tNil)) (tC (.int 0))))
  (tSeq (tAsg (tOp rMod (dIx K 1) (tCB (rLenQ K) (tCons (dIx K 0) tNil))) (gName 3)) (tAsg (tOp (rIxL K) (dIx K 0) (tVar 3)) (gName 2))) tNext
def drawInc (K : PySem.W.Frag) : TS := tAsg (tOp rPlus (dIx K 1) (tC (.int 1))) (gSub (tVar 0) (tC (.int 1)) rSetL)
/-- what the mixing must do -/
def Mixes (K : PySem.W.Frag) (t : TE) : Prop := ∀ (a b : Addr) (many cell ix c : Int) (H : Hp) (Q : VK), H a = some (.lst [.ref b, .int c]) → 0 < many → many < 1073741824 → 0 ≤ cell → 0 ≤ c → c < 2 ^ 41 → (∀ r : Int, 0 ≤ r → r < many → Q (.int r) H) → t [some (.ref a), some (.int many), some (.int cell), some (.int ix)] H Q
section
variable {K : PySem.W.Frag} {De : Ends} {H : Hp} {a b : Addr} {n : Nat} {many : Int} {cells : List Int} {c : Int}
theorem tail_ok {t : TE} (hm : Mixes K t) {cell ix : Int} (h1 : H a = some (.lst [.ref b, .int c])) (h2 : H b = some (.lst (cells.map V.int))) (hab : a ≠ b) (c0 : 0 ≤ c) (c1 : c ≤ (n : Int)) (cn : c < 2 ^ 41) (hc : ∀ x ∈ cells, 0 ≤ x) (h63 : cells.length ≤ 63) (m0 : 0 < many) (m1 : many < 1073741824)
    (p0 : 0 ≤ cell) (p1 : (10 : Int) ^ (18 : Int).toNat ≤ cell → ∃ j : Nat, ix = (j : Int) ∧ j < cells.length)
    (q : ∀ (r : Int) (H' : Hp), 0 ≤ r → r < many → DeckAt H' a b n → (∀ z o, z ≠ a → z ≠ b → H z = some o → H' z = some o) → De.rt (.int r) H') : drawTail K t De [some (.ref a), some (.int many), some (.int cell), some (.int ix)] H := by
  have hba : b ≠ a := fun e => hab e.symm
  refine ⟨.int cell, rfl, 10, 18, rfl, rfl, ⟨by decide, by decide, by decide⟩, cell, _, rfl, rfl, _, rfl, ?_⟩
  refine ite2 (fun hge => ?_) (fun _ => ?_)
  · obtain ⟨j, rfl, hj⟩ := p1 (of_decide_eq_true hge)
    refine ⟨.int cell, rfl, .int many, rfl, cell, many, rfl, rfl, ⟨m0, m1⟩, .ref a, rfl, a, _, 0, .ref b, rfl, rfl, SqL.of h1, rfl, .int (j : Int), rfl, b, cells.map V.int, j, j, rfl, rfl, h2, ixN_at rfl (by rw [List.length_map]; exact hj), ?_⟩
    refine ⟨.int cell, rfl, .int many, rfl, cell, many, rfl, rfl, m0, ?_⟩
    refine q _ _ (Int.emod_nonneg _ (by omega)) (Int.emod_lt_of_pos _ m0) ⟨cells.set j (cell / many), c, by rw [upd_ne hab]; exact h1, ?_, hab, c0, c1, fun x hx => ?_, by rw [List.length_set]; exact h63⟩ fun z o _ zb e => by rw [upd_ne zb]; exact e
    · rw [upd_same, List.map_set]
    · rcases List.mem_or_eq_of_mem_set hx with hx | rfl
      · exact hc x hx
      · exact Int.ediv_nonneg p0 (by omega)
  · exact hm a b many cell ix c H _ h1 m0 m1 p0 c0 cn fun r r0 r1 => q r H r0 r1 ⟨cells, c, h1, h2, hab, c0, c1, hc, h63⟩ fun _ _ _ _ e => e
theorem mid_ok {u : TS} (h1 : H a = some (.lst [.ref b, .int c])) (h2 : H b = some (.lst (cells.map V.int))) (c0 : 0 ≤ c) (hc : ∀ x ∈ cells, 0 ≤ x)
    (q : ∀ cell ix : Int, 0 ≤ cell → ((10 : Int) ^ (18 : Int).toNat ≤ cell → ∃ j : Nat, ix = (j : Int) ∧ j < cells.length) → u De [some (.ref a), some (.int many), some (.int cell), some (.int ix)] H) :
    tSeq (drawMid K) u De [some (.ref a), some (.int many), some (.int 0), some (.int (-1))] H := by
  refine ⟨.ref a, rfl, a, _, 0, .ref b, rfl, rfl, SqL.of h1, rfl, b, _, rfl, .inl (SqL.of h2), ((cells.map V.int).length : Int), 0, rfl, rfl, _, rfl, ?_⟩
  refine ite2 (fun hgt => ?_) (fun _ => q 0 (-1) (by omega) fun h => absurd h (by decide))
  have hl : 0 < cells.length := by
    have := of_decide_eq_true hgt
    rw [List.length_map] at this
    omega
  have e0 : 0 ≤ c % ((cells.map V.int).length : Int) := Int.emod_nonneg _ (by rw [List.length_map]; omega)
  have e1 : c % ((cells.map V.int).length : Int) < cells.length := by
    have := Int.emod_lt_of_pos c (show 0 < ((cells.map V.int).length : Int) by rw [List.length_map]; omega)
    rw [List.length_map] at this ⊢
    exact this
  obtain ⟨j, hj⟩ : ∃ j : Nat, c % ((cells.map V.int).length : Int) = (j : Int) := ⟨_, (Int.toNat_of_nonneg e0).symm⟩
  have hj' : j < cells.length := by omega
  refine ⟨.ref a, rfl, a, _, 1, .int c, rfl, rfl, SqL.of h1, rfl, .ref a, rfl, a, _, 0, .ref b, rfl, rfl, SqL.of h1, rfl, b, _, rfl, .inl (SqL.of h2), c, ((cells.map V.int).length : Int), rfl, rfl, by rw [List.length_map]; omega, ?_⟩
  refine ⟨.ref a, rfl, a, _, 0, .ref b, rfl, rfl, SqL.of h1, rfl, .int (c % ((cells.map V.int).length : Int)), rfl, b, cells.map V.int, c % ((cells.map V.int).length : Int), .int cells[j], rfl, rfl, SqL.of h2, atI_at hj (by rw [List.getElem?_map, List.getElem?_eq_getElem hj']; rfl), ?_⟩
  exact q cells[j] (c % ((cells.map V.int).length : Int)) (hc _ (List.getElem_mem hj')) fun _ => ⟨j, hj, hj'⟩
theorem inc_ok {u : TS} {x y : Option V} (dk : DeckAt H a b n) (q : ∀ (cells : List Int) (c : Int) (H' : Hp), H' a = some (.lst [.ref b, .int c]) → H' b = some (.lst (cells.map V.int)) → a ≠ b → 0 ≤ c → c ≤ ((n + 1 : Nat) : Int) → (∀ x ∈ cells, 0 ≤ x) → cells.length ≤ 63 → (∀ z o, z ≠ a → z ≠ b → H z = some o → H' z = some o) → u De [some (.ref a), some (.int many), x, y] H') :
    tSeq (drawInc K) u De [some (.ref a), some (.int many), x, y] H := by
  obtain ⟨cells, c, h1, h2, hab, c0, c1, hc, h63⟩ := dk
  refine ⟨.ref a, rfl, a, _, 1, .int c, rfl, rfl, SqL.of h1, rfl, c, 1, rfl, rfl, .ref a, rfl, a, [.ref b, .int c], 1, 1, rfl, rfl, h1, rfl, ?_⟩
  have hba : b ≠ a := fun e => hab e.symm
  exact q cells (c + 1) _ upd_same (by rw [upd_ne hba]; exact h2) hab (by omega) (by omega) hc h63 fun z o e1 _ e => by rw [upd_ne e1]; exact e
end
end DD
namespace DD
open PySem PySem.Spec PyProof.Rows L2
/-! ### mirrors' words -/
section
variable {m : Type → Type} [Mo m]
abbrev op2 (f : D → D → Option D) (x y : m D) : m D := x >>= fun dx => y >>= fun dy => Mo.lift (f dx dy)
abbrev op1 (f : D → Option D) (x : m D) : m D := x >>= fun d => Mo.lift (f d)
abbrev cmp2 (f : D → D → Option D) (x y : m D) : m Bool := x >>= fun dx => y >>= fun dy => Mo.lift ((f dx dy).bind boolD)
abbrev chain3 (f f' : D → D → Option D) (x y z : m D) : m D := x >>= fun dx => y >>= fun dy => Mo.lift ((f dx dy).bind boolD) >>= fun k => if k = true then (z >>= fun dz => Mo.lift (f' dy dz)) else pure (.bool false)
abbrev tst (x : m D) : m Bool := x >>= fun d => Mo.lift (boolD d)
abbrev notB (x : m Bool) : m Bool := x >>= fun b => pure (!b)
abbrev andB (x y : m Bool) : m Bool := x >>= fun k => if k = true then y else pure false
abbrev orB (x y : m Bool) : m Bool := x >>= fun k => if k = true then pure true else y
abbrev andD (x y : m D) : m D := x >>= fun d => Mo.lift (boolD d) >>= fun k => if k = true then y else pure (.bool false)
abbrev orD (x y : m D) : m D := x >>= fun d => Mo.lift (boolD d) >>= fun k => if k = true then pure (.bool true) else y
abbrev iteM {α : Type} (t : m Bool) (x y : m α) : m α := t >>= fun k => if k = true then x else y
abbrev consM (x : m D) (y : m (List D)) : m (List D) := x >>= fun d => y >>= fun ds => pure (d :: ds)
abbrev starM (x : m D) (y : m (List D)) : m (List D) := x >>= fun d => Mo.lift (itemsD d) >>= fun as => y >>= fun ds => pure (as ++ ds)
abbrev smallM (x : m (List D)) : m (List D) := x >>= fun ds => Mo.lift (small ds)
abbrev tupM (x : m (List D)) : m D := x >>= fun ds => pure (.tuple ds)
abbrev tupSM (x : m (List D)) : m D := x >>= fun ds => Mo.lift (small ds) >>= fun ds => pure (.tuple ds)
abbrev lstM (x : m (List D)) : m D := x >>= fun ds => pure (.list ds)
abbrev argV (x : m D) (y : m (List Sl)) : m (List Sl) := x >>= fun d => y >>= fun as => pure (.val d :: as)
abbrev argK (y : m (List Sl)) : m (List Sl) := y >>= fun as => pure (.deck :: as)
abbrev comp1 (x : m (List D)) (f : D → m D) : m (List D) := x >>= fun ds => Mo.lift (small ds) >>= fun ds => lcA (fun d => someM (f d)) ds []
abbrev comp1i (x : m (List D)) (t : D → m Bool) (f : D → m D) : m (List D) := x >>= fun ds => Mo.lift (small ds) >>= fun ds => lcA (fun d => ifM (t d) (f d)) ds []
abbrev comp2 (x : m (List D)) (f : D → D → m D) : m (List D) := x >>= fun ds => Mo.lift (small ds) >>= fun ds => lcA (fun d => pairM d fun a b => someM (f a b)) ds []
abbrev comp2i (x : m (List D)) (t : D → D → m Bool) (f : D → D → m D) : m (List D) := x >>= fun ds => Mo.lift (small ds) >>= fun ds => lcA (fun d => pairM d fun a b => ifM (t a b) (f a b)) ds []
abbrev seqM (x : m D) : m (List D) := x >>= fun d => Mo.lift (itemsD d)
abbrev rng1 (x : m D) : m (List D) := x >>= fun d => Mo.lift (rangeD1 d)
abbrev rng2 (x y : m D) : m (List D) := x >>= fun d => y >>= fun e => Mo.lift (rangeD2 d e)
abbrev zipSM (x : m D) : m (List D) := x >>= fun d => Mo.lift ((itemsD d).bind zipD)
abbrev zip2M (x y : m D) : m (List D) := x >>= fun d => y >>= fun e => Mo.lift (zipD [d, e])
abbrev zip3M (x y z : m D) : m (List D) := x >>= fun d => y >>= fun e => z >>= fun f => Mo.lift (zipD [d, e, f])
abbrev partM (x : m D) : m (Option Int) := x >>= fun d => Mo.lift (oint d)
abbrev slcM (x : m D) (y z : m (Option Int)) : m D := x >>= fun d => y >>= fun l => z >>= fun h => Mo.lift (sliceD d l h)
abbrev isiM (T : String) (x : m D) : m D := x >>= fun d => pure (.bool (isiB T d))
abbrev rtM {A : Type} (x : m D) : m (Fl A) := x >>= fun d => pure (.rt d)
abbrev forM1 {A : Type} (x : m (List D)) (a0 : A) (b : D → A → m (Fl A)) : m (Fl A) := x >>= fun ds => loopM b ds a0
abbrev forM2 {A : Type} (x : m (List D)) (a0 : A) (b : D → D → A → m (Fl A)) : m (Fl A) := x >>= fun ds => loopM (fun d a => pairM d fun u w => b u w a) ds a0
abbrev parM {α β : Type} (x : m α) (y : m β) : m (α × β) := x >>= fun d => y >>= fun e => pure (d, e)
def pairD : D → Option (D × D)
  | .tuple [a, b] => some (a, b)
  | _ => none
def tripD : D → Option (D × D × D)
  | .tuple [a, b, c] => some (a, b, c)
  | _ => none
abbrev unp2 (x : m D) : m (D × D) := x >>= fun d => Mo.lift (pairD d)
abbrev unp3 (x : m D) : m (D × D × D) := x >>= fun d => Mo.lift (tripD d)
end
abbrev upW (o : Option D) : W D := Up.up (m' := Option) (m := W) o
/-! ### defs by their names -/
structure Def (P : Program) (w : World) (K : PySem.W.Frag) (mg : Str → Option Value) (base : Heap) (k : Nat) (x : Str) (ps : List Str) (sp : Sp) : Prop where
  ex : ∃ f fd, FnG P w K mg base k f fd ps sp ∧ mg x = some (.ref f) ∧ PySem.W.keepIn K (.ref f) = true ∧ Binds K fd ps []
section
variable {m : Type → Type} [Mo m] {A : Type} {X : Cx} {EX : XR} {g : List Sl} {k : Nat} {ps : List Str}
theorem ej_callD {x : Str} {p pos : Pos} {e : Expr} {es : List Expr} {F : List Sl → m D} {y : m (List Sl)} [Calm m] (Fn : Def X.prog X.w X.K X.mg X.base k x ps (spJ X.K F)) (hr : Room k X.A) (gu : X.A.guards = some [])
    (ha : AJ X EX (e :: es) g y) (hg : Gl X x := by rfl) (hd : (x == ("__debug__" : Str)) = false := by decide) (he : starEach (e :: es) X.env = (false, eval e X.env) :: starEach es X.env := by rfl) (hpl : (backTo pos (starEach es X.env)).any (·.1) = false := by rfl) :
    EJ X EX (.Call (.Name x p) (e :: es) [] pos) g (y >>= F) := by
  obtain ⟨f, fd, h1, h2, h3, h4⟩ := Fn.ex
  exact ej_call h1 hr gu h2 h3 h4 ha hg hd he hpl
theorem ej_callDU {m' : Type → Type} [Mo m'] [Calm m'] [Up m' m] {x : Str} {p pos : Pos} {e : Expr} {es : List Expr} {F : List Sl → m' D} {y : m (List Sl)} (Fn : Def X.prog X.w X.K X.mg X.base k x ps (spJ X.K F)) (hr : Room k X.A) (gu : X.A.guards = some [])
    (ha : AJ X EX (e :: es) g y) (hg : Gl X x := by rfl) (hd : (x == ("__debug__" : Str)) = false := by decide) (he : starEach (e :: es) X.env = (false, eval e X.env) :: starEach es X.env := by rfl) (hpl : (backTo pos (starEach es X.env)).any (·.1) = false := by rfl) :
    EJ X EX (.Call (.Name x p) (e :: es) [] pos) g (y >>= fun as => Up.up (m' := m') (F as)) := by
  obtain ⟨f, fd, h1, h2, h3, h4⟩ := Fn.ex
  exact ej_callU h1 hr gu h2 h3 h4 ha hg hd he hpl
theorem units_of {A : Around} {k : Nat} (h : Room k A) : A.units + 64 < cLine := by
  have := h.un
  omega
/-- a, b = e -/
theorem sj_unp2 (i j : Nat) {tg e : Expr} {pos : Pos} {x : m D} (h : EJ X EX e g x) (hg : PG X tg (gTup X.K 2 (gCons (gName i) (gCons (gName j) gNil)))) (hs : swapsWithSole [tg] e pos.line X.env = pure false := by kernel_rfl) (hw : swappedStores [tg] e X.env = pure none := by kernel_rfl)
    (h1 : (assignEach [tg] X.env).map (·.2) = [assign tg X.env] := by rfl) : SJ X EX (.Assign [tg] e pos) g (unp2 x) (fun de => (g.set i (.val de.1)).set j (.val de.2)) :=
  (ps_asg h hg hs hw h1).weak fun De σ H ⟨B, G, n, φ, ξ, o, s, q, xw⟩ => te_one o s (fun v H1 G1 d n1 o1 g1 d1 s1 => by
    obtain ⟨de, ed, pd⟩ := Mo.sat_lift s1
    unfold pairD at ed
    split at ed
    · cases ed
      cases d1 with
      | tup h da =>
        cases da with
        | cons e1 r =>
          cases r with
          | cons e2 r =>
            cases r
            exact ⟨_, _, rfl, sameT o1.fm.sub h, rfl, _, _, rfl, _, _, rfl, rfl, q _ _ _ G1 n1 ((o1.setV e1).setV e2) g1 pd⟩
    · cases ed) xw
end
section
variable {m : Type → Type} [Mo m] {P : Program} {w : World} {K : PySem.W.Frag} {mg : Str → Option Value} {base : Heap} {k : Nat} {x qual : Str} {st : Stmt} {f : Addr} {fd : FuncData} {N ps : List Str}
def ar1 (F : D → m D) : List Sl → m D
  | [.val a0] => F a0
  | _ => Mo.lift none
theorem fn_ar1 {F : D → m D} (Fu : Fun K x qual st f fd) (S : FnScope N ps (defScope st)) (hl : ps.length = 1)
    (hb : ∀ (a0 : D), ∀ (cdv : Value) (A : Around) (outer : List Env) (s : Shared) (H : Hp) (E : XK), Room k (A.deeper (envOfC qual (defScope st) s.heap.objs.size f cdv)) → A.guards = some [] →
      FJ (cxOf CX0 P w K mg base N qual (defScope st) f cdv A outer s H E).nox X0 true (defBody st) ([Sl.val a0] ++ List.replicate (N.length - 1) .any) (F a0)) : FnG P w K mg base (k + 1) f fd ps (spJ K (ar1 F)) := by
  refine fn_j Fu S fun as n φ s => ?_
  unfold ar1 at s
  split at s
  · exact ⟨hl.symm, hb _⟩
  · obtain ⟨_, e, _⟩ := Mo.sat_lift s
    cases e
def ar2 (F : D → D → m D) : List Sl → m D
  | [.val a0, .val a1] => F a0 a1
  | _ => Mo.lift none
theorem fn_ar2 {F : D → D → m D} (Fu : Fun K x qual st f fd) (S : FnScope N ps (defScope st)) (hl : ps.length = 2)
    (hb : ∀ (a0 : D) (a1 : D), ∀ (cdv : Value) (A : Around) (outer : List Env) (s : Shared) (H : Hp) (E : XK), Room k (A.deeper (envOfC qual (defScope st) s.heap.objs.size f cdv)) → A.guards = some [] →
      FJ (cxOf CX0 P w K mg base N qual (defScope st) f cdv A outer s H E).nox X0 true (defBody st) ([Sl.val a0, Sl.val a1] ++ List.replicate (N.length - 2) .any) (F a0 a1)) : FnG P w K mg base (k + 1) f fd ps (spJ K (ar2 F)) := by
  refine fn_j Fu S fun as n φ s => ?_
  unfold ar2 at s
  split at s
  · exact ⟨hl.symm, hb _ _⟩
  · obtain ⟨_, e, _⟩ := Mo.sat_lift s
    cases e
def ar3 (F : D → D → D → m D) : List Sl → m D
  | [.val a0, .val a1, .val a2] => F a0 a1 a2
  | _ => Mo.lift none
theorem fn_ar3 {F : D → D → D → m D} (Fu : Fun K x qual st f fd) (S : FnScope N ps (defScope st)) (hl : ps.length = 3)
    (hb : ∀ (a0 : D) (a1 : D) (a2 : D), ∀ (cdv : Value) (A : Around) (outer : List Env) (s : Shared) (H : Hp) (E : XK), Room k (A.deeper (envOfC qual (defScope st) s.heap.objs.size f cdv)) → A.guards = some [] →
      FJ (cxOf CX0 P w K mg base N qual (defScope st) f cdv A outer s H E).nox X0 true (defBody st) ([Sl.val a0, Sl.val a1, Sl.val a2] ++ List.replicate (N.length - 3) .any) (F a0 a1 a2)) : FnG P w K mg base (k + 1) f fd ps (spJ K (ar3 F)) := by
  refine fn_j Fu S fun as n φ s => ?_
  unfold ar3 at s
  split at s
  · exact ⟨hl.symm, hb _ _ _⟩
  · obtain ⟨_, e, _⟩ := Mo.sat_lift s
    cases e
def dk1 (F : D → m D) : List Sl → m D
  | [.deck, .val a0] => F a0
  | _ => Mo.lift none
theorem fn_dk1 {F : D → m D} (Fu : Fun K x qual st f fd) (S : FnScope N ps (defScope st)) (hl : ps.length = 2)
    (hb : ∀ (a0 : D), ∀ (cdv : Value) (A : Around) (outer : List Env) (s : Shared) (H : Hp) (E : XK), Room k (A.deeper (envOfC qual (defScope st) s.heap.objs.size f cdv)) → A.guards = some [] →
      FJ (cxOf CX0 P w K mg base N qual (defScope st) f cdv A outer s H E).nox X0 true (defBody st) ([Sl.deck, Sl.val a0] ++ List.replicate (N.length - 2) .any) (F a0)) : FnG P w K mg base (k + 1) f fd ps (spJ K (dk1 F)) := by
  refine fn_j Fu S fun as n φ s => ?_
  unfold dk1 at s
  split at s
  · exact ⟨hl.symm, hb _⟩
  · obtain ⟨_, e, _⟩ := Mo.sat_lift s
    cases e
def dk2 (F : D → D → m D) : List Sl → m D
  | [.deck, .val a0, .val a1] => F a0 a1
  | _ => Mo.lift none
theorem fn_dk2 {F : D → D → m D} (Fu : Fun K x qual st f fd) (S : FnScope N ps (defScope st)) (hl : ps.length = 3)
    (hb : ∀ (a0 : D) (a1 : D), ∀ (cdv : Value) (A : Around) (outer : List Env) (s : Shared) (H : Hp) (E : XK), Room k (A.deeper (envOfC qual (defScope st) s.heap.objs.size f cdv)) → A.guards = some [] →
      FJ (cxOf CX0 P w K mg base N qual (defScope st) f cdv A outer s H E).nox X0 true (defBody st) ([Sl.deck, Sl.val a0, Sl.val a1] ++ List.replicate (N.length - 3) .any) (F a0 a1)) : FnG P w K mg base (k + 1) f fd ps (spJ K (dk2 F)) := by
  refine fn_j Fu S fun as n φ s => ?_
  unfold dk2 at s
  split at s
  · exact ⟨hl.symm, hb _ _⟩
  · obtain ⟨_, e, _⟩ := Mo.sat_lift s
    cases e
end
end DD
namespace DD
open PySem PySem.Spec PyProof.Rows L2
/-! ### reasoning about mirrors that draw: at most b draws, then φ -/
def Tri {α : Type} (b : Nat) (x : W α) (φ : α → Prop) : Prop := ∀ (n : Nat) (ψ : α → Nat → Prop), n + b ≤ 2 ^ 40 → (∀ a n', n' ≤ n + b → φ a → ψ a n') → x n ψ
section
variable {α β : Type} {b c : Nat}
theorem Tri.pure {a : α} {φ : α → Prop} (h : φ a) : Tri 0 (Pure.pure a : W α) φ := fun n ψ _ q => q a n (Nat.le_refl _) h
theorem Tri.bind {x : W α} {f : α → W β} {φ : α → Prop} {χ : β → Prop} (h : Tri b x φ) (hf : ∀ a, φ a → Tri c (f a) χ) : Tri (b + c) (x >>= f) χ := fun n ψ hn q =>
  h n (fun a n' => f a n' ψ) (by omega) fun a n' hn' ha => hf a ha n' ψ (by omega) fun a2 n2 h2 p2 => q a2 n2 (by omega) p2
theorem Tri.lift {o : Option α} {a : α} {φ : α → Prop} (e : o = some a) (h : φ a) : Tri 0 (Mo.lift o : W α) φ := fun n ψ _ q => ⟨a, e, q a n (Nat.le_refl _) h⟩
theorem Tri.mono {x : W α} {φ χ : α → Prop} (h : Tri b x φ) (hb : b ≤ c) (hp : ∀ a, φ a → χ a) : Tri c x χ := fun n ψ hn q => h n ψ (by omega) fun a n' hn' ha => q a n' (by omega) (hp a ha)
theorem Tri.le {x : W α} {φ : α → Prop} (h : Tri b x φ) (hb : b ≤ c) : Tri c x φ := h.mono hb fun _ z => z
theorem Tri.up {o : Option D} {a : D} {φ : D → Prop} (e : o = some a) (h : φ a) : Tri 0 (upW o) φ := fun n ψ _ q => ⟨a, e, q a n (Nat.le_refl _) h⟩
theorem Tri.draw {k : Int} (h0 : 0 < k) (h1 : k < 1073741824) : Tri 1 (drawW [.deck, .val (.int k)]) (fun d => ∃ r : Int, d = .int r ∧ 0 ≤ r ∧ r < k) := fun n ψ hn q =>
  ⟨k, rfl, h0, h1, by omega, fun r r0 r1 => q _ (n + 1) (Nat.le_refl _) ⟨r, rfl, r0, r1⟩⟩
theorem Tri.ite {t : Bool} {x y : W α} {φ : α → Prop} (h1 : t = true → Tri b x φ) (h2 : t = false → Tri b y φ) : Tri b (if t = true then x else y) φ := by
  cases t with
  | true => rw [if_pos rfl]; exact h1 rfl
  | false => rw [if_neg Bool.false_ne_true]; exact h2 rfl
/-- a comprehension without a test: one value of every turn -/
theorem Tri.comp {f : D → W D} {P : D → D → Prop} : ∀ (ds acc : List D), (∀ d ∈ ds, Tri c (f d) (P d)) → Tri (ds.length * c) (lcA (fun d => someM (f d)) ds acc) (fun out => ∃ es, out = acc ++ es ∧ es.length = ds.length ∧ ∀ (i : Nat) (d e : D), ds[i]? = some d → es[i]? = some e → P d e)
  | [], acc, _ => by
    have : Tri 0 (Pure.pure acc : W (List D)) (fun out => ∃ es, out = acc ++ es ∧ es.length = 0 ∧ ∀ (i : Nat) (d e : D), ([] : List D)[i]? = some d → es[i]? = some e → P d e) := Tri.pure ⟨[], by simp, rfl, fun i d e h => by simp at h⟩
    exact this.le (by omega)
  | d :: ds, acc, h => by
    have h1 : Tri c (someM (f d)) (fun o => ∃ e, o = some e ∧ P d e) := ((h d List.mem_cons_self).bind (c := 0) fun e he => Tri.pure ⟨e, rfl, he⟩).le (Nat.le_of_eq (Nat.add_zero c))
    refine (h1.bind (c := ds.length * c) fun o ⟨e, eo, he⟩ => ?_).le (by rw [List.length_cons, Nat.succ_mul]; omega)
    subst eo
    refine (Tri.comp ds (acc ++ (some e).toList) fun d hd => h d (List.mem_cons_of_mem _ hd)).mono (Nat.le_refl _) ?_
    rintro out ⟨es, rfl, el, q⟩
    refine ⟨e :: es, by simp, by simp [el], fun i d' e' h1 h2 => ?_⟩
    cases i with
    | zero => simp at h1 h2; subst h1 h2; exact he
    | succ i => exact q i d' e' (by simpa using h1) (by simpa using h2)
/-- behind a loop: it went on, or handed back -/
def Post {A : Type} (I : A → Prop) (R : D → Prop) : Fl A → Prop
  | .nx a => I a
  | .rt v => R v
/-- a loop with an invariant; R: what may be handed back from within -/
theorem Tri.loop {A : Type} {f : D → A → W (Fl A)} {I : List D → A → Prop} {R : D → Prop} (ds : List D) : ∀ a : A, I ds a → (∀ d r a, I (d :: r) a → Tri c (f d a) (Post (I r) R)) → Tri (ds.length * c) (loopM f ds a) (Post (I []) R) := by
  induction ds with
  | nil => exact fun a h _ => (Tri.pure (φ := Post (I []) R) (a := Fl.nx a) h).le (by omega)
  | cons d r ih =>
    intro a h hf
    refine ((hf d r a h).bind (c := r.length * c) fun z hz => ?_).le (by rw [List.length_cons, Nat.succ_mul]; omega)
    cases z with
    | nx a' => exact ih a' hz hf
    | rt v => exact (Tri.pure (φ := Post (I []) R) (a := Fl.rt v) hz).le (by omega)
/-- a loop that never hands back: what stands behind it -/
theorem Tri.thenB {A A' : Type} {x : W (Fl A)} {y : A → W (Fl A')} {I : A → Prop} {χ : Fl A' → Prop} (h : Tri b x (Post I fun _ => False)) (hy : ∀ a, I a → Tri c (y a) χ) : Tri (b + c) (x >>= fun f => DD.thenB f y) χ := h.bind fun z hz => by
  cases z with
  | nx a => exact hy a hz
  | rt v => exact hz.elim
theorem Tri.thenM {A : Type} {x : W (Fl A)} {y : A → W D} {I : A → Prop} {χ : D → Prop} (h : Tri b x (Post I fun _ => False)) (hy : ∀ a, I a → Tri c (y a) χ) : Tri (b + c) (x >>= fun f => DD.thenM f y) χ := h.bind fun z hz => by
  cases z with
  | nx a => exact hy a hz
  | rt v => exact hz.elim
theorem Tri.sat {x : W D} {φ : D → Prop} (h : Tri b x φ) (hb : b ≤ 2 ^ 40) : Mo.sat x 0 (fun d _ => φ d) (fun _ _ => False) := ⟨rfl, h 0 (fun d _ => φ d) (by omega) fun _ _ _ z => z⟩
end
/-! ### mirrors that do not draw -/
/-! ### tuples of ints -/
abbrev tI (r : List Int) : D := .tuple (r.map .int)
abbrev tT (rows : List (List Int)) : D := .tuple (rows.map tI)
theorem ints_of : ∀ r : List Int, intsD (r.map .int) = some r
  | [] => rfl
  | i :: r => by
    show (intsD (r.map .int)).map (i :: ·) = _
    rw [ints_of r]
    rfl
theorem sum_tI (r : List Int) : sumD (tI r) = some (.int r.sum) := by
  show (intsD (r.map .int)).map _ = _
  rw [ints_of]
  rfl
theorem rows_of : ∀ rows : List (List Int), rowsD (rows.map tI) = some (rows.map fun r => r.map .int)
  | [] => rfl
  | r :: rows => by
    show (rowsD (rows.map tI)).map (r.map .int :: ·) = _
    rw [rows_of rows]
    rfl
/-! ### what repr shows -/
mutual
def smallB : D → Bool
  | .none => true
  | .bool _ => true
  | .int i => decide (i.natAbs < 10 ^ 20)
  | .str x => PyData.strOk x && decide ((PyData.str x).shown.length ≤ 28)
  | .list xs => smallAll xs
  | .tuple xs => smallAll xs
  | .dict _ => false
def smallAll : List D → Bool
  | [] => true
  | x :: xs => smallB x && smallAll xs
end
mutual
def nodes : D → Nat
  | .list xs => nodesAll xs + 1
  | .tuple xs => nodesAll xs + 1
  | _ => 1
def nodesAll : List D → Nat
  | [] => 0
  | x :: xs => nodes x + nodesAll xs
end
theorem int_len {i : Int} (h : i.natAbs < 10 ^ 20) : (Str.ofString (toString i)).length ≤ 21 := by
  rw [PySem.ofString_length, Int.toString_eq_repr, Int.repr_eq_if]
  split
  · exact Nat.le_trans ((Nat.length_repr_le_iff (k := 20) (by decide)).mpr (by omega)) (by decide)
  · rw [String.length_append]
    have := (Nat.length_repr_le_iff (n := (-i).toNat) (k := 20) (by decide)).mpr (by omega)
    have e : ("-" : String).length = 1 := by decide
    omega
/-! ### drawing mirrors' shapes -/
theorem wb_pure {α β : Type} (a : α) (f : α → W β) : ((Pure.pure a : W α) >>= f) = f a := rfl
theorem wb_assoc {α β γ : Type} (x : W α) (f : α → W β) (g : β → W γ) : ((x >>= f) >>= g) = (x >>= fun a => f a >>= g) := rfl
theorem Tri.bindL {α β : Type} {c : Nat} {o : Option α} {a : α} {f : α → W β} {χ : β → Prop} (e : o = some a) (h : Tri c (f a) χ) : Tri c ((Mo.lift o : W α) >>= f) χ :=
  ((Tri.lift (φ := fun z => z = a) e rfl).bind fun z hz => hz ▸ h).le (Nat.le_of_eq (Nat.zero_add c))
theorem Tri.bindU {β : Type} {c : Nat} {o : Option D} {a : D} {f : D → W β} {χ : β → Prop} (e : o = some a) (h : Tri c (f a) χ) : Tri c (upW o >>= f) χ := Tri.bindL e h
theorem small_ok {ds : List D} (h : ds.length ≤ 1000000) : small ds = some ds := by
  unfold small
  rw [if_pos h]
theorem rangeL_length (lo : Int) (n : Nat) : (rangeL lo n).length = n := by simp [rangeL]
theorem range1_ok {k : Int} (h1 : k < 2 ^ 62) (h0 : -(2 ^ 62) < k) : rangeD1 (.int k) = some (rangeL 0 k.toNat) := by
  show (if k.natAbs < 2 ^ 62 then some (rangeL 0 k.toNat) else none) = _
  rw [if_pos (by omega)]
theorem ints_ex {P : Int → Prop} : ∀ es : List D, (∀ e ∈ es, ∃ r : Int, e = .int r ∧ P r) → ∃ rs : List Int, es = rs.map .int ∧ ∀ r ∈ rs, P r
  | [], _ => ⟨[], rfl, fun r h => by simp at h⟩
  | e :: es, h => by
    obtain ⟨r, rfl, hr⟩ := h e List.mem_cons_self
    obtain ⟨rs, rfl, hs⟩ := ints_ex es fun e he => h e (List.mem_cons_of_mem _ he)
    exact ⟨r :: rs, rfl, fun x hx => (List.mem_cons.mp hx).elim (fun z => z ▸ hr) (hs x)⟩
theorem rows_ex {P : List Int → Prop} : ∀ es : List D, (∀ e ∈ es, ∃ r : List Int, e = tI r ∧ P r) → ∃ rs : List (List Int), es = rs.map tI ∧ ∀ r ∈ rs, P r
  | [], _ => ⟨[], rfl, fun r h => by simp at h⟩
  | e :: es, h => by
    obtain ⟨r, rfl, hr⟩ := h e List.mem_cons_self
    obtain ⟨rs, rfl, hs⟩ := rows_ex es fun e he => h e (List.mem_cons_of_mem _ he)
    exact ⟨r :: rs, rfl, fun x hx => (List.mem_cons.mp hx).elim (fun z => z ▸ hr) (hs x)⟩
theorem ne_str (x y : Str) : neD (.str x) (.str y) = some (.bool (!decide (x = y))) := rfl
section
variable {α β : Type} {b c d : Nat}
theorem Tri.st {x : W α} {f : α → W β} {φ : α → Prop} {χ : β → Prop} (h : Tri b x φ) (hf : ∀ a, φ a → Tri (d - b) (f a) χ) (hd : b ≤ d := by decide) : Tri d (x >>= f) χ := (h.bind hf).le (by omega)
theorem Tri.dr {k : Int} {f : D → W β} {χ : β → Prop} (h0 : 0 < k) (h1 : k < 1073741824) (hf : ∀ r : Int, 0 ≤ r → r < k → Tri (d - 1) (f (.int r)) χ) (hd : 1 ≤ d := by decide) : Tri d (drawW [.deck, .val (.int k)] >>= f) χ :=
  (Tri.draw h0 h1).st (fun a ⟨r, e, r0, r1⟩ => e ▸ hf r r0 r1) hd
theorem Tri.loopR {A : Type} {f : D → A → W (Fl A)} {I : Nat → A → Prop} {R : D → Prop} {lo : Int} {n : Nat} {a : A} (h0 : I 0 a) (h : ∀ i a, i < n → I i a → Tri c (f (.int (lo + (i : Nat))) a) (Post (I (i + 1)) R)) : Tri (n * c) (loopM f (rangeL lo n) a) (Post (I n) R) := by
  have := Tri.loop (c := c) (f := f) (R := R) (I := fun ds a => ∃ i, i ≤ n ∧ ds = (rangeL lo n).drop i ∧ I i a) (rangeL lo n) a ⟨0, Nat.zero_le _, rfl, h0⟩ fun e r a ⟨i, hi, ei, hI⟩ => by
    have hl : i < n := by
      by_cases z : i < n
      · exact z
      · rw [List.drop_eq_nil_of_le (by rw [rangeL_length]; omega)] at ei
        cases ei
    rw [List.drop_eq_getElem_cons (by rw [rangeL_length]; exact hl)] at ei
    obtain ⟨e1, e2⟩ := List.cons.inj ei
    have e3 : (rangeL lo n)[i]'(by rw [rangeL_length]; exact hl) = .int (lo + (i : Nat)) := by simp [rangeL]
    rw [e1, e3]
    refine (h i a hl hI).mono (Nat.le_refl _) fun z hz => ?_
    cases z with
    | nx a' => exact ⟨i + 1, hl, e2, hz⟩
    | rt v => exact hz
  rw [rangeL_length] at this
  refine this.mono (Nat.le_refl _) fun z hz => ?_
  cases z with
  | nx a' =>
    obtain ⟨i, hi, ei, hI⟩ := hz
    have : n ≤ i := by
      have e := congrArg List.length ei
      rw [List.length_drop, rangeL_length] at e
      simp at e
      omega
    obtain rfl : i = n := by omega
    exact hI
  | rt v => exact hz
end
/-! ### columns -/
abbrev col (rows : List (List Int)) (i : Nat) : List Int := rows.map fun r => r.getD i 0
abbrev cols (rows : List (List Int)) (k : Nat) : List Int := (List.range k).map fun i => (col rows i).sum
theorem getD_map {r : List Int} {i : Nat} (h : i < r.length) : (r.map PyData.int).getD i .none = .int (r.getD i 0) := by
  simp [List.getD, h]
theorem zip_rows {rows : List (List Int)} {k : Nat} (h1 : 1 ≤ rows.length) (h4 : rows.length ≤ 4) (hk : ∀ r ∈ rows, r.length = k) : zipD (rows.map tI) = some ((List.range k).map fun i => tI (col rows i)) := by
  cases rows with
  | nil => simp at h1
  | cons r rs =>
    have e : r.length = k := hk r List.mem_cons_self
    rw [zipD_old (r := r.map .int) (rs := rs.map fun r => r.map .int) (by rw [rows_of]; rfl)]
    · congr 1
      rw [List.length_map, e]
      refine List.map_congr_left fun i hi => ?_
      have hi' := List.mem_range.mp hi
      have all : ∀ xs : List (List Int), (∀ x ∈ xs, x.length = k) → (xs.map fun r => r.map PyData.int).map (fun x => x.getD i .none) = (col xs i).map .int := by
        intro xs hx
        rw [List.map_map, List.map_map]
        refine List.map_congr_left fun x hxm => ?_
        exact getD_map (by rw [hx x hxm]; exact hi')
      have := all (r :: rs) hk
      simp only [List.map_cons] at this
      exact congrArg PyData.tuple this
    · simp at h4 ⊢; omega
    · intro x hx
      obtain ⟨y, hy, rfl⟩ := List.mem_map.mp hx
      rw [List.length_map, List.length_map, e, hk y (List.mem_cons_of_mem _ hy)]
      exact Nat.le_refl _
theorem ob_pure {α β : Type} (a : α) (f : α → Option β) : ((Pure.pure a : Option α) >>= f) = f a := rfl
theorem ob_some {α β : Type} (a : α) (f : α → Option β) : (some a >>= f) = f a := rfl
theorem ob_lift {α : Type} (o : Option α) : (Mo.lift o : Option α) = o := rfl
section
variable {γ : Type}
theorem lcA_mapM {f : D → Option D} {F G : γ → D} (xs : List γ) (acc : List D) (h : ∀ x ∈ xs, f (F x) = some (G x)) : lcA (m := Option) (fun d => someM (f d)) (xs.map F) acc = some (acc ++ xs.map G) := by
  induction xs generalizing acc with
  | nil => simp [lcA]
  | cons x xs ih =>
    show ((f (F x) >>= fun y => Pure.pure (some y)) >>= fun o => lcA (m := Option) (fun d => someM (f d)) (xs.map F) (acc ++ o.toList)) = _
    rw [h x List.mem_cons_self]
    show lcA (m := Option) (fun d => someM (f d)) (xs.map F) (acc ++ [G x]) = _
    rw [ih (acc ++ [G x]) fun y hy => h y (List.mem_cons_of_mem _ hy)]
    simp
end
section
variable {b c d : Nat}
theorem Tri.thB {A A' : Type} {x : W (Fl A)} {y : A → W (Fl A')} {I : A → Prop} {χ : Fl A' → Prop} (h : Tri b x (Post I fun _ => False)) (hy : ∀ a, I a → Tri (d - b) (y a) χ) (hd : b ≤ d := by decide) : Tri d (x >>= fun f => DD.thenB f y) χ := (Tri.thenB h hy).le (by omega)
theorem Tri.thM {A : Type} {x : W (Fl A)} {y : A → W D} {I : A → Prop} {χ : D → Prop} (h : Tri b x (Post I fun _ => False)) (hy : ∀ a, I a → Tri (d - b) (y a) χ) (hd : b ≤ d := by decide) : Tri d (x >>= fun f => DD.thenM f y) χ := (Tri.thenM h hy).le (by omega)
theorem Tri.nx {A : Type} {a : A} {I : A → Prop} {R : D → Prop} (h : I a) : Tri d (Pure.pure (Fl.nx a) : W (Fl A)) (Post I R) := (Tri.pure (φ := Post I R) (a := Fl.nx a) h).le (Nat.zero_le _)
theorem Tri.rt {A : Type} {v : D} {I : A → Prop} {R : D → Prop} (h : R v) : Tri d (Pure.pure (Fl.rt v) : W (Fl A)) (Post I R) := (Tri.pure (φ := Post I R) (a := Fl.rt v) h).le (Nat.zero_le _)
theorem Tri.li {α : Type} {o : Option α} {a : α} {φ : α → Prop} (e : o = some a) (h : φ a) : Tri d (Mo.lift o : W α) φ := (Tri.lift e h).le (Nat.zero_le _)
end
end DD
namespace DD
open PySem PySem.Spec PyProof.Rows L2
/-! ### enumerate(tuple) -/
def enO (it : Addr) : Obj := { cls := .type "enumerate", data := .fields #[.none, .bool false, .ref it, rawInt 0, .none, .none] }
def tiO (l : Addr) : Obj := { cls := .type "tuple_iterator", data := .fields #[.ref l, .int 0 0] }
theorem meets_enT (l : Addr) (items : Array Value) : Meets (Builtin.«enumerate.__new__» ⟨[.type "enumerate", .ref l], []⟩) (fun _ R s => s.heap.IsTuple l items ∧ R (.ok (.ret (.ref (s.heap.push (tiO l)).objs.size))) { s with heap := (s.heap.push (tiO l)).push (enO s.heap.objs.size) }) :=
  .of_wp fun prog w A R s h => by
    obtain ⟨hp, g, d, tk, os⟩ := s
    obtain ⟨hl, h⟩ := h
    have hsub := sub_enumerate
    have q1 : ∀ {A' : Around} {E : Value → Shared → Prop} {Q : Value → Shared → Prop}, Q (.ref hp.objs.size) ⟨hp.push (tiO l), g, d, tk, os⟩ → wpAny (model prog w) A' (pyIter (.ref l)) Q E ⟨hp, g, d, tk, os⟩ := fun q => wpAny_pyIter_tuple hl q
    wp_walk using q1
    refine wpAny_stack_any fun st => wpAny_pure ?_
    split
    · rename_i c _ _ _ _ _
      cases (c == Value.type "enumerate") <;> (wp_walk using q1; exact ⟨_, rfl, h⟩)
    · wp_walk using q1
      exact ⟨_, rfl, h⟩
section
variable {prog : Program} {w : World} {A : Around} {E : Value → Shared → Prop} {s : Shared}
theorem call_enT {l : Addr} {items : Array Value} {Q : Value → Shared → Prop} (hL : s.heap.IsTuple l items)
    (h : ∀ h', IsEnum h' (s.heap.objs.size + 1) s.heap.objs.size 0 .none → h'.IsTupleIter s.heap.objs.size l 0 → (∀ b o, s.heap.get? b = some o → h'.get? b = some o) → Q (.ref (s.heap.objs.size + 1)) { s with heap := h' }) : wpAny (model prog w) A (call (.type "enumerate") [.ref l]) Q E s := by
  refine callType_new F.called_enumerate (by decide) (F.typeCall_enumerate_1 _) (F.newCall_enumerate_1 _) (fun obj => F.args_object_init_2 obj _) F.entry_enumerate_new (meets_enT l items) ⟨hL, ?_⟩
  have hz : (s.heap.push (tiO l)).objs.size = s.heap.objs.size + 1 := Heap.size_push ..
  show _ ∧ _
  rw [hz]
  have he : IsEnum ((s.heap.push (tiO l)).push (enO s.heap.objs.size)) (s.heap.objs.size + 1) s.heap.objs.size 0 .none := by
    have := Heap.get?_push_size (s.heap.push (tiO l)) (o := enO s.heap.objs.size) rfl
    rw [hz] at this
    exact this
  exact ⟨⟨_, he, rfl⟩, h _ he ⟨_, Heap.get?_push_of_some _ (Heap.get?_push_size _ rfl), rfl, rfl⟩ fun b o x => Heap.get?_push_of_some _ (Heap.get?_push_of_some _ x)⟩
theorem draws_tup {it l : Addr} {items : Array Value} (hh : A.handled = none) (hne : l ≠ it) : Draws prog w A it [it, l] items.size (fun i x => items[i]? = some x) (fun i h => h.IsTupleIter it l i ∧ h.IsTuple l items) where
  live := fun i h st => let ⟨⟨o, e, _⟩, _⟩ := st; ⟨o, e⟩
  frame := fun i h h' st k => let ⟨⟨o, e, r⟩, ⟨o2, e2, r2⟩⟩ := st; ⟨⟨o, k it (by simp) o e, r⟩, ⟨o2, k l (by simp) o2 e2, r2⟩⟩
  item := fun i s Q E hi st hQ => by
    refine wpAny_nextOf_tuple_item st.1 st.2 (x := items[i]) (Array.getElem?_eq_getElem hi) fun h' hi' sb => hQ _ h' s.toks (Array.getElem?_eq_getElem hi) ⟨hi', ?_⟩ sb
    obtain ⟨o2, e2, r2⟩ := st.2
    exact ⟨o2, (sb.2 l hne).trans e2, r2⟩
  done := fun s Q E st hE => wpAny_nextOf_tuple_end hh st.1 st.2 (by simp) hE
end
def IteT (K : PySem.W.Frag) (a : Addr) : It :=
  ⟨fun i H => ∃ (xs : List V) (x : V), SqT K H a xs ∧ xs[i]? = some x, fun i H v H' => ∃ T x, v = .ref T ∧ H T = none ∧ H' = upd H T (.tup [.int (i : Nat), x]) ∧ ∀ xs, SqT K H a xs → xs[i]? = some x, fun i H => ∃ xs : List V, SqT K H a xs ∧ xs.length ≤ i⟩
theorem turn_enT {P : Program} {w : World} {K : PySem.W.Frag} {elts : List Expr} {kk : Nat} {tpos : Pos} {a e it : Addr} (hai : a ≠ it) (hae : a ≠ e) (hei : e ≠ it) :
    Turn P w K (.Tuple elts kk tpos) (IteT K a) [e, it] e (fun i h => (∃ old, IsEnum h e it ((i : Nat) : Int) old) ∧ h.IsTupleIter it a i) where
  mem := by simp
  obj := fun i h st b hb => by
    obtain ⟨⟨old, he⟩, ⟨o, ho, hc, hd⟩⟩ := st
    rcases List.mem_cons.mp hb with rfl | hb
    · exact ⟨_, he, fun v q => nomatch q⟩
    · rw [List.mem_singleton.mp hb]
      exact ⟨o, ho, fun v q => by rw [hd] at q; cases q⟩
  keep := fun i h h' st k => let ⟨⟨old, he⟩, ⟨o, ho, r⟩⟩ := st; ⟨⟨old, k e (by simp) _ he⟩, ⟨o, k it (by simp) o ho, r⟩⟩
  item := by
    intro X hP hw hK hc i pins s σ H E I hf st hg
    subst hP hw hK
    obtain ⟨⟨old, he⟩, hit⟩ := st
    obtain ⟨xs, x, hq, hx⟩ := hg
    obtain ⟨its, rv, p, hz⟩ := I.tuple hq
    obtain ⟨u, hu, ru⟩ := rv.get hx
    have hel : e < s.heap.objs.size := Heap.lt_size he
    have hil : it < s.heap.objs.size := by obtain ⟨_, q, _⟩ := hit; exact Heap.lt_size q
    have hlt : i < its.toArray.size := by simpa using (List.getElem?_eq_some_iff.mp hu).1
    refine wpAny_pyNext_enum_itemD (draws_tup (I.ok.hd hc) hai) he (i := i) ⟨hit, p⟩ hlt hei (by simp [hei]; exact fun z => hae z.symm) fun y h' tk hy ho st' hT hsz hk => ?_
    have hy' : y = u := by
      have hy2 : its.toArray[i]? = some y := hy
      rw [List.getElem?_toArray, hu] at hy2
      exact (Option.some.inj hy2).symm
    subst hy'
    refine ⟨_, rfl, wpAny_letOwnedTupleGo_enum (s := { s with heap := h', toks := tk + 1 }) ho fun h'' he' sb => ?_⟩
    have hT2 : h''.get? s.heap.objs.size = some { cls := .type "tuple", data := .seq #[.int i tk, y] } := (sb.2 _ (Nat.ne_of_gt hel)).trans hT
    have new : ObjOk X.prog X.w (upd H s.heap.objs.size (.tup [.int (i : Nat), x])) h'' s.heap.objs.size (.tup [.int (i : Nat), x]) :=
      ⟨by show 2 ≤ sizeLine; decide, [.int i tk, y], .cons ⟨_, rfl⟩ (.cons ru .nil), ⟨_, hT2, rfl, _, rfl⟩⟩
    have I1 : Inv X pins σ (upd H s.heap.objs.size (.tup [.int (i : Nat), x])) { s with heap := h'', toks := tk + 1 } :=
      I.turnedNew (t' := tk + 1) (ch := [e, it]) (fun b ob hb q => (sb.2 b (fun z => hb (by simp [z]))).trans (hk b ob (fun z => hb (by simp [z])) (fun z => hb (by simp [z])) q)) hf (Nat.le_refl _) new
    obtain ⟨⟨oi, hoi, ri⟩, _⟩ := st'
    refine ⟨.ref s.heap.objs.size, _, I1, rfl, ⟨_, x, rfl, I.hok.fresh (Nat.le_refl _), rfl, fun ys hy => by rw [I.tuple_inj hy hq]; exact hx⟩, ⟨⟨y, ?_⟩, ⟨oi, (sb.2 it (Ne.symm hei)).trans hoi, ri⟩⟩, fun b hb => ?_⟩
    · rw [show ((i + 1 : Nat) : Int) = (i : Int) + 1 by omega]
      exact he'
    · have hb' : b < s.heap.objs.size := by
        rcases List.mem_cons.mp hb with rfl | hb
        · exact hel
        · rw [List.mem_singleton.mp hb]; exact hil
      rw [upd_ne (Nat.ne_of_lt hb')]
      exact (hf b hb).1
  done := by
    intro X hP hw hK hc i pins s σ H E I hf st hg
    subst hP hw hK
    obtain ⟨⟨old, he⟩, hit⟩ := st
    obtain ⟨xs, hq, hx⟩ := hg
    obtain ⟨its, rv, p, hz⟩ := I.tuple hq
    obtain ⟨f0, f1, f2, f3, f4, f5⟩ := hf it (by simp)
    unfold pyNext
    refine wpAny_bind (wpAny_attempt (wpAny_callSpecial?_slot (name := Str.ofString "__next__") (T := "enumerate") ⟨_, he, rfl⟩ F.slot_enumerate_next (wpAny_call_entry F.slot_enumerate_next (T := "enumerate") ⟨_, he, rfl⟩ F.entry_enumerate_next ?_ (F.args_enumerate_next_1 _))))
    show wpAny _ _ (field (.ref e) 2 >>= _) _ _ _
    refine wpAny_bind (wpAny_field he rfl (x := .ref it) rfl ?_)
    refine wpAny_bind (wpAny_nextOf_tuple_end (I.ok.hd hc) hit p (by simp; have := rv.length; omega) fun h' e2 he' hx' => ?_)
    obtain ⟨o, ho, hcl⟩ := hx'
    refine wpAny_bind (wpAny_isInstance (T := "StopIteration") (b := true) ⟨o, ho, hcl⟩ isSubtype_stop (wpAny_pure ⟨rfl, ?_⟩))
    exact I.turned (t' := s.toks) (fun b o hb q => he' b o hb q) f0 f1 f3 f4 f5
  self := fun A i s Q E st h => let ⟨⟨_, he⟩, _⟩ := st; wpAny_pyIter_enum he h
def iEnS (K : PySem.W.Frag) (ta : TA) : TI := fun σ H R => ta σ H fun vs H1 => ∃ a xs, vs = [.ref a] ∧ ((SqL K H1 a xs ∧ R (Ite K a) H1) ∨ (SqT K H1 a xs ∧ R (IteT K a) H1))
theorem pi_enS {X : Cx} {e : Expr} {ta : TA} {p pos tpos : Pos} {elts : List Expr} {kk : Nat} (hg : Gl X "enumerate") (hm : X.mg "enumerate" = none) (ha : PA X [e] ta) (hs : starEach [e] X.env = [(false, eval e X.env)] := by rfl) : PI X (.Tuple elts kk tpos) (.Call (.Name "enumerate" p) [e] [] pos) (iEnS X.K ta) := by
  refine ⟨fun pins s σ H R I h => Call_ (ld_blt I hg hm boot_enumerate (PyProof.Rows.callWith_type1 (thn (ha.run pos pins s σ H _ I h) fun us s1 ⟨vs, H1, I1, r1, q1⟩ => ?_) hs rfl))⟩
  obtain ⟨a, xs, rfl, q1⟩ := q1
  cases r1 with
  | cons r rr =>
    cases rr
    cases r
    have fp : ∀ b : Nat, b ∈ [s1.heap.objs.size + 1, s1.heap.objs.size] → FpOk X pins H1 b := fun b hb => by
      have hle : s1.heap.objs.size ≤ b := by
        rcases List.mem_cons.mp hb with z | z
        · rw [z]; omega
        · rw [List.mem_singleton.mp z]; omega
      exact I1.fpOk hle (I1.hok.fresh hle)
    rcases q1 with ⟨hq, q⟩ | ⟨hq, q⟩
    · obtain ⟨its, rv, p', hz⟩ := I1.list hq
      exact call_enumerate_list p'.isList fun h' he hit hsz hk => wpAny_pyIter_enum he ⟨s1.heap.objs.size + 1, [s1.heap.objs.size + 1, s1.heap.objs.size], _, _, H1, rfl, I1.kept (t' := s1.toks) hk, turn_enum a (s1.heap.objs.size + 1) s1.heap.objs.size, ⟨⟨.none, he⟩, hit, Nat.succ_ne_self _⟩, fp, q⟩
    · obtain ⟨its, rv, p', hz⟩ := I1.tuple hq
      have hl : a < s1.heap.objs.size := by obtain ⟨o, ho, _⟩ := p'; exact Heap.lt_size ho
      exact call_enT p' fun h' he hit hk => wpAny_pyIter_enum he ⟨s1.heap.objs.size + 1, [s1.heap.objs.size + 1, s1.heap.objs.size], _, _, H1, rfl, I1.kept (t' := s1.toks) hk, turn_enT (Nat.ne_of_lt hl) (Nat.ne_of_lt (Nat.lt_succ_of_lt hl)) (Nat.succ_ne_self _), ⟨⟨.none, he⟩, hit⟩, fp, q⟩
def enumL (ds : List D) : List D := ds.zipIdx.map fun p => .tuple [.int (p.2 : Nat), p.1]
theorem enumL_at (ds : List D) (i : Nat) : (enumL ds)[i]? = ds[i]?.map fun d => .tuple [.int (i : Nat), d] := by
  unfold enumL
  rw [List.getElem?_map, List.getElem?_zipIdx]
  cases ds[i]? <;> simp
theorem enumL_len (ds : List D) : (enumL ds).length = ds.length := by simp [enumL]
theorem walkD_en {K : PySem.W.Frag} {G : Hp} {xs : List V} {ds : List D} {J : It} (da : DaAll K G xs ds) (hgo : ∀ i H, i < xs.length → SubM G H → J.go i H) (hst : ∀ H, SubM G H → J.stop xs.length H)
    (hy : ∀ i H v H', SubM G H → J.yld i H v H' → ∃ T x, v = .ref T ∧ H T = none ∧ H' = upd H T (.tup [.int (i : Nat), x]) ∧ xs[i]? = some x) : WalkD K G J (enumL ds) where
  goes := fun i H hi s => hgo i H (by rw [da.length, ← enumL_len]; exact hi) s
  stops := fun H s => by rw [enumL_len, ← da.length]; exact hst H s
  yields := fun i H G1 v H' hi s s1 y => by
    obtain ⟨T, x, rfl, hT, rfl, hx⟩ := hy i H v H' (s.subm s1) y
    obtain ⟨d, e1, e2⟩ := da.getV hx
    have gr := Gr.alloc (u := .tup [.int (i : Nat), x]) s1 hT
    refine ⟨.tuple [.int (i : Nat), d], _, by rw [enumL_at, e1]; rfl, gr, .tup (.inl (.inl upd_same)) (.cons (.int _) (.cons (e2.mono (s.trans gr.g)) .nil))⟩
section
variable {m : Type → Type} [Mo m] {X : Cx} {EX : XR} {g : List Sl}
abbrev enumM (x : m D) : m (List D) := x >>= fun d => Mo.lift ((itemsD d).map enumL)
theorem ij_enum {e : Expr} {p pos tpos : Pos} {elts : List Expr} {kk : Nat} {x : m D} (hm : X.mg "enumerate" = none) (h : EJ X EX e g x) (hg : Gl X "enumerate" := by rfl) (hs : starEach [e] X.env = [(false, eval e X.env)] := by rfl) (hs' : starEach [e] X.env = (false, eval e X.env) :: starEach [] X.env := by rfl) :
    IJ X EX (.Tuple elts kk tpos) (.Call (.Name "enumerate" p) [e] [] pos) g (enumM x) :=
  (pi_enS hg hm (pa_cons h pa_nil hs') hs).weak fun σ H R ⟨B, G, n, φ, ξ, o, s, q, xw⟩ => te_one o s (fun v H1 G1 d n1 o1 g1 d1 s1 => by
    obtain ⟨out, ed, pd⟩ := Mo.sat_lift s1
    obtain ⟨ds, e1, rfl⟩ := Option.map_eq_some_iff.mp ed
    obtain ⟨a, xs, rfl, sq, da⟩ := d1.seq e1
    refine ⟨a, xs, rfl, ?_⟩
    rcases sq with sq | sq
    · refine .inr ⟨sameT o1.fm.sub sq, q _ H1 G1 _ n1 o1 g1 (walkD_en da (fun i H hi s => ⟨xs, xs[i], sameT s sq, by simp [hi]⟩) (fun H s => ⟨xs, sameT s sq, Nat.le_refl _⟩) fun i H v H' s y => ?_) pd⟩
      obtain ⟨T, x, a1, a2, a3, a4⟩ := y
      exact ⟨T, x, a1, a2, a3, a4 xs (sameT s sq)⟩
    · refine .inl ⟨o1.fm.sub.seq sq, q _ H1 G1 _ n1 o1 g1 (walkD_en da (fun i H hi s => ⟨xs, xs[i], s.seq sq, by simp [hi]⟩) (fun H s => ⟨xs, s.seq sq, Nat.le_refl _⟩) fun i H v H' s y => ?_) pd⟩
      obtain ⟨T, x, a1, a2, a3, a4⟩ := y
      exact ⟨T, x, a1, a2, a3, a4 xs (s.seq sq)⟩) xw
end
end DD
namespace DD
open PySem PySem.Spec PyProof.Rows L2
/-! ### a list of one's own, read in the middle: what comes out holds no list -/
mutual
def noL : D → Bool
  | .list _ => false
  | .tuple xs => noLs xs
  | .dict _ => false
  | _ => true
def noLs : List D → Bool
  | [] => true
  | x :: xs => noL x && noLs xs
end
def flatO (d : D) : Option D := if noL d = true then some d else none
theorem flatO_eq {d e : D} (h : flatO d = some e) : e = d ∧ noL d = true := by
  unfold flatO at h
  split at h
  · rename_i hl; cases h; exact ⟨rfl, hl⟩
  · cases h
/-- the data among what has come: what stood in the heap and was no data is left out -/
noncomputable def cutB (H G G' : Hp) : Hp := fun a => open Classical in if G a = none ∧ H a ≠ none then none else G' a
theorem cutB_in {H G G' : Hp} {a : Addr} (h : ¬ (G a = none ∧ H a ≠ none)) : cutB H G G' a = G' a := by unfold cutB; rw [if_neg h]
theorem cutB_out {H G G' : Hp} {a : Addr} (h1 : G a = none) (h2 : H a ≠ none) : cutB H G G' a = none := by unfold cutB; rw [if_pos ⟨h1, h2⟩]
theorem cutB_sub {H G G' : Hp} {a : Addr} {o : HO} (h : cutB H G G' a = some o) : G' a = some o := by
  unfold cutB at h
  split at h
  · cases h
  · exact h
def lend1 : Sl → Sl
  | .own ds => .val (.list ds)
  | s => s
abbrev lendG (g : List Sl) : List Sl := g.map lend1
section
variable {K : PySem.W.Frag} {H G G' : Hp}
mutual
theorem Da.cut (hp : ∀ a o, G' a = some o → G a = none → H a ≠ none → ∃ xs, o = .lst xs) : ∀ {d : D} {v : V}, noL d = true → Da K G' v d → Da K (cutB H G G') v d
  | _, _, _, .non => .non
  | _, _, _, .bl b => .bl b
  | _, _, _, .int i => .int i
  | _, _, _, .str x => .str x
  | _, _, h, .lst _ _ => by cases h
  | .tuple ds, _, h, .tup sq a => by
    refine .tup ?_ (DaAll.cutA hp (show noLs ds = true from h) a)
    rcases sq with (sq | ⟨o, sq⟩) | sq
    · refine .inl (.inl ((cutB_in fun z => ?_).trans sq))
      obtain ⟨xs, e⟩ := hp _ _ sq z.1 z.2
      cases e
    · refine .inl (.inr ⟨o, (cutB_in fun z => ?_).trans sq⟩)
      obtain ⟨xs, e⟩ := hp _ _ sq z.1 z.2
      cases e
    · exact .inr sq
  | _, _, h, .dct _ _ => by cases h
  | _, _, h, .obj _ => by cases h
  | _, _, h, .cel _ => by cases h
  | _, _, h, .fin _ _ _ _ => by cases h
theorem DaAll.cutA (hp : ∀ a o, G' a = some o → G a = none → H a ≠ none → ∃ xs, o = .lst xs) : ∀ {ds : List D} {vs : List V}, noLs ds = true → DaAll K G' vs ds → DaAll K (cutB H G G') vs ds
  | _, _, _, .nil => .nil
  | d :: ds, _, h, .cons a b => by
    have h' : noL d = true ∧ noLs ds = true := by
      have : (noL d && noLs ds) = true := h
      simpa using this
    exact .cons (Da.cut hp h'.1 a) (DaAll.cutA hp h'.2 b)
end
end
section
variable {m : Type → Type} [Mo m] {X : Cx} {EX : XR} {g : List Sl}
/-- all lists of one's own become data, a while -/
theorem Ok.lend {K : PySem.W.Frag} {B : Bs} {σ : L2.St} {H G : Hp} {n : Wd} (o : Ok K B g σ H G n) (hn0 : n.ob = []) : ∃ G1 : Hp, Ok K ⟨H, G1, B.dk, G1⟩ (lendG g) σ H G1 n ∧
    ∀ (H' G' : Hp) (n' : Wd), n'.ob = [] → Fm K ⟨H, G1, B.dk, G1⟩ H' G' n' → (Ok K B g σ H' (cutB H G G') n' ∧ Same G (cutB H G G')) ∧ ∀ a o, G' a = some o → G a = none → H a ≠ none → ∃ xs, o = .lst xs := by
  classical
  obtain ⟨f, h1, h2⟩ := id o.own
  let OwnA : Addr → Prop := fun a => ∃ (j : Nat) (ds : List D), g[j]? = some (Sl.own ds) ∧ f j = a
  have own_lst : ∀ a, OwnA a → G a = none ∧ B.H a = none ∧ ∃ xs, H a = some (.lst xs) := by
    rintro a ⟨j, ds, e, rfl⟩
    obtain ⟨_, b, c, xs, d, _⟩ := h2 j ds e
    exact ⟨b, c, xs, d⟩
  let G1 : Hp := fun a => if OwnA a then H a else G a
  have g1o : ∀ a, OwnA a → G1 a = H a := fun a h => if_pos h
  have g1n : ∀ a, ¬ OwnA a → G1 a = G a := fun a h => if_neg h
  have sG : Same G G1 := fun a u e => by
    rw [g1n a fun z => by rw [(own_lst a z).1] at e; cases e]
    exact e
  have nomk : ∀ a u, G a = some u → isMk u = false := fun a u e => by
    cases hm : mkOf u with
    | none => unfold isMk; rw [hm]; rfl
    | some k =>
      obtain ⟨c, e2, _⟩ := o.fm.obs.at_ a u k e hm
      rw [hn0] at e2
      cases e2
  have sH : SubM G1 H := ⟨fun a u e m => by
    by_cases z : OwnA a
    · rw [g1o a z] at e; exact e
    · rw [g1n a z] at e; exact o.fm.sub.h a u e m, fun a e => by
    by_cases z : OwnA a
    · rw [g1o a z]; exact e
    · rw [g1n a z]; exact o.fm.sub.t a e⟩
  have mk1 : ∀ a u k, G1 a = some u → mkOf u = some k → False := fun a u k e hm => by
    by_cases z : OwnA a
    · obtain ⟨_, _, xs, hx⟩ := own_lst a z
      rw [g1o a z, hx] at e
      cases e
      cases hm
    · rw [g1n a z] at e
      have := nomk a u e
      unfold isMk at this
      rw [hm] at this
      cases this
  have ob1 : Obs K H G1 n := ⟨fun a u k e hm => (mk1 a u k e hm).elim, fun a b u w k e _ hm => (mk1 a u k e hm).elim, fun k c e => by rw [hn0] at e; cases e⟩
  have pick : ∀ (i : Nat) (s : Sl), (lendG g)[i]? = some s → ∃ s0, g[i]? = some s0 ∧ s = lend1 s0 := fun i s e => by
    rw [List.getElem?_map] at e
    obtain ⟨s0, e0, e1⟩ := Option.map_eq_some_iff.mp e
    exact ⟨s0, e0, e1.symm⟩
  refine ⟨G1, ⟨⟨fun a u e _ => e, sH, Same.refl _, ob1, sH.t, Same.refl _, fun a _ e => e, fun a b e => ?_⟩, by rw [List.length_map]; exact o.len, fun i d e => ?_, ⟨f, fun i j ds es e => ?_, fun i ds e => ?_⟩, fun i e => ?_, fun i a od fs e => ?_⟩, fun H' G' n' hn1 fm => ?_⟩
  · obtain ⟨dk, b1, b2, b3, b4⟩ := o.fm.deck a b e
    obtain ⟨cs, c, k1, k2, _⟩ := id dk
    have na : ¬ OwnA a := fun z => b1 (own_lst a z).2.1
    have nb : ¬ OwnA b := fun z => b2 (own_lst b z).2.1
    refine ⟨dk, by show H a ≠ none; rw [k1]; simp, by show H b ≠ none; rw [k2]; simp, ?_, ?_⟩
    · show G1 a = none
      rw [g1n a na]; exact o.fm.new a b1 b3
    · show G1 b = none
      rw [g1n b nb]; exact o.fm.new b b2 b4
  · obtain ⟨s0, e0, e1⟩ := pick i _ e
    cases s0 with
    | val d0 =>
      cases e1
      obtain ⟨v, a, b⟩ := o.val i d e0
      exact ⟨v, a, b.mono sG⟩
    | own ds =>
      cases e1
      obtain ⟨a, b, c, xs, hd, da⟩ := h2 i ds e0
      refine ⟨_, a, .lst (xs := xs) ?_ (da.mono sG)⟩
      rw [g1o _ ⟨i, ds, e0, rfl⟩]
      exact hd
    | deck => cases e1
    | any => cases e1
    | exn _ _ _ => cases e1
  · obtain ⟨s0, e0, e1⟩ := pick i _ e
    cases s0 <;> cases e1
  · obtain ⟨s0, e0, e1⟩ := pick i _ e
    cases s0 <;> cases e1
  · obtain ⟨s0, e0, e1⟩ := pick i _ e
    cases s0 with
    | deck => exact o.dck i e0
    | val _ => cases e1
    | own _ => cases e1
    | any => cases e1
    | exn _ _ _ => cases e1
  · obtain ⟨s0, e0, e1⟩ := pick i _ e
    cases s0 with
    | exn _ _ _ => cases e1; exact ⟨(o.adr i a od fs e0).1, (o.adr i a od fs e0).2.mono sG⟩
    | val _ => cases e1
    | own _ => cases e1
    | any => cases e1
    | deck => cases e1
  · have lst : ∀ a u, G' a = some u → G a = none → H a ≠ none → ∃ xs, u = .lst xs := fun a u e ga ha => by
      by_cases z : OwnA a
      · obtain ⟨_, _, xs, hx⟩ := own_lst a z
        have : G' a = some (.lst xs) := fm.old a _ (by show G1 a = _; rw [g1o a z]; exact hx)
        rw [this] at e
        cases e
        exact ⟨xs, rfl⟩
      · have : G' a = none := fm.new a ha (by show G1 a = none; rw [g1n a z]; exact ga)
        rw [this] at e; cases e
    have fm2 : Fm K ⟨H, G, B.dk, G⟩ H' (cutB H G G') n' := by
      have mk2 : ∀ a u k, cutB H G G' a = some u → mkOf u = some k → False := fun a u k e hm => by
        obtain ⟨c, e2, _⟩ := fm.obs.at_ a u k (cutB_sub e) hm
        rw [hn1] at e2
        cases e2
      refine ⟨fun a u e q => fm.keep a u e fun z => q ?_, ⟨fun a u e m => fm.sub.h a u (cutB_sub e) m, fun a e => ?_⟩, fun a u e => ?_, ⟨fun a u k e hm => (mk2 a u k e hm).elim, fun a b u w k e _ hm => (mk2 a u k e hm).elim, fun k c e => by rw [hn1] at e; cases e⟩, o.fm.sub.t, (fun a u e => by
        rw [cutB_in fun z => by rw [show G a = some u from e] at z; cases z.1]
        exact fm.old a u (sG a u e)), fun a e q => cutB_out q e, fun a b e => ?_⟩
      · rcases z with z | ⟨w, e2, m⟩
        · exact .inl z
        · have e' : G1 a = some w := e2
          cases hm : mkOf w with
          | none => unfold isMk at m; rw [hm] at m; cases m
          | some k => exact (mk1 a w k e' hm).elim
      · cases ec : cutB H G G' a with
        | none => rfl
        | some u => have := cutB_sub ec; rw [fm.sub.t a e] at this; cases this
      · rw [cutB_in fun z => by rw [show G a = some u from e] at z; cases z.1]
        exact fm.old a u (sG a u e)
      · obtain ⟨dk, b1, b2, b3, b4⟩ := fm.deck a b e
        obtain ⟨dk', c1, c2, c3, c4⟩ := o.fm.deck a b e
        exact ⟨dk, b1, b2, o.fm.new a c1 c3, o.fm.new b c2 c4⟩
    exact ⟨Fm.back o (.inr rfl) fm2, lst⟩
variable [Calm m] [Plain m]
theorem ej_rd {e : Expr} {x : m D} (h : EJ X EX e (lendG g) x) : EJ X EX e g (x >>= fun d => Mo.lift (flatO d)) :=
  PE.weak h fun σ H Q ⟨B, G, n, φ, ξ, o, s, q, xw⟩ => by
    obtain ⟨hn0, s⟩ := Plain.plain s
    obtain ⟨G1, o1, back⟩ := o.lend hn0
    refine ⟨⟨H, G1, B.dk, G1⟩, G1, n, _, fun _ _ => False, o1, Calm.calm (Mo.sat_bind s), fun v H' G' d n' o' g' dv s' => ?_, fun _ _ _ _ _ _ _ z => z.elim⟩
    obtain ⟨z, ez, pz⟩ := Mo.sat_lift s'
    obtain ⟨rfl, hz⟩ := flatO_eq ez
    obtain ⟨⟨o2, g2⟩, hl⟩ := back H' G' n' pz.1 o'.fm
    exact q v H' _ _ n' o2 g2 (dv.cut hl hz) pz.2
theorem tj_rd {e : Expr} {x : m Bool} (h : TJ X EX e (lendG g) x) : TJ X EX e g x :=
  PT.weak h fun σ H Q ⟨B, G, n, φ, ξ, o, s, q, xw⟩ => by
    obtain ⟨hn0, s⟩ := Plain.plain s
    obtain ⟨G1, o1, back⟩ := o.lend hn0
    refine ⟨⟨H, G1, B.dk, G1⟩, G1, n, _, fun _ _ => False, o1, Calm.calm s, fun b H' G' n' o' g' p => ?_, fun _ _ _ _ _ _ _ z => z.elim⟩
    obtain ⟨⟨o2, g2⟩, _⟩ := back H' G' n' p.1 o'.fm
    exact q b H' _ n' o2 g2 p.2
def flatsO (ds : List D) : Option (List D) := if noLs ds = true then some ds else none
end
/-! ### new lists by operations -/
section
variable {m : Type → Type} [Mo m] {X : Cx} {EX : XR} {g : List Sl}
def repO (ds : List D) (k : D) : Option (List D) := match k with
  | .int k => if 0 ≤ k ∧ k ≤ 1000 ∧ ds.length ≤ 1000 then some (List.replicate k.toNat ds).flatten else none
  | _ => none
def listOnly : D → Option (List D)
  | .list ds => some ds
  | _ => none
/-- range(..) as what list() takes -/
def lrgO1 : D → Option (List D)
  | .int j => if 0 ≤ j ∧ j ≤ 1000000 then some (rangeL 0 j.toNat) else none
  | _ => none
abbrev repM (x : m (List D)) (y : m D) : m (List D) := (x >>= fun ds => pure (PyData.list ds)) >>= fun d => y >>= fun k => Mo.lift ((listOnly d).bind fun ds => repO ds k)
abbrev lrg1M (x : m D) : m (List D) := x >>= fun d => Mo.lift (lrgO1 d)
abbrev par3M (x y z : m D) : m (D × D × D) := x >>= fun d => y >>= fun e => z >>= fun f => pure (d, e, f)
abbrev rdM (x : m D) : m D := x >>= fun d => Mo.lift (flatO d)
abbrev rdLM (x : m (List D)) : m (List D) := x >>= fun ds => Mo.lift (flatsO ds)
end
def addI : D → D → Option D := intD2 fun i j => some (.int (i + j))
def subI : D → D → Option D := intD2 fun i j => some (.int (i - j))
section
variable {m : Type → Type} [Mo m] {X : Cx} {EX : XR} {g : List Sl}
/-- as ej_var, the slot looked up by the kernel -/
theorem ej_vk (i : Nat) {x : Str} {pos : Pos} {d : D} (hs : g[i]? = some (Sl.val d) := by kernel_rfl) (hN : X.N[i]? = some x := by rfl) (hv : Vis X.env.scope x := by first | exact Or.inl rfl | exact Or.inr (Or.inl rfl) | exact Or.inr (Or.inr rfl)) (hd : (x == ("__debug__" : Str)) = false := by decide)
    (hcd : (x == ("__classdict__" : Str)) = false := by decide) : EJ (m := m) X EX (.Name x pos) g (pure d) := ej_var i hs hN hv hd hcd
theorem aj_dk (i : Nat) {x : Str} {pos : Pos} {es : List Expr} {y : m (List Sl)} (hr : AJ X EX es g y) (hg : g[i]? = some Sl.deck := by kernel_rfl) (hN : X.N[i]? = some x := by rfl) (hv : Vis X.env.scope x := by first | exact Or.inl rfl | exact Or.inr (Or.inl rfl) | exact Or.inr (Or.inr rfl))
    (hd : (x == ("__debug__" : Str)) = false := by decide) (hcd : (x == ("__classdict__" : Str)) = false := by decide) (hs : starEach (.Name x pos :: es) X.env = (false, eval (.Name x pos) X.env) :: starEach es X.env := by rfl) : AJ X EX (.Name x pos :: es) g (y >>= fun as => pure (.deck :: as)) := aj_deck i hr hg hN hv hd hcd hs
end
end DD
namespace DD
open PySem PySem.Spec PyProof.Rows L2
/-! ### mirrors without draws, by equations -/
class MoL (m : Type → Type) [Mo m] : Prop where
  pb : ∀ {α β : Type} (a : α) (f : α → m β), ((pure a : m α) >>= f) = f a
  as : ∀ {α β γ : Type} (x : m α) (f : α → m β) (g : β → m γ), ((x >>= f) >>= g) = (x >>= fun a => f a >>= g)
  ls : ∀ {α : Type} (a : α), (Mo.lift (some a) : m α) = pure a
theorem wl_some {α : Type} (a : α) : (Mo.lift (some a) : W α) = Pure.pure a := by
  funext n φ
  exact propext ⟨fun ⟨b, e, h⟩ => by cases e; exact h, fun h => ⟨a, rfl, h⟩⟩
instance : MoL W := ⟨fun _ _ => rfl, fun _ _ _ => rfl, wl_some⟩
instance : MoL Option := ⟨fun _ _ => rfl, fun x f g => by cases x <;> rfl, fun _ => rfl⟩
section
variable {m : Type → Type} [Mo m] [MoL m] {A γ : Type}
theorem lcA_mapP {f : D → m D} {F G : γ → D} : ∀ (xs : List γ) (acc : List D), (∀ x ∈ xs, f (F x) = pure (G x)) → lcA (fun d => someM (f d)) (xs.map F) acc = pure (acc ++ xs.map G)
  | [], acc, _ => by simp [lcA]
  | x :: xs, acc, h => by
    show (someM (f (F x)) >>= fun o => lcA (fun d => someM (f d)) (xs.map F) (acc ++ o.toList)) = _
    unfold someM
    rw [h x List.mem_cons_self, MoL.pb, MoL.pb]
    have := lcA_mapP xs (acc ++ [G x]) fun y hy => h y (List.mem_cons_of_mem _ hy)
    unfold someM at this
    show lcA _ (xs.map F) (acc ++ [G x]) = _
    rw [this]
    simp
theorem lcA_filtP {f : D → m D} {t : D → m Bool} {F G : γ → D} {p : γ → Bool} : ∀ (xs : List γ) (acc : List D), (∀ x ∈ xs, t (F x) = pure (p x)) → (∀ x ∈ xs, p x = true → f (F x) = pure (G x)) → lcA (fun d => ifM (t d) (f d)) (xs.map F) acc = pure (acc ++ (xs.filter p).map G)
  | [], acc, _, _ => by simp [lcA]
  | x :: xs, acc, h, h2 => by
    show (ifM (t (F x)) (f (F x)) >>= fun o => lcA (fun d => ifM (t d) (f d)) (xs.map F) (acc ++ o.toList)) = _
    have ih := fun acc => lcA_filtP xs acc (fun y hy => h y (List.mem_cons_of_mem _ hy)) fun y hy => h2 y (List.mem_cons_of_mem _ hy)
    have e : ifM (t (F x)) (f (F x)) = pure (if p x = true then some (G x) else none) := by
      unfold ifM someM
      rw [h x List.mem_cons_self, MoL.pb]
      cases hp : p x with
      | true => simp only [if_true]; rw [h2 x List.mem_cons_self hp, MoL.pb]
      | false => rfl
    rw [e, MoL.pb, ih]
    cases hp : p x <;> simp [hp]
theorem lcA_map2 {f : D → D → m D} {F Ga Gb G : γ → D} (hF : ∀ x, F x = .tuple [Ga x, Gb x]) (xs : List γ) (acc : List D) (h : ∀ x ∈ xs, f (Ga x) (Gb x) = pure (G x)) : lcA (fun d => pairM d fun a b => someM (f a b)) (xs.map F) acc = pure (acc ++ xs.map G) := by
  induction xs generalizing acc with
  | nil => simp [lcA]
  | cons x xs ih =>
    show (pairM (F x) (fun a b => someM (f a b)) >>= fun o => lcA (fun d => pairM d fun a b => someM (f a b)) (xs.map F) (acc ++ o.toList)) = _
    have e : pairM (F x) (fun a b => someM (f a b)) = pure (some (G x)) := by
      rw [hF]
      show someM (f (Ga x) (Gb x)) = _
      unfold someM
      rw [h x List.mem_cons_self, MoL.pb]
    rw [e, MoL.pb, ih _ fun y hy => h y (List.mem_cons_of_mem _ hy)]
    simp
theorem lcA_filt2 {f : D → D → m D} {t : D → D → m Bool} {F Ga Gb G : γ → D} {p : γ → Bool} (hF : ∀ x, F x = .tuple [Ga x, Gb x]) (xs : List γ) (acc : List D) (h : ∀ x ∈ xs, t (Ga x) (Gb x) = pure (p x)) (h2 : ∀ x ∈ xs, p x = true → f (Ga x) (Gb x) = pure (G x)) : lcA (fun d => pairM d fun a b => ifM (t a b) (f a b)) (xs.map F) acc = pure (acc ++ (xs.filter p).map G) := by
  induction xs generalizing acc with
  | nil => simp [lcA]
  | cons x xs ih =>
    show (pairM (F x) (fun a b => ifM (t a b) (f a b)) >>= fun o => lcA (fun d => pairM d fun a b => ifM (t a b) (f a b)) (xs.map F) (acc ++ o.toList)) = _
    have e : pairM (F x) (fun a b => ifM (t a b) (f a b)) = pure (if p x = true then some (G x) else none) := by
      rw [hF]
      show ifM (t (Ga x) (Gb x)) (f (Ga x) (Gb x)) = _
      unfold ifM someM
      rw [h x List.mem_cons_self, MoL.pb]
      cases hp : p x with
      | true => simp only [if_true]; rw [h2 x List.mem_cons_self hp, MoL.pb]
      | false => rfl
    rw [e, MoL.pb, ih _ (fun y hy => h y (List.mem_cons_of_mem _ hy)) fun y hy => h2 y (List.mem_cons_of_mem _ hy)]
    cases hp : p x <;> simp [hp]
theorem loop_same {f : D → A → m (Fl A)} {a : A} : ∀ xs : List D, (∀ x ∈ xs, f x a = pure (.nx a)) → loopM f xs a = pure (.nx a)
  | [], _ => rfl
  | x :: xs, h => by
    show (f x a >>= fun z => match z with | .nx a' => loopM f xs a' | .rt v => pure (.rt v)) = _
    rw [h x List.mem_cons_self, MoL.pb]
    exact loop_same xs fun y hy => h y (List.mem_cons_of_mem _ hy)
end
theorem Tri.stE {α β : Type} {d : Nat} {x : W α} {a : α} {f : α → W β} {χ : β → Prop} (e : x = Pure.pure a) (h : Tri d (f a) χ) : Tri d (x >>= f) χ := by
  rw [e]
  exact h
theorem bindE {m : Type → Type} [Mo m] [MoL m] {α β : Type} {x : m α} {a : α} {f : α → m β} {y : m β} (e : x = pure a) (h : f a = y) : (x >>= f) = y := by
  rw [e, MoL.pb]
  exact h
/-! ### operations on data of known shape -/
theorem add_int (a b : Int) : addD (.int a) (.int b) = some (.int (a + b)) := rfl
theorem sub_int (a b : Int) : subD (.int a) (.int b) = some (.int (a - b)) := rfl
theorem lt_int (a b : Int) : ltD (.int a) (.int b) = some (.bool (decide (a < b))) := rfl
theorem le_int (a b : Int) : leD (.int a) (.int b) = some (.bool (decide (a ≤ b))) := rfl
theorem gt_int (a b : Int) : gtD (.int a) (.int b) = some (.bool (decide (b < a))) := rfl
theorem ge_int (a b : Int) : geD (.int a) (.int b) = some (.bool (decide (b ≤ a))) := rfl
theorem eq_int (a b : Int) : eqD (.int a) (.int b) = some (.bool (a == b)) := rfl
theorem ne_int (a b : Int) : neD (.int a) (.int b) = some (.bool (!(a == b))) := rfl
theorem min_int (a b : Int) : min2D (.int a) (.int b) = some (.int (min a b)) := by
  show some (PyData.int (if b < a then b else a)) = _
  congr 2
  omega
theorem max_int (a b : Int) : max2D (.int a) (.int b) = some (.int (max a b)) := by
  show some (PyData.int (if b > a then b else a)) = _
  congr 2
  omega
theorem neg_int (a : Int) : negD (.int a) = some (.int (-a)) := rfl
theorem bool_bool (b : Bool) : boolD (.bool b) = some b := rfl
theorem not_bool (b : Bool) : notD (.bool b) = some (.bool (!b)) := rfl
theorem is_none (d : D) : isD d .none = some (.bool (isNone d)) := rfl
theorem isn_none (d : D) : isnD d .none = some (.bool (!isNone d)) := rfl
theorem nn_int (i : Int) : isNone (.int i) = false := rfl
theorem nn_none : isNone .none = true := rfl
theorem nn_tup (xs : List D) : isNone (.tuple xs) = false := rfl
theorem len_tup (xs : List D) : lenD (.tuple xs) = some (.int xs.length) := rfl
theorem len_lst (xs : List D) : lenD (.list xs) = some (.int xs.length) := rfl
theorem tup_lst (xs : List D) : tupleD (.list xs) = some (.tuple xs) := rfl
theorem tup_tup (xs : List D) : tupleD (.tuple xs) = some (.tuple xs) := rfl
theorem it_lst (xs : List D) : itemsD (.list xs) = some xs := rfl
theorem it_tup (xs : List D) : itemsD (.tuple xs) = some xs := rfl
theorem int_bool (b : Bool) : intD (.bool b) = some (.int (if b then 1 else 0)) := rfl
theorem int_int (i : Int) : intD (.int i) = some (.int i) := rfl
theorem oint_int (i : Int) : oint (.int i) = some (some i) := rfl
theorem addI_int (a b : Int) : addI (.int a) (.int b) = some (.int (a + b)) := rfl
theorem subI_int (a b : Int) : subI (.int a) (.int b) = some (.int (a - b)) := rfl
theorem fits_ok {k : Nat} (h : k < 1000000) : fits k = some () := by unfold fits; rw [if_pos h]
theorem mul_int {a b : Int} (h : (-(2 ^ 64) < a ∧ a < 2 ^ 64) ∨ (-(2 ^ 64) < b ∧ b < 2 ^ 64)) : mulD (.int a) (.int b) = some (.int (a * b)) := by
  show (if a.natAbs < 2 ^ 64 ∨ b.natAbs < 2 ^ 64 then some (PyData.int (a * b)) else none) = _
  rw [if_pos (by omega)]
theorem add_tup {a b : List D} (h : a.length + b.length ≤ 1000000) : addD (.tuple a) (.tuple b) = some (.tuple (a ++ b)) := by
  show (small (a ++ b)).map PyData.tuple = _
  rw [small_ok (by rw [List.length_append]; exact h)]
  rfl
theorem add_lst {a b : List D} (h : a.length + b.length ≤ 1000000) : addD (.list a) (.list b) = some (.list (a ++ b)) := by
  show (small (a ++ b)).map PyData.list = _
  rw [small_ok (by rw [List.length_append]; exact h)]
  rfl
theorem enum_map {γ : Type} (F : γ → D) (xs : List γ) : enumL (xs.map F) = xs.zipIdx.map fun p => .tuple [.int (p.2 : Nat), F p.1] := by
  unfold enumL
  rw [List.zipIdx_map, List.map_map]
  rfl
theorem zip_map {γ δ : Type} {F : γ → D} {G : δ → D} {xs : List γ} {ys : List δ} (h : xs.length ≤ ys.length) : zipD [.tuple (xs.map F), .tuple (ys.map G)] = some ((xs.zip ys).map fun p => .tuple [F p.1, G p.2]) := by
  rw [zipD_old (r := xs.map F) (rs := [ys.map G]) rfl (by simp) fun x hx => by rw [List.mem_singleton.mp hx]; simpa using h]
  congr 1
  refine List.ext_getElem (by simp; omega) fun i h1 h2 => ?_
  have hi : i < xs.length := by simpa using h1
  have hj : i < ys.length := by omega
  simp [List.getD, hi, hj]
theorem get_tup {γ : Type} {F : γ → D} {xs : List γ} {i : Nat} (h : i < xs.length) : getD (.tuple (xs.map F)) (.int (i : Nat)) = some (F xs[i]) := by
  refine atI_at rfl ?_
  rw [List.getElem?_map, List.getElem?_eq_getElem h]
  rfl
theorem max_tI {r : List Int} {v : Int} (e : r.max? = some v) : maxD (tI r) = some (.int v) := by
  show (intsD (r.map .int)).bind (fun ns => ns.max?.map PyData.int) = _
  rw [ints_of]
  show r.max?.map PyData.int = _
  rw [e]
  rfl
theorem max_lI {r : List Int} {v : Int} (e : r.max? = some v) : maxD (.list (r.map .int)) = some (.int v) := max_tI e
theorem bools_of {γ : Type} {p : γ → Bool} : ∀ xs : List γ, bools (xs.map fun x => PyData.bool (p x)) = some (xs.map p)
  | [] => rfl
  | x :: xs => by
    show (bools (xs.map fun x => PyData.bool (p x))).map (p x :: ·) = _
    rw [bools_of xs]
    rfl
theorem all_map {γ : Type} {p : γ → Bool} (xs : List γ) : allD (.list (xs.map fun x => .bool (p x))) = some (.bool (xs.all p)) := by
  show (bools (xs.map fun x => PyData.bool (p x))).map _ = _
  rw [bools_of]
  simp [Function.comp_def]
theorem any_map {γ : Type} {p : γ → Bool} (xs : List γ) : anyD (.list (xs.map fun x => .bool (p x))) = some (.bool (xs.any p)) := by
  show (bools (xs.map fun x => PyData.bool (p x))).map _ = _
  rw [bools_of]
  simp [Function.comp_def]
/-! slices -/
theorem sIx_at {n d : Nat} {j : Int} (h0 : 0 ≤ j) (h : j ≤ n) : HT.sIx n d (some j) = j.toNat := by
  show (if j < 0 then (j + (n : Int)).toNat else min j.toNat n) = _
  rw [if_neg (by omega)]
  omega
/-! no list within -/
theorem noL_map {γ : Type} {F : γ → D} : ∀ xs : List γ, (∀ x ∈ xs, noL (F x) = true) → noLs (xs.map F) = true
  | [], _ => rfl
  | x :: xs, h => by
    show (noL (F x) && noLs (xs.map F)) = true
    rw [h x List.mem_cons_self, noL_map xs fun y hy => h y (List.mem_cons_of_mem _ hy)]
    rfl
theorem noL_ints (r : List Int) : noLs (r.map .int) = true := noL_map r fun _ _ => rfl
theorem flat_ok {d : D} (h : noL d = true) : flatO d = some d := by unfold flatO; rw [if_pos h]
theorem flat_tI (r : List Int) : flatO (tI r) = some (tI r) := flat_ok (noL_ints r)
theorem flat_int (i : Int) : flatO (.int i) = some (.int i) := rfl
theorem flat_none : flatO .none = some .none := rfl
theorem put_at {ds : List D} {i : Nat} {d : D} (h : i < ds.length) : putD ds (.int (i : Nat)) d = some (ds.set i d) := by
  show (ixN ds.length (i : Nat)).map (fun j => ds.set j d) = _
  rw [ixN_at rfl h]
  rfl
/-! ### what repr can show: n nodes, depth k -/
structure Sm (n k : Nat) (d : D) : Prop where
  b : smallB d = true
  n : nodes d ≤ n
  k : d.depth ≤ k
structure SmA (n k : Nat) (ds : List D) : Prop where
  b : smallAll ds = true
  n : nodesAll ds ≤ n
  k : PyData.depthAll ds ≤ k
theorem Sm.le {n k n' k' : Nat} {d : D} (h : Sm n k d) (hn : n ≤ n') (hk : k ≤ k') : Sm n' k' d := ⟨h.b, Nat.le_trans h.n hn, Nat.le_trans h.k hk⟩
theorem Sm.int {i : Int} (h : i.natAbs < 10 ^ 20) : Sm 1 0 (.int i) := ⟨decide_eq_true h, Nat.le_refl _, by simp [PyData.depth]⟩
theorem Sm.str {x : Str} (h : PyData.strOk x = true) (h2 : (PyData.str x).shown.length ≤ 28) : Sm 1 0 (.str x) := ⟨by show (PyData.strOk x && decide ((PyData.str x).shown.length ≤ 28)) = true; rw [h, decide_eq_true h2]; rfl, Nat.le_refl _, by simp [PyData.depth]⟩
theorem Sm.none : Sm 1 0 .none := ⟨rfl, Nat.le_refl _, by simp [PyData.depth]⟩
theorem Sm.bool (b : Bool) : Sm 1 0 (.bool b) := ⟨rfl, Nat.le_refl _, by simp [PyData.depth]⟩
theorem SmA.nil : SmA 0 0 [] := ⟨rfl, Nat.le_refl _, by simp [PyData.depthAll]⟩
theorem SmA.cons {n k n' k' : Nat} {d : D} {ds : List D} (h : Sm n k d) (t : SmA n' k' ds) : SmA (n + n') (max k k') (d :: ds) :=
  ⟨by show (smallB d && smallAll ds) = true; rw [h.b, t.b]; rfl, by show nodes d + nodesAll ds ≤ _; have := h.n; have := t.n; omega, by show max d.depth (PyData.depthAll ds) ≤ _; have := h.k; have := t.k; omega⟩
theorem SmA.map {γ : Type} {n k : Nat} {F : γ → D} : ∀ xs : List γ, (∀ x ∈ xs, Sm n k (F x)) → SmA (xs.length * n) k (xs.map F)
  | [], _ => ⟨rfl, by simp [nodesAll], by simp [PyData.depthAll]⟩
  | x :: xs, h => by
    have := SmA.cons (h x List.mem_cons_self) (SmA.map xs fun y hy => h y (List.mem_cons_of_mem _ hy))
    exact ⟨this.b, by have := this.n; rw [List.length_cons, Nat.succ_mul]; simp only [List.map_cons]; omega, by have := this.k; simp only [List.map_cons]; omega⟩
theorem SmA.le {n k n' k' : Nat} {ds : List D} (h : SmA n k ds) (hn : n ≤ n') (hk : k ≤ k') : SmA n' k' ds := ⟨h.b, Nat.le_trans h.n hn, Nat.le_trans h.k hk⟩
theorem SmA.tup {n k : Nat} {ds : List D} (h : SmA n k ds) : Sm (n + 1) (k + 1) (.tuple ds) := ⟨h.b, by show nodesAll ds + 1 ≤ _; have := h.n; omega, by show PyData.depthAll ds + 1 ≤ _; have := h.k; omega⟩
theorem SmA.lst {n k : Nat} {ds : List D} (h : SmA n k ds) : Sm (n + 1) (k + 1) (.list ds) := ⟨h.b, by show nodesAll ds + 1 ≤ _; have := h.n; omega, by show PyData.depthAll ds + 1 ≤ _; have := h.k; omega⟩
mutual
theorem lay_small : ∀ d : D, smallB d = true → d.canLay0 = true
  | .none, _ => rfl
  | .bool _, _ => rfl
  | .int _, _ => rfl
  | .str x, h => by
    have h' : PyData.strOk x = true ∧ (PyData.str x).shown.length ≤ 28 := by
      have : (PyData.strOk x && decide ((PyData.str x).shown.length ≤ 28)) = true := h
      simpa using this
    exact h'.1
  | .list xs, h => layA_small xs h
  | .tuple xs, h => layA_small xs h
  | .dict _, h => by cases h
theorem layA_small : ∀ xs : List D, smallAll xs = true → PyData.canLayAll0 xs = true
  | [], _ => rfl
  | x :: xs, h => by
    have h' : smallB x = true ∧ smallAll xs = true := by
      have : (smallB x && smallAll xs) = true := h
      simpa using this
    show (x.canLay0 && PyData.canLayAll0 xs) = true
    rw [lay_small x h'.1, layA_small xs h'.2]
    rfl
end
theorem Sm.shaped {n k : Nat} {d : D} (h : Sm n k d) (hk : k ≤ 64) : SeqAt.shaped d = true := by
  unfold SeqAt.shaped
  rw [lay_small d h.b, Bool.true_and]
  exact decide_eq_true (Nat.le_trans h.k hk)
/-! data without bools and dicts: == is equality -/
mutual
def noB : D → Bool
  | .bool _ => false
  | .dict _ => false
  | .list xs => noBs xs
  | .tuple xs => noBs xs
  | _ => true
def noBs : List D → Bool
  | [] => true
  | x :: xs => noB x && noBs xs
end
mutual
theorem eqv_iff : ∀ a b : D, noB a = true → noB b = true → (PyData.eqv a b = true ↔ a = b) := fun a b ha hb => by
  cases a with
  | none => cases b <;> simp [PyData.eqv, noB] at *
  | bool x => cases ha
  | int x => cases b <;> simp [PyData.eqv, noB] at *
  | str x => cases b <;> simp [PyData.eqv, noB] at *
  | list xs => cases b with
    | list ys => simp only [PyData.eqv, PyData.list.injEq]; exact eqvAll_iff xs ys ha hb
    | _ => simp [PyData.eqv]
  | tuple xs => cases b with
    | tuple ys => simp only [PyData.eqv, PyData.tuple.injEq]; exact eqvAll_iff xs ys ha hb
    | _ => simp [PyData.eqv]
  | dict x => cases ha
theorem eqvAll_iff : ∀ xs ys : List D, noBs xs = true → noBs ys = true → (PyData.eqvAll xs ys = true ↔ xs = ys) := fun xs ys ha hb => by
  cases xs with
  | nil => cases ys <;> simp [PyData.eqvAll]
  | cons x xs => cases ys with
    | nil => simp [PyData.eqvAll]
    | cons y ys =>
      have h1 : noB x = true ∧ noBs xs = true := by
        have : (noB x && noBs xs) = true := ha
        simpa using this
      have h2 : noB y = true ∧ noBs ys = true := by
        have : (noB y && noBs ys) = true := hb
        simpa using this
      simp only [PyData.eqvAll, Bool.and_eq_true, List.cons.injEq]
      rw [eqv_iff x y h1.1 h2.1, eqvAll_iff xs ys h1.2 h2.2]
end
theorem eqv_self {a : D} (ha : noB a = true) : PyData.eqv a a = true := (eqv_iff a a ha ha).mpr rfl
/-! the first index -/
end DD
namespace DD
open PySem PySem.Spec PyProof.Rows L2
theorem ob_assoc {α β γ : Type} (x : Option α) (f : α → Option β) (g : β → Option γ) : ((x >>= f) >>= g) = (x >>= fun a => f a >>= g) := by cases x <;> rfl
theorem Tri.pr {α : Type} {d : Nat} {a : α} {φ : α → Prop} (h : φ a) : Tri d (Pure.pure a : W α) φ := (Tri.pure h).le (Nat.zero_le _)
/-! ### other draws -/
section
variable {K : PySem.W.Frag} {De : Ends} {H : Hp} {a b : Addr} {n : Nat} {many : Int} {cells : List Int} {c : Int}
/-- variant 3 (k35 ..) -/
def mix3 (K : PySem.W.Frag) : TE := tOp rMod (tOp rMod (tOp rPow (tOp rPlus (tOp rPlus (tOp rMod (tVar 2) (tC (.int 2147483587))) (tOp rTimes (tC (.int 7919)) (dIx K 1))) (tC (.int 1))) (tC (.int 5))) (tC (.int 2147483647))) (tVar 1)
theorem mixes3 : Mixes K (mix3 K) := by
  intro a b many cell ix c H Q h1 m0 m1 p0 c0 cn q
  have r0 : 0 ≤ cell % 2147483587 := Int.emod_nonneg _ (by decide)
  have r1 : cell % 2147483587 < 2147483587 := Int.emod_lt_of_pos _ (by decide)
  refine ⟨.int cell, rfl, cell, 2147483587, rfl, rfl, (show (0 : Int) < 2147483587 by decide), .ref a, rfl, a, _, 1, .int c, rfl, rfl, SqL.of h1, rfl, 7919, c, rfl, rfl, .inl ⟨by decide, by decide⟩, _, _, rfl, rfl, _, 1, rfl, rfl, _, 5, rfl, rfl, ⟨by decide, by decide, ?_⟩, _, 2147483647, rfl, rfl, (show (0 : Int) < 2147483647 by decide), .int many, rfl, _, many, rfl, rfl, m0, ?_⟩
  · omega
  · exact q _ (Int.emod_nonneg _ (by omega)) (Int.emod_lt_of_pos _ m0)
def drawT3 (K : PySem.W.Frag) : TS := tSeq (drawInc K) (tSeq (tAsg (tC (.int 0)) (gName 2)) (tSeq (tAsg (tUn (rU fun i => .int (-i)) (tC (.int 1))) (gName 3)) (tSeq (drawMid K) (drawTail K (mix3 K)))))
theorem draw3_ok (dk : DeckAt H a b n) (m0 : 0 < many) (m1 : many < 1073741824) (hn : n < 2 ^ 40) (q : ∀ (r : Int) (H' : Hp), 0 ≤ r → r < many → DeckAt H' a b (n + 1) → (∀ z o, z ≠ a → z ≠ b → H z = some o → H' z = some o) → De.rt (.int r) H') :
    drawT3 K De [some (.ref a), some (.int many), none, none] H := by
  refine inc_ok dk fun cells c H1 h1 h2 hab c0 c1 hc h63 hk => ?_
  refine ⟨1, rfl, ?_⟩
  refine mid_ok h1 h2 c0 hc fun cell ix p0 p1 => ?_
  exact tail_ok mixes3 h1 h2 hab c0 c1 (by omega) hc h63 m0 m1 p0 p1 fun r H' r0 r1 dk' hk' => q r H' r0 r1 dk' fun z o za zb e => hk' z o za zb (hk z o za zb e)
end
end DD
namespace DD
open PySem PySem.Spec PyProof.Rows L2
/-! ### x in c, x not in c: data of any depth -/
theorem units65 {A : Around} {k : Nat} (h : Room k A) : A.units + 65 < cLine := by
  have := h.un
  omega
def laidIn (d : D) (xs : List D) : Bool := SeqAt.shaped d && PyData.canLayAll0 xs
/-- a list of texts -/
def strsOf : List D → Option (List Str)
  | [] => some []
  | .str x :: ds => (strsOf ds).map (x :: ·)
  | _ :: _ => none
def inStr : D → List D → Option Bool
  | .str x, xs => (strsOf xs).map fun ss => decide (x ∈ ss)
  | _, _ => none
def inD : D → D → Option D
  | d, .list xs => if laidIn d xs = true then some (.bool (xs.any fun y => PyData.eqv y d)) else (inStr d xs).map fun b => .bool b
  | d, .tuple xs => if laidIn d xs = true then some (.bool (xs.any fun y => PyData.eqv y d)) else (inStr d xs).map fun b => .bool b
  | _, _ => none
def ninD : D → D → Option D
  | d, .list xs => if laidIn d xs = true then some (.bool (!xs.any fun y => PyData.eqv y d)) else (inStr d xs).map fun b => .bool !b
  | d, .tuple xs => if laidIn d xs = true then some (.bool (!xs.any fun y => PyData.eqv y d)) else (inStr d xs).map fun b => .bool !b
  | _, _ => none
def rInA (K : PySem.W.Frag) : R2 := fun x y H Q => ∃ d e xs, Da K H x d ∧ Da K H y e ∧ (e = .list xs ∨ e = .tuple xs) ∧ laidIn d xs = true ∧ Q (.bl (xs.any fun y => PyData.eqv y d)) H
def rNinA (K : PySem.W.Frag) : R2 := fun x y H Q => ∃ d e xs, Da K H x d ∧ Da K H y e ∧ (e = .list xs ∨ e = .tuple xs) ∧ laidIn d xs = true ∧ Q (.bl (!xs.any fun y => PyData.eqv y d)) H
theorem strs_da {K : PySem.W.Frag} {G : Hp} : ∀ {ds : List D} {ss : List Str} {vs : List V}, DaAll K G vs ds → strsOf ds = some ss → vs = ss.map V.str
  | [], ss, _, .nil, e => by cases e; rfl
  | .str x :: ds, ss, _, .cons h hs, e => by
    obtain ⟨ss', e', rfl⟩ := Option.map_eq_some_iff.mp (show (strsOf ds).map (x :: ·) = some ss from e)
    cases h
    rw [strs_da hs e']
    rfl
  | .none :: _, _, _, .cons _ _, e => by cases e
  | .bool _ :: _, _, _, .cons _ _, e => by cases e
  | .int _ :: _, _, _, .cons _ _, e => by cases e
  | .list _ :: _, _, _, .cons _ _, e => by cases e
  | .tuple _ :: _, _, _, .cons _ _, e => by cases e
  | .dict _ :: _, _, _, .cons _ _, e => by cases e
theorem inV_str (x : Str) (ss : List Str) : inV (.str x) (ss.map V.str) = decide (x ∈ ss) := by
  unfold inV
  rw [List.any_map, Bool.eq_iff_iff, List.any_eq_true, decide_eq_true_eq]
  constructor
  · rintro ⟨y, hy, h⟩
    have : (y == x) = true := h
    rw [← eq_of_beq this]
    exact hy
  · intro h
    exact ⟨x, h, beq_self_eq_true x⟩
theorem flat_strs (ss : List Str) : (ss.map V.str).all flatV = true := by
  rw [List.all_map, List.all_eq_true]
  intro x _
  rfl
section
variable {X : Cx} {K : PySem.W.Frag}
theorem op_inA (hy : Sys X) (hu : X.A.units + 65 < cLine) : OpR X (compareOp .In) (rInA X.K) := by
  intro pins s σ H x y v u Q I rx ry h
  obtain ⟨d, e, xs, hd, he, hk, hl, q⟩ := h
  unfold laidIn at hl
  rw [Bool.and_eq_true] at hl
  obtain ⟨as, r1, _⟩ := Da.reads hy I d x v hd (ok_canLay d (SeqAt.canLay_of_shaped hl.1)) rx
  obtain ⟨bs, r2, _⟩ := Da.reads hy I e y u he (by rcases hk with rfl | rfl <;> exact ok_canLays xs hl.2) ry
  rcases hk with rfl | rfl
  · exact SeqAt.in_list_reads r2 r1 hl.2 (SeqAt.canLay_of_shaped hl.1) (room_in_shaped hl.1 hu) ⟨.bl _, H, I, rfl, q⟩
  · exact SeqAt.in_tuple_reads r2 r1 hl.2 (SeqAt.canLay_of_shaped hl.1) (room_in_shaped hl.1 hu) ⟨.bl _, H, I, rfl, q⟩
theorem op_ninA (hy : Sys X) (hu : X.A.units + 65 < cLine) : OpR X (compareOp .NotIn) (rNinA X.K) := by
  intro pins s σ H x y v u Q I rx ry h
  obtain ⟨d, e, xs, hd, he, hk, hl, q⟩ := h
  unfold laidIn at hl
  rw [Bool.and_eq_true] at hl
  obtain ⟨as, r1, _⟩ := Da.reads hy I d x v hd (ok_canLay d (SeqAt.canLay_of_shaped hl.1)) rx
  obtain ⟨bs, r2, _⟩ := Da.reads hy I e y u he (by rcases hk with rfl | rfl <;> exact ok_canLays xs hl.2) ry
  rcases hk with rfl | rfl
  · exact SeqAt.notIn_list_reads r2 r1 hl.2 (SeqAt.canLay_of_shaped hl.1) (room_in_shaped hl.1 hu) ⟨.bl _, H, I, rfl, q⟩
  · exact SeqAt.notIn_tuple_reads r2 r1 hl.2 (SeqAt.canLay_of_shaped hl.1) (room_in_shaped hl.1 hu) ⟨.bl _, H, I, rfl, q⟩
theorem op_inB (hy : Sys X) (hu : X.A.units + 65 < cLine) : OpR X (compareOp .In) (orR (rInA X.K) (rIn X.K false)) := op_or (op_inA hy hu) op_in_seq
theorem op_ninB (hy : Sys X) (hu : X.A.units + 65 < cLine) : OpR X (compareOp .NotIn) (orR (rNinA X.K) (rIn X.K true)) := op_or (op_ninA hy hu) op_notIn_seq
theorem instr_da {G H : Hp} {x y : V} {dx : D} {xs : List D} {k : Bool} (hs : SubM G H) (hx : Da K G x dx) (hy : Da K G y (.list xs) ∨ Da K G y (.tuple xs)) (e : inStr dx xs = some k) : ∃ p ys, y = .ref p ∧ (SqL K H p ys ∨ SqT K H p ys) ∧ flatV x = true ∧ ys.all flatV = true ∧ inV x ys = k := by
  unfold inStr at e
  split at e
  · rename_i s
    obtain ⟨ss, es, rfl⟩ := Option.map_eq_some_iff.mp e
    cases hx
    rcases hy with hy | hy
    · obtain ⟨a, ys, rfl, ha, da⟩ := hy.toL
      obtain rfl := strs_da da es
      exact ⟨a, _, rfl, .inl (.of (hs.h _ _ ha rfl)), rfl, flat_strs ss, inV_str s ss⟩
    · obtain ⟨a, ys, rfl, ha, da⟩ := hy.toT
      obtain rfl := strs_da da es
      exact ⟨a, _, rfl, .inr (sameT hs ha), rfl, flat_strs ss, inV_str s ss⟩
  · cases e
theorem rd_in : RD K (orR (rInA K) (rIn K false)) inD := by
  intro x y dx dy z H G Q hx hy hs e q
  unfold inD at e
  split at e
  all_goals first
    | (split at e
       · rename_i h; cases e; have hl := h; unfold laidIn at hl; rw [Bool.and_eq_true] at hl; exact .inl ⟨_, _, _, hx.toH hs (ok_canLay _ (SeqAt.canLay_of_shaped hl.1)), hy.toH hs (ok_canLays _ hl.2), by first | exact .inl rfl | exact .inr rfl, h, q _ H G (Gr.refl hs) (.bl _)⟩
       · obtain ⟨k, hk, rfl⟩ := Option.map_eq_some_iff.mp e
         obtain ⟨p, ys, r1, r2, r3, r4, r5⟩ := instr_da hs hx (by first | exact .inl hy | exact .inr hy) hk
         exact .inr ⟨p, ys, r1, r2, r3, r4, by rw [r5]; exact q _ H G (Gr.refl hs) (.bl _)⟩)
    | cases e
theorem rd_nin : RD K (orR (rNinA K) (rIn K true)) ninD := by
  intro x y dx dy z H G Q hx hy hs e q
  unfold ninD at e
  split at e
  all_goals first
    | (split at e
       · rename_i h; cases e; have hl := h; unfold laidIn at hl; rw [Bool.and_eq_true] at hl; exact .inl ⟨_, _, _, hx.toH hs (ok_canLay _ (SeqAt.canLay_of_shaped hl.1)), hy.toH hs (ok_canLays _ hl.2), by first | exact .inl rfl | exact .inr rfl, h, q _ H G (Gr.refl hs) (.bl _)⟩
       · obtain ⟨k, hk, rfl⟩ := Option.map_eq_some_iff.mp e
         obtain ⟨p, ys, r1, r2, r3, r4, r5⟩ := instr_da hs hx (by first | exact .inl hy | exact .inr hy) hk
         exact .inr ⟨p, ys, r1, r2, r3, r4, by rw [r5]; exact q _ H G (Gr.refl hs) (.bl _)⟩)
    | cases e
end
/-! ### [e for x in it for y in it2] -/
section
variable {m : Type → Type} [Mo m]
def lc2B (f : D → m D) : List D → List D → m (List D)
  | [], acc => pure acc
  | e :: r, acc => f e >>= fun z => Mo.lift (fits acc.length) >>= fun _ => lc2B f r (acc ++ [z])
def lc2A (y : D → m (List D)) (f : D → D → m D) : List D → List D → m (List D)
  | [], acc => pure acc
  | d :: r, acc => y d >>= fun es => lc2B (f d) es acc >>= fun acc => lc2A y f r acc
variable [Calm m] {X : Cx} {EX : XR} {g : List Sl}
abbrev comp11 (x : m (List D)) (y : D → m (List D)) (f : D → D → m D) : m (List D) := x >>= fun ds => Mo.lift (small ds) >>= fun ds => lc2A y f ds []
end
/-! rows -/
theorem get_row {rows : List (List Int)} {d : Nat} (h : d < rows.length) : DD.getD (tT rows) (.int (d : Nat)) = some (tI (rows.getD d [])) := by
  have := get_tup (F := tI) h
  rw [this]
  simp [List.getD, h]
theorem row_len {rows : List (List Int)} {k d : Nat} (hl : ∀ r ∈ rows, r.length = k) (h : d < rows.length) : (rows.getD d []).length = k := by
  simp [List.getD, h]
  exact hl _ (List.getElem_mem h)
theorem cut_loA {r : List D} {j : Int} (h0 : 0 ≤ j) : sliceD (.tuple r) none (some j) = some (.tuple (r.take j.toNat)) := by
  show some (PyData.tuple (cutD r none (some j))) = _
  unfold cutD
  have e : HT.sIx r.length r.length (some j) = min j.toNat r.length := by
    show (if j < 0 then (j + (r.length : Int)).toNat else min j.toNat r.length) = _
    rw [if_neg (by omega)]
  rw [e, HT.sIx_none, List.drop_zero, Nat.sub_zero]
  congr 2
  rw [List.take_eq_take_iff]
  omega
/-! ### defs that call themselves -/
theorem fng_none {m : Type → Type} [Mo m] {P : Program} {w : World} {K : PySem.W.Frag} {mg : Str → Option Value} {base : Heap} {k : Nat} {f : Addr} {fd : FuncData} {ps : List Str} {M : List Sl → m D} (h : ∀ as n φ, ¬ Mo.sat (M as) n φ (fun _ _ => False)) : FnG P w K mg base k f fd ps (spJ K M) :=
  ⟨fun _ _ _ _ ⟨_, n, _, as, φ, _, _, s, _⟩ => (h as n φ s).elim, fun _ _ _ _ _ _ _ _ _ _ _ _ _ _ ⟨_, n, _, as, φ, _, _, s, _⟩ => (h as n φ s).elim⟩
theorem no_lift {m : Type → Type} [Mo m] {n : Wd} {φ : D → Wd → Prop} {ξ : Exn → Wd → Prop} : ¬ Mo.sat (Mo.lift none : m D) n φ ξ := fun h => by
  obtain ⟨_, e, _⟩ := Mo.sat_lift h
  cases e
/-- drawn wishes: one to four rows of k ints, none all zero -/
structure Wishes (k : Nat) (m : Int) (rows : List (List Int)) : Prop where
  one : 1 ≤ rows.length
  four : rows.length ≤ 4
  len : ∀ r ∈ rows, r.length = k
  ge : ∀ r ∈ rows, ∀ x ∈ r, 0 ≤ x ∧ x ≤ m
  pos : ∀ r ∈ rows, ∃ x ∈ r, 0 < x
theorem Wishes.take {k : Nat} {m : Int} {rows : List (List Int)} (w : Wishes k m rows) {n : Nat} (h : 1 ≤ n) : Wishes k m (rows.take n) :=
  ⟨by have := w.one; rw [List.length_take]; omega, by have := w.four; rw [List.length_take]; omega, fun r hr => w.len r (List.mem_of_mem_take hr), fun r hr => w.ge r (List.mem_of_mem_take hr), fun r hr => w.pos r (List.mem_of_mem_take hr)⟩
/-- a drawn stock -/
structure Stk (m : Int) (k : Nat) (rows : List (List Int)) : Prop where
  one : 1 ≤ rows.length
  four : rows.length ≤ 4
  k1 : 1 ≤ k
  k4 : k ≤ 4
  len : ∀ r ∈ rows, r.length = k
  ge : ∀ r ∈ rows, ∀ x ∈ r, 0 ≤ x ∧ x ≤ m
theorem liE {m : Type → Type} [Mo m] [MoL m] {α : Type} {o : Option α} {a : α} (e : o = some a) : (Mo.lift o : m α) = pure a := by rw [e, MoL.ls]
/-! ### is, is not of bools -/
/-! ### for with three names -/
section
variable {m : Type → Type} [Mo m] {A : Type} {X : Cx} {EX : XR} {g : List Sl}
def tripM {α : Type} (d : D) (f : D → D → D → m α) : m α := match d with
  | .tuple [a, b, c] => f a b c
  | _ => Mo.lift none
abbrev forM3 (x : m (List D)) (a0 : A) (b : D → D → D → A → m (Fl A)) : m (Fl A) := x >>= fun ds => loopM (fun d a => tripM d fun u w v => b u w v a) ds a0
end
end DD
namespace DD
open PySem PySem.Spec PyProof.Rows
/-! ### t[::-1] of a tuple -/
section
variable {prog : Program} {w : World} {A : Around} {E : Value → Shared → Prop} {s : Shared}
theorem sliceApplied_rev {sl : Addr} {vl vu vs : Value} {n : Nat} {Q : Int × Int × Nat → Shared → Prop} (hs : s.heap.IsSliceOf sl vl vu vs) (pl : IsPart vl none) (pu : IsPart vu none) (ps : IsPart vs (some (-1)))
    (h : Q ((n : Int) - 1, -1, n) s) : wpAny (model prog w) A (Builtin.Slice.sliceApplied (.ref sl) (pure (n : Int))) Q E s := by
  obtain ⟨os, hos, hcs, hds⟩ := id hs
  unfold Builtin.Slice.sliceApplied Builtin.Slice.sliceFields
  refine wpAny_bind (wpAny_bind (wpAny_field hos hds (x := vl) rfl (wpAny_bind (wpAny_field hos hds (x := vu) rfl (wpAny_bind (wpAny_field hos hds (x := vs) rfl (wpAny_pure ?_)))))))
  refine wpAny_bind (HT.slicePart_ ps ?_)
  show wpAny _ _ (if ((-1 : Int) == 0) = true then _ else _) _ _ s
  rw [if_neg (by decide)]
  refine wpAny_bind (HT.slicePart_ pl (wpAny_bind (HT.slicePart_ pu (wpAny_bind (wpAny_pure ?_)))))
  show wpAny _ _ (pure ((n : Int) - 1, (-1 : Int), Builtin.Slice.slicePlaces ((n : Int) - 1) (-1) (-1))) _ _ s
  have e : Builtin.Slice.slicePlaces ((n : Int) - 1) (-1) (-1) = n := by
    unfold Builtin.Slice.slicePlaces
    rw [if_neg (by decide), show (- (-1) : Int) = 1 from rfl, Int.ediv_one]
    split <;> omega
  rw [e]
  exact wpAny_pure h
theorem fmap_congr {α β : Type} {f g : α → Option β} : ∀ l : List α, (∀ x ∈ l, f x = g x) → l.filterMap f = l.filterMap g
  | [], _ => rfl
  | x :: l, h => by rw [List.filterMap_cons, List.filterMap_cons, h x List.mem_cons_self, fmap_congr l fun y hy => h y (List.mem_cons_of_mem _ hy)]
theorem pick_rev (xs : Array Value) : ((List.range xs.size).filterMap fun (m : Nat) => xs[(((xs.size : Int) - 1) + (m : Int) * (-1)).toNat]?).toArray = xs.toList.reverse.toArray := by
  congr 1
  have e : ∀ m ∈ List.range xs.size, xs[(((xs.size : Int) - 1) + (m : Int) * (-1)).toNat]? = xs.toList.reverse[m]? := fun m hm => by
    have hm' := List.mem_range.mp hm
    rw [show (((xs.size : Int) - 1) + (m : Int) * (-1)).toNat = xs.size - 1 - m by omega, List.getElem?_reverse (by simpa using hm')]
    simp
  rw [fmap_congr _ e]
  have : ∀ (l : List Value), (List.range l.length).filterMap (fun m => l[m]?) = l := by
    intro l
    induction l with
    | nil => rfl
    | cons x l ih =>
      rw [List.length_cons, List.range_succ_eq_map, List.filterMap_cons]
      simp only [List.getElem?_cons_zero, List.filterMap_map, Function.comp_def, List.getElem?_cons_succ]
      rw [ih]
  have h2 := this xs.toList.reverse
  rw [List.length_reverse, Array.length_toList] at h2
  exact h2
theorem getItem_tuple_rev {t sl : Addr} {items : Array Value} {vl vu vs : Value} {Q : Value → Shared → Prop} (ht : IsTup s.heap t items) (hs : s.heap.IsSliceOf sl vl vu vs) (pl : IsPart vl none) (pu : IsPart vu none) (ps : IsPart vs (some (-1)))
    (h : Q (.ref s.heap.objs.size) { s with heap := s.heap.push { cls := .type "tuple", data := .seq items.toList.reverse.toArray } })
    (hsz : items.size ≤ sizeLine) : wpAny (model prog w) A (getItem (.ref t) (.ref sl)) Q E s := by
  have htake : sizeOk (.seq items.toList.reverse.toArray) := by
    show items.toList.reverse.toArray.size ≤ sizeLine
    rw [List.size_toArray, List.length_reverse, Array.length_toList]
    exact hsz
  obtain ⟨os, hos, hcs, hds⟩ := id hs
  have hTs : s.TypeIs (.ref sl) "slice" := ⟨os, hos, hcs⟩
  unfold getItem
  try with_reducible refine wpAny_holding ?_
  first | refine wpAny_bind (wpAny_pure ?_) | skip
  refine wpAny_bind (wpAny_sequenceKey ht.typeIs (by decide) ?_)
  refine wpAny_bind (wpAny_callSpecial?_slot (name := Str.ofString "__getitem__") ht.typeIs PyProof.Rows.slot_tuple_getitem
    (wpAny_call_entry PyProof.Rows.slot_tuple_getitem ht.typeIs PyProof.Rows.entry_tuple_getitem ?_ (PyProof.Rows.args_tuple_getitem _ _)))
  show wpAny _ _ (Builtin.Tuple.tupleItemsOf (.ref t) >>= _) _ _ s
  refine wpAny_bind (tupleItemsOf_ ht ?_)
  refine wpAny_bind (wpAny_typeOf hTs ?_)
  rw [if_pos (by decide)]
  refine wpAny_bind (sliceApplied_rev hs pl pu ps ?_)
  have hno : ¬ ((((items.size : Int) - 1) == 0 && (-1 : Int) == 1 && items.size == items.size) = true) := by simp
  show wpAny _ _ (if (((items.size : Int) - 1) == 0 && (-1 : Int) == 1 && items.size == items.size) = true then _ else _) _ _ s
  rw [if_neg hno, pick_rev]
  first
    | exact wpAny_bind (m := Builtin.Tuple.tupleExact _) (wpAny_newObj_type (wpAny_pure ⟨_, rfl, wpAny_pure h⟩) htake)
    | exact wpAny_bind (m := Builtin.Tuple.tupleExact _) (wpAny_newObj_type (wpAny_bind (wpAny_pure (wpAny_pure ⟨_, rfl, wpAny_pure h⟩))) htake)
    | exact wpAny_bind (wpAny_bind (m := Builtin.Tuple.tupleExact _) (wpAny_newObj_type (wpAny_pure (wpAny_pure ⟨_, rfl, wpAny_pure h⟩)) htake))
    | exact wpAny_bind (wpAny_bind (m := Builtin.Tuple.tupleExact _) (wpAny_newObj_type (wpAny_pure ⟨_, rfl, wpAny_pure h⟩) htake))
end
open L2
section
variable {X : Cx}
def tRevT (K : PySem.W.Frag) (te : TE) : TE := fun σ H Q => te σ H fun x H1 => ∃ a xs, x = .ref a ∧ ((SqL K H1 a xs ∧ ∀ p, H1 p = none → Q (.ref p) (upd H1 p (.lst xs.reverse))) ∨ (SqT K H1 a xs ∧ ∀ p, H1 p = none → Q (.ref p) (upd H1 p (.tup xs.reverse))))
theorem pe_revT {e : Expr} {te : TE} {k : Nat} {p1 p2 p3 pos : Pos} (he : PE X e te) : PE X (.Subscript e (.Slice none none (some (.UnaryOp .USub (.Constant (.int 1) k p1) p2)) p3) pos) (tRevT X.K te) := by
  refine ⟨fun pins s σ H Q I h => ?_⟩
  refine Subscript_ (thn (he.run pins s σ H _ I h) fun v s1 ⟨x, H1, I1, r1, q1⟩ => ?_)
  obtain ⟨a, xs, ex, hq⟩ := q1
  subst ex
  cases r1
  have hst : PO X (some (.UnaryOp .USub (.Constant (.int 1) k p1) p2)) (tPart (tUn (rU fun i => .int (-i)) (tC (.int 1)))) := po_some (pe_un un_neg pe_int)
  refine wpAny_Slice (thn (po_none.run pins s1 σ H1 (fun o H2 => o = none ∧ H2 = H1) I1 ⟨rfl, rfl⟩) fun vl s2 ⟨l, H2, I2, pl, el, e2⟩ => ?_)
  subst el e2
  refine thn (po_none.run pins s2 σ H2 (fun o H3 => o = none ∧ H3 = H2) I2 ⟨rfl, rfl⟩) fun vu s3 ⟨u, H3, I3, pu, eu, e3⟩ => ?_
  subst eu e3
  refine thn (hst.run pins s3 σ H3 (fun o H4 => o = some (-1) ∧ H4 = H3) I3 ⟨1, rfl, -1, rfl, rfl, rfl⟩) fun vs s4 ⟨o, H4, I4, ps, eo, e4⟩ => ?_
  subst eo e4
  have I5 : Inv X pins σ H4 { s4 with heap := s4.heap.push { cls := .type "slice", data := .fields #[vl, vu, vs] } } := I4.kept (t' := s4.toks) fun b ob q => Heap.get?_push_of_some _ q
  show wpAny (model X.prog X.w) X.A (subscriptTail e (.Slice none none (some (.UnaryOp .USub (.Constant (.int 1) k p1) p2)) p3) (.ref a) (.ref s4.heap.objs.size)) (EP X pins σ Q) X.xe { s4 with heap := s4.heap.push { cls := .type "slice", data := .fields #[vl, vu, vs] } }
  rcases hq with ⟨hx, q⟩ | ⟨hx, q⟩
  · obtain ⟨its, r, ht, hz⟩ := I5.list hx
    have hlen := r.length
    refine tail_any (ops := [.ref a, .ref s4.heap.objs.size]) ht.isList.typeIs (PySem.slot_list_getitem.lookup) ?_ (by with_unfolding_all rfl)
    refine wpAny_getItem_list_slice ht.isList (Heap.IsSliceOf.new _ vl vu vs) pl pu ps (by decide) ?_ (by rw [List.size_toArray]; omega)
    rw [PySem.W.krv_pick]
    refine ⟨.ref _, _, I5.laid (t' := s4.toks) (o := .lst xs.reverse) (fun b ob q => Heap.get?_push_of_some _ q) (Nat.le_refl _) ?_, rfl, q _ (I5.hok.fresh (Nat.le_refl _))⟩
    exact ⟨by rw [List.length_reverse]; exact hz, _, 0, r.reverse, Heap.get?_push_size _ rfl⟩
  · obtain ⟨its, r, ht, hz⟩ := I5.tuple hx
    have hlen := r.length
    refine tail_any (ops := [.ref a, .ref s4.heap.objs.size]) ht.typeIs (PyProof.Rows.slot_tuple_getitem.lookup) ?_ (by with_unfolding_all rfl)
    refine getItem_tuple_rev ht (Heap.IsSliceOf.new _ vl vu vs) pl pu ps ?_ (by rw [List.size_toArray]; omega)
    refine ⟨.ref _, _, I5.laid (t' := s4.toks) (o := .tup xs.reverse) (fun b ob q => Heap.get?_push_of_some _ q) (Nat.le_refl _) ?_, rfl, q _ (I5.hok.fresh (Nat.le_refl _))⟩
    exact ⟨by rw [List.length_reverse]; exact hz, _, r.reverse, IsTup.new _ _⟩
end
def revD : D → Option D
  | .list xs => some (.list xs.reverse)
  | .tuple xs => some (.tuple xs.reverse)
  | _ => none
/-- str of an int -/
def strD : D → Option D
  | .int i => if i.natAbs < 10 ^ 60 then some (.str (Str.ofString (toString i))) else none
  | .str x => some (.str x)
  | _ => none
theorem log60 {i : Int} (h : i.natAbs < 10 ^ 60) : i.natAbs.log2 < 1920 := by
  by_cases h0 : i.natAbs = 0
  · rw [h0]; decide
  · exact Nat.lt_of_lt_of_le ((Nat.log2_lt h0).mpr (Nat.lt_of_lt_of_le h (show 10 ^ 60 ≤ 2 ^ 200 by decide))) (by decide)
section
variable {m : Type → Type} [Mo m] {X : Cx} {EX : XR} {g : List Sl} {K : PySem.W.Frag}
theorem ej_rev {e : Expr} {k : Nat} {p1 p2 p3 pos : Pos} {x : m D} (h : EJ X EX e g x) : EJ X EX (.Subscript e (.Slice none none (some (.UnaryOp .USub (.Constant (.int 1) k p1) p2)) p3) pos) g (x >>= fun d => Mo.lift (revD d)) :=
  (pe_revT h).weak fun σ H Q ⟨B, G, n, φ, ξ, o, s, q, xw⟩ => te_one o s (fun v H1 G1 d n1 o1 g1 d1 s1 => by
    obtain ⟨z, ez, pz⟩ := Mo.sat_lift s1
    unfold revD at ez
    split at ez
    · cases ez
      obtain ⟨a, xs, rfl, ha, da⟩ := d1.toL
      refine ⟨a, xs, rfl, .inl ⟨.of (o1.fm.sub.h _ _ ha rfl), fun p hp => ?_⟩⟩
      obtain ⟨o2, g2⟩ := o1.alloc (u := .lst xs.reverse) hp
      exact q _ _ _ _ n1 o2 (g1.trans g2) (.lst upd_same (da.reverse.mono g2)) pz
    · cases ez
      obtain ⟨a, xs, rfl, ha, da⟩ := d1.toT
      refine ⟨a, xs, rfl, .inr ⟨sameT o1.fm.sub ha, fun p hp => ?_⟩⟩
      obtain ⟨o2, g2⟩ := o1.alloc (u := .tup xs.reverse) hp
      exact q _ _ _ _ n1 o2 (g1.trans g2) (.tup (.inl (.inl upd_same)) (da.reverse.mono g2)) pz
    · cases ez) xw
theorem rc_str : RC1 K (callOr (fun xs H Q => ∃ i : Int, xs = [V.int i] ∧ i.natAbs.log2 < 1920 ∧ Q (.str (toString i)) H) (fun xs H Q => ∃ a, xs = [V.str a] ∧ Q (.str a) H)) strD := by
  intro x dx z H G Q hx hs e q
  unfold strD at e
  split at e
  · split at e
    · rename_i hi
      cases e
      cases hx
      exact .inl ⟨_, rfl, log60 hi, q _ H G (Gr.refl hs) (.str _)⟩
    · cases e
  · cases e
    cases hx
    exact .inr ⟨_, rfl, q _ H G (Gr.refl hs) (.str _)⟩
  · cases e
theorem call_strD : CallR X (.type "str") (callOr (fun xs H Q => ∃ i : Int, xs = [V.int i] ∧ i.natAbs.log2 < 1920 ∧ Q (.str (toString i)) H) (fun xs H Q => ∃ a, xs = [V.str a] ∧ Q (.str a) H)) := call_or call_str_int SkE.call_str_str
/-- xs + ys of lists: a new list -/
def catO : D → D → Option (List D)
  | .list a, .list b => if a.length + b.length ≤ 1000000 then some (a ++ b) else none
  | _, _ => none
end
section
variable {m : Type → Type} [Mo m] {X : Cx} {EX : XR} {g : List Sl}
abbrev par3LM (x : m (List D)) (y z : m D) : m (List D × D × D) := x >>= fun d => y >>= fun e => z >>= fun f => pure (d, e, f)
abbrev put2M (ds : List D) (x1 x2 z1 : m D) (z2 : List D → m D) : m (List D) := x1 >>= fun a => x2 >>= fun b => z1 >>= fun j1 => Mo.lift (putD ds j1 a) >>= fun es => z2 es >>= fun j2 => Mo.lift (putD es j2 b)
abbrev catM (x y : m D) : m (List D) := x >>= fun d => y >>= fun e => Mo.lift (catO d e)
end
/-! ### sep.join(texts) -/
def strOnly : D → Option Str
  | .str x => some x
  | _ => none
def joinD (a : Str) (d : D) : Option D := (itemsD d).bind fun xs => (strsOf xs).bind fun ss => if (ss.map (·.length)).sum + ss.length * a.length ≤ 1000000 then some (.str (Str.join a ss)) else none
section
variable {m : Type → Type} [Mo m] {X : Cx} {EX : XR} {g : List Sl}
abbrev joinM (x y : m D) : m D := x >>= fun a => Mo.lift (strOnly a) >>= fun s => y >>= fun d => Mo.lift (joinD s d)
theorem ej_join {o e : Expr} {apos pos : Pos} {x y : m D} (ho : EJ X EX o g x) (he : EJ X EX e g y) (hs : starEach [e] X.env = [(false, eval e X.env)] := by rfl) (hbase : attributeBase o "join" X.env (eval o X.env) = eval o X.env := by rfl) (hline : (apos.endLine == pos.line) = true := by rfl) :
    EJ X EX (.Call (.Attribute o "join" apos) [e] [] pos) g (joinM x y) :=
  (pe_join ho he hs hbase hline).weak fun σ H Q ⟨B, G, n, φ, ξ, o, s, q, xw⟩ => te_one o s (fun v H1 G1 a n1 o1 g1 d1 s1 => by
    obtain ⟨st, es, ps⟩ := Mo.sat_lift (Mo.sat_bind s1)
    cases a with
    | str x0 =>
      obtain rfl : x0 = st := Option.some.inj es
      obtain rfl := d1.toS
      refine ⟨⟨_, rfl⟩, te_one o1 ps (fun w H2 G2 d n2 o2 g2 d2 s2 => ?_) xw⟩
      obtain ⟨z, ez, pz⟩ := Mo.sat_lift s2
      obtain ⟨xs, e1, e2⟩ := Option.bind_eq_some_iff.mp ez
      obtain ⟨ss, e3, e4⟩ := Option.bind_eq_some_iff.mp e2
      split at e4
      · rename_i hl
        cases e4
        obtain ⟨p, vs, ev, sq, da⟩ := d2.seq e1
        obtain rfl := strs_da da e3
        refine ⟨x0, p, ss, rfl, by rw [ev], ?_, by omega, ?_⟩
        · rcases sq with sq | sq
          · exact .inr (sameT o2.fm.sub sq)
          · exact .inl (o2.fm.sub.seq sq)
        · rw [TL.join_eq]
          exact q _ H2 G2 _ n2 o2 (g1.trans g2) (.str _) pz
      · cases e4
    | _ => cases es) xw
end
/-! ### repr of any data: n nodes, depth k; dicts of constants -/
mutual
def repB : D → Bool
  | .none => true
  | .bool _ => true
  | .int i => decide (i.natAbs < 10 ^ 60)
  | .str x => decide ((PyData.str x).shown.length ≤ 250)
  | .list xs => repAll xs
  | .tuple xs => repAll xs
  | .dict kvs => decide ((PyData.dict kvs).shown.length ≤ 90) && (PyData.dict kvs).showable && decide ((PyData.dict kvs).depth ≤ 1)
def repAll : List D → Bool
  | [] => true
  | x :: xs => repB x && repAll xs
end
/-- what repr can show: n nodes, depth k -/
structure Rp (n k : Nat) (d : D) : Prop where
  b : repB d = true
  n : nodes d ≤ n
  k : d.depth ≤ k
structure RpA (n k : Nat) (ds : List D) : Prop where
  b : repAll ds = true
  n : nodesAll ds ≤ n
  k : PyData.depthAll ds ≤ k
theorem Rp.le {n k n' k' : Nat} {d : D} (h : Rp n k d) (hn : n ≤ n') (hk : k ≤ k') : Rp n' k' d := ⟨h.b, Nat.le_trans h.n hn, Nat.le_trans h.k hk⟩
theorem Rp.int {i : Int} (h : i.natAbs < 10 ^ 60) : Rp 1 0 (.int i) := ⟨decide_eq_true h, Nat.le_refl _, by simp [PyData.depth]⟩
theorem Rp.none : Rp 1 0 .none := ⟨rfl, Nat.le_refl _, by simp [PyData.depth]⟩
theorem Rp.bool (b : Bool) : Rp 1 0 (.bool b) := ⟨rfl, Nat.le_refl _, by simp [PyData.depth]⟩
theorem Rp.str {x : Str} (h : (PyData.str x).shown.length ≤ 250) : Rp 1 0 (.str x) := ⟨decide_eq_true h, Nat.le_refl _, by simp [PyData.depth]⟩
theorem RpA.nil : RpA 0 0 [] := ⟨rfl, Nat.le_refl _, by simp [PyData.depthAll]⟩
theorem RpA.cons {n k n' k' : Nat} {d : D} {ds : List D} (h : Rp n k d) (t : RpA n' k' ds) : RpA (n + n') (max k k') (d :: ds) :=
  ⟨by show (repB d && repAll ds) = true; rw [h.b, t.b]; rfl, by show nodes d + nodesAll ds ≤ _; have := h.n; have := t.n; omega, by have := h.k; have := t.k; simp only [PyData.depthAll]; omega⟩
theorem RpA.map {γ : Type} {n k : Nat} {F : γ → D} : ∀ xs : List γ, (∀ x ∈ xs, Rp n k (F x)) → RpA (xs.length * n) k (xs.map F)
  | [], _ => ⟨rfl, by simp [nodesAll], by simp [PyData.depthAll]⟩
  | x :: xs, h => by
    have := RpA.cons (h x List.mem_cons_self) (RpA.map xs fun y hy => h y (List.mem_cons_of_mem _ hy))
    exact ⟨this.b, by have := this.n; rw [List.length_cons, Nat.succ_mul]; simp only [List.map_cons]; omega, by have := this.k; simp only [List.map_cons]; omega⟩
theorem RpA.le {n k n' k' : Nat} {ds : List D} (h : RpA n k ds) (hn : n ≤ n') (hk : k ≤ k') : RpA n' k' ds := ⟨h.b, Nat.le_trans h.n hn, Nat.le_trans h.k hk⟩
theorem RpA.tup {n k : Nat} {ds : List D} (h : RpA n k ds) : Rp (n + 1) (k + 1) (.tuple ds) := ⟨h.b, by show nodesAll ds + 1 ≤ _; have := h.n; omega, by show PyData.depthAll ds + 1 ≤ _; have := h.k; omega⟩
theorem RpA.lst {n k : Nat} {ds : List D} (h : RpA n k ds) : Rp (n + 1) (k + 1) (.list ds) := ⟨h.b, by show nodesAll ds + 1 ≤ _; have := h.n; omega, by show PyData.depthAll ds + 1 ≤ _; have := h.k; omega⟩
theorem Rp.all {n k : Nat} {d : D} {ds : List D} (h : Rp n k d) (e : d = .tuple ds ∨ d = .list ds) : RpA (n - 1) (k - 1) ds := by
  rcases e with rfl | rfl
  · exact ⟨h.b, by have : nodesAll ds + 1 ≤ n := h.n; omega, by have : PyData.depthAll ds + 1 ≤ k := h.k; omega⟩
  · exact ⟨h.b, by have : nodesAll ds + 1 ≤ n := h.n; omega, by have : PyData.depthAll ds + 1 ≤ k := h.k; omega⟩
theorem nodes_pos (d : D) : 1 ≤ nodes d := by cases d <;> simp [nodes]
theorem RpA.len {n k : Nat} : ∀ {ds : List D}, RpA n k ds → ds.length ≤ n
  | [], _ => Nat.zero_le _
  | x :: xs, h => by
    have hn : nodes x + nodesAll xs ≤ n := h.n
    have hb : repB x = true ∧ repAll xs = true := by
      have : (repB x && repAll xs) = true := h.b
      simpa using this
    have hk : max x.depth (PyData.depthAll xs) ≤ k := by have := h.k; simpa only [PyData.depthAll] using this
    have := RpA.len (n := n - 1) (k := k) (ds := xs) ⟨hb.2, by have := nodes_pos x; omega, by omega⟩
    have := nodes_pos x
    simp only [List.length_cons]
    omega
theorem repAll_append : ∀ (a b : List D), repAll (a ++ b) = (repAll a && repAll b)
  | [], b => rfl
  | x :: a, b => by show (repB x && repAll (a ++ b)) = _; rw [repAll_append a b, ← Bool.and_assoc]; rfl
theorem nodesAll_append : ∀ (a b : List D), nodesAll (a ++ b) = nodesAll a + nodesAll b
  | [], b => by simp [nodesAll]
  | x :: a, b => by show nodes x + nodesAll (a ++ b) = nodes x + nodesAll a + nodesAll b; rw [nodesAll_append a b]; omega
theorem depthAll_append : ∀ (a b : List D), PyData.depthAll (a ++ b) = max (PyData.depthAll a) (PyData.depthAll b)
  | [], b => by simp [PyData.depthAll]
  | x :: a, b => by rw [List.cons_append]; simp only [PyData.depthAll]; rw [depthAll_append a b]; omega
theorem RpA.append {n k n' k' : Nat} {a b : List D} (h : RpA n k a) (t : RpA n' k' b) : RpA (n + n') (max k k') (a ++ b) :=
  ⟨by rw [repAll_append, h.b, t.b]; rfl, by rw [nodesAll_append]; have := h.n; have := t.n; omega, by rw [depthAll_append]; have := h.k; have := t.k; omega⟩
theorem RpA.part {n k : Nat} {a b c : List D} (h : RpA n k (a ++ b ++ c)) : RpA n k b := by
  have h1 := h.b
  have h2 := h.n
  have h3 := h.k
  rw [repAll_append, repAll_append] at h1
  rw [nodesAll_append, nodesAll_append] at h2
  rw [depthAll_append, depthAll_append] at h3
  simp only [Bool.and_eq_true] at h1
  exact ⟨h1.1.2, by omega, by omega⟩
theorem RpA.take {n k : Nat} {ds : List D} (h : RpA n k ds) (i : Nat) : RpA n k (ds.take i) := RpA.part (a := []) (c := ds.drop i) (by rw [List.nil_append, List.take_append_drop]; exact h)
theorem RpA.drop {n k : Nat} {ds : List D} (h : RpA n k ds) (i : Nat) : RpA n k (ds.drop i) := RpA.part (a := ds.take i) (c := []) (by rw [List.append_nil, List.take_append_drop]; exact h)
theorem RpA.reverse {n k : Nat} : ∀ {ds : List D}, RpA n k ds → RpA n k ds.reverse
  | [], h => h
  | x :: xs, h => by
    rw [List.reverse_cons]
    have h1 := h.b
    have h2 : nodes x + nodesAll xs ≤ n := h.n
    have h3 : max x.depth (PyData.depthAll xs) ≤ k := by have := h.k; simpa only [PyData.depthAll] using this
    have hb : repB x = true ∧ repAll xs = true := by
      have : (repB x && repAll xs) = true := h1
      simpa using this
    have ih := RpA.reverse (ds := xs) (n := nodesAll xs) (k := k) ⟨hb.2, Nat.le_refl _, by omega⟩
    have := ih.append (RpA.cons (n := nodes x) (k := k) (d := x) ⟨hb.1, Nat.le_refl _, by omega⟩ RpA.nil)
    exact this.le (by omega) (by omega)
end DD
namespace DD
open PySem PySem.Spec PyProof.Rows L2
section
variable {m : Type → Type} [Mo m] {X : Cx} {EX : XR} {g : List Sl}
/-- what pop takes out, and what is left -/
def popD (ds : List D) (k : D) : Option (D × List D) := match k with
  | .int j => if 0 ≤ j ∧ j < 2 ^ 62 then (ds[j.toNat]?).map fun d => (d, ds.eraseIdx j.toNat) else none
  | _ => none
theorem DaAll.eraseIdx {K : PySem.W.Frag} {G : Hp} : ∀ {vs : List V} {ds : List D} (n : Nat), DaAll K G vs ds → DaAll K G (vs.eraseIdx n) (ds.eraseIdx n)
  | _, _, _, .nil => .nil
  | _, _, 0, .cons _ b => b
  | _, _, n + 1, .cons a b => .cons a (DaAll.eraseIdx n b)
abbrev popM (fs ds : List D) (x : m D) : m (D × List D) := x >>= fun k => Mo.lift (popD fs k) >>= fun p => Mo.lift (fits ds.length) >>= fun _ => pure p
abbrev parLV (x : m (List D)) (y : m D) : m (List D × D) := x >>= fun d => y >>= fun e => pure (d, e)
abbrev putVM (ds : List D) (x1 x2 zk : m D) : m (List D × D) := x1 >>= fun a => x2 >>= fun b => zk >>= fun j1 => Mo.lift (putD ds j1 a) >>= fun es => pure (es, b)
end
/-! ### sorted of ints -/
end DD
namespace DD
open PySem PySem.Spec PyProof.Rows L2 StX
/-! ### a, *b = t -/
theorem tail_walk {prog : Program} {w : World} {A : Around} (hh : A.handled = none) (I ax : Addr) (hne : ax ≠ I) (items : Array Value) (h1 : 1 ≤ items.size) :
    Walks prog w A I [I, ax] [I] (items.size - 1) (fun i v => items[i + 1]? = some v) (fun i h => h.IsTupleIter I ax (i + 1) ∧ h.IsTuple ax items) where
  sub := (Walks.tuple (prog := prog) (w := w) (A := A) hh I ax hne items).sub
  frame := fun i h h' st => (Walks.tuple (prog := prog) (w := w) (A := A) hh I ax hne items).frame (i + 1) h h' st
  item := fun i s Q E hi st hQ => (Walks.tuple (prog := prog) (w := w) (A := A) hh I ax hne items).item (i + 1) s Q E (by omega) st hQ
  done := fun s Q E st hQ => (Walks.tuple (prog := prog) (w := w) (A := A) hh I ax hne items).done s Q E (by rw [show items.size - 1 + 1 = items.size by omega] at st; exact st) hQ
  self := fun i s Q E st hQ => (Walks.tuple (prog := prog) (w := w) (A := A) hh I ax hne items).self (i + 1) s Q E st hQ
section
variable {X : Cx}
theorem pg_star {x y : Str} {px py ps pos : Pos} {k : Nat} {t : TGs} (hc : X.calm = true) (h : PGs X [.Name x px, .Name y py] t) :
    PG X (.Tuple [.Name x px, .Starred (.Name y py) ps] k pos) (fun v σ H Q => ∃ a z xs, v = .ref a ∧ SqT X.K H a (z :: xs) ∧ ∀ l, H l = none → t [z, .ref l] σ (upd H l (.lst xs)) Q) := by
  refine ⟨fun pins s σ H v u Q I r hw => ?_⟩
  obtain ⟨a, z, xs, e1, hq, hw⟩ := hw
  subst e1
  cases r
  obtain ⟨its, rv, ht, hz⟩ := I.tuple hq
  have hh := I.ok.hd hc
  cases rv with
  | @cons z' u0 xs' us r0 rr =>
  have ht : s.heap.IsTuple a (u0 :: us).toArray := ht
  have hlt : a ≠ s.heap.objs.size := by obtain ⟨o, ho, _⟩ := ht; exact Nat.ne_of_lt (Heap.lt_size ho)
  rw [arm_assign_Tuple]
  refine wpAny_bind (wpAny_standAt ?_)
  show wpAny _ _ (assignInOrder ((assignEach [.Name x px, .Name y py] X.env).map (·.2)) =<< holding [.ref a] (unpackItems (.ref a) 2 (some 1))) _ _ s
  refine wpAny_bind (wpAny_holding ?_)
  unfold unpackItems
  unfold notIterableAtAll
  refine wpAny_bind (wpAny_bind (wpAny_specialOf ht.typeIs F.slot_tuple_iter.lookup ?_))
  refine wpAny_pure ?_
  simp only [Bool.false_eq_true, if_false]
  refine wpAny_bind (wpAny_holding (wpAny_pyIter_tuple ht ?_))
  refine wpAny_bind (wpAny_holding (wpAny_draw_tuple hlt 1 0 _ _ ⟨_, Heap.get?_push_size _ rfl, rfl, rfl⟩ (ht.push _) (by simp) fun h₁ hit₁ hs₁ => ?_))
  have hf : List.take 1 (List.drop 0 (u0 :: us).toArray.toList) = [u0] := rfl
  rw [hf, if_neg (by simp)]
  have W := (tail_walk (prog := X.prog) (w := X.w) (A := X.A.in1) hh s.heap.objs.size a hlt (u0 :: us).toArray (by simp)).toS
  have hsz : (u0 :: us).toArray.size - 1 ≤ sizeLine := by
    have := rr.length
    simp only [List.length_cons] at hz
    simp
    omega
  have hbig : s.heap.objs.size < h₁.objs.size := by obtain ⟨o, ho, _⟩ := hit₁; exact Heap.lt_size ho
  have ha1 : a < s.heap.objs.size := by obtain ⟨o, ho, _⟩ := ht; exact Heap.lt_size ho
  refine wpAny_bind (wpAny_holding (wpAny_collect_iter (T := "tuple_iterator") (.inr (.inr (.inr rfl))) W (fun i s h => h.1.typeIs) ⟨hit₁, (ht.push _).extBut hs₁.extBut hlt⟩ (fun b hb => ?_) (by simp) (fun s2 acc mv hacc => ?_) hsz))
  · simp only [List.mem_cons, List.not_mem_nil, or_false] at hb
    show b < h₁.objs.size
    rcases hb with rfl | rfl
    · exact hbig
    · exact Nat.lt_trans ha1 hbig
  have eacc : acc.toList = us := by
    obtain ⟨h1, h2⟩ := hacc
    have hsz2 : acc.toList.length = us.length := by simpa using h1
    refine List.ext_getElem hsz2 fun i hi hi2 => ?_
    have h3 := h2 i (acc.toList[i]) (by simp)
    simp [hi2] at h3
    rw [h3]
    simp
  rw [eacc]
  have hkept : ∀ b u, s.heap.get? b = some u → s2.heap.get? b = some u := fun b u e => by
    have hb : b ≠ s.heap.objs.size := Nat.ne_of_lt (Heap.lt_size e)
    exact mv.heap b u (by simpa using hb) (hs₁.extBut b u hb (Heap.get?_push_of_some _ e))
  have hs2 : s2 = { s with heap := s2.heap, toks := s2.toks } := by
    have h1 := mv.gens
    have h2 := mv.drawn
    have h3 := mv.os
    cases s2
    simp only at h1 h2 h3
    subst h1 h2 h3
    rfl
  have I1 : Inv X pins σ H { s with heap := s2.heap, toks := s2.toks } := I.kept hkept
  rw [if_neg (by simp)]
  have htk : List.take (us.length - (2 - 1 - 1)) us = us := by simp
  have hdr : List.drop (us.length - (2 - 1 - 1)) us = [] := by simp
  rw [htk, hdr]
  have hul : us.length ≤ sizeLine := by simpa using hsz
  refine wpAny_bind (wpAny_newList (wpAny_pure ?_) hul)
  have I2 : Inv X pins σ (upd H s2.heap.objs.size (.lst xs)) { s with heap := s2.heap.push ({ cls := .type "list", data := .seq us.toArray } : Obj), toks := s2.toks } := I1.laid (fun b u e => Heap.get?_push_of_some _ e) (Nat.le_refl _) ⟨by rw [rr.length]; exact hul, us, _, rr, Heap.get?_push_size _ rfl⟩
  have hfin := h.run pins _ σ _ [z, .ref s2.heap.objs.size] [u0, .ref s2.heap.objs.size] Q I2 (.cons r0 (.cons rfl .nil)) (hw _ (I1.hok.fresh (Nat.le_refl _)))
  rw [hs2]
  exact hfin
end
/-- what is first, and the rest -/
def headD : D → Option (D × List D)
  | .tuple (d :: ds) => some (d, ds)
  | _ => none
section
variable {m : Type → Type} [Mo m] {A : Type} {X : Cx} {EX : XR} {g : List Sl}
abbrev unpS (x : m D) : m (D × List D) := x >>= fun d => Mo.lift (headD d)
theorem sj_unpS (i j : Nat) {y z : Str} {py pz ps pt pos : Pos} {kt : Nat} {e : Expr} {x : m D} (hN : X.N.Nodup) (h : EJ X EX e g x) (hi : X.N[i]? = some y := by rfl) (hj : X.N[j]? = some z := by rfl) (hy : Loc X.env.scope y := by first | exact Or.inl rfl | exact Or.inr rfl) (hz : Loc X.env.scope z := by first | exact Or.inl rfl | exact Or.inr rfl)
    (hfy : X.fn y = true ∨ X.env.scope.names.lookup y = some .local := by first | exact Or.inr rfl | exact Or.inl rfl) (hfz : X.fn z = true ∨ X.env.scope.names.lookup z = some .local := by first | exact Or.inr rfl | exact Or.inl rfl) (hc : X.calm = true := by rfl)
    (hs : swapsWithSole [.Tuple [.Name y py, .Starred (.Name z pz) ps] kt pt] e pos.line X.env = pure false := by kernel_rfl) (hw : swappedStores [.Tuple [.Name y py, .Starred (.Name z pz) ps] kt pt] e X.env = pure none := by kernel_rfl)
    (h1 : (assignEach [.Tuple [.Name y py, .Starred (.Name z pz) ps] kt pt] X.env).map (·.2) = [assign (.Tuple [.Name y py, .Starred (.Name z pz) ps] kt pt) X.env] := by rfl) :
    SJ X EX (.Assign [.Tuple [.Name y py, .Starred (.Name z pz) ps] kt pt] e pos) g (unpS x) (fun p => (g.set i (.val p.1)).set j (.val (.list p.2))) :=
  (ps_asg h (pg_star hc (pgs_cons (pg_name (i := i) hN hi hy hfy) (pgs_cons (pg_name (i := j) hN hj hz hfz) pgs_nil))) hs hw h1).weak fun De σ H ⟨B, G, n, φ, ξ, o, s, q, xw⟩ => te_one o s (fun v H1 G1 d n1 o1 g1 d1 s1 => by
    obtain ⟨p, ep, s2⟩ := Mo.sat_lift s1
    unfold headD at ep
    split at ep
    · cases ep
      cases d1 with
      | tup hh da =>
        cases da with
        | @cons v1 vs1 w1 ws1 e1 r =>
          refine ⟨_, _, _, rfl, sameT o1.fm.sub hh, fun l hl => ?_⟩
          have gr := Gr.alloc (u := .lst vs1) o1.fm.sub hl
          exact ⟨_, _, rfl, _, _, rfl, rfl, q _ _ _ _ n1 (((o1.gr gr).setV (e1.mono gr.g)).setV (.lst upd_same (r.mono gr.g))) (g1.trans gr.g) s2⟩
    · cases ep) xw
theorem fj_dead {ss : List Stmt} {fall : Bool} : FJ X EX fall ss g (Mo.lift none : m D) :=
  ⟨fun pins s σ H D I ⟨B, G, n, φ, ξ, o, st, _⟩ => by obtain ⟨_, e, _⟩ := Mo.sat_lift st; cases e⟩
end
/-! ### defs with a star parameter -/
def FnS (P : Program) (w : World) (K : PySem.W.Frag) (mg : Str → Option Value) (base : Heap) (k : Nat) (f : Addr) (sp : Sp) : Prop := ∀ (A : Around) (outer : List Env) (s : Shared) (H : Hp) (us : List Value) (vs : List V) (Q : VK) (E : XK), Room k A → A.guards = some [] → Env0 P w K mg base A outer s H → Vals vs us → sp vs H Q E →
  codeAny (model P w) A (.call (.ref f) ⟨us, []⟩) (CR CX0 outer P w H s Q E) s
section
variable {P : Program} {w : World} {K : PySem.W.Frag} {mg : Str → Option Value} {base : Heap} {k : Nat}
theorem fns_of {x qual : Str} {st : Stmt} {f : Addr} {fd : FuncData} {N ps : List Str} {pv : Str} {sp : Sp} (F : Fun K x qual st f fd) (S : FnScope N (ps ++ [pv]) (defScope st))
    (hbd : ∀ (kV doc pm : Value) (an : Option Addr) (cdv ct : Value) (us rest : List Value), us.length = ps.length → bindArgs (PySem.W.fnOf x qual (defArgs st) (defBody st) (defScope st) .none kV doc pm an cdv ct) ⟨us ++ rest, []⟩ = (newTuple rest >>= fun t => pure (ps.zip us ++ [(pv, t)])))
    (hb : ∀ (cdv : Value) (A : Around) (outer : List Env) (s : Shared) (H : Hp) (vs : List V) (Q : VK) (E : XK), Room k (A.deeper (envOfC qual (defScope st) s.heap.objs.size f cdv)) → A.guards = some [] → sp vs H Q E →
      ∃ t, PSs (cxOf CX0 P w K mg base N qual (defScope st) f cdv A outer s H E).nox (defBody st) t ∧ t { nx := fun _ H' => Q .non H', rt := Q } (start N vs) H) :
    FnS P w K mg base (k + 1) f (fun vs H Q E => ∃ ws rest, vs = ws ++ rest ∧ ws.length = ps.length ∧ rest.length ≤ sizeLine ∧ ∀ p, H p = none → sp (ws ++ [V.ref p]) (upd H p (.tup rest)) Q E) := by
  obtain ⟨oc, od, kV, doc, pm, an, cdv, ct, osl, rfl, lk, hcd⟩ := F.ex
  intro A outer s H us vs Q E hr gu e0 r hsp
  obtain ⟨ws, rest, rfl, hl, hz, hq⟩ := hsp
  obtain ⟨u1, u2, rfl, r1, r2⟩ := vals_split r
  have hn : H s.heap.objs.size = none := e0.hok.fresh (Nat.le_refl _)
  have hl1 : u1.length = ps.length := by rw [← r1.length]; exact hl
  have hl2 : u2.length ≤ sizeLine := by rw [← r2.length]; exact hz
  refine run_bnd lk hcd S hr e0 (G := fun xs H2 => ∃ p, H p = none ∧ xs = ws ++ [V.ref p] ∧ H2 = upd H p (.tup rest)) (fun A' Ex Q' h => ?_) fun s2 H2 xs ⟨p, hp, ex, eH⟩ hr' => ?_
  · rw [hbd kV doc pm an cdv ct u1 u2 hl1]
    refine wpAny_bind (wpAny_newTuple (wpAny_pure ?_) hl2)
    have new : ObjOk P w (upd H s.heap.objs.size (.tup rest)) (s.heap.push ({ cls := .type "tuple", data := .seq u2.toArray } : Obj)) s.heap.objs.size (.tup rest) := ⟨hz, u2, r2, ⟨_, Heap.get?_push_size _ rfl, rfl, _, rfl⟩⟩
    have un := un_laid (fs := frs outer) (s := s) (o := ({ cls := .type "tuple", data := .seq u2.toArray } : Obj)) (u := .tup rest) hn
    have z := h _ _ (ws ++ [V.ref s.heap.objs.size]) (u1 ++ [Value.ref s.heap.objs.size]) (env0_laid e0 new) un rfl (fun e s' z => z) (r1.append (.cons rfl .nil)) (by rw [List.length_append, List.length_append, hl] <;> rfl) ⟨_, hn, rfl, rfl⟩
    rw [List.zip_append hl1.symm] at z
    exact z
  · subst ex eH
    obtain ⟨t, ht, h2⟩ := hb cdv A outer s2 _ _ Q E hr' gu (hq p hp)
    exact ⟨t, ht.nox, h2⟩
def valsOf : List Sl → Option (List D)
  | [] => some []
  | .val d :: r => (valsOf r).map (d :: ·)
  | _ => none
theorem ArgsOk.vals {B : Bs} {G : Hp} : ∀ {vs : List V} {as : List Sl} {ds : List D}, ArgsOk K B G vs as → valsOf as = some ds → DaAll K G vs ds
  | _, _, _, .nil, e => by cases e; exact .nil
  | _, _, _, .cons (a := .val d) h r, e => by
    obtain ⟨es, h1, rfl⟩ := Option.map_eq_some_iff.mp e
    exact .cons h (ArgsOk.vals r h1)
variable {m : Type → Type} [Mo m]
def arS (F : D → D → m D) : List Sl → m D
  | .val a :: r => Mo.lift ((valsOf r).bind small) >>= fun ds => F a (.tuple ds)
  | _ => Mo.lift none
theorem fn_arS {x qual : Str} {st : Stmt} {f : Addr} {fd : FuncData} {N : List Str} {p1 pv : Str} {F : D → D → m D} (Fu : Fun K x qual st f fd) (S : FnScope N ([p1] ++ [pv]) (defScope st))
    (hbd : ∀ (kV doc pm : Value) (an : Option Addr) (cdv ct : Value) (us rest : List Value), us.length = [p1].length → bindArgs (PySem.W.fnOf x qual (defArgs st) (defBody st) (defScope st) .none kV doc pm an cdv ct) ⟨us ++ rest, []⟩ = (newTuple rest >>= fun t => pure ([p1].zip us ++ [(pv, t)])))
    (hb : ∀ (a0 a1 : D) (cdv : Value) (A : Around) (outer : List Env) (s : Shared) (H : Hp) (E : XK), Room k (A.deeper (envOfC qual (defScope st) s.heap.objs.size f cdv)) → A.guards = some [] →
      FJ (cxOf CX0 P w K mg base N qual (defScope st) f cdv A outer s H E).nox X0 true (defBody st) ([Sl.val a0, Sl.val a1] ++ List.replicate (N.length - 2) .any) (F a0 a1)) : FnS P w K mg base (k + 1) f (spJ K (arS F)) := by
  have base := fns_of (sp := spJ K (ar2 F)) Fu S hbd fun cdv A outer s H vs Q E hr gu ⟨G, n, dk, as, φ, a, fm, st, q⟩ => by
    unfold ar2 at st
    split at st
    · exact ⟨_, hb _ _ cdv A outer s H E hr gu, ⟨H, G, dk, G⟩, G, n, φ, fun _ _ => False, ok_start a fm, st, q, fun _ σ' H' G' n' f' p => q .non H' G' .none n' f' .non p, fun _ _ _ _ _ _ _ z => z.elim⟩
    · obtain ⟨_, e, _⟩ := Mo.sat_lift st
      cases e
  intro A outer s H us vs Q E hr gu e0 r ⟨G, n, dk, as, φ, a, fm, st, q⟩
  refine base A outer s H us vs Q E hr gu e0 r ?_
  unfold arS at st
  split at st
  · rename_i a0 ra
    obtain ⟨ds, e1, s2⟩ := Mo.sat_lift (Mo.sat_bind st)
    obtain ⟨es, e2, e3⟩ := Option.bind_eq_some_iff.mp e1
    cases a with
    | cons h0 hr2 =>
    rename_i v0 vs2
    have hsm : es = ds ∧ es.length ≤ 1000000 := by
      unfold small at e3
      split at e3
      · rename_i hlen; cases e3; exact ⟨rfl, hlen⟩
      · cases e3
    obtain ⟨rfl, hlen⟩ := hsm
    have hall := hr2.vals e2
    refine ⟨[v0], vs2, rfl, rfl, by rw [hall.length]; exact le_line hlen, fun p hp => ?_⟩
    have gr := Gr.alloc (u := .tup vs2) fm.sub hp
    have fm2 : Fm K ⟨H, G, dk, G⟩ (upd H p (.tup vs2)) (upd G p (.tup vs2)) n := fm.grow gr.h gr.g gr.sub gr.new gr.mks
    refine ⟨upd G p (.tup vs2), n, dk, [.val a0, .val (.tuple es)], φ, .cons (h0.mono gr.g) (.cons (.tup (.inl (.inl upd_same)) (hall.mono gr.g)) .nil), fm2.at_call, s2, fun v H' G' d n' f' dv pf => ?_⟩
    exact q v H' G' d n' (Fm.back (ok_start (K := K) (N := []) (vs := []) (as := []) .nil fm2) (.inr rfl) f').1.fm dv pf
  · obtain ⟨_, e, _⟩ := Mo.sat_lift st
    cases e
structure DefS (P : Program) (w : World) (K : PySem.W.Frag) (mg : Str → Option Value) (base : Heap) (k : Nat) (x : Str) (sp : Sp) : Prop where
  ex : ∃ f, FnS P w K mg base k f sp ∧ mg x = some (.ref f) ∧ PySem.W.keepIn K (.ref f) = true
end
section
variable {m : Type → Type} [Mo m] {X : Cx} {EX : XR} {g : List Sl} {k : Nat} {f : Addr}
theorem call_s {pins : List (Addr × Obj)} {σ : L2.St} {H : Hp} {s : Shared} {Q : VK} {us : List Value} {vs : List V} {sp : Sp} (F : FnS X.prog X.w X.K X.mg X.base k f sp) (hr : Room k X.A) (gu : X.A.guards = some [])
    (I : Inv X pins σ H s) (r : Vals vs us) (h : sp vs H Q E0) : wpAny (model X.prog X.w) X.A (call (.ref f) us) (EP X pins σ Q) X.xe s := by
  refine wpAny_call (codeAny_mono (F X.A X.stack s H us vs Q E0 hr gu I.env0 r h) fun z s' hq => ?_)
  cases z with
  | error e => exact False.elim hq
  | ok fl =>
    cases fl with
    | ret u => exact I.after hq
    | next => exact False.elim hq
    | brk => exact False.elim hq
    | cont => exact False.elim hq
theorem pe_s {x : Str} {p pos : Pos} {e : Expr} {es : List Expr} {t : TA} {sp : Sp} (F : FnS X.prog X.w X.K X.mg X.base k f sp) (hr : Room k X.A) (gu : X.A.guards = some []) (hg : Gl X x) (hm : X.mg x = some (.ref f)) (hk : PySem.W.keepIn X.K (.ref f) = true)
    (ha : PA X (e :: es) t) (hd : (x == ("__debug__" : Str)) = false) (he : starEach (e :: es) X.env = (false, eval e X.env) :: starEach es X.env) (hpl : (backTo pos (starEach es X.env)).any (·.1) = false) : PE X (.Call (.Name x p) (e :: es) [] pos) (fun σ H Q => t σ H fun vs H1 => sp vs H1 Q E0) :=
  ⟨fun pins s σ H Q I h => wpAny_Call_Name_kw (ld_glob I hg hm (PySem.W.callWith_K (h₀ := X.base) I.ok.mod.kin hk (thn (ha.run pos pins s σ H _ I h) fun us s1 ⟨vs, H1, I1, r, q⟩ => ⟨I1.kIn, call_s F hr gu I1 r q⟩) he hpl) hd)⟩
theorem ej_callSU {m' : Type → Type} [Mo m'] [Calm m'] [Up m' m] {x : Str} {p pos : Pos} {e : Expr} {es : List Expr} {F : List Sl → m' D} {y : m (List Sl)} (Fn : DefS X.prog X.w X.K X.mg X.base k x (spJ X.K F)) (hr : Room k X.A) (gu : X.A.guards = some [])
    (ha : AJ X EX (e :: es) g y) (hg : Gl X x := by rfl) (hd : (x == ("__debug__" : Str)) = false := by decide) (he : starEach (e :: es) X.env = (false, eval e X.env) :: starEach es X.env := by rfl) (hpl : (backTo pos (starEach es X.env)).any (·.1) = false := by rfl) :
    EJ X EX (.Call (.Name x p) (e :: es) [] pos) g (y >>= fun as => Up.up (m' := m') (F as)) := by
  obtain ⟨f, h1, h2, h3⟩ := Fn.ex
  exact (pe_s h1 hr gu hg h2 h3 ha hd he hpl).weak fun σ H Q ⟨B, G, n, φ, ξ, o, s, q, xw⟩ => ⟨B, G, n, _, ξ, o, Mo.sat_bind s, fun vs H1 G1 as n1 o1 g1 a1 s1 =>
    ⟨G1, n1, B.dk, as, φ, ArgsOk.base (B := B) (B' := ⟨H1, G1, B.dk, G1⟩) rfl a1, o1.fm.at_call, Calm.calm (Up.sat_up s1), fun v H' G' d n' f' dv p => by
      obtain ⟨o2, g2⟩ := Fm.back o1 (.inr rfl) f'
      exact q v H' G' d n' o2 (g1.trans g2) dv p⟩, xw⟩
end
end DD
namespace DD
open PySem PySem.Spec PyProof.Rows L2
section
variable {m : Type → Type} [Mo m] {A : Type} {X : Cx} {EX : XR} {g : List Sl}
abbrev trg1M (x : m D) : m D := x >>= fun d => Mo.lift (lrgO1 d) >>= fun ds => pure (.tuple ds)
/-- x or y, the value itself -/
def truD : D → Option Bool
  | .none => some false
  | .bool b => some b
  | .int i => some (!(i == 0))
  | _ => none
abbrev orV (x y : m D) : m D := x >>= fun d => Mo.lift (truD d) >>= fun k => if k = true then pure d else y
/-! ### while -/
end
end DD
/-! errors whose context is None: the kit's L2N in the place of L2 (a class with its own __init__; an except clause without a name) -/
namespace DD
open PySem PySem.Spec PyProof.Rows L2
section
variable {X : Cx} {x : Str} {c : Value} {body suite : List Stmt} {b₀ : Stmt} {np pos pos' : Pos} {tb : WX → TS} {ts : Addr → Value → Option Addr → TS} {Wout : WX}
/-- one clause without a name -/
theorem ps_try_onlyN (hs : X.stack = X.env :: X.outer) (hf : X.env.frame = some X.env.locals) (hc : Names X x c) (tk : L2N.Takes X Wout)
    (hb : ∀ (W : WX) (pn : List (Addr × Obj)) (xe : Value → Shared → Prop), L2N.Takes (X.tr pn xe) W → PassesOwn (model X.prog X.w) X.A X.env xe → PSs (X.tr pn xe) body (tb W))
    (hsu : ∀ (a : Addr) (oe : Obj) (cls : Value) (d : Option Addr) (pn : List (Addr × Obj)), L2N.Zn cls d oe → (∃ vs, oe.data = .fields vs) → PSs (X.suite a ((a, oe) :: pn)) (b₀ :: suite) (ts a cls d)) :
    PS X (.Try body [.ExceptHandler (some (.Name x np)) none (b₀ :: suite) pos'] [] [] pos) (fun D σ H => tb (wOnly X.K c ts Wout D) D σ H) :=
  L2N.ps_try_many (l := [(c, ts)]) hs hf tk hb (.cons hc hsu .nil)
end
/-- what a class's call leaves, the context None -/
theorem mk_endN {X : Cx} {pins : List (Addr × Obj)} {σ : L2.St} {H1 H2 : Hp} {Q : XK} {hp hp2 h2 : Heap} {g1 g2 : Array GenState} {d1 d2 : Drawn} {t1 t2 : Nat} {os1 os2 : OsState} {a C d : Addr} {fs : List (Str × V)} (T : Raises X (.ref C)) (I1 : Inv X pins σ H1 ⟨hp, g1, d1, t1, os1⟩)
    (up : hp.objs.size ≤ a) (old : ∀ b o, hp.get? b = some o → hp2.get? b = some o) (un : Un (frs X.stack) [] (upd H1 a (exo a C none)) H2 hp2 h2) (hok : HOk X.prog X.w H2 h2) (ho : os2 = os1) (bare : AllBare g2)
    (ea : H2 a = some (exo a C (some d))) (ed : H2 d = some (exd d fs)) (nd : H1 d = none) (q : Q (.ref C) (some d) (upd (del H2 a) d (.xd fs))) : L2N.MkP X pins σ Q (.ref a) ⟨h2, g2, d2, t2, os2⟩ :=
  let ⟨_, G, J, kG, ge, oe, na⟩ := mk_end0 (d2 := d2) (t2 := t2) I1 up old un hok ho bare ea ed nd
  ⟨a, _, _, ⟨G, g2, d2, t2, os2⟩, _, .ref C, some d, rfl, J, kG, ge, oe, ⟨rfl, rfl, fun _ z => by cases z; rfl⟩, rfl, rfl, na, rfl, bare, T, q⟩
section
variable {X : Cx} {e : Expr} {es : List Expr} {ta : TA}
/-- C(e, ..) makes the error, its __init__ fills it; its context is None -/
theorem pmk_oexN {CX : CXT} {c : Str} {p pos : Pos} {C fI : Addr} {k : Nat} {fd : FuncData} {ps : List Str} {sp : Sp} {ds : List Value} {dvs : List V} (T : OexC X.K C) (i1 : PySem.W.findIn X.K (.ref C) "__init__" = some (some (.ref fI))) (i2 : PySem.W.typeIn X.K (.ref fI) = some (.type "function")) (F1 : FnOk X.prog X.w X.K X.mg X.base CX k fI fd ps sp) (hr : Room (k + 1) X.A) (hb : Binds X.K fd ps ds) (hd : Vals dvs ds)
    (hx : Passes CX X (fun _ _ _ => False)) (hg : Gl X c) (hm : X.mg c = some (.ref C)) (ha : PA X (e :: es) ta) (hdb : (c == ("__debug__" : Str)) = false) (he : starEach (e :: es) X.env = (false, eval e X.env) :: starEach es X.env) (hpl : (backTo pos (starEach es X.env)).any (·.1) = false) :
    L2N.PMk X (.Call (.Name c p) (e :: es) [] pos) (tMkO C sp dvs ta) := by
  intro pins s σ H Q I h
  obtain ⟨nm, q, N, bs, bm, sn, sub, ab, col, dd, k0, k1, k2, k3, k5, lk, tl⟩ := T.cls
  refine wpAny_Call_Name_kw (ld_glob I hg hm (PySem.W.callWith_K (h₀ := X.base) I.ok.mod.kin T.kC (thn (ha.run pos pins s σ H _ I h) fun us s1 ⟨vs, H1, I1, r1, hz, q1⟩ => ⟨I1.kIn, ?_⟩) he hpl) hdb)
  show wpAny _ _ (call (.ref C) us) _ _ _
  obtain ⟨hp, gs, dr, tk, os⟩ := s1
  have up1 : hp.objs.size ≤ hp.objs.size + 1 := Nat.le_succ _
  have body := q1 (hp.objs.size + 1) (I1.hok.fresh up1)
  generalize hx1 : hp.objs.size + 1 = x at body up1
  obtain ⟨h2, eh2⟩ : ∃ h2 : Heap, h2 = (hp.push (PySem.W.kdv_tup us)).push (PySem.HandSPX.excO C hp.objs.size) := ⟨_, rfl⟩
  have old : ∀ b o, hp.get? b = some o → h2.get? b = some o := fun b o z => eh2 ▸ Heap.get?_push_of_some _ (Heap.get?_push_of_some _ z)
  have new : h2.get? x = some (PySem.HandSPX.excO C hp.objs.size) := by
    rw [← hx1, eh2]
    heap_get
  have I2 : Inv X pins σ (upd H1 x (exo x C none)) ⟨h2, gs, dr, tk, os⟩ := I1.laid (t' := tk) (h' := h2) old up1 (exo_ok new)
  have rv : Vals (V.ref x :: (vs ++ dvs)) (Value.ref x :: (us ++ ds)) := .cons rfl (r1.append hd)
  have len : (Value.ref x :: us ++ ds).length = ps.length := by
    have z := rv.length
    rw [F1.len _ _ _ _ body] at z
    exact z.symm
  have hus : us.length ≤ sizeLine := by
    rw [← Paired.length r1, sizeLine_eq]
    omega
  have bd : BindsTo ⟨h2, gs, dr, tk, os⟩ fd ⟨Value.ref x :: us, []⟩ (ps.zip (Value.ref x :: (us ++ ds))) := hb _ (Value.ref x :: us) I2.kIn len
  refine wpAny_call (PySem.HandSPX.call_own PySem.F.excBase_ValueError (fun Y => PySem.HandSPX.refsVE_contains Y bm tl) (I1.kIn _ _ lk) (PySem.W.looks_findIn I1.kIn i1) (fun self => PySem.W.bind_fn I1.kIn self i2) hus ?_)
  rw [hx1, ← eh2]
  refine codeAny_mono (F1.run _ X.stack _ _ ⟨Value.ref x :: us, []⟩ (Value.ref x :: (us ++ ds)) _ _ (fun _ _ _ => False) (hr.make C us []) (I2.env0.make C us []) bd rv body) fun r s' back => ?_
  cases r with
  | error er => exact hx pins σ _ _ er s' I2 back
  | ok fl =>
    cases fl with
    | ret u =>
      obtain ⟨v, H2, os2, bare2, un2, hok2, rz, ev, d, fs, ea, ed, hd1, q2⟩ := back
      subst ev
      obtain ⟨h3, g3, d3, t3, os3⟩ := s'
      exact ⟨rz, mk_endN (raises_own T.exC T.tyC) I1 up1 old un2 hok2 os2 bare2 ea ed hd1 q2⟩
    | next => exact False.elim back
    | brk => exact False.elim back
    | cont => exact False.elim back
end
/-- what is said of an error behind a call holds as well of the heap ahead of the new objects -/
theorem cxUpN {P : Program} {w : World} : StX.CXUp (L2N.CX P w) := fun outer s H s2 H2 E e s' un old ho ⟨a, B, H', cls, d, ea, fl, hok, ub, na, os, ag, he⟩ =>
  have free : ∀ {b : Addr} {o : Obj}, s.heap.get? b = some o → H b = none → H2 b = none := fun {b o} z n => un.free b o z n (by simp)
  have ub' : UB (frs outer) H H' s.heap B s'.heap := {
    keep := fun b o z n => ub.keep b o (old b o z) (free z n)
    slot := fun b o z => ub.slot b o (old b o z)
    free := fun b o z n => ub.free b o (old b o z) (free z n)
    there := fun b o z => ub.there b o (old b o z)
    tups := fun b xs z => ub.tups b xs (un.tups b xs z)
    frzs := fun b o xs z => ub.frzs b o xs (un.frzs b o xs z)
    tbls := fun b ps z => by
      obtain ⟨m1, e1⟩ := un.tbls b ps z
      obtain ⟨m2, e2⟩ := ub.tbls b _ e1
      exact ⟨m1 ++ m2, by rw [e2, Array.append_assoc]⟩ }
  ⟨a, B, H', cls, d, ea, fl, hok, ub', na, os.trans ho, ag, he⟩
end DD
namespace DD
open PySem PySem.Spec PyProof.Rows L2
/-! ### mirrors that raise -/
/-- plain data, or an error -/
def Xo (α : Type) : Type := Option (Except Exn α)
instance : Mo Xo where
  pure := fun a => some (.ok a)
  bind := fun x f => match x with
    | some (.ok a) => f a
    | some (.error e) => some (.error e)
    | none => none
  sat := fun x n φ ξ => n.ob = [] ∧ ((∃ a, x = some (.ok a) ∧ φ a n) ∨ ∃ e, x = some (.error e) ∧ ξ e n)
  lift := fun o => o.map .ok
  sat_pure := fun h => by
    obtain ⟨_, ⟨a, e, q⟩ | ⟨a, e, q⟩⟩ := h
    · cases e; exact q
    · cases e
  sat_bind := fun {α β x f n φ ξ} h => by
    obtain ⟨hn, h⟩ := h
    refine ⟨hn, ?_⟩
    match x, h with
    | some (.ok a), h => exact .inl ⟨a, rfl, hn, h⟩
    | some (.error e), .inl ⟨a, e', q⟩ => cases e'
    | some (.error e), .inr ⟨e2, e', q⟩ => cases e'; exact .inr ⟨e, rfl, q⟩
    | none, .inl ⟨a, e', q⟩ => cases e'
    | none, .inr ⟨e2, e', q⟩ => cases e'
  sat_lift := fun {α o n φ ξ} h => by
    obtain ⟨_, ⟨a, e, q⟩ | ⟨a, e, q⟩⟩ := h
    · cases o with
      | none => cases e
      | some b => cases e; exact ⟨_, rfl, q⟩
    · cases o with
      | none => cases e
      | some b => cases e
class MoX (m : Type → Type) [Mo m] where
  throw : {α : Type} → Exn → m α
  sat_throw : ∀ {α : Type} {e : Exn} {n : Wd} {φ : α → Wd → Prop} {ξ : Exn → Wd → Prop}, Mo.sat (throw e : m α) n φ ξ → ξ e n
instance : MoX Xo where
  throw := fun e => some (.error e)
  sat_throw := fun h => by
    obtain ⟨_, ⟨a, e, q⟩ | ⟨a, e, q⟩⟩ := h
    · cases e
    · cases e; exact q
instance : Up Option Xo where
  up := fun o => o.map .ok
  sat_up := fun {α o n φ ξ} h => ⟨h.1, Mo.sat_lift (m := Xo) h⟩
/-- what is raised by one mirror is caught by another -/
class Tr (m₁ m : Type → Type) [Mo m₁] [Mo m] where
  try_ : {α : Type} → m₁ α → (Exn → m α) → m α
  sat_try : ∀ {α : Type} {x : m₁ α} {h : Exn → m α} {n : Wd} {φ : α → Wd → Prop} {ξ : Exn → Wd → Prop}, Mo.sat (try_ x h) n φ ξ → Mo.sat x n φ (fun e n' => Mo.sat (h e) n' φ ξ)
def tryO {α : Type} (x : Xo α) (h : Exn → Option α) : Option α := match x with
  | some (.ok a) => some a
  | some (.error e) => h e
  | none => none
instance : Tr Xo Option where
  try_ := tryO
  sat_try := fun {α x h n φ ξ} s => by
    obtain ⟨hn, a, e, q⟩ := s
    refine ⟨hn, ?_⟩
    match x, e with
    | some (.ok b), e => cases e; exact .inl ⟨_, rfl, q⟩
    | some (.error b), e => exact .inr ⟨b, rfl, hn, a, e, q⟩
    | none, e => cases e
/-! ### defs that raise -/
structure FnX (P : Program) (w : World) (K : PySem.W.Frag) (mg : Str → Option Value) (base : Heap) (k : Nat) (f : Addr) (fd : FuncData) (ps : List Str) (sp : Sp) : Prop where
  len : ∀ vs H Q E, sp vs H Q E → vs.length = ps.length
  run : ∀ (A : Around) (outer : List Env) (s : Shared) (H : Hp) (args : Args) (us : List Value) (vs : List V) (Q : VK) (E : XK), Room k A → A.guards = some [] → Env0 P w K mg base A outer s H → BindsTo s fd args (ps.zip us) → Vals vs us → sp vs H Q E →
    codeAny (model P w) A (.call (.ref f) args) (CR (L2N.CX P w) outer P w H s Q E) s
theorem FnX.mono {P : Program} {w : World} {K : PySem.W.Frag} {mg : Str → Option Value} {base : Heap} {j k : Nat} {f : Addr} {fd : FuncData} {ps : List Str} {sp : Sp} (F : FnX P w K mg base j f fd ps sp) (h : j ≤ k) : FnX P w K mg base k f fd ps sp :=
  ⟨F.len, fun A outer s H args us vs Q E hr => F.run A outer s H args us vs Q E (hr.mono h)⟩
theorem fnx_of {P : Program} {w : World} {K : PySem.W.Frag} {mg : Str → Option Value} {base : Heap} {k : Nat} {x qual : Str} {st : Stmt} {f : Addr} {fd : FuncData} {N ps : List Str} {sp : Sp} (F : Fun K x qual st f fd) (S : FnScope N ps (defScope st)) (len : ∀ vs H Q E, sp vs H Q E → vs.length = ps.length)
    (hb : ∀ (cdv : Value) (A : Around) (outer : List Env) (s : Shared) (H : Hp) (vs : List V) (Q : VK) (E : XK), Room k (A.deeper (envOfC qual (defScope st) s.heap.objs.size f cdv)) → A.guards = some [] → sp vs H Q E →
      ∃ t, PSs (cxOf (L2N.CX P w) P w K mg base N qual (defScope st) f cdv A outer s H E) (defBody st) t ∧ t { nx := fun _ H' => Q .non H', rt := Q } (start N vs) H) : FnX P w K mg base (k + 1) f fd ps sp := by
  obtain ⟨oc, od, kV, doc, pm, an, cdv, ct, osl, rfl, lk, hcd⟩ := F.ex
  refine ⟨len, fun A outer s H args us vs Q E room gu e0 bi rv hsp => ?_⟩
  have KH : K.In s.heap := e0.mod.kin.keeps fun b o z => (e0.bs b o z).1
  have kinds : ∀ y ∈ ps.zip us, (defScope st).names.lookup y.1 = some .local ∨ ((defScope st).names.lookup y.1 = some .cell ∧ ((cellsFrom (s.heap.objs.size + 1) (defScope st).names []).lookup y.1).isSome = true) := by
    rintro ⟨nm, _⟩ hy
    exact (S.par nm (List.of_mem_zip hy).1).imp id fun z => ⟨z, PySem.W.cellsFrom_some _ _ _ (.inl z)⟩
  refine codeAny_call_function room.depth (KH _ _ lk) rfl S.co S.gen rfl (PySem.W.codeRec_of KH hcd) (bi _ _ _ _ (wpAny_newFunctionEnv_cells S.kind kinds fun env he s1 nw => ?_))
  subst he
  refine ⟨(e0.mod.nolimit.keeps fun b o z => (e0.bs b o z).1).keeps nw.toInCall.keep, codeAny_func ?_⟩
  obtain ⟨t, ht, hq⟩ := hb cdv A outer s H vs Q E (room.deeper _) gu hsp
  refine wpAny_mono (ht.run [] s1 (start N vs) H _ (inv_start S room.hd e0 (len _ _ _ _ hsp) rv nw) hq) (fun fl s' h => ?_) fun _ _ z => z
  cases fl with
  | ret u =>
    obtain ⟨v, _, H', J, r', q⟩ := h
    exact ⟨v, H', J.os, J.bare, J.base, J.hok, r', q⟩
  | next =>
    obtain ⟨_, H', J, q⟩ := h
    exact ⟨.non, H', J.os, J.bare, J.base, J.hok, rfl, q⟩
  | brk => obtain ⟨_, _, _, q⟩ := h; exact q.elim
  | cont => obtain ⟨_, _, _, q⟩ := h; exact q.elim
section
variable {m : Type → Type} [Mo m]
/-- a promise by a mirror that may raise -/
def spX (K : PySem.W.Frag) (mg : Str → Option Value) (F : List Sl → m D) : Sp := fun vs H Q E => ∃ G n dk as φ ξ, ArgsOk K ⟨H, G, dk, G⟩ G vs as ∧ Fm K ⟨H, G, dk, G⟩ H G n ∧ Mo.sat (F as) n φ ξ ∧
  (∀ v H' G' d n', Fm K ⟨H, G, dk, G⟩ H' G' n' → Da K G' v d → φ d n' → Q v H') ∧ ∀ e c od H' G' n', Fm K ⟨H, G, dk, G⟩ H' G' n' → ExA K mg e G' c od → ξ e n' → E c od H'
/-- the wish of a def's body: what is raised leaves -/
def xrOf (N : List Str) (E : XK) : XR := ⟨fun c od _ H => E c od H, List.replicate N.length .any⟩
theorem fn_jx {P : Program} {w : World} {K : PySem.W.Frag} {mg : Str → Option Value} {base : Heap} {k : Nat} {x qual : Str} {st : Stmt} {f : Addr} {fd : FuncData} {N ps : List Str} {F : List Sl → m D} (Fu : Fun K x qual st f fd) (S : FnScope N ps (defScope st))
    (hb : ∀ (as : List Sl) (n : Wd) (φ : D → Wd → Prop) (ξ : Exn → Wd → Prop), Mo.sat (F as) n φ ξ → as.length = ps.length ∧ ∀ (cdv : Value) (A : Around) (outer : List Env) (s : Shared) (H : Hp) (E : XK), Room k (A.deeper (envOfC qual (defScope st) s.heap.objs.size f cdv)) → A.guards = some [] →
      FJ (cxOf (L2N.CX P w) P w K mg base N qual (defScope st) f cdv A outer s H E) (xrOf N E) true (defBody st) (as ++ List.replicate (N.length - as.length) .any) (F as)) : FnX P w K mg base (k + 1) f fd ps (spX K mg F) := by
  refine fnx_of Fu S (fun vs H Q E ⟨G, n, dk, as, φ, ξ, a, _, s, _⟩ => a.length.trans (hb as n φ ξ s).1) fun cdv A outer s H vs Q E hr gu ⟨G, n, dk, as, φ, ξ, a, fm, st, q, qx⟩ => ⟨_, (hb as n φ ξ st).2 cdv A outer s H E hr gu, ⟨H, G, dk, G⟩, G, n, φ, ξ, ok_start a fm, st, q, fun _ σ' H' G' n' f' p => q .non H' G' .none n' f' .non p, fun e n' σ' H' G' c od he o ex => qx e c od H' G' n' o.fm ex he⟩
theorem takesX {P : Program} {w : World} {K : PySem.W.Frag} {mg : Str → Option Value} {base : Heap} {N : List Str} {qual : Str} {scope : Scope} {f : Addr} {cd : Value} {A : Around} {outer : List Env} {s : Shared} {H : Hp} {E : XK} : L2N.Takes (cxOf (L2N.CX P w) P w K mg base N qual scope f cd A outer s H E) (xrOf N E).w := L2N.takes_of rfl rfl rfl rfl
theorem passX {P : Program} {w : World} {K : PySem.W.Frag} {mg : Str → Option Value} {base : Heap} {N : List Str} {qual : Str} {scope : Scope} {f : Addr} {cd : Value} {A : Around} {outer : List Env} {s : Shared} {H : Hp} {E : XK} : PassesOwn (model P w) (A.deeper (envOfC qual scope s.heap.objs.size f cd)) (envOfC qual scope s.heap.objs.size f cd) (cxOf (L2N.CX P w) P w K mg base N qual scope f cd A outer s H E).xe := passes_of (X := cxOf (L2N.CX P w) P w K mg base N qual scope f cd A outer s H E) rfl
/-! ### calls of them -/
variable {X : Cx} {EX : XR} {g : List Sl} {k : Nat} {f : Addr} {fd : FuncData} {ps : List Str}
theorem call_x {pins : List (Addr × Obj)} {σ : L2.St} {H : Hp} {s : Shared} {Q : VK} {us : List Value} {vs : List V} {sp : Sp} {W : WX} (F : FnX X.prog X.w X.K X.mg X.base k f fd ps sp) (hr : Room k X.A) (gu : X.A.guards = some []) (hb : Binds X.K fd ps []) (tk : L2N.Takes X W)
    (I : Inv X pins σ H s) (r : Vals vs us) (h : sp vs H Q (WE W σ)) : wpAny (model X.prog X.w) X.A (call (.ref f) us) (EP X pins σ Q) X.xe s := by
  have hl : us.length = ps.length := by rw [← r.length]; exact F.len _ _ _ _ h
  have hb' := hb s us I.kIn (by rw [List.append_nil]; exact hl)
  rw [List.append_nil] at hb'
  refine wpAny_call (codeAny_mono (F.run X.A X.stack s H ⟨us, []⟩ us vs Q (WE W σ) hr gu I.env0 hb' r h) fun z s' hq => ?_)
  cases z with
  | error e => exact L2N.passAt tk σ pins H s e s' I hq
  | ok fl =>
    cases fl with
    | ret u => exact I.after hq
    | next => exact False.elim hq
    | brk => exact False.elim hq
    | cont => exact False.elim hq
theorem pe_x {x : Str} {p pos : Pos} {e : Expr} {es : List Expr} {t : TA} {sp : Sp} {W : WX} (F : FnX X.prog X.w X.K X.mg X.base k f fd ps sp) (hr : Room k X.A) (gu : X.A.guards = some []) (tk : L2N.Takes X W) (hg : Gl X x) (hm : X.mg x = some (.ref f)) (hk : PySem.W.keepIn X.K (.ref f) = true) (hb : Binds X.K fd ps [])
    (ha : PA X (e :: es) t) (hd : (x == ("__debug__" : Str)) = false) (he : starEach (e :: es) X.env = (false, eval e X.env) :: starEach es X.env) (hpl : (backTo pos (starEach es X.env)).any (·.1) = false) : PE X (.Call (.Name x p) (e :: es) [] pos) (fun σ H Q => t σ H fun vs H1 => sp vs H1 Q (WE W σ)) :=
  ⟨fun pins s σ H Q I h => wpAny_Call_Name_kw (ld_glob I hg hm (PySem.W.callWith_K (h₀ := X.base) I.ok.mod.kin hk (thn (ha.run pos pins s σ H _ I h) fun us s1 ⟨vs, H1, I1, r, q⟩ => ⟨I1.kIn, call_x F hr gu hb tk I1 r q⟩) he hpl) hd)⟩
/-- f(..) by its mirror, what it raises goes on -/
theorem ej_callX {x : Str} {p pos : Pos} {e : Expr} {es : List Expr} {F : List Sl → m D} {y : m (List Sl)} (Fn : FnX X.prog X.w X.K X.mg X.base k f fd ps (spX X.K X.mg F)) (hr : Room k X.A) (gu : X.A.guards = some []) (tk : L2N.Takes X EX.w) (sb : Sub g EX.g) (hm : X.mg x = some (.ref f)) (hk : PySem.W.keepIn X.K (.ref f) = true) (hb : Binds X.K fd ps [])
    (ha : AJ X EX (e :: es) g y) (hg : Gl X x := by rfl) (hd : (x == ("__debug__" : Str)) = false := by decide) (he : starEach (e :: es) X.env = (false, eval e X.env) :: starEach es X.env := by rfl) (hpl : (backTo pos (starEach es X.env)).any (·.1) = false := by rfl) :
    EJ X EX (.Call (.Name x p) (e :: es) [] pos) g (y >>= F) :=
  (pe_x Fn hr gu tk hg hm hk hb ha hd he hpl).weak fun σ H Q ⟨B, G, n, φ, ξ, o, s, q, xw⟩ => ⟨B, G, n, _, ξ, o, Mo.sat_bind s, fun vs H1 G1 as n1 o1 g1 a1 s1 =>
    ⟨G1, n1, B.dk, as, φ, ξ, ArgsOk.base (B := B) (B' := ⟨H1, G1, B.dk, G1⟩) rfl a1, o1.fm.at_call, s1, fun v H' G' d n' f' dv p => by
      obtain ⟨o2, g2⟩ := Fm.back o1 (.inr rfl) f'
      exact q v H' G' d n' o2 (g1.trans g2) dv p, fun e' c od H' G' n' f' ex hx => by
      obtain ⟨o2, g2⟩ := Fm.back o1 (.inr rfl) f'
      exact xw e' n' σ H' G' c od hx (o2.forget sb) ex⟩, xw⟩
end
end DD
namespace DD
open PySem PySem.Spec PyProof.Rows L2
theorem sub_any : ∀ {g h : List Sl}, (h.all fun s => match s with | .any => true | _ => false) = true → h.length = g.length → Sub g h
  | [], [], _, _ => trivial
  | _ :: _, [], _, e => by simp at e
  | [], _ :: _, _, e => by simp at e
  | a :: g, b :: h, e, l => by
    rw [List.all_cons, Bool.and_eq_true] at e
    refine ⟨.inl ?_, sub_any e.2 (by simpa using l)⟩
    cases b with
    | any => rfl
    | _ => cases e.1
/-! ### raise C(e), C with an __init__ that stores one field -/
def spInit (C : Addr) (fl : Str) : Sp := fun vs H Q _ => ∃ a y, vs = [.ref a, y] ∧ H a = some (exo a C none) ∧ ∀ dx, H dx = none → dx ≠ a → Q .non (upd (upd H dx (exd dx [(fl, y)])) a (exo a C (some dx)))
theorem init_ok {P : Program} {w : World} {K : PySem.W.Frag} {mg : Str → Option Value} {base : Heap} {qual : Str} {st : Stmt} {f C : Addr} {fd : FuncData} {p0 p1 fl : Str} {q1 q2 q3 q4 : Pos} (F : Fun K "__init__" qual st f fd) (S : FnScope [p0, p1] [p0, p1] (defScope st)) (hb : defBody st = [.Assign [.Attribute (.Name p0 q1) fl q2] (.Name p1 q3) q4])
    (T : OexC K C) (hno : PySem.W.findIn K (.ref C) fl = some none)
    (hp : ∀ (cdv : Value) (A : Around) (outer : List Env) (s : Shared) (H : Hp) (E : XK), PSs (cxOf CX0 P w K mg base [p0, p1] qual (defScope st) f cdv A outer s H E).nox (defBody st) (fun D σ H => tOst K fl (tVar 0) (tVar 1) D σ H)) : FnOk P w K mg base CX0 1 f fd [p0, p1] (spInit C fl) := by
  refine F.ok S (fun vs H Q E ⟨a, y, e, _⟩ => by rw [e]; rfl) fun cdv A outer s H vs Q E _ ⟨a, y, e, ha, q⟩ => ⟨_, hp cdv A outer s H E, ?_⟩
  subst e
  refine ⟨y, rfl, .ref a, rfl, a, C, rfl, T, hno, .inl ⟨ha, fun dx h1 h2 => q dx h1 h2⟩⟩
/-- what the law's text says of an error's class with one field -/
structure Er1 (P : Program) (w : World) (K : PySem.W.Frag) (mg : Str → Option Value) (base : Heap) (c fl : Str) (C : Addr) : Prop where
  nm : mg c = some (.ref C)
  T : OexC K C
  ini : ∃ fI fd ps, PySem.W.findIn K (.ref C) "__init__" = some (some (.ref fI)) ∧ PySem.W.typeIn K (.ref fI) = some (.type "function") ∧ FnOk P w K mg base CX0 1 fI fd ps (spInit C fl) ∧ Binds K fd ps []
section
variable {m : Type → Type} [Mo m] [MoX m] {A : Type} {X : Cx} {EX : XR} {g : List Sl} {fall : Bool}
theorem raise1 {c fl : Str} {C : Addr} {e : Expr} {p pos pos2 : Pos} {y : m D} (R : Er1 X.prog X.w X.K X.mg X.base c fl C) (hr : Room 2 X.A) (hc : X.calm = true) (tk : L2N.Takes X EX.w) (sb : Sub g EX.g) (he : EJ X EX e g y) (hg : Gl X c) (hd : (c == ("__debug__" : Str)) = false) (hs : starEach [e] X.env = (false, eval e X.env) :: starEach [] X.env) (hpl : (backTo pos (starEach [] X.env)).any (·.1) = false)
    {σ : L2.St} {H : Hp} {De : Ends} {α : Type} (h : ∃ B G n φ ξ, Ok X.K B g σ H G n ∧ Mo.sat (y >>= fun d => (MoX.throw ⟨c, [(fl, d)]⟩ : m α)) n φ ξ ∧ Xw X B EX ξ) : ∃ t, PS X (.Raise (some (.Call (.Name c p) [e] [] pos)) none pos2) t ∧ t De σ H := by
  obtain ⟨fI, fd, ps, i1, i2, i3, i4⟩ := R.ini
  refine ⟨_, L2N.ps_raise hc tk (pmk_oexN R.T i1 i2 i3 hr i4 .nil pass0 hg R.nm (pa_cons he pa_nil hs) hd hs hpl), ?_⟩
  obtain ⟨B, G, n, φ, ξ, o, s, xw⟩ := h
  refine te_one o s (fun v H1 G1 d n1 o1 g1 d1 s1 => ⟨by simp, fun a ha => ⟨a, v, rfl, upd_same, fun dx hdx hne => ⟨rfl, dx, [(fl, v)], upd_same, ?_, ?_, ?_⟩⟩⟩) xw
  · rw [upd_ne hne, upd_same]
  · rw [upd_ne hne] at hdx; exact hdx
  · have hd1 : H1 dx = none := by rw [upd_ne hne] at hdx; exact hdx
    have eH : (upd (del (upd (upd (upd H1 a (exo a C none)) dx (exd dx [(fl, v)])) a (exo a C (some dx))) a) dx (.xd [(fl, v)])) = upd H1 dx (.xd [(fl, v)]) := by
      funext b
      by_cases hb : b = dx
      · rw [hb, upd_same, upd_same]
      · rw [upd_ne hb, upd_ne hb]
        by_cases hba : b = a
        · rw [hba, del_same, ha]
        · rw [del_ne hba, upd_ne hba, upd_ne hb, upd_ne hba]
    show EX.w (.ref C) (some dx) σ _
    rw [eH]
    obtain ⟨o2, g2⟩ := o1.alloc (u := .xd [(fl, v)]) hd1
    exact xw ⟨c, [(fl, d)]⟩ n1 σ _ _ (.ref C) (some dx) (MoX.sat_throw s1) (o2.forget sb) ⟨C, R.nm, rfl, .inr ⟨dx, _, rfl, upd_same, rfl, .cons (d1.mono g2) .nil⟩⟩
theorem fj_raise1 {c fl : Str} {C : Addr} {e : Expr} {p pos pos2 : Pos} {rest : List Stmt} {y : m D} (R : Er1 X.prog X.w X.K X.mg X.base c fl C) (hr : Room 2 X.A) (hc : X.calm = true) (tk : L2N.Takes X EX.w) (sb : Sub g EX.g) (he : EJ X EX e g y) (hg : Gl X c := by rfl) (hd : (c == ("__debug__" : Str)) = false := by decide) (hs : starEach [e] X.env = (false, eval e X.env) :: starEach [] X.env := by rfl) (hpl : (backTo pos (starEach [] X.env)).any (·.1) = false := by rfl) :
    FJ X EX fall (.Raise (some (.Call (.Name c p) [e] [] pos)) none pos2 :: rest) g (y >>= fun d => MoX.throw ⟨c, [(fl, d)]⟩) :=
  ⟨fun pins s σ H De I ⟨B, G, n, φ, ξ, o, st, q1, q2, xw⟩ => by
    obtain ⟨t, h1, h2⟩ := raise1 (α := D) (De := { De with nx := fun _ _ => False }) R hr hc tk sb he hg hd hs hpl ⟨B, G, n, φ, ξ, o, st, xw⟩
    exact (pss_cons h1 (u := tNever) ⟨fun _ _ _ _ _ _ h => h.elim⟩).run pins s σ H De I h2⟩
end
/-! ### try: body, except C as n: suite -/
section
variable {K : PySem.W.Frag} {B : Bs} {g : List Sl} {σ : L2.St} {H G : Hp} {n : Wd}
theorem Ok.setX (o : Ok K B g σ H G n) {i : Nat} {a : Addr} {od : Option Addr} {fs : List (Str × D)} (h : XdAt K G od fs) : Ok K B (g.set i (.exn a od fs)) (σ.set i (some (.ref a))) H G n where
  fm := o.fm
  len := by rw [List.length_set, List.length_set, o.len]
  val := fun j e he => by
    by_cases hj : i = j
    · subst hj
      by_cases hl : i < g.length
      · rw [List.getElem?_set_self hl] at he; cases he
      · rw [List.getElem?_eq_none (by rw [List.length_set]; omega)] at he; cases he
    · rw [List.getElem?_set_ne hj] at he ⊢
      exact o.val j e he
  own := by
    obtain ⟨f, h1, h2⟩ := o.own
    have out : ∀ (j : Nat) (ds : List D), (g.set i (.exn a od fs))[j]? = some (Sl.own ds) → i ≠ j ∧ g[j]? = some (Sl.own ds) := fun j ds e => by
      by_cases hj : i = j
      · subst hj
        by_cases hl : i < g.length
        · rw [List.getElem?_set_self hl] at e; cases e
        · rw [List.getElem?_eq_none (by rw [List.length_set]; omega)] at e; cases e
      · rw [List.getElem?_set_ne hj] at e
        exact ⟨hj, e⟩
    refine ⟨f, fun j k ds es a b => h1 j k ds es (out j ds a).2 (out k es b).2, fun j ds e => ?_⟩
    obtain ⟨hj, e⟩ := out j ds e
    rw [List.getElem?_set_ne hj]
    exact h2 j ds e
  dck := fun j e => by
    by_cases hj : i = j
    · subst hj
      by_cases hl : i < g.length
      · rw [List.getElem?_set_self hl] at e; cases e
      · rw [List.getElem?_eq_none (by rw [List.length_set]; omega)] at e; cases e
    · rw [List.getElem?_set_ne hj] at e ⊢
      exact o.dck j e
  adr := fun j b od' fs' e => by
    by_cases hj : i = j
    · subst hj
      by_cases hl : i < g.length
      · rw [List.getElem?_set_self hl] at e
        cases e
        exact ⟨by rw [List.getElem?_set_self (by rw [← o.len]; exact hl)], h⟩
      · rw [List.getElem?_eq_none (by rw [List.length_set]; omega)] at e; cases e
    · rw [List.getElem?_set_ne hj] at e ⊢
      exact o.adr j b od' fs' e
/-- the data that stand now are remembered -/
abbrev Bs.tag (B : Bs) (T : Hp) : Bs := { B with tG := T }
theorem Fm.tag (f : Fm K B H G n) {T : Hp} (h : Same T G) : Fm K (B.tag T) H G n := ⟨f.keep, f.sub, f.old, f.obs, f.bt, h, f.new, f.deck⟩
theorem Fm.untag {T : Hp} (f : Fm K (B.tag T) H G n) (h : Same B.tG G) : Fm K B H G n := ⟨f.keep, f.sub, f.old, f.obs, f.bt, h, f.new, f.deck⟩
theorem Ok.tag (o : Ok K B g σ H G n) {T : Hp} (h : Same T G) : Ok K (B.tag T) g σ H G n := ⟨o.fm.tag h, o.len, o.val, o.own, o.dck, o.adr⟩
theorem Ok.untag {T : Hp} (o : Ok K (B.tag T) g σ H G n) (h : Same B.tG G) : Ok K B g σ H G n := ⟨o.fm.untag h, o.len, o.val, o.own, o.dck, o.adr⟩
/-- a slot of which nothing is known goes -/
theorem Ok.unset (o : Ok K B g σ H G n) {i : Nat} (h : g[i]? = some Sl.any) : Ok K B g (σ.set i none) H G n where
  fm := o.fm
  len := by rw [List.length_set, o.len]
  val := fun j e he => by
    have : i ≠ j := by rintro rfl; rw [h] at he; cases he
    rw [List.getElem?_set_ne this]
    exact o.val j e he
  own := by
    obtain ⟨f, h1, h2⟩ := o.own
    refine ⟨f, h1, fun j ds e => ?_⟩
    have : i ≠ j := by rintro rfl; rw [h] at e; cases e
    rw [List.getElem?_set_ne this]
    exact h2 j ds e
  dck := fun j e => by
    have : i ≠ j := by rintro rfl; rw [h] at e; cases e
    rw [List.getElem?_set_ne this]
    exact o.dck j e
  adr := fun j b od fs e => by
    have : i ≠ j := by rintro rfl; rw [h] at e; cases e
    rw [List.getElem?_set_ne this]
    exact o.adr j b od fs e
end
section
variable {m₁ m : Type → Type} [Mo m₁] [Mo m] [Tr m₁ m] {A : Type} {X : Cx} {EX : XR} {g gk : List Sl}
/-- the suite's mirrors, by the error's class -/
def exc1 {α : Type} (c f : Str) (e : Exn) (h : D → m α) (r : m α) : m α := if e.cls = c then (match e.fs with
  | [(f', d)] => if f' = f then h d else Mo.lift none
  | _ => Mo.lift none) else r
theorem exc1_pick {α : Type} {c f : Str} {e : Exn} {h : D → m α} {r : m α} {n : Wd} {φ : α → Wd → Prop} {ξ : Exn → Wd → Prop} {Q : Prop} (s : Mo.sat (exc1 c f e h r) n φ ξ) (h1 : e.cls = c → Q) (h2 : Mo.sat r n φ ξ → Q) : Q := by
  unfold exc1 at s
  split at s
  · rename_i z; exact h1 z
  · exact h2 s
theorem no_sat {α : Type} {n : Wd} {φ : α → Wd → Prop} {ξ : Exn → Wd → Prop} {Q : Prop} (s : Mo.sat (Mo.lift none : m α) n φ ξ) : Q := by
  obtain ⟨_, e, _⟩ := Mo.sat_lift s
  cases e
theorem bj_exc1 {c f : Str} {e : Exn} {ss : List Stmt} {h : D → m (Fl A)} {r : m (Fl A)} {P : A → List Sl} {EX : XR} {X : Cx} (h1 : ∀ d, e.cls = c → e.fs = [(f, d)] → BJ X EX ss g (h d) P) (h2 : BJ X EX ss g r P) : BJ X EX ss g (exc1 c f e h r) P := by
  unfold exc1
  by_cases z : e.cls = c
  · rw [if_pos z]
    obtain ⟨cl, fs⟩ := e
    match fs with
    | [(f', d)] =>
      dsimp only
      by_cases zf : f' = f
      · rw [if_pos zf]; exact h1 d z (by rw [zf])
      · rw [if_neg zf]
        exact ⟨fun pins s σ H De I ⟨B, G, n, φ, ξ, o, st, _⟩ => no_sat st⟩
    | [] => exact ⟨fun pins s σ H De I ⟨B, G, n, φ, ξ, o, st, _⟩ => no_sat st⟩
    | _ :: _ :: _ => exact ⟨fun pins s σ H De I ⟨B, G, n, φ, ξ, o, st, _⟩ => no_sat st⟩
  · rw [if_neg z]; exact h2
theorem bj_no {ss : List Stmt} {P : A → List Sl} {EX : XR} {X : Cx} : BJ X EX ss g (Mo.lift none : m (Fl A)) P := ⟨fun pins s σ H De I ⟨B, G, n, φ, ξ, o, st, _⟩ => no_sat st⟩
/-- what a suite may lean on -/
structure Held (X : Cx) (e : Exn) (a : Addr) (oe : Obj) (od : Option Addr) (C : Addr) : Prop where
  nm : X.mg e.cls = some (.ref C)
  zc : L2N.Zn (.ref C) od oe
  da : ∃ vs, oe.data = .fields vs
theorem try_as (i : Nat) {x n : Str} {cv : Value} {body suite : List Stmt} {b₀ : Stmt} {np pos pos' : Pos} {P : A → List Sl} {y : m₁ (Fl A)} {h : Exn → m (Fl A)}
    (hs : X.stack = X.env :: X.outer) (hf : X.env.frame = some X.env.locals) (hN : X.N.Nodup) (hi : X.N[i]? = some n) (hln : X.env.kindOf n = some .local) (hc : Names X x cv) (tk : L2N.Takes X EX.w)
    (hct : ∀ (e : Exn) (n : Wd) (φ : Fl A → Wd → Prop) (ξ : Exn → Wd → Prop), Mo.sat (h e) n φ ξ → ∀ C, X.mg e.cls = some (.ref C) → PySem.W.exmOne X.K (.ref C) cv = some true)
    (hP : ∀ a, (P a)[i]? = some Sl.any)
    (hb : ∀ (W : WX) (pn : List (Addr × Obj)) (xe : Value → Shared → Prop), L2N.Takes (X.tr pn xe) W → PassesOwn (model X.prog X.w) X.A X.env xe → BJ (X.tr pn xe) ⟨W, gk⟩ body g y P)
    (hsu : ∀ (e : Exn) (a : Addr) (oe : Obj) (od : Option Addr) (C : Addr) (pn : List (Addr × Obj)), Held X e a oe od C → BJ (X.suite a ((a, oe) :: pn)) X0 (b₀ :: suite) (gk.set i (.exn a od e.fs)) (h e) P) [Calm m] :
    PS X (.Try body [.ExceptHandler (some (.Name x np)) (some n) (b₀ :: suite) pos'] [] [] pos) (tbJ X EX g (Tr.try_ y h) P) := by
  refine (L2N.ps_try_as (tb := fun W => tbJ X ⟨W, gk⟩ g y P) (ts := fun a cls od De σ H => ∃ t : { t : Exn × Addr // X.mg t.1.cls = some (.ref t.2) ∧ cls = .ref t.2 }, tbJ X X0 (gk.set i (.exn a od t.1.1.fs)) (h t.1.1) P De σ H) hs hf hN hi hln hc tk (fun W pn xe t p => hb W pn xe t p)
    fun a oe cls od pn hz hd => pss_any fun t => ?_).weak fun De σ H ⟨B, G, n, φ, ξ, o, s, q1, q2, xw⟩ => ⟨B.tag G, G, n, φ, _, o.tag (Same.refl _), Tr.sat_try s, fun b τ H2 G2 n2 o2 g2 p2 => q1 b τ H2 G2 n2 (o2.untag (o.fm.tg.trans g2)) g2 p2, fun v H2 G2 d n2 f2 dv p2 => q2 v H2 G2 d n2 (f2.untag (o.fm.tg.trans f2.tg)) dv p2, fun e n' σ' H' G' c od he o' ex => ?_⟩
  · obtain ⟨⟨e, C⟩, h1, h2⟩ := t
    dsimp only at h1 h2
    subst h2
    exact hsu e a oe od C pn ⟨h1, hz, hd⟩
  · obtain ⟨C, k1, k2, k3⟩ := ex
    subst k2
    have gg : Same G G' := o'.fm.tg
    have o'' := o'.untag (B := B) (o.fm.tg.trans gg)
    refine ⟨true, hct e n' φ ξ he C k1, fun _ a ha => ⟨⟨(e, C), k1, rfl⟩, B, G', n', φ, fun _ _ => False, o''.setX k3, Calm.calm he, fun b τ H2 G2 n2 o2 g2 p2 => ?_, q2, fun _ _ _ _ _ _ _ z => z.elim⟩, fun z => by cases z⟩
    exact q1 b _ H2 G2 n2 (o2.unset (hP b)) (gg.trans g2) p2
end
end DD
namespace DD
open PySem PySem.Spec PyProof.Rows L2
/-! ### in an except suite: isinstance, the error's fields -/
/-- what the written part says of an error's class -/
structure ErK (K : PySem.W.Frag) (C : Addr) : Prop where
  hcl : (PySem.W.clsIn K C).isSome = true
  hga : PySem.W.findIn K (.ref C) "__getattribute__" = some (some (.builtin "BaseException.__getattribute__"))
  hgt : PySem.W.findIn K (.ref C) "__getattr__" = some none
  hsub : PySem.W.subIn K (.ref C) (.type "BaseException") = some true
  hdC : PySem.W.hasDictIn K C = true
  ha : PySem.W.findIn K (.ref C) "__class__" = some (some (.builtin "object.__class__"))
  hn : PySem.W.specialIn K (.builtin "object.__class__") "__get__" = some (some (.builtin "getset_descriptor.__get__"))
  ht : PySem.W.takesIn K (.builtin "object.__class__") = some true
  hm : PySem.W.mroIn K C (.type "object") = some true
section
variable {m : Type → Type} [Mo m] {X : Cx} {EX : XR} {g : List Sl} {e : Exn} {a C : Addr} {oe : Obj} {od : Option Addr} {pn : List (Addr × Obj)}
/-- e.f -/
theorem ej_xf (i : Nat) {f n : Str} {d : D} {p pos : Pos} (hh : Held X e a oe od C) (T : ErK X.K C) (hno : PySem.W.findIn X.K (.ref C) f = some none) (hs : g[i]? = some (Sl.exn a od [(f, d)]) := by rfl) (hN : X.N[i]? = some n := by rfl) (hv : Vis X.env.scope n := by first | exact Or.inl rfl | exact Or.inr (Or.inl rfl) | exact Or.inr (Or.inr rfl)) (hd : (n == ("__debug__" : Str)) = false := by decide)
    (hcd : (n == ("__classdict__" : Str)) = false := by decide) (hb : attributeBase (.Name n p) f X.env (eval (.Name n p) X.env) = eval (.Name n p) X.env := by rfl) :
    EJ (m := m) (X.suite a ((a, oe) :: pn)) EX (.Attribute (.Name n p) f pos) g (pure d) :=
  (pe_xf (X := X) (n := f) ⟨T.hga, T.hgt, T.hsub, T.hdC⟩ hno hh.zc.zc hh.da (pe_var (X := X.suite a ((a, oe) :: pn)) hN hv hd hcd) hb).weak fun σ H Q ⟨B, G, n, φ, ξ, o, s, q, _⟩ => by
    obtain ⟨e1, e2⟩ := o.adr i a od _ hs
    rcases e2 with ⟨e3, _⟩ | ⟨dx, vs, h1, h2, h3, h4⟩
    · cases e3
    · match vs, h3, h4 with
      | [(f', v)], h3, .cons h5 _ =>
        have : f' = f := by simpa using h3
        subst this
        exact ⟨.ref a, e1, rfl, rfl, dx, [(f', v)], v, h1, o.fm.sub.h _ _ h2 rfl, by simp [List.lookup], q v H G d n o (Same.refl _) h5 (Mo.sat_pure s)⟩
end
end DD
namespace DD
open PySem PySem.Spec PyProof.Rows L2
/-! ### raising defs with a star parameter -/
def FnXS (P : Program) (w : World) (K : PySem.W.Frag) (mg : Str → Option Value) (base : Heap) (k : Nat) (f : Addr) (sp : Sp) : Prop := ∀ (A : Around) (outer : List Env) (s : Shared) (H : Hp) (us : List Value) (vs : List V) (Q : VK) (E : XK), Room k A → A.guards = some [] → Env0 P w K mg base A outer s H → Vals vs us → sp vs H Q E →
  codeAny (model P w) A (.call (.ref f) ⟨us, []⟩) (CR (L2N.CX P w) outer P w H s Q E) s
section
variable {P : Program} {w : World} {K : PySem.W.Frag} {mg : Str → Option Value} {base : Heap} {k : Nat}
theorem fnxs_of {x qual : Str} {st : Stmt} {f : Addr} {fd : FuncData} {N ps : List Str} {pv : Str} {sp : Sp} (F : Fun K x qual st f fd) (S : FnScope N (ps ++ [pv]) (defScope st))
    (hbd : ∀ (kV doc pm : Value) (an : Option Addr) (cdv ct : Value) (us rest : List Value), us.length = ps.length → bindArgs (PySem.W.fnOf x qual (defArgs st) (defBody st) (defScope st) .none kV doc pm an cdv ct) ⟨us ++ rest, []⟩ = (newTuple rest >>= fun t => pure (ps.zip us ++ [(pv, t)])))
    (hb : ∀ (cdv : Value) (A : Around) (outer : List Env) (s : Shared) (H : Hp) (vs : List V) (Q : VK) (E : XK), Room k (A.deeper (envOfC qual (defScope st) s.heap.objs.size f cdv)) → A.guards = some [] → sp vs H Q E →
      ∃ t, PSs (cxOf (L2N.CX P w) P w K mg base N qual (defScope st) f cdv A outer s H E) (defBody st) t ∧ t { nx := fun _ H' => Q .non H', rt := Q } (start N vs) H) :
    FnXS P w K mg base (k + 1) f (fun vs H Q E => ∃ ws rest, vs = ws ++ rest ∧ ws.length = ps.length ∧ rest.length ≤ sizeLine ∧ ∀ p, H p = none → sp (ws ++ [V.ref p]) (upd H p (.tup rest)) Q E) := by
  obtain ⟨oc, od, kV, doc, pm, an, cdv, ct, osl, rfl, lk, hcd⟩ := F.ex
  intro A outer s H us vs Q E hr gu e0 r hsp
  obtain ⟨ws, rest, rfl, hl, hz, hq⟩ := hsp
  obtain ⟨u1, u2, rfl, r1, r2⟩ := StX.vals_split r
  have hn : H s.heap.objs.size = none := e0.hok.fresh (Nat.le_refl _)
  have hl1 : u1.length = ps.length := by rw [← r1.length]; exact hl
  have hl2 : u2.length ≤ sizeLine := by rw [← r2.length]; exact hz
  refine StX.run_bnd lk hcd S hr e0 (G := fun xs H2 => ∃ p, H p = none ∧ xs = ws ++ [V.ref p] ∧ H2 = upd H p (.tup rest)) (fun A' Ex Q' h => ?_) fun s2 H2 xs ⟨p, hp, ex, eH⟩ hr' => ?_
  · rw [hbd kV doc pm an cdv ct u1 u2 hl1]
    refine wpAny_bind (wpAny_newTuple (wpAny_pure ?_) hl2)
    have new : ObjOk P w (upd H s.heap.objs.size (.tup rest)) (s.heap.push ({ cls := .type "tuple", data := .seq u2.toArray } : Obj)) s.heap.objs.size (.tup rest) := ⟨hz, u2, r2, ⟨_, Heap.get?_push_size _ rfl, rfl, _, rfl⟩⟩
    have un := StX.un_laid (fs := frs outer) (s := s) (o := ({ cls := .type "tuple", data := .seq u2.toArray } : Obj)) (u := .tup rest) hn
    have z := h _ _ (ws ++ [V.ref s.heap.objs.size]) (u1 ++ [Value.ref s.heap.objs.size]) (StX.env0_laid e0 new) un rfl (fun e s' => cxUpN outer s H _ _ E e s' un (fun b o q => Heap.get?_push_of_some _ q) rfl) (r1.append (.cons rfl .nil)) (by rw [List.length_append, List.length_append, hl] <;> rfl) ⟨_, hn, rfl, rfl⟩
    rw [List.zip_append hl1.symm] at z
    exact z
  · subst ex eH
    exact hb cdv A outer s2 _ _ Q E hr' gu (hq p hp)
variable {m : Type → Type} [Mo m]
theorem fnx_arS {x qual : Str} {st : Stmt} {f : Addr} {fd : FuncData} {N : List Str} {p1 pv : Str} {F : D → D → m D} (Fu : Fun K x qual st f fd) (S : FnScope N ([p1] ++ [pv]) (defScope st))
    (hbd : ∀ (kV doc pm : Value) (an : Option Addr) (cdv ct : Value) (us rest : List Value), us.length = [p1].length → bindArgs (PySem.W.fnOf x qual (defArgs st) (defBody st) (defScope st) .none kV doc pm an cdv ct) ⟨us ++ rest, []⟩ = (newTuple rest >>= fun t => pure ([p1].zip us ++ [(pv, t)])))
    (hb : ∀ (a0 a1 : D) (cdv : Value) (A : Around) (outer : List Env) (s : Shared) (H : Hp) (E : XK), Room k (A.deeper (envOfC qual (defScope st) s.heap.objs.size f cdv)) → A.guards = some [] →
      FJ (cxOf (L2N.CX P w) P w K mg base N qual (defScope st) f cdv A outer s H E) (xrOf N E) true (defBody st) ([Sl.val a0, Sl.val a1] ++ List.replicate (N.length - 2) .any) (F a0 a1)) : FnXS P w K mg base (k + 1) f (spX K mg (arS F)) := by
  have base := fnxs_of (sp := spX K mg (ar2 F)) Fu S hbd fun cdv A outer s H vs Q E hr gu ⟨G, n, dk, as, φ, ξ, a, fm, st, q, qx⟩ => by
    unfold ar2 at st
    split at st
    · exact ⟨_, hb _ _ cdv A outer s H E hr gu, ⟨H, G, dk, G⟩, G, n, φ, ξ, ok_start a fm, st, q, fun _ σ' H' G' n' f' p => q .non H' G' .none n' f' .non p, fun e n' σ' H' G' c od he o ex => qx e c od H' G' n' o.fm ex he⟩
    · exact no_sat st
  intro A outer s H us vs Q E hr gu e0 r ⟨G, n, dk, as, φ, ξ, a, fm, st, q, qx⟩
  refine base A outer s H us vs Q E hr gu e0 r ?_
  unfold arS at st
  split at st
  · rename_i a0 ra
    obtain ⟨ds, e1, s2⟩ := Mo.sat_lift (Mo.sat_bind st)
    obtain ⟨es, e2, e3⟩ := Option.bind_eq_some_iff.mp e1
    cases a with
    | cons h0 hr2 =>
    rename_i v0 vs2
    have hsm : es = ds ∧ es.length ≤ 1000000 := by
      unfold small at e3
      split at e3
      · rename_i hlen; cases e3; exact ⟨rfl, hlen⟩
      · cases e3
    obtain ⟨rfl, hlen⟩ := hsm
    have hall := hr2.vals e2
    refine ⟨[v0], vs2, rfl, rfl, by rw [hall.length]; exact le_line hlen, fun p hp => ?_⟩
    have gr := Gr.alloc (u := .tup vs2) fm.sub hp
    have fm2 : Fm K ⟨H, G, dk, G⟩ (upd H p (.tup vs2)) (upd G p (.tup vs2)) n := fm.grow gr.h gr.g gr.sub gr.new gr.mks
    have bk : ∀ {H' G' : Hp} {n' : Wd}, Fm K ⟨upd H p (.tup vs2), upd G p (.tup vs2), dk, upd G p (.tup vs2)⟩ H' G' n' → Fm K ⟨H, G, dk, G⟩ H' G' n' := fun f' => (Fm.back (ok_start (K := K) (N := []) (vs := []) (as := []) .nil fm2) (.inr rfl) f').1.fm
    exact ⟨upd G p (.tup vs2), n, dk, [.val a0, .val (.tuple es)], φ, ξ, .cons (h0.mono gr.g) (.cons (.tup (.inl (.inl upd_same)) (hall.mono gr.g)) .nil), fm2.at_call, s2, fun v H' G' d n' f' dv pf => q v H' G' d n' (bk f') dv pf, fun e c od H' G' n' f' ex hx => qx e c od H' G' n' (bk f') ex hx⟩
  · exact no_sat st
end
structure DefXS (P : Program) (w : World) (K : PySem.W.Frag) (mg : Str → Option Value) (base : Heap) (k : Nat) (x : Str) (sp : Sp) : Prop where
  ex : ∃ f, FnXS P w K mg base k f sp ∧ mg x = some (.ref f) ∧ PySem.W.keepIn K (.ref f) = true
structure DefX (P : Program) (w : World) (K : PySem.W.Frag) (mg : Str → Option Value) (base : Heap) (k : Nat) (x : Str) (ps : List Str) (sp : Sp) : Prop where
  ex : ∃ f fd, FnX P w K mg base k f fd ps sp ∧ mg x = some (.ref f) ∧ PySem.W.keepIn K (.ref f) = true ∧ Binds K fd ps []
section
variable {m : Type → Type} [Mo m] {X : Cx} {EX : XR} {g : List Sl} {k : Nat} {f : Addr} {ps : List Str}
theorem call_xs {pins : List (Addr × Obj)} {σ : L2.St} {H : Hp} {s : Shared} {Q : VK} {us : List Value} {vs : List V} {sp : Sp} {W : WX} (F : FnXS X.prog X.w X.K X.mg X.base k f sp) (hr : Room k X.A) (gu : X.A.guards = some []) (tk : L2N.Takes X W)
    (I : Inv X pins σ H s) (r : Vals vs us) (h : sp vs H Q (WE W σ)) : wpAny (model X.prog X.w) X.A (call (.ref f) us) (EP X pins σ Q) X.xe s := by
  refine wpAny_call (codeAny_mono (F X.A X.stack s H us vs Q (WE W σ) hr gu I.env0 r h) fun z s' hq => ?_)
  cases z with
  | error e => exact L2N.passAt tk σ pins H s e s' I hq
  | ok fl =>
    cases fl with
    | ret u => exact I.after hq
    | next => exact False.elim hq
    | brk => exact False.elim hq
    | cont => exact False.elim hq
theorem pe_xs {x : Str} {p pos : Pos} {e : Expr} {es : List Expr} {t : TA} {sp : Sp} {W : WX} (F : FnXS X.prog X.w X.K X.mg X.base k f sp) (hr : Room k X.A) (gu : X.A.guards = some []) (tk : L2N.Takes X W) (hg : Gl X x) (hm : X.mg x = some (.ref f)) (hk : PySem.W.keepIn X.K (.ref f) = true)
    (ha : PA X (e :: es) t) (hd : (x == ("__debug__" : Str)) = false) (he : starEach (e :: es) X.env = (false, eval e X.env) :: starEach es X.env) (hpl : (backTo pos (starEach es X.env)).any (·.1) = false) : PE X (.Call (.Name x p) (e :: es) [] pos) (fun σ H Q => t σ H fun vs H1 => sp vs H1 Q (WE W σ)) :=
  ⟨fun pins s σ H Q I h => wpAny_Call_Name_kw (ld_glob I hg hm (PySem.W.callWith_K (h₀ := X.base) I.ok.mod.kin hk (thn (ha.run pos pins s σ H _ I h) fun us s1 ⟨vs, H1, I1, r, q⟩ => ⟨I1.kIn, call_xs F hr gu tk I1 r q⟩) he hpl) hd)⟩
theorem ej_callXS {x : Str} {p pos : Pos} {e : Expr} {es : List Expr} {F : List Sl → m D} {y : m (List Sl)} (Fn : DefXS X.prog X.w X.K X.mg X.base k x (spX X.K X.mg F)) (hr : Room k X.A) (gu : X.A.guards = some []) (tk : L2N.Takes X EX.w) (sb : Sub g EX.g)
    (ha : AJ X EX (e :: es) g y) (hg : Gl X x := by rfl) (hd : (x == ("__debug__" : Str)) = false := by decide) (he : starEach (e :: es) X.env = (false, eval e X.env) :: starEach es X.env := by rfl) (hpl : (backTo pos (starEach es X.env)).any (·.1) = false := by rfl) :
    EJ X EX (.Call (.Name x p) (e :: es) [] pos) g (y >>= F) := by
  obtain ⟨f, h1, h2, h3⟩ := Fn.ex
  exact (pe_xs h1 hr gu tk hg h2 h3 ha hd he hpl).weak fun σ H Q ⟨B, G, n, φ, ξ, o, s, q, xw⟩ => ⟨B, G, n, _, ξ, o, Mo.sat_bind s, fun vs H1 G1 as n1 o1 g1 a1 s1 =>
    ⟨G1, n1, B.dk, as, φ, ξ, ArgsOk.base (B := B) (B' := ⟨H1, G1, B.dk, G1⟩) rfl a1, o1.fm.at_call, s1, fun v H' G' d n' f' dv p => by
      obtain ⟨o2, g2⟩ := Fm.back o1 (.inr rfl) f'
      exact q v H' G' d n' o2 (g1.trans g2) dv p, fun e' c od H' G' n' f' ex hx => by
      obtain ⟨o2, g2⟩ := Fm.back o1 (.inr rfl) f'
      exact xw e' n' σ H' G' c od hx (o2.forget sb) ex⟩, xw⟩
theorem ej_callXD {x : Str} {p pos : Pos} {e : Expr} {es : List Expr} {F : List Sl → m D} {y : m (List Sl)} (Fn : DefX X.prog X.w X.K X.mg X.base k x ps (spX X.K X.mg F)) (hr : Room k X.A) (gu : X.A.guards = some []) (tk : L2N.Takes X EX.w) (sb : Sub g EX.g)
    (ha : AJ X EX (e :: es) g y) (hg : Gl X x := by rfl) (hd : (x == ("__debug__" : Str)) = false := by decide) (he : starEach (e :: es) X.env = (false, eval e X.env) :: starEach es X.env := by rfl) (hpl : (backTo pos (starEach es X.env)).any (·.1) = false := by rfl) :
    EJ X EX (.Call (.Name x p) (e :: es) [] pos) g (y >>= F) := by
  obtain ⟨f, fd, h1, h2, h3, h4⟩ := Fn.ex
  exact ej_callX h1 hr gu tk sb h2 h3 h4 ha hg hd he hpl
/-! ### what does not raise, within a mirror that may -/
variable {m' : Type → Type} [Mo m'] [Up m' m] {A : Type}
theorem ej_up {e : Expr} {x : m' D} (h : EJ X EX e g x) : EJ (m := m) X EX e g (Up.up x) := PE.weak h fun σ H Q ⟨B, G, n, φ, ξ, o, s, q, xw⟩ => ⟨B, G, n, φ, ξ, o, Up.sat_up s, q, xw⟩
theorem lj_up {e : Expr} {x : m' (List D)} (h : LJ X EX e g x) : LJ (m := m) X EX e g (Up.up x) := PE.weak h fun σ H Q ⟨B, G, n, φ, ξ, o, s, q, xw⟩ => ⟨B, G, n, φ, ξ, o, Up.sat_up s, q, xw⟩
theorem tj_up {e : Expr} {x : m' Bool} (h : TJ X EX e g x) : TJ (m := m) X EX e g (Up.up x) := PT.weak h fun σ H Q ⟨B, G, n, φ, ξ, o, s, q, xw⟩ => ⟨B, G, n, φ, ξ, o, Up.sat_up s, q, xw⟩
theorem ij_up {tg e : Expr} {x : m' (List D)} (h : IJ X EX tg e g x) : IJ (m := m) X EX tg e g (Up.up x) := PI.weak h fun σ H R ⟨B, G, n, φ, ξ, o, s, q, xw⟩ => ⟨B, G, n, φ, ξ, o, Up.sat_up s, q, xw⟩
theorem lcp_up {e : Expr} {x : m' (List D)} (h : LcP X EX e g x) : LcP (m := m) X EX e g (Up.up x) := ⟨lj_up h.expr, fun nd hy hl hs => (h.stmt nd hy hl hs).weak fun De σ H ⟨B, G, n, φ, ξ, o, s, q, xw⟩ => ⟨B, G, n, φ, ξ, o, Up.sat_up s, q, xw⟩⟩
abbrev upX {α : Type} (o : Option α) : Xo α := Up.up (m' := Option) (m := Xo) o
/-- the suite for one class of errors -/
theorem suite1 {i : Nat} {gk : List Sl} {c f : Str} {e : Exn} {a C C' : Addr} {oe : Obj} {od : Option Addr} {X' : Cx} {ss : List Stmt} {h : D → m (Fl A)} {r : m (Fl A)} {P : A → List Sl} (hh : Held X e a oe od C) (hm : X.mg c = some (.ref C')) (h1 : ∀ d, Held X ⟨c, [(f, d)]⟩ a oe od C' → BJ X' X0 ss (gk.set i (.exn a od [(f, d)])) (h d) P) (h2 : BJ X' X0 ss (gk.set i (.exn a od e.fs)) r P) :
    BJ X' X0 ss (gk.set i (.exn a od e.fs)) (exc1 c f e h r) P := by
  refine bj_exc1 (fun d hc hf => ?_) h2
  obtain ⟨cl, fs⟩ := e
  dsimp only at hc hf
  subst hc hf
  have := hh.nm
  dsimp only at this
  rw [hm] at this
  cases this
  exact h1 d hh
/-- which class it is -/
theorem pick_cls {mg : Str → Option Value} {c d : Str} {C C' : Addr} {Q : Addr → Prop} (z : d = c) (h : mg c = some (.ref C')) (hC : mg d = some (.ref C)) (q : Q C') : Q C := by
  rw [z, h] at hC
  cases hC
  exact q
end
section
variable {P : Program} {w : World} {K : PySem.W.Frag} {mg : Str → Option Value} {base : Heap} {k : Nat} {x qual : Str} {st : Stmt} {f : Addr} {fd : FuncData} {N ps : List Str} {m : Type → Type} [Mo m]
theorem fnx_ar1 {F : D → m D} (Fu : Fun K x qual st f fd) (S : FnScope N ps (defScope st)) (hl : ps.length = 1)
    (hb : ∀ (a0 : D), ∀ (cdv : Value) (A : Around) (outer : List Env) (s : Shared) (H : Hp) (E : XK), Room k (A.deeper (envOfC qual (defScope st) s.heap.objs.size f cdv)) → A.guards = some [] →
      FJ (cxOf (L2N.CX P w) P w K mg base N qual (defScope st) f cdv A outer s H E) (xrOf N E) true (defBody st) ([Sl.val a0] ++ List.replicate (N.length - 1) .any) (F a0)) : FnX P w K mg base (k + 1) f fd ps (spX K mg (ar1 F)) := by
  refine fn_jx Fu S fun as n φ ξ s => ?_
  unfold ar1 at s
  split at s
  · exact ⟨hl.symm, hb _⟩
  · exact no_sat s
end
end DD
namespace DD
open PySem PySem.Spec PyProof.Rows L2
def clsBody : Stmt → List Stmt
  | .ClassDef (body := b) .. => b
  | _ => []
def oexC0 (K : PySem.W.Frag) (C : Addr) : Bool := match K.lookup C with
  | some ⟨.type "type", _, .cls cd, sl⟩ => (match cd.mro, sl.toList with
    | .ref C' :: bm, [_, _, _, _, some (.builtin n), _] => C' == C && n == "ValueError.__new__" && cd.hasDict && !cd.hasDel && PySem.HandSPX.refsVE bm
    | _, _ => false)
  | _ => false
theorem oexC0_ok {K : PySem.W.Frag} {C : Addr} (h : oexC0 K C = true) : ∃ nm q N bs bm sn sub ab col dd k0 k1 k2 k3 k5, K.lookup C = some (excClassObj nm q C N bs bm true sn sub ab col dd k0 k1 k2 k3 k5 "ValueError.__new__") ∧ PySem.HandSPX.refsVE bm = true := by
  unfold oexC0 at h
  split at h
  · rename_i dd cd sl hl
    split at h
    · rename_i C' bm k0 k1 k2 k3 n k5 hm hs
      simp only [Bool.and_eq_true, beq_iff_eq, Bool.not_eq_true'] at h
      obtain ⟨⟨⟨⟨h1, h2⟩, h3⟩, h4⟩, h5⟩ := h
      subst h1 h2
      obtain ⟨nm, bs, mro, ns, qn, hd, sn, sb, ab, col, del⟩ := cd
      dsimp only at hm h3 h4
      subst hm h3 h4
      have hs' : sl = #[k0, k1, k2, k3, some (.builtin "ValueError.__new__"), k5] := by
        apply Array.toList_inj.mp
        rw [hs]
      subst hs'
      exact ⟨_, _, _, _, _, _, _, _, _, _, _, _, _, _, _, hl, h5⟩
    · cases h
  · cases h
theorem oex_mk {K : PySem.W.Frag} {C : Addr} (h : oexC0 K C = true) (h1 : PySem.W.findIn K (.ref C) "__setattr__" = some (some (.builtin "object.__setattr__"))) (h2 : PySem.W.subIn K (.ref C) (.type "BaseException") = some true) (h3 : PySem.W.typeIn K (.ref C) = some (.type "type")) (h4 : PySem.W.keepIn K (.ref C) = true) : OexC K C := ⟨oexC0_ok h, h1, h2, h3, h4⟩
theorem er1_mk {P : Program} {w : World} {K : PySem.W.Frag} {mg : Str → Option Value} {base : Heap} {c fl : Str} {C fI : Addr} {fd : FuncData} {ps : List Str} (nm : mg c = some (.ref C)) (T : OexC K C) (i1 : PySem.W.findIn K (.ref C) "__init__" = some (some (.ref fI))) (i2 : PySem.W.typeIn K (.ref fI) = some (.type "function")) (i3 : FnOk P w K mg base CX0 1 fI fd ps (spInit C fl)) (i4 : Binds K fd ps []) : Er1 P w K mg base c fl C := ⟨nm, T, fI, fd, ps, i1, i2, i3, i4⟩
end DD
namespace DD
open PySem PySem.Spec PyProof.Rows L2
/-! ### texts -/
def signsD (z : Str) : List D := z.cps.toList.map fun c => .str ⟨#[c]⟩
theorem walkD_str {K : PySem.W.Frag} {G : Hp} {z : Str} : WalkD K G (Its z) (signsD z) where
  goes := fun i H hi _ => by
    show i < z.cps.size
    simpa [signsD] using hi
  stops := fun H _ => by show z.cps.size ≤ (signsD z).length; simp [signsD]
  yields := fun i H G1 x H' hi s s1 y => by
    obtain ⟨e, c, hc, ev⟩ := y
    subst e ev
    refine ⟨.str ⟨#[c]⟩, G1, ?_, Gr.refl s1, .str _⟩
    unfold signsD
    rw [List.getElem?_map, Array.getElem?_toList, hc]
    rfl
def strItems : D → Option (List D)
  | .str z => some (signsD z)
  | _ => none
def txtD : D → Option Str
  | .str z => some z
  | _ => none
def splitD (a : Str) : D → Option D
  | .str b => if b.length ≠ 0 ∧ a.length ≤ 1000000 then some (.list ((Txt.split a b).map .str)) else none
  | _ => none
abbrev splitM {m : Type → Type} [Mo m] (x y : m D) : m D := x >>= fun d => Mo.lift (txtD d) >>= fun a => y >>= fun e => Mo.lift (splitD a e)
def intTD : D → Option D
  | .str z => if z.length ≤ 640 then (PySem.intText? z).map .int else none
  | d => intD d
def sliceTD (d : D) (lo hi : Option Int) : Option D := match d with
  | .str z => if z.length ≤ 1000000 then some (.str (cutS z lo hi)) else none
  | d => sliceD d lo hi
section
variable {m : Type → Type} [Mo m]
abbrev signM (x : m D) : m (List D) := x >>= fun d => Mo.lift (strItems d)
abbrev slcTM (x : m D) (y z : m (Option Int)) : m D := x >>= fun d => y >>= fun l => z >>= fun h => Mo.lift (sliceTD d l h)
end
/-- a sign in a text -/
def inTD : D → D → Option D
  | .str x, .str z => match x.cps.toList with
    | [c] => some (.bool (decide (c ∈ z.cps.toList)))
    | _ => none
  | _, _ => none
/-- a text no time, or once -/
def mulTD : D → D → Option D
  | .str z, .int k => if k = 0 then some (.str Str.empty) else if k = 1 then some (.str z) else none
  | _, _ => none
def findS (x : Str) : List Str → Option Nat
  | [] => none
  | y :: ys => if y = x then some 0 else (findS x ys).map (· + 1)
def listO : D → Option (List D)
  | .list ds => some ds
  | _ => none
def indexD : D → D → Option D
  | .list ds, .str x => (strsOf ds).bind fun ss => (findS x ss).map fun i => .int (i : Nat)
  | _, _ => none
abbrev indexM {m : Type → Type} [Mo m] (x y : m D) : m D := x >>= fun d => Mo.lift (listO d) >>= fun ds => y >>= fun e => Mo.lift (indexD (.list ds) e)
theorem findS_at {x : Str} : ∀ {ss : List Str} {i : Nat}, findS x ss = some i → ss[i]? = some x ∧ ∀ m y, m < i → ss[m]? = some y → y ≠ x
  | [], _, e => by cases e
  | y :: ys, i, e => by
    unfold findS at e
    split at e
    · rename_i h
      cases e
      exact ⟨by rw [h]; rfl, fun m _ hm => absurd hm (Nat.not_lt_zero m)⟩
    · rename_i h
      obtain ⟨j, hj, rfl⟩ := Option.map_eq_some_iff.mp e
      obtain ⟨h1, h2⟩ := findS_at hj
      refine ⟨h1, fun m z hm hz => ?_⟩
      cases m with
      | zero => cases hz; exact h
      | succ m => exact h2 m z (by omega) hz
theorem one_sign {x : Str} {c : Nat} (h : x.cps.toList = [c]) : x = ⟨#[c]⟩ := by
  cases x with
  | mk a =>
    have : a = #[c] := Array.toList_inj.mp h
    rw [this]
section
variable {m : Type → Type} [Mo m] {X : Cx} {EX : XR} {g : List Sl} {K : PySem.W.Frag}
theorem ij_str {tg e : Expr} {x : m D} (h : EJ X EX e g x) : IJ X EX tg e g (x >>= fun d => Mo.lift (strItems d)) :=
  (pi_str h).weak fun σ H R ⟨B, G, n, φ, ξ, o, s, q, xw⟩ => te_one o s (fun v H1 G1 d n1 o1 g1 d1 s1 => by
    obtain ⟨ds, ed, pd⟩ := Mo.sat_lift s1
    unfold strItems at ed
    split at ed
    · cases ed
      exact ⟨_, d1.toS, q _ H1 G1 _ n1 o1 g1 walkD_str pd⟩
    · cases ed) xw
theorem da_strs {G : Hp} : ∀ ss : List Str, DaAll K G (ss.map V.str) (ss.map PyData.str)
  | [] => .nil
  | x :: r => .cons (.str x) (da_strs r)
theorem Da.txt {G : Hp} {v : V} {d : D} {a : Str} (h : Da K G v d) (e : txtD d = some a) : v = .str a := by
  unfold txtD at e
  split at e
  · cases e; exact h.toS
  · cases e
/-- a.split(b) -/
theorem ej_split {o e : Expr} {apos pos : Pos} {x y : m D} (ho : EJ X EX o g x) (he : EJ X EX e g y) (hs : starEach [e] X.env = [(false, eval e X.env)] := by rfl) (hbase : attributeBase o "split" X.env (eval o X.env) = eval o X.env := by rfl) (hline : (apos.endLine == pos.line) = true := by rfl) :
    EJ X EX (.Call (.Attribute o "split" apos) [e] [] pos) g (splitM x y) :=
  (pe_split ho he hs hbase hline).weak fun σ H Q ⟨B, G, n, φ, ξ, o, s, q, xw⟩ => te_one o s (fun v H1 G1 d n1 o1 g1 d1 s1 => by
    obtain ⟨a, ea, s1⟩ := Mo.sat_lift (Mo.sat_bind s1)
    refine ⟨⟨a, d1.txt ea⟩, te_one o1 s1 (fun w H2 G2 e n2 o2 g2 d2 s2 => ?_) xw⟩
    obtain ⟨z, ez, pz⟩ := Mo.sat_lift s2
    unfold splitD at ez
    split at ez
    · split at ez
      · rename_i b h
        cases ez
        refine ⟨a, b, d1.txt ea, by rw [d2.toS], by simpa using h.1, ?_, fun p hp => ?_⟩
        · exact Nat.le_trans (Nat.add_le_add_right h.2 2) (by decide)
        · obtain ⟨o3, g3⟩ := o2.alloc (u := .lst ((Txt.split a b).map V.str)) hp
          exact q _ _ _ _ n2 o3 ((g1.trans g2).trans g3) (.lst upd_same (da_strs _)) pz
      · cases ez
    · cases ez) xw
/-- xs.index(x), xs a list of texts -/
theorem eqV_str (x y : Str) : eqV (.str x) (.str y) = decide (x = y) := by
  rw [Bool.eq_iff_iff, decide_eq_true_eq]
  constructor
  · intro h
    have : (x == y) = true := h
    exact eq_of_beq this
  · rintro rfl
    exact beq_self_eq_true x
theorem ej_index {o e : Expr} {apos cpos : Pos} {x : m D} {y : m D} (ho : EJ X EX o g x) (he : EJ X EX e g y)
    (hbase : attributeBase o "index" X.env (eval o X.env) = eval o X.env := by rfl)
    (hfew : ((backTo cpos (starEach [e] X.env)).all (fun x => !x.1) && (backToKw cpos (keywordEach [] X.env)).all (fun x => x.1.isSome) && decide ([e].length + ([] : List Keyword).length + (if ([] : List Keyword).isEmpty then 0 else 1) < 30)) = true := by rfl)
    (hline : (apos.endLine == cpos.line) = true := by rfl) (hs : starEach [e] X.env = (false, eval e X.env) :: starEach [] X.env := by rfl) (hpl : (backTo cpos (starEach [] X.env)).any (·.1) = false := by rfl) :
    EJ X EX (.Call (.Attribute o "index" apos) [e] [] cpos) g (x >>= fun d => Mo.lift (listO d) >>= fun ds => y >>= fun e => Mo.lift (indexD (.list ds) e)) :=
  (pe_bm PySem.F.plainAttrs_list PySem.F.slot_list_index PySem.F.type_list_index mt_index ho (pa_cons he pa_nil hs) hbase hfew hline hs hpl).weak fun σ H Q ⟨B, G, n, φ, ξ, o, s, q, xw⟩ => te_one o s (fun v H1 G1 d n1 o1 g1 d1 s1 => by
    obtain ⟨ds, ed, s1'⟩ := Mo.sat_lift (Mo.sat_bind s1)
    unfold listO at ed
    split at ed
    · cases ed
      obtain ⟨a, xs, rfl, ha, da⟩ := d1.toL
      refine ⟨.inl ⟨rfl, xs, .inl (.inl (o1.fm.sub.h _ _ ha rfl))⟩, te_one o1 s1' (fun w H2 G2 e n2 o2 g2 d2 s2 => ?_) xw⟩
      obtain ⟨z, ez, pz⟩ := Mo.sat_lift s2
      unfold indexD at ez
      split at ez
      · rename_i ds' x' ed'
        cases ed'
        obtain ⟨ss, es, ez⟩ := Option.bind_eq_some_iff.mp ez
        obtain ⟨i, ei, rfl⟩ := Option.map_eq_some_iff.mp ez
        obtain ⟨h1, h2⟩ := findS_at ei
        have hx := strs_da da es
        refine ⟨a, xs, w, i, .str x', rfl, rfl, .of (o2.fm.sub.h _ _ (g2 _ _ ha) rfl), by rw [d2.toS]; rfl, by rw [hx]; exact flat_strs ss, by rw [hx, List.getElem?_map, h1]; rfl, by rw [d2.toS, eqV_str]; simp, fun m z' hm hz => ?_, q _ H2 G2 _ n2 o2 (g1.trans g2) (.int _) pz⟩
        rw [hx, List.getElem?_map] at hz
        obtain ⟨y', hy', rfl⟩ := Option.map_eq_some_iff.mp hz
        rw [d2.toS, eqV_str]
        simpa using h2 m y' hm hy'
      · cases ez
    · cases ed) xw
theorem rc_intT : RC1 K (callOr (fun xs H Q => (∃ i, xs = [V.int i] ∧ Q (.int i) H) ∨ ∃ k, xs = [V.bl k] ∧ Q (.int (if k then 1 else 0)) H) (fun xs H Q => ∃ a n, xs = [.str a] ∧ PySem.intText? a = some n ∧ a.length ≤ 640 ∧ Q (.int n) H)) intTD := by
  intro x dx z H G Q hx hs e q
  unfold intTD at e
  split at e
  · split at e
    · rename_i h
      obtain ⟨n, en, rfl⟩ := Option.map_eq_some_iff.mp e
      exact .inr ⟨_, n, by rw [hx.toS], en, h, q _ H G (Gr.refl hs) (.int _)⟩
    · cases e
  · exact .inl (rc_int x _ z H G Q hx hs e q)
theorem call_intT : CallR X (.type "int") (callOr (fun xs H Q => (∃ i, xs = [V.int i] ∧ Q (.int i) H) ∨ ∃ k, xs = [V.bl k] ∧ Q (.int (if k then 1 else 0)) H) (fun xs H Q => ∃ a n, xs = [.str a] ∧ PySem.intText? a = some n ∧ a.length ≤ 640 ∧ Q (.int n) H)) := call_or call_int1 call_int_str
def rInT : R2 := fun x y H Q => ∃ (c : Nat) (z : Str), x = .str ⟨#[c]⟩ ∧ y = .str z ∧ Q (.bl (decide (c ∈ z.cps.toList))) H
theorem op_inT : OpR X (compareOp .In) rInT := op_in_sign
theorem rd_inT : RD K rInT inTD := by
  intro x y dx dy z H G Q hx hy hs e q
  unfold inTD at e
  split at e
  · split at e
    · rename_i c hc
      cases e
      exact ⟨c, _, by rw [hx.toS, one_sign hc], hy.toS, q _ H G (Gr.refl hs) (.bl _)⟩
    · cases e
  · cases e
def rMulT : R2 := fun x y H Q => ∃ z : Str, x = .str z ∧ ((y = .int 0 ∧ Q (.str Str.empty) H) ∨ (y = .int 1 ∧ Q (.str z) H))
theorem op_mulT : OpR X (binaryOp .Mult) rMulT := by
  intro pins s σ H x y v u Q I rx ry ⟨z, ex, h⟩
  subst ex
  obtain ⟨t, rfl⟩ := rx
  rcases h with ⟨ey, q⟩ | ⟨ey, q⟩
  · subst ey
    obtain ⟨t', rfl⟩ := ry
    exact PySem.P.mul_str_none (by decide) (by decide) ⟨.str Str.empty, H, I.tok _, ⟨_, rfl⟩, q⟩
  · subst ey
    obtain ⟨t', rfl⟩ := ry
    refine PySem.P.mul_str (by decide) (fun _ h => absurd h (by simp)) (fun _ h => absurd h (by simp)) ?_
    rw [if_neg (by decide), if_pos (by simp)]
    exact ⟨.str z, H, I, ⟨t, rfl⟩, q⟩
theorem rd_mulT : RD K rMulT mulTD := by
  intro x y dx dy z H G Q hx hy hs e q
  unfold mulTD at e
  split at e
  · split at e
    · rename_i h
      subst h
      cases e
      exact ⟨_, hx.toS, .inl ⟨hy.toI, q _ H G (Gr.refl hs) (.str _)⟩⟩
    · split at e
      · rename_i h
        subst h
        cases e
        exact ⟨_, hx.toS, .inr ⟨hy.toI, q _ H G (Gr.refl hs) (.str _)⟩⟩
      · cases e
  · cases e
theorem ej_sliceT {a : Expr} {lo hi : Option Expr} {pos p2 : Pos} {x : m D} {y z : m (Option Int)} (ha : EJ X EX a g x) (hb : OJ X EX lo g y) (hc : OJ X EX hi g z) : EJ X EX (.Subscript a (.Slice lo hi none p2) pos) g (x >>= fun d => y >>= fun l => z >>= fun h => Mo.lift (sliceTD d l h)) :=
  (pe_slice (sl_or sl_str (sl_or sl_list sl_tupA)) ha hb hc).weak fun σ H Q ⟨B, G, n, φ, ξ, o, s, q, xw⟩ => te_one o s (fun v H1 G1 d n1 o1 g1 d1 s1 => ⟨B, G1, n1, _, ξ, o1, Mo.sat_bind s1, fun l H2 G2 n2 o2 g2 s2 => ⟨B, G2, n2, _, ξ, o2, Mo.sat_bind s2, fun h H3 G3 n3 o3 g3 s3 => by
    obtain ⟨w, ew, pw⟩ := Mo.sat_lift s3
    unfold sliceTD at ew
    split at ew
    · split at ew
      · rename_i hl
        cases ew
        exact .inl ⟨_, d1.toS, le_line hl, q _ H3 G3 _ n3 o3 ((g1.trans g2).trans g3) (.str _) pw⟩
      · cases ew
    · exact .inr (sl_data ((d1.mono g2).mono g3) o3.fm.sub ew fun u H4 G4 gr du => q u H4 G4 w n3 (o3.gr gr) (((g1.trans g2).trans g3).trans gr.g) du pw), xw⟩, xw⟩) xw
end
end DD
namespace DD
open PySem PySem.Spec PyProof.Rows L2
section
variable {m₁ m : Type → Type} [Mo m₁] [Mo m] [Tr m₁ m] {A : Type} {X : Cx} {EX : XR} {g gk : List Sl}
/-- try: .. except C: suite (the error is not named) -/
theorem try_only {x : Str} {cv : Value} {body suite : List Stmt} {b₀ : Stmt} {np pos pos' : Pos} {P : A → List Sl} {y : m₁ (Fl A)} {h : Exn → m (Fl A)}
    (hs : X.stack = X.env :: X.outer) (hf : X.env.frame = some X.env.locals) (hc : Names X x cv) (tk : L2N.Takes X EX.w)
    (hct : ∀ (e : Exn) (n : Wd) (φ : Fl A → Wd → Prop) (ξ : Exn → Wd → Prop), Mo.sat (h e) n φ ξ → ∀ C, X.mg e.cls = some (.ref C) → PySem.W.exmOne X.K (.ref C) cv = some true)
    (hb : ∀ (W : WX) (pn : List (Addr × Obj)) (xe : Value → Shared → Prop), L2N.Takes (X.tr pn xe) W → PassesOwn (model X.prog X.w) X.A X.env xe → BJ (X.tr pn xe) ⟨W, gk⟩ body g y P)
    (hsu : ∀ (e : Exn) (a : Addr) (oe : Obj) (od : Option Addr) (C : Addr) (pn : List (Addr × Obj)), Held X e a oe od C → BJ (X.suite a ((a, oe) :: pn)) X0 (b₀ :: suite) gk (h e) P) [Calm m] :
    PS X (.Try body [.ExceptHandler (some (.Name x np)) none (b₀ :: suite) pos'] [] [] pos) (tbJ X EX g (Tr.try_ y h) P) := by
  refine (ps_try_onlyN (tb := fun W => tbJ X ⟨W, gk⟩ g y P) (ts := fun a cls od De σ H => ∃ t : { t : Exn × Addr // X.mg t.1.cls = some (.ref t.2) ∧ cls = .ref t.2 }, tbJ X X0 gk (h t.1.1) P De σ H) hs hf hc tk (fun W pn xe t p => hb W pn xe t p)
    fun a oe cls od pn hz hd => pss_any fun t => ?_).weak fun De σ H ⟨B, G, n, φ, ξ, o, s, q1, q2, xw⟩ => ⟨B.tag G, G, n, φ, _, o.tag (Same.refl _), Tr.sat_try s, fun b τ H2 G2 n2 o2 g2 p2 => q1 b τ H2 G2 n2 (o2.untag (o.fm.tg.trans g2)) g2 p2, fun v H2 G2 d n2 f2 dv p2 => q2 v H2 G2 d n2 (f2.untag (o.fm.tg.trans f2.tg)) dv p2, fun e n' σ' H' G' c od he o' ex => ?_⟩
  · obtain ⟨⟨e, C⟩, h1, h2⟩ := t
    dsimp only at h1 h2
    subst h2
    exact hsu e a oe od C pn ⟨h1, hz, hd⟩
  · obtain ⟨C, k1, k2, k3⟩ := ex
    subst k2
    have gg : Same G G' := o'.fm.tg
    have o'' := o'.untag (B := B) (o.fm.tg.trans gg)
    refine ⟨true, hct e n' φ ξ he C k1, fun _ a ha => ⟨⟨(e, C), k1, rfl⟩, B, G', n', φ, fun _ _ => False, o'', Calm.calm he, fun b τ H2 G2 n2 o2 g2 p2 => ?_, q2, fun _ _ _ _ _ _ _ z => z.elim⟩, fun z => by cases z⟩
    exact q1 b _ H2 G2 n2 o2 (gg.trans g2) p2
end
end DD
namespace DD
open PySem PySem.Spec PyProof.Rows L2
/-! ### instances that do not change any more: attributes, methods, properties -/
def keyIs (f : Str) : D → Bool
  | .str x => f == x
  | _ => false
section
variable {K : PySem.W.Frag} {G : Hp}
theorem ClsOk.one {c : Str} {C C' : Addr} (h : ClsOk K c C) (h' : ClsOk K c C') : C' = C := by
  have e := h.nm
  rw [h'.nm] at e
  cases e
  rfl
end
end DD
namespace DD
open PySem PySem.Spec PyProof.Rows L2
/-! ### the body of an __init__: checks, then attributes of self -/
def Bs.at (B : Bs) (x : Addr) (u : HO) : Bs := ⟨upd B.H x u, B.G, B.dk, B.tG⟩
end DD
namespace DD
open PySem PySem.Spec PyProof.Rows L2
/-! ### xs.count(b), xs a list of bools -/
section
variable {m : Type → Type} [Mo m] {X : Cx} {EX : XR} {g : List Sl}
theorem unitsS {A : Around} {k : Nat} {h : Option Value} (r : Room k A) : (A.mark h).units + 64 < cLine := (show A.units + 64 < cLine from units_of r)
end
end DD
namespace DD
open PySem PySem.Spec PyProof.Rows L2
/-! ### what may raise, where it does not -/
def calmO {α : Type} (x : Xo α) : Option α := match x with
  | some (.ok a) => some a
  | _ => none
theorem takes00 {X : Cx} : L2N.Takes X (fun _ _ _ _ => False) := fun u s' ⟨a, B, sI, pins, σ, H, cls, d, e, I, nb, up, sky, na, os, ag, w⟩ => False.elim w
end DD
/-! list comprehensions within an except suite -/
namespace DD
open PySem PySem.Spec PySem.Calls PyProof.Rows HotX
section
variable {prog : Program} {w : World} {A : Around} {E : Value → Shared → Prop} {s : Shared}
/-- a list's iterator at its end, within an except suite: None, and nothing that stood is changed but the iterator -/
theorem list_end_hot {p l y : Addr} {i : Nat} {its : Array Value} {Q : Option Value → Shared → Prop} (hot : HotAt A y s.heap) (hyp : y ≠ p) (hi : s.heap.IsListIter p l i) (hl : s.heap.IsList l its) (he : its[i]? = none)
    (q : ∀ g, (∀ b o, b ≠ p → s.heap.get? b = some o → g.get? b = some o) → Q none { s with heap := g }) : wpAny (model prog w) A (pyNext (.ref p)) Q E s := by
  obtain ⟨op, gp, cp, dp⟩ := id hi
  obtain ⟨ol, gl, -, nl, dl⟩ := hl
  obtain ⟨hh, oy, fy, gy, dy, cy⟩ := hot
  unfold pyNext
  refine wpAny_bind (wpAny_attempt (wpAny_callSpecial?_slot (name := Str.ofString "__next__") hi.typeIs slot_listiter_next (wpAny_call_entry slot_listiter_next hi.typeIs entry_listiter_next ?body (args_listiter_next _))))
  case body =>
    refine wpAny_bind (m := field (.ref p) 0) (wpAny_field gp dp (x := .ref l) rfl ?_)
    rw [if_neg (show ¬ ((Value.ref l == Value.none) = true) from fun z => by cases z)]
    refine wpAny_bind (m := field (.ref p) 1) (wpAny_field gp dp (x := .int i 0) rfl (wpAny_bind (m := seqItems? (.ref l)) (wpAny_seqItems gl dl ?_)))
    simp only [Int.toNat_natCast, he]
    refine wpAny_bind (wpAny_rule (wpAny_bind (wpAny_setField gp dp (by simp) ?_)))
    have gy' : ∀ v : Value, (s.heap.update p (Obj.mapFields (·.setIfInBounds 0 v))).get? y = some oy := fun v => by rw [Heap.get?_update_other _ _ (Ne.symm hyp)]; exact gy
    refine wpAny_bind (m := newExc (.type "StopIteration") []) ?_
    unfold newExc newTuple
    refine wpAny_bind (wpAny_newObj_type (wpAny_bind (m := firstArgMember _ _) (wpAny_of_eq (a := Value.none) rfl (wpAny_newObj_type ?_ (by size_fits)))) (by size_fits))
    have g2 := Heap.get?_push_of_some { cls := .type "tuple", data := .seq #[] } (gy' .none)
    refine raiseNew_hot ⟨hh, oy, fy, Heap.get?_push_of_some _ g2, dy, cy⟩ (Nat.ne_of_lt (Heap.lt_size g2)) (Heap.get?_push_size _ rfl) rfl (by simp only [Array.size_append]; simp; omega) ?_
    refine wpAny_bind (wpAny_isInstance (T := "StopIteration") (b := true) ⟨_, Heap.get?_update_self _ (Heap.get?_push_size _ rfl) rfl, rfl⟩ isSubtype_stop (wpAny_pure (q _ fun b o hb e => ?_)))
    have e1 : (s.heap.update p (Obj.mapFields (·.setIfInBounds 0 .none))).get? b = some o := by rw [Heap.get?_update_other _ _ (Ne.symm hb)]; exact e
    have e2 := Heap.get?_push_of_some { cls := .type "tuple", data := .seq #[] } e1
    rw [Heap.get?_update_other _ _ (Nat.ne_of_gt (Heap.lt_size e2))]
    exact Heap.get?_push_of_some _ e2
end
end DD
namespace DD
open PySem PySem.Spec PySem.Calls PyProof.Rows HotX L2
/-- an iterator whose end is met while an exception is handled -/
structure TurnY (P : Program) (w : World) (K : PySem.W.Frag) (tg : Expr) (J : It) (fp : List Addr) (it : Addr) (tn : Nat → Heap → Prop) : Prop where
  mem : it ∈ fp
  obj : ∀ i h, tn i h → ∀ b ∈ fp, ∃ o, h.get? b = some o ∧ ∀ v, o.data ≠ .cell v
  keep : ∀ i h h', tn i h → (∀ b ∈ fp, ∀ o, h.get? b = some o → h'.get? b = some o) → tn i h'
  item : ∀ (X : Cx), X.prog = P → X.w = w → X.K = K → ∀ (i : Nat) (pins : List (Addr × Obj)) (s : Shared) (σ : L2.St) (H : Hp) (E : Value → Shared → Prop), Inv X pins σ H s → (∀ b ∈ fp, FpOk X pins H b) → tn i s.heap → J.go i H →
    wpAny (model P w) X.A (pyNext (.ref it)) (fun r s1 => ∃ u, r = some u ∧
      wpAny (model P w) X.A (letOwnedTupleGo tg (.ref it) u) (fun _ s2 => ∃ x H', Inv X pins σ H' s2 ∧ RelV x u ∧ J.yld i H x H' ∧ tn (i + 1) s2.heap ∧ ∀ b ∈ fp, H' b = none) E s1) E s
  done : ∀ (X : Cx), X.prog = P → X.w = w → X.K = K → ∀ (y : Addr) (i : Nat) (pins : List (Addr × Obj)) (s : Shared) (σ : L2.St) (H : Hp) (E : Value → Shared → Prop), HotAt X.A y s.heap → y ∉ fp → Inv X pins σ H s → (∀ b ∈ fp, FpOk X pins H b) → tn i s.heap → J.stop i H →
    wpAny (model P w) X.A (pyNext (.ref it)) (fun r s1 => r = none ∧ Inv X pins σ H s1) E s
  self : ∀ (A : Around) (i : Nat) (s : Shared) (Q : Value → Shared → Prop) (E : Value → Shared → Prop), tn i s.heap → Q (.ref it) s → wpAny (model P w) A (pyIter (.ref it)) Q E s
theorem turn_listY {P : Program} {w : World} {K : PySem.W.Frag} {tg : Expr} (a it : Addr) : TurnY P w K tg (Itl K a) [it] it (fun i h => h.IsListIter it a i) where
  mem := by simp
  obj := fun i h st b hb => by
    have e : b = it := by simpa using hb
    subst e
    obtain ⟨o, e, c, d⟩ := st
    exact ⟨o, e, fun v z => by rw [d] at z; cases z⟩
  keep := fun i h h' st k => st.at fun o e => k it (by simp) o e
  item := by
    intro X hP hw hK i pins s σ H E I hf st hg
    subst hP hw hK
    obtain ⟨xs, x, hq, hx⟩ := hg
    obtain ⟨its, rv, p, hz⟩ := I.list hq
    obtain ⟨u, hu, ru⟩ := rv.get hx
    obtain ⟨f0, f1, f2, f3, f4, f5⟩ := hf it (by simp)
    refine wpAny_pyNext_list_item st p.isList (x := u) (by simpa using hu) fun h' st' sb => ?_
    have I1 : Inv X pins σ H { s with heap := h' } := I.turned (t' := s.toks) (fun b o hb e => (sb.2 b hb).trans e) f0 f1 f3 f4 f5
    obtain ⟨o, e, c, d⟩ := id st'
    exact ⟨u, rfl, go_of (s := { s with heap := h' }) e c d (by decide) ⟨x, H, I1, ru, ⟨rfl, fun ys hy => by rw [I.list_inj hy hq]; exact hx⟩, st', fun b hb => (hf b hb).1⟩⟩
  done := by
    intro X hP hw hK y i pins s σ H E hot hy I hf st hg
    subst hP hw hK
    obtain ⟨xs, hq, hx⟩ := hg
    obtain ⟨its, rv, p, hz⟩ := I.list hq
    obtain ⟨f0, f1, f2, f3, f4, f5⟩ := hf it (by simp)
    have hl := rv.length
    refine list_end_hot hot (fun e => hy (by rw [e]; simp)) st p.isList (by simp; omega) fun h' eb => ⟨rfl, I.turned (t' := s.toks) (fun b o hb e => eb b o hb e) f0 f1 f3 f4 f5⟩
  self := fun _ _ _ _ _ st h => wpAny_pyIter_listiter st h
def PIEY (X : Cx) (pins : List (Addr × Obj)) (σ : L2.St) (tg : Expr) (R : It → Hp → Prop) (itv : Value) (s2 : Shared) : Prop :=
  ∃ (it : Addr) (fp : List Addr) (tn : Nat → Heap → Prop) (J : It) (H' : Hp), itv = .ref it ∧ Inv X pins σ H' s2 ∧ TurnY X.prog X.w X.K tg J fp it tn ∧ tn 0 s2.heap ∧ (∀ b ∈ fp, FpOk X pins H' b) ∧ R J H'
structure PIY (X : Cx) (tg iter : Expr) (wi : TI) : Prop where
  run : ∀ (pins : List (Addr × Obj)) (s : Shared) (σ : L2.St) (H : Hp) (R : It → Hp → Prop), Inv X pins σ H s → wi σ H R →
    wpAny (model X.prog X.w) X.A (eval iter X.env) (fun v s1 => wpAny (model X.prog X.w) X.A (pyIter v) (PIEY X pins σ tg R) X.xe s1) X.xe s
def iSeqY (K : PySem.W.Frag) (tl : TE) : TI := fun σ H R => tl σ H fun x H1 => ∃ a, x = .ref a ∧ ((∃ xs, SqL K H1 a xs) ∧ R (Itl K a) H1)
theorem pi_seqY {X : Cx} {tg l : Expr} {tl : TE} (hl : PE X l tl) : PIY X tg l (iSeqY X.K tl) := by
  refine ⟨fun pins s σ H R I h => thn (hl.run pins s σ H _ I h) fun v s1 ⟨x, H1, I1, r1, a, e, q⟩ => ?_⟩
  subst e
  cases r1
  obtain ⟨⟨xs, hq⟩, q⟩ := q
  obtain ⟨its, rv, p, hz⟩ := I1.list hq
  exact wpAny_pyIter_list p.isList ⟨_, [s1.heap.objs.size], _, _, H1, rfl, I1.kept (t' := s1.toks) (fun b o e => Heap.get?_push_of_some _ e), turn_listY a _, ⟨_, Heap.get?_push_size _ rfl, rfl, rfl⟩, (fun b hb => by
      rw [List.mem_singleton.mp hb]; exact I1.fpOk (Nat.le_refl _) (I1.hok.fresh (Nat.le_refl _))), q⟩
theorem PIY.weak {X : Cx} {tg e : Expr} {t t' : TI} (h : PIY X tg e t) (w : ∀ σ H R, t' σ H R → t σ H R) : PIY X tg e t' := ⟨fun pins s σ H R I q => h.run pins s σ H R I (w _ _ _ q)⟩
theorem _root_.L2.Inv.withPin {X : Cx} {σ : L2.St} {H : Hp} {s : Shared} {p : Addr × Obj} (I : Inv X [] σ H s) (hn : X.pn = []) (hp : s.heap.get? p.1 = some p.2 ∧ H p.1 = none ∧ p.1 ≠ X.env.locals ∧ p.1 ∉ X.fs ∧ ∀ v, p.2.data ≠ .cell v) : Inv X [p] σ H s :=
  ⟨I.ok, I.os, I.bare, I.base, I.loc, I.cell, I.free, I.freeC, fun q hq => by
    rw [hn, List.nil_append, List.mem_singleton] at hq
    subst hq
    exact hp, I.hok, I.len⟩
section
variable {X : Cx}
theorem lc_coreY {p : Addr × Obj} {pins : List (Addr × Obj)} {s : Shared} {σ : L2.St} {H : Hp} {Q : VK} {elt tg iter : Expr} {ifs : List Expr} {scope : Scope} {own : List (Str × Nat)} {pos pos' : Pos} {wi : TI} {g : TG} {tt : TT} {te : TE} {use : Option (Value → Sem Unit)} {Qf : Value → Shared → Prop}
    (hc : L2H.Hot1 X.A p) (hpn : p ∈ X.pn) (hN : X.N.Nodup) (I : Inv X pins σ H s) (hi : PIY X tg iter wi) (ok : BlkOk X.N X.env.scope scope own)
    (hg : ∀ (s : Shared) (H : Hp) (C : Addr) (cl : List (Str × Addr)) (fp : List Addr), PG (X.blk s H scope (compEnvC scope cl C X.env) fp) tg g) (ht : ∀ (s : Shared) (H : Hp) (C : Addr) (cl : List (Str × Addr)) (fp : List Addr), PTs (X.blk s H scope (compEnvC scope cl C X.env) fp) ifs tt)
    (he : ∀ (s : Shared) (H : Hp) (C : Addr) (cl : List (Str × Addr)) (fp : List Addr), PE (X.blk s H scope (compEnvC scope cl C X.env) fp) elt te) (hs : ∀ x, foldedSetIterable iter X.env x = pure x)
    (h : tLc wi g tt te (own.map (·.2)) σ H Q)
    (hRR : ∀ D C s' m H', Inv X pins σ H' s' → Q (.ref D) H' → s'.heap.Ns C m → FpOk X pins H' C → compPost (model X.prog X.w) X.A X.xe use Qf (.ref D) C (.ok .next) s') :
    wpAny (model X.prog X.w) X.A (comprehension (.ListComp elt [⟨tg, iter, ifs, 0⟩] scope pos) scope X.env pos' (newList []) false (eval iter X.env) use) Qf X.xe s := by
  have hfree : ∀ y ∈ scope.names, y.2 = .free → ∃ c, X.env.cells.lookup y.1 = some c := fun y hy e => by
    rcases ok.free y hy e with k | k
    · exact I.ok.has _ (.inl k)
    · exact I.ok.has _ (.inr k)
  refine wpAny_comprehension_free (use := use) rfl hs (closure_ok hfree) ok.kind (fun y hy e => by rw [ok.uniq y hy, e])
    (thn (hi.run pins s σ H _ I h) fun xv s1 hx => thn hx fun itv s2 h2 => ?_)
  obtain ⟨it, fp, tn, J, H2, e, I2, T, st2, f2, q⟩ := h2
  subst e
  refine wpAny_newObj_type (newEnv_comp ?_) (by show 0 ≤ sizeLine; decide)
  generalize hD : s2.heap.objs.size = D
  have hDn : H2 D = none := I2.hok.fresh (Nat.le_of_eq hD)
  obtain ⟨W, ⟨m0, w0⟩, turn⟩ := q D hDn
  -- the new list
  generalize hs3 : ({ s2 with heap := s2.heap.push { cls := .type "list", data := .seq ([] : List Value).toArray } } : Shared) = s3
  have I3 : Inv X pins σ (upd H2 D (.lst [])) s3 := by
    rw [← hs3]
    refine I2.laid (t' := s2.toks) (fun b o e => Heap.get?_push_of_some _ e) (Nat.le_of_eq hD) ⟨Nat.zero_le _, [], 0, .nil, ?_⟩
    rw [← hD]
    exact Heap.get?_push_size _ rfl
  have h3 : s3.heap = s2.heap.push { cls := .type "list", data := .seq ([] : List Value).toArray } := by rw [← hs3]
  have sz : ∀ b ∈ fp, b < s2.heap.objs.size := fun b hb => by
    obtain ⟨o, e, _⟩ := T.obj _ _ st2 b hb
    exact Heap.lt_size e
  have f3 : ∀ b ∈ fp, FpOk X pins (upd H2 D (.lst [])) b ∧ b < s3.heap.objs.size := fun b hb => by
    have hlt := sz b hb
    refine ⟨⟨?_, (f2 b hb).2⟩, by rw [h3, Heap.size_push]; exact Nat.lt_succ_of_lt hlt⟩
    rw [upd_ne (by rw [← hD]; exact Nat.ne_of_lt hlt)]
    exact (f2 b hb).1
  have pfp : ∀ b ∈ fp, p.1 ≠ b := fun b hb => (f2 b hb).2.2.2.2.2 p (List.mem_append_left _ hpn)
  have st3 : tn 0 s3.heap := T.keep _ _ _ st2 fun b _ o e => by rw [h3]; exact Heap.get?_push_of_some _ e
  have I4 := block_start I3 ok hN f3
  have pg := hg s3 (upd H2 D (.lst [])) s3.heap.objs.size (cellsFrom (s3.heap.objs.size + 1) scope.names (cloFrom X.env.cells scope.names [])) fp
  have pt := ht s3 (upd H2 D (.lst [])) s3.heap.objs.size (cellsFrom (s3.heap.objs.size + 1) scope.names (cloFrom X.env.cells scope.names [])) fp
  have pe := he s3 (upd H2 D (.lst [])) s3.heap.objs.size (cellsFrom (s3.heap.objs.size + 1) scope.names (cloFrom X.env.cells scope.names [])) fp
  show codeAny _ _ (.compStart (.ListComp elt [⟨tg, iter, ifs, 0⟩] scope pos) 0 (.ref it) (.ref D) (compEnvC scope (cellsFrom (s3.heap.objs.size + 1) scope.names (cloFrom X.env.cells scope.names [])) s3.heap.objs.size X.env)) (compPost (model X.prog X.w) X.A X.xe use Qf (.ref D) s3.heap.objs.size) { s3 with heap := pushCells (s3.heap.push { cls := .type "dict", data := .dict #[] }) scope.names }
  have nfp : ∀ b ∈ fp, (upd H2 D (.lst [])) b = none := fun b hb => (f3 b hb).1.1
  generalize hce : compEnvC scope (cellsFrom (s3.heap.objs.size + 1) scope.names (cloFrom X.env.cells scope.names [])) s3.heap.objs.size X.env = ce at I4 pg pt pe ⊢
  have cL : ce.locals = s3.heap.objs.size := by subst hce; rfl
  generalize hH3 : upd H2 D (.lst []) = H3 at I3 I4 pg pt pe w0 nfp f3
  have P3 := I3.pin p (List.mem_append_left _ hpn)
  have I4 : Inv (X.blk s3 H3 scope ce fp) [p] (wipe σ (own.map (·.2))) H3 { s3 with heap := pushCells (s3.heap.push { cls := .type "dict", data := .dict #[] }) scope.names } := I4.withPin rfl ⟨pushCells_keeps _ _ _ _ (Heap.get?_push_of_some _ P3.1), P3.2.1, by
    show p.1 ≠ ce.locals
    rw [cL]
    exact Nat.ne_of_lt (Heap.lt_size P3.1), fun hm => (List.mem_cons.mp (I3.stkSub p.1 hm)).elim P3.2.2.1 P3.2.2.2.1, P3.2.2.2.2⟩
  generalize hs4 : ({ s3 with heap := pushCells (s3.heap.push { cls := .type "dict", data := .dict #[] }) scope.names } : Shared) = s4 at I4 ⊢
  have st4 : tn 0 s4.heap := T.keep _ _ _ st3 fun b _ o e => by rw [← hs4]; exact pushCells_keeps _ _ _ _ (Heap.get?_push_of_some _ e)
  have stat : ∀ {σ' : L2.St} {H' : Hp} {s' : Shared}, Inv (X.blk s3 H3 scope ce fp) [p] σ' H' s' → (∀ b ∈ fp, H' b = none) → ∀ b ∈ fp, FpOk (X.blk s3 H3 scope ce fp) [p] H' b := fun {σ' H' s'} I' hn b hb =>
    ⟨hn b hb, (I'.ok.exf b hb).1, I'.ok.exfs b hb, .inl hb, fun x c e => (I'.ok.exf b hb).2 x c e, fun q hq => by
      have e : q = p := by simpa using (show q ∈ ([] : List (Addr × Obj)) ++ [p] from hq)
      rw [e]
      exact pfp b hb⟩
  have loop : codeAny (model X.prog X.w) X.A (.compLoop (.ListComp elt [⟨tg, iter, ifs, 0⟩] scope pos) 0 (.ref it) (.ref D) ce) (compPost (model X.prog X.w) X.A X.xe use Qf (.ref D) s3.heap.objs.size) s4 := by
    refine compLoop_any (fun n s' => ∃ i H', Inv (X.blk s3 H3 scope ce fp) [p] (wipe σ (own.map (·.2))) H' s' ∧ tn i s'.heap ∧ (∀ b ∈ fp, H' b = none) ∧ W i n H') ?_ m0 ⟨0, H3, I4, st4, nfp, w0⟩
    rintro n s5 ⟨i, H5, I5, st5, n5, w5⟩
    rcases turn i n H5 w5 with ⟨stop, qq⟩ | ⟨go, Nx, hNx, step⟩
    · have hot : HotAt X.A p.1 s5.heap := by
        obtain ⟨hh, v1, e1, c1⟩ := hc
        exact ⟨hh, p.2, v1, (I5.pin p (List.mem_append_right _ List.mem_cons_self)).1, e1, c1⟩
      have td := T.done (X.blk s3 H3 scope ce fp) rfl rfl rfl p.1 i [p] s5 _ H5 (fun _ _ => False) hot (fun hm => pfp _ hm rfl) I5 (stat I5 n5) st5 stop
      refine thnF td fun r s6 ⟨hr, I6⟩ => ?_
      subst hr
      -- back in the def's context
      have I7 : Inv X pins σ H5 s6 := I3.call' (ch := fp) I6.os I6.base I6.hok I6.bare fun b hb => ⟨(f3 b hb).1.2.2.2.1, (f3 b hb).1.2.1, (f3 b hb).1.2.2.2.2.1, (f3 b hb).1.2.2.2.2.2⟩
      have nC : H5 s3.heap.objs.size = none := by
        have z : H5 ce.locals = none := I6.free
        rw [cL] at z
        exact z
      obtain ⟨m, hn, _⟩ := I6.loc
      have hn : s6.heap.Ns ce.locals m := hn
      rw [cL] at hn
      exact hRR D s3.heap.objs.size s6 m H5 I7 qq hn (I3.fpOk (Nat.le_refl _) nC)
    · have ti := T.item (X.blk s3 H3 scope ce fp) rfl rfl rfl i [p] s5 _ H5 (fun _ _ => False) I5 (stat I5 n5) st5 go
      refine thnF ti fun r s6 ⟨u, hr, h6⟩ => ?_
      subst hr
      refine thnF h6 fun _ s7 ⟨x, H7, I7, r7, y7, st7, n7⟩ => ?_
      have I7' := I7.pinned (stat I7 n7) (T.obj _ _ st7)
      refine thnF (pg.run _ s7 _ H7 x u _ I7' r7 (step x H7 y7)) fun _ s8 ⟨σ8, H8, I8, hw8, q8⟩ => ?_
      refine thnF (pt.run _ s8 σ8 H8 _ I8 q8) fun b s9 ⟨H9, I9, q9⟩ => ?_
      -- the turn's end
      have fin : ∀ {s' : Shared} {H' : Hp}, Inv (X.blk s3 H3 scope ce fp) ([p] ++ pinsAt fp s7.heap) σ8 H' s' → Nx H' → ∃ m, m < n ∧ ∃ i H', Inv (X.blk s3 H3 scope ce fp) [p] (wipe σ (own.map (·.2))) H' s' ∧ tn i s'.heap ∧ (∀ b ∈ fp, H' b = none) ∧ W i m H' := fun {s' H'} I' nx => by
        obtain ⟨m', hm, w'⟩ := hNx H' nx
        have pin' : ∀ b ∈ fp, ∀ o, s7.heap.get? b = some o → s'.heap.get? b = some o ∧ H' b = none := fun b hb o e =>
          let z := I'.pin (b, o) (List.mem_append_right _ (List.mem_append_right _ (mem_pinsAt hb e)))
          ⟨z.1, z.2.1⟩
        have hl : (wipe σ (own.map (·.2))).length = σ8.length := by rw [← hw8, wipe_length]
        refine ⟨m', hm, i + 1, H', (I'.unpinned (pins := [p])).weak hl (fun j v e => ?_), T.keep _ _ _ st7 fun b hb o e => (pin' b hb o e).1, fun b hb => ?_, w'⟩
        · rw [← hw8] at e
          exact (wipe_some e).1
        · obtain ⟨o, e, _⟩ := T.obj _ _ st7 b hb
          exact (pin' b hb o e).2
      cases b with
      | false =>
        simp only [Bool.false_eq_true, if_false] at q9 ⊢
        exact fin I9 q9
      | true =>
        simp only [if_true] at q9 ⊢
        refine thnF (pe.run _ s9 σ8 H9 _ I9 q9) fun z s10 ⟨yv, H10, I10, r10, acc, hD10, hz10, nx⟩ => ?_
        exact app_ok (X := X.blk s3 H3 scope ce fp) I10 hD10 hz10 r10 fun s11 I11 => fin I11 nx
  exact codeAny_compStart_list loop (T.self X.A 0 _ _ _ st4 loop)
theorem pe_lcY {p : Addr × Obj} {elt tg iter : Expr} {ifs : List Expr} {scope : Scope} {own : List (Str × Nat)} {pos : Pos} {wi : TI} {g : TG} {tt : TT} {te : TE} (hc : L2H.Hot1 X.A p) (hpn : p ∈ X.pn) (hN : X.N.Nodup) (hi : PIY X tg iter wi) (ok : BlkOk X.N X.env.scope scope own)
    (hg : ∀ (s : Shared) (H : Hp) (C : Addr) (cl : List (Str × Addr)) (fp : List Addr), PG (X.blk s H scope (compEnvC scope cl C X.env) fp) tg g) (ht : ∀ (s : Shared) (H : Hp) (C : Addr) (cl : List (Str × Addr)) (fp : List Addr), PTs (X.blk s H scope (compEnvC scope cl C X.env) fp) ifs tt)
    (he : ∀ (s : Shared) (H : Hp) (C : Addr) (cl : List (Str × Addr)) (fp : List Addr), PE (X.blk s H scope (compEnvC scope cl C X.env) fp) elt te) (hs : ∀ x, foldedSetIterable iter X.env x = pure x := by intro _; rfl) :
    PE X (.ListComp elt [⟨tg, iter, ifs, 0⟩] scope pos) (tLc wi g tt te (own.map (·.2))) := by
  refine ⟨fun pins s σ H Q I h => ?_⟩
  rw [eval_ListComp]
  refine lc_coreY hc hpn hN I hi ok hg ht he hs h fun D C s' m H' I' q hn f => ⟨m, hn, fun h'' sb => ?_⟩
  obtain ⟨f0, f1, f2, f3, f4, f5⟩ := f
  exact ⟨.ref D, H', I'.turned (t' := s'.toks) (fun b o hb e => (sb.2 b hb).trans e) f0 f1 f3 f4 f5, rfl, q⟩
end
/-- the items of a list (of a tuple there is none here) -/
def itemsLD : D → Option (List D)
  | .list ds => some ds
  | _ => none
section
variable {m : Type → Type} [Mo m] [Calm m] {X : Cx} {EX : XR} {g : List Sl} {tg : Expr}
abbrev seqLM (x : m D) : m (List D) := x >>= fun d => Mo.lift (itemsLD d)
def IJY (X : Cx) (EX : XR) (tg iter : Expr) (g : List Sl) (x : m (List D)) : Prop := PIY X tg iter (tiJ X EX g x)
theorem ijY_seq {e : Expr} {x : m D} (h : EJ X EX e g x) : IJY X EX tg e g (x >>= fun d => Mo.lift (itemsLD d)) :=
  (pi_seqY h).weak fun σ H R ⟨B, G, n, φ, ξ, o, s, q, xw⟩ => te_one o s (fun v H1 G1 d n1 o1 g1 d1 s1 => by
    obtain ⟨ds, ed, pd⟩ := Mo.sat_lift s1
    cases d with
    | list es =>
      cases ed
      cases d1 with
      | lst sq da => exact ⟨_, rfl, ⟨_, o1.fm.sub.seq (SqL.of sq)⟩, q _ H1 G1 _ n1 o1 g1 (walkD_list (SqL.of sq) da) pd⟩
    | _ => cases ed) xw
theorem hot_held {e : Exn} {a C : Addr} {oe : Obj} {od : Option Addr} {pn : List (Addr × Obj)} (hh : Held X e a oe od C) : L2H.Hot1 (X.suite a ((a, oe) :: pn)).A (a, oe) := by
  obtain ⟨vs, hd⟩ := hh.da
  exact ⟨rfl, vs, hd, hh.zc.2.2 vs hd⟩
/-- [e for x in it if t], within an except suite -/
theorem lj_lcY1i (own : List (Str × Nat)) (i : Nat) {elt tg iter c : Expr} {scope : Scope} {pos : Pos} {x : m (List D)} {f : D → m D} {t : D → m Bool} {p : Addr × Obj} (hc : L2H.Hot1 X.A p) (hpn : p ∈ X.pn) (hN : X.N.Nodup) (hi : IJY X EX tg iter g x) (ok : BlkOk X.N X.env.scope scope own)
    (hg : ∀ (s : Shared) (H : Hp) (C : Addr) (cl : List (Str × Addr)) (fp : List Addr), PG (X.blk s H scope (compEnvC scope cl C X.env) fp) tg (gName i))
    (ht : ∀ (s : Shared) (H : Hp) (C : Addr) (cl : List (Str × Addr)) (fp : List Addr) (d : D), TJ (X.blk s H scope (compEnvC scope cl C X.env) fp) X0 c ((wipeG g (own.map (·.2))).set i (.val d)) (t d))
    (he : ∀ (s : Shared) (H : Hp) (C : Addr) (cl : List (Str × Addr)) (fp : List Addr) (d : D), EJ (X.blk s H scope (compEnvC scope cl C X.env) fp) X0 elt ((wipeG g (own.map (·.2))).set i (.val d)) (f d))
    (hin : i ∈ own.map (·.2) := by decide) (how : noOwn g (own.map (·.2)) = true := by rfl) (hs : ∀ x, foldedSetIterable iter X.env x = pure x := by intro _; rfl) :
    LJ X EX (.ListComp elt [⟨tg, iter, [c], 0⟩] scope pos) g (x >>= fun ds => Mo.lift (small ds) >>= fun ds => lcA (fun d => ifM (t d) (f d)) ds []) :=
  (pe_lcY hc hpn hN hi ok hg (fun s H C cl fp => pts_one (pt_u fun d => tj_blk (ht s H C cl fp d))) (fun s H C cl fp => pe_u fun d => ej_blk (he s H C cl fp d)) hs).weak fun σ H Q h => tlc_of (csem1i hin) how h
end
end DD
namespace DD
open PySem PySem.Spec PyProof.Rows L2
def top (i : Nat) : Stmt := PySem.Challenge.pw_darkdrawers_k63_whole_texts_there_and_ba.main.body.getD i (.Pass ⟨0, 0, 0, 0⟩)
abbrev i_TooMuch : Stmt := (clsBody (top 6)).getD 0 (.Pass ⟨0, 0, 0, 0⟩)
theorem sci_TooMuch : FnScope ["self", "total"] ["self", "total"] (defScope i_TooMuch) := ⟨rfl, rfl, rfl, by decide +kernel, rfl, by decide +kernel, by decide +kernel⟩
abbrev i_BadText : Stmt := (clsBody (top 7)).getD 0 (.Pass ⟨0, 0, 0, 0⟩)
theorem sci_BadText : FnScope ["self", "index"] ["self", "index"] (defScope i_BadText) := ⟨rfl, rfl, rfl, by decide +kernel, rfl, by decide +kernel, by decide +kernel⟩
section
variable {P : Program} {w : World} {K : PySem.W.Frag} {mg : Str → Option Value} {base : Heap}
abbrev s__law_deck : Stmt := top 30
theorem sc__law_deck : FnScope ["_law_script", "_law_cell"] ["_law_script"] (defScope s__law_deck) := ⟨rfl, rfl, rfl, by decide +kernel, rfl, by decide +kernel, by decide +kernel⟩
theorem ok__law_deck {f : Addr} {fd : FuncData} (F : Fun K "_law_deck" "_law_deck" s__law_deck f fd) (ma : mg "abs" = none) : FnG P w K mg base 1 f fd ["_law_script"] (spDeck K) := by
  have sc := sc__law_deck
  refine fng_of F sc (fun vs H Q E ⟨a, ns, e, _⟩ => by rw [e]; rfl) fun cdv A outer s H vs Q E hr gu ⟨a, ns, e, hS, q⟩ => ?_
  subst e
  exact ⟨deckT K 63, pss_one (ps_ret (pe_lst (pa_cons (pe_lc (own := [("_law_cell", 1)]) rfl sc.nd (pi_list (pe_slice sl_list (pv 0) po_none (po_some pe_int))) (blk_of (by kernel_rfl))
    (fun _ _ _ _ _ => pg_name (i := 1) sc.nd rfl (.inl rfl)) (fun _ _ _ _ _ => pts_nil) (fun _ _ _ _ _ => pe_callB call_abs rfl ma boot_abs (pa_cons (pv 1) pa_nil))) (pa_cons pe_int pa_nil)))), deck_ok (by decide) (by decide) (Nat.lt_succ_self 1) rfl hS q⟩
abbrev s__law_draw : Stmt := top 31
theorem sc__law_draw : FnScope ["_law_deck_here", "_law_many", "_law_cell", "_law_place"] ["_law_deck_here", "_law_many"] (defScope s__law_draw) := ⟨rfl, rfl, rfl, by decide +kernel, rfl, by decide +kernel, by decide +kernel⟩
theorem ok__law_draw {f : Addr} {fd : FuncData} (F : Fun K "_law_draw" "_law_draw" s__law_draw f fd) (ml : mg "len" = none) : FnG P w K mg base 1 f fd ["_law_deck_here", "_law_many"] spDraw := by
  have sc := sc__law_draw
  refine fng_of F sc (fun vs H Q E ⟨a, b, n, many, e, _⟩ => by rw [e]; rfl) fun cdv A outer s H vs Q E hr gu ⟨a, b, n, many, e, dk, m0, m1, hn, q⟩ => ?_
  subst e
  exact ⟨drawT3 K, pss_cons (ps_asg (pe_op op_add (pe_ix ix_list (pv 0) pe_int (fun _ _ => rfl)) pe_int) (pg_sub (pv 0) pe_int set_list))
    (pss_cons (ps_set (i := 2) sc.nd rfl (Or.inl rfl) pe_int) (pss_cons (ps_set (i := 3) sc.nd rfl (Or.inl rfl) (pe_un un_neg pe_int))
    (pss_cons (ps_if (pt_cmpR op_gt (pe_callB call_len_seq rfl ml PySem.boot_len (pa_cons (pe_ix ix_list (pv 0) pe_int (fun _ _ => rfl)) pa_nil)) pe_int (nomark _))
        (pss_cons (ps_set (i := 3) sc.nd rfl (Or.inl rfl) (pe_op op_mod (pe_ix ix_list (pv 0) pe_int (fun _ _ => rfl)) (pe_callB call_len_seq rfl ml PySem.boot_len (pa_cons (pe_ix ix_list (pv 0) pe_int (fun _ _ => rfl)) pa_nil)))) (pss_one (ps_set (i := 2) sc.nd rfl (Or.inl rfl) (pe_ix ix_list (pe_ix ix_list (pv 0) pe_int (fun _ _ => rfl)) (pv 3) (fun _ _ => rfl))))) pss_nil)
    (pss_cons (ps_if (pt_cmpR op_ge (pv 2) (pe_op op_pow pe_int pe_int) (nomark _))
        (pss_cons (ps_asg (pe_op op_fdiv (pv 2) (pv 1)) (pg_sub (pe_ix ix_list (pv 0) pe_int (fun _ _ => rfl)) (pv 3) set_list)) (pss_one (ps_ret (pe_op op_mod (pv 2) (pv 1))))) pss_nil)
    (pss_one (ps_ret (pe_op op_mod (pe_op op_mod (pe_op op_pow (pe_op op_add (pe_op op_add (pe_op op_mod (pv 2) pe_int) (pe_op op_mul pe_int (pe_ix ix_list (pv 0) pe_int (fun _ _ => rfl)))) pe_int) pe_int) pe_int) (pv 1)))))))), draw3_ok dk m0 m1 hn q⟩
abbrev s_is_number : Stmt := top 9
theorem sc_is_number : FnScope ["value", "low", "high"] ["value", "low", "high"] (defScope s_is_number) := ⟨rfl, rfl, rfl, by decide +kernel, rfl, by decide +kernel, by decide +kernel⟩
def m_is_number (p_value p_low p_high : D) : Option D := (andD (isiM "int" (pure p_value)) (andD (op1 notD (isiM "bool" (pure p_value))) (chain3 leD leD (pure p_low) (pure p_value) (pure p_high))))
def M_is_number : List Sl → Option D := ar3 m_is_number
theorem ok_is_number {f : Addr} {fd : FuncData} (F : Fun K "is_number" "is_number" s_is_number f fd) (hy : SysAt base) (mb_bool : mg "bool" = none) (mb_int : mg "int" = none) (mb_isinstance : mg "isinstance" = none) : FnG P w K mg base 1 f fd ["value", "low", "high"] (spJ K M_is_number) := by
  have sc := sc_is_number
  exact fn_ar3 F sc rfl fun p_value p_low p_high cdv A outer s H E hr gu => (fj_ret (ej_and (ej_isi "int" (ej_vk 0) mb_isinstance mb_int) (ej_and (ej_not (ej_isi "bool" (ej_vk 0) mb_isinstance mb_bool)) (ej_one (ej_chain op_le rd_le op_le rd_le (ej_vk 1) (ej_vk 0) (ej_vk 2))))))
abbrev s_totals_of : Stmt := top 11
theorem sc_totals_of : FnScope ["stock", "counts"] ["stock"] (defScope s_totals_of) := ⟨rfl, rfl, rfl, by decide +kernel, rfl, by decide +kernel, by decide +kernel⟩
def m_totals_of (p_stock : D) : Option D := (op1 tupleD (lstM (comp1 (zipSM (pure p_stock)) (fun c1 => (op1 sumD (pure c1))))))
def M_totals_of : List Sl → Option D := ar1 m_totals_of
theorem ok_totals_of {f : Addr} {fd : FuncData} (F : Fun K "totals_of" "totals_of" s_totals_of f fd) (hy : SysAt base) (mb_sum : mg "sum" = none) (mb_tuple : mg "tuple" = none) (mb_zip : mg "zip" = none) : FnG P w K mg base 1 f fd ["stock"] (spJ K M_totals_of) := by
  have sc := sc_totals_of
  exact fn_ar1 F sc rfl fun p_stock cdv A outer s H E hr gu => (fj_ret (ej_callT call_tuple_of rc_tuple mb_tuple (ej_l (LcP.expr (lj_lc1 [("counts", 1)] 1 sc.nd (ij_zipS mb_zip (ej_vk 0)) (blk_of (by kernel_rfl)) (fun _ _ _ _ _ => pg_name (i := 1) sc.nd rfl (by first | exact Or.inl rfl | exact Or.inr rfl)) (fun _ _ _ _ _ c1 => (ej_call1 (call_sumD rfl) rc_sum mb_sum (ej_vk 1))))))))
abbrev s_parse_number : Stmt := top 21
theorem sc_parse_number : FnScope ["word", "figure"] ["word"] (defScope s_parse_number) := ⟨rfl, rfl, rfl, by decide +kernel, rfl, by decide +kernel, by decide +kernel⟩
def m_parse_number (p_word : D) : Option D := (iteM (orB (notB (tst (chain3 leD leD (pure (.int 1)) (op1 lenD (pure p_word)) (pure (.int 7))))) (notB (tst (op1 allD (lstM (comp1 (signM (pure p_word)) (fun c2 => (op2 inTD (pure c2) (pure (.str "0123456789")))))))))) (pure .none) (iteM (andB (cmp2 eqD (op2 getD (pure p_word) (pure (.int 0))) (pure (.str "0"))) (cmp2 neD (pure p_word) (pure (.str "0")))) (pure .none) (op1 intTD (pure p_word))))
def M_parse_number : List Sl → Option D := ar1 m_parse_number
theorem ok_parse_number {f : Addr} {fd : FuncData} (F : Fun K "parse_number" "parse_number" s_parse_number f fd) (hy : SysAt base) (mb_all : mg "all" = none) (mb_int : mg "int" = none) (mb_len : mg "len" = none) {tc_FIGURES : Tok} (mc_FIGURES : mg "FIGURES" = some (.str "0123456789" tc_FIGURES)) {tc_LONGEST : Tok} (mc_LONGEST : mg "LONGEST" = some (.int 7 tc_LONGEST)) : FnG P w K mg base 1 f fd ["word"] (spJ K M_parse_number) := by
  have sc := sc_parse_number
  exact fn_ar1 F sc rfl fun p_word cdv A outer s H E hr gu => (fj_ifr (tj_w (wj_or (tj_not (tj_chain op_le rd_le op_le rd_le ej_int (ej_call1 call_lenD' rc_len mb_len (ej_vk 0)) (ej_gint mc_LONGEST))) (wj_or1 (tj_not (tj_val (ej_call1 (cr_all rfl) rc_all mb_all (ej_l (LcP.expr (lj_lc1 [("figure", 1)] 1 sc.nd (ij_str (ej_vk 0)) (blk_of (by kernel_rfl)) (fun _ _ _ _ _ => pg_name (i := 1) sc.nd rfl (by first | exact Or.inl rfl | exact Or.inr rfl)) (fun _ _ _ _ _ c2 => (ej_cmp op_inT rd_inT (ej_vk 1) (ej_gstr mc_FIGURES)))))))))))) (fj_ret ej_non) (fj_ret (ej_if (tj_w (wj_and (tj_cmp (by exact op_eqA hy (units_of hr)) rd_eq (ej_ix ix_seq rd_ix (ej_vk 0) ej_int (fun _ _ => rfl)) ej_str) (wj_and1 (tj_cmp (by exact op_neA hy (units_of hr)) rd_ne (ej_vk 0) ej_str)))) ej_non (ej_callT call_intT rc_intT mb_int (ej_vk 0)))))
abbrev s_numbers_text : Stmt := top 23
theorem sc_numbers_text : FnScope ["numbers", "number"] ["numbers"] (defScope s_numbers_text) := ⟨rfl, rfl, rfl, by decide +kernel, rfl, by decide +kernel, by decide +kernel⟩
def m_numbers_text (p_numbers : D) : Option D := (joinM (pure (.str ",")) (lstM (comp1 (seqM (pure p_numbers)) (fun c3 => (op1 strD (pure c3))))))
def M_numbers_text : List Sl → Option D := ar1 m_numbers_text
theorem ok_numbers_text {f : Addr} {fd : FuncData} (F : Fun K "numbers_text" "numbers_text" s_numbers_text f fd) (hy : SysAt base) (mb_str : mg "str" = none) {tc_COMMA : Tok} (mc_COMMA : mg "COMMA" = some (.str "," tc_COMMA)) : FnG P w K mg base 1 f fd ["numbers"] (spJ K M_numbers_text) := by
  have sc := sc_numbers_text
  exact fn_ar1 F sc rfl fun p_numbers cdv A outer s H E hr gu => (fj_ret (ej_join (ej_gstr mc_COMMA) (ej_l (LcP.expr (lj_lc1 [("number", 1)] 1 sc.nd (ij_seq (ej_vk 0)) (blk_of (by kernel_rfl)) (fun _ _ _ _ _ => pg_name (i := 1) sc.nd rfl (by first | exact Or.inl rfl | exact Or.inr rfl)) (fun _ _ _ _ _ c3 => (ej_callT call_strD rc_str mb_str (ej_vk 1))))))))
abbrev s__law_numbers_text : Stmt := top 36
theorem sc__law_numbers_text : FnScope ["_law_numbers", "_law_number"] ["_law_numbers"] (defScope s__law_numbers_text) := ⟨rfl, rfl, rfl, by decide +kernel, rfl, by decide +kernel, by decide +kernel⟩
def m__law_numbers_text (p_numbers : D) : Option D := (joinM (pure (.str ",")) (lstM (comp1 (seqM (pure p_numbers)) (fun c4 => (op1 strD (pure c4))))))
def M__law_numbers_text : List Sl → Option D := ar1 m__law_numbers_text
theorem ok__law_numbers_text {f : Addr} {fd : FuncData} (F : Fun K "_law_numbers_text" "_law_numbers_text" s__law_numbers_text f fd) (hy : SysAt base) (mb_str : mg "str" = none) : FnG P w K mg base 1 f fd ["_law_numbers"] (spJ K M__law_numbers_text) := by
  have sc := sc__law_numbers_text
  exact fn_ar1 F sc rfl fun p_numbers cdv A outer s H E hr gu => (fj_ret (ej_join ej_str (ej_l (LcP.expr (lj_lc1 [("_law_number", 1)] 1 sc.nd (ij_seq (ej_vk 0)) (blk_of (by kernel_rfl)) (fun _ _ _ _ _ => pg_name (i := 1) sc.nd rfl (by first | exact Or.inl rfl | exact Or.inr rfl)) (fun _ _ _ _ _ c4 => (ej_callT call_strD rc_str mb_str (ej_vk 1))))))))
abbrev s_are_numbers : Stmt := top 10
theorem sc_are_numbers : FnScope ["value", "count", "high", "number"] ["value", "count", "high"] (defScope s_are_numbers) := ⟨rfl, rfl, rfl, by decide +kernel, rfl, by decide +kernel, by decide +kernel⟩
def m_are_numbers (p_value p_count p_high : D) : Option D := (iteM (orB (notB (tst (isiM "tuple" (pure p_value)))) (cmp2 neD (op1 lenD (pure p_value)) (pure p_count))) (pure (.bool false)) (op1 allD (lstM (comp1 (seqM (pure p_value)) (fun c5 => ((argV (pure c5) (argV (pure (.int 0)) (argV (pure p_high) (pure [])))) >>= M_is_number))))))
def M_are_numbers : List Sl → Option D := ar3 m_are_numbers
theorem ok_are_numbers {f : Addr} {fd : FuncData} (F : Fun K "are_numbers" "are_numbers" s_are_numbers f fd) (hy : SysAt base) (d_is_number : Def P w K mg base 1 "is_number" ["value", "low", "high"] (spJ K M_is_number)) (mb_all : mg "all" = none) (mb_isinstance : mg "isinstance" = none) (mb_len : mg "len" = none) (mb_tuple : mg "tuple" = none) : FnG P w K mg base 2 f fd ["value", "count", "high"] (spJ K M_are_numbers) := by
  have sc := sc_are_numbers
  exact fn_ar3 F sc rfl fun p_value p_count p_high cdv A outer s H E hr gu => (fj_ifr (tj_w (wj_or (tj_not (tj_val (ej_isi "tuple" (ej_vk 0) mb_isinstance mb_tuple))) (wj_or1 (tj_cmp (by exact op_neA hy (units_of hr)) rd_ne (ej_call1 call_lenD' rc_len mb_len (ej_vk 0)) (ej_vk 1))))) (fj_ret ej_bl) (fj_ret (ej_call1 (cr_all rfl) rc_all mb_all (ej_l (LcP.expr (lj_lc1 [("number", 3)] 3 sc.nd (ij_seq (ej_vk 0)) (blk_of (by kernel_rfl)) (fun _ _ _ _ _ => pg_name (i := 3) sc.nd rfl (by first | exact Or.inl rfl | exact Or.inr rfl)) (fun _ _ _ _ _ c5 => (ej_callD d_is_number (hr.mono (by decide)) gu (aj_cons (ej_vk 3) (aj_cons ej_int (aj_cons (ej_vk 2) aj_nil)))))))))))
abbrev s_parse_numbers : Stmt := top 22
theorem sc_parse_numbers : FnScope ["word", "numbers", "part"] ["word"] (defScope s_parse_numbers) := ⟨rfl, rfl, rfl, by decide +kernel, rfl, by decide +kernel, by decide +kernel⟩
def m_parse_numbers (p_word : D) : Option D := ((op1 tupleD (lstM (comp1 (seqM (splitM (pure p_word) (pure (.str ",")))) (fun c7 => ((argV (pure c7) (pure [])) >>= M_parse_number))))) >>= fun v6 => (iteM (cmp2 inD (pure .none) (pure v6)) (pure .none) (pure v6)))
def M_parse_numbers : List Sl → Option D := ar1 m_parse_numbers
theorem ok_parse_numbers {f : Addr} {fd : FuncData} (F : Fun K "parse_numbers" "parse_numbers" s_parse_numbers f fd) (hy : SysAt base) (d_parse_number : Def P w K mg base 1 "parse_number" ["word"] (spJ K M_parse_number)) (mb_tuple : mg "tuple" = none) {tc_COMMA : Tok} (mc_COMMA : mg "COMMA" = some (.str "," tc_COMMA)) : FnG P w K mg base 2 f fd ["word"] (spJ K M_parse_numbers) := by
  have sc := sc_parse_numbers
  exact fn_ar1 F sc rfl fun p_word cdv A outer s H E hr gu => (fj_seq (sj_set 1 sc.nd (ej_callT call_tuple_of rc_tuple mb_tuple (ej_l (LcP.expr (lj_lc1 [("part", 2)] 2 sc.nd (ij_seq (ej_split (ej_vk 0) (ej_gstr mc_COMMA))) (blk_of (by kernel_rfl)) (fun _ _ _ _ _ => pg_name (i := 2) sc.nd rfl (by first | exact Or.inl rfl | exact Or.inr rfl)) (fun _ _ _ _ _ c7 => (ej_callD d_parse_number (hr.mono (by decide)) gu (aj_cons (ej_vk 2) aj_nil)))))))) (fun v6 => (fj_ret (ej_if (tj_cmp (by exact op_inB hy (units65 hr)) rd_in ej_non (ej_vk 1)) ej_non (ej_vk 1)))))
abbrev s_cabinet_text : Stmt := top 24
theorem sc_cabinet_text : FnScope ["stock", "collections", "drawers", "wishes", "one"] ["stock", "collections"] (defScope s_cabinet_text) := ⟨rfl, rfl, rfl, by decide +kernel, rfl, by decide +kernel, by decide +kernel⟩
def m_cabinet_text (p_stock p_collections : D) : Option D := ((parM (lstM (comp1 (seqM (pure p_stock)) (fun c9 => ((argV (pure c9) (pure [])) >>= M_numbers_text)))) (lstM (comp1 (seqM (pure p_collections)) (fun c10 => ((argV (pure c10) (pure [])) >>= M_numbers_text))))) >>= fun v8 => (joinM (pure (.str " ")) (lstM (smallM (starM (pure v8.1) (consM (pure (.str "for")) (starM (pure v8.2) (pure []))))))))
def M_cabinet_text : List Sl → Option D := ar2 m_cabinet_text
theorem ok_cabinet_text {f : Addr} {fd : FuncData} (F : Fun K "cabinet_text" "cabinet_text" s_cabinet_text f fd) (hy : SysAt base) (d_numbers_text : Def P w K mg base 1 "numbers_text" ["numbers"] (spJ K M_numbers_text)) {tc_MIDDLE : Tok} (mc_MIDDLE : mg "MIDDLE" = some (.str "for" tc_MIDDLE)) : FnG P w K mg base 2 f fd ["stock", "collections"] (spJ K M_cabinet_text) := by
  have sc := sc_cabinet_text
  exact fn_ar2 F sc rfl fun p_stock p_collections cdv A outer s H E hr gu => (fj_seq (sj_par 2 3 sc.nd (ej_l (LcP.expr (lj_lc1 [("one", 4)] 4 sc.nd (ij_seq (ej_vk 0)) (blk_of (by kernel_rfl)) (fun _ _ _ _ _ => pg_name (i := 4) sc.nd rfl (by first | exact Or.inl rfl | exact Or.inr rfl)) (fun _ _ _ _ _ c9 => (ej_callD d_numbers_text (hr.mono (by decide)) gu (aj_cons (ej_vk 4) aj_nil)))))) (ej_l (LcP.expr (lj_lc1 [("one", 4)] 4 sc.nd (ij_seq (ej_vk 1)) (blk_of (by kernel_rfl)) (fun _ _ _ _ _ => pg_name (i := 4) sc.nd rfl (by first | exact Or.inl rfl | exact Or.inr rfl)) (fun _ _ _ _ _ c10 => (ej_callD d_numbers_text (hr.mono (by decide)) gu (aj_cons (ej_vk 4) aj_nil))))))) (fun v8 => (fj_ret (ej_join ej_str (ej_l (lj_lstS (dj_star (ej_vk 2) (dj_cons (ej_gstr mc_MIDDLE) (dj_star (ej_vk 3) dj_nil)))))))))
abbrev s__law_collection : Stmt := top 33
theorem sc__law_collection : FnScope ["_law_deck_here", "_law_kinds", "_law_most", "_law_found", "_law_k"] ["_law_deck_here", "_law_kinds", "_law_most"] (defScope s__law_collection) := ⟨rfl, rfl, rfl, by decide +kernel, rfl, by decide +kernel, by decide +kernel⟩
def m__law_collection (p_kinds p_most : D) : W D := ((comp1 (rng1 (pure p_kinds)) (fun c12 => (op2 mulD ((argK (argV (op2 addD (pure p_most) (pure (.int 1))) (pure []))) >>= drawW) (op1 intD (op2 gtD ((argK (argV (pure (.int 3)) (pure []))) >>= drawW) (pure (.int 0))))))) >>= fun v11 => ((cmp2 eqD (op1 maxD (pure (PyData.list v11))) (pure (.int 0))) >>= fun k => (if k = true then (((op2 addD (pure (.int 1)) ((argK (argV (pure p_most) (pure []))) >>= drawW)) >>= fun d => ((argK (argV (pure p_kinds) (pure []))) >>= drawW) >>= fun j => Mo.lift (putD v11 j d)) >>= fun v14 => (pure (.nx v14))) else (pure (.nx v11))) >>= fun f => thenM f fun (a13 : List D) => (op1 tupleD (pure (PyData.list a13)))))
def M__law_collection : List Sl → W D := dk2 m__law_collection
theorem ok__law_collection {f : Addr} {fd : FuncData} (F : Fun K "_law_collection" "_law_collection" s__law_collection f fd) (hy : SysAt base) (d__law_draw : Def P w K mg base 1 "_law_draw" ["_law_deck_here", "_law_many"] (spJ K drawW)) (mb_int : mg "int" = none) (mb_max : mg "max" = none) (mb_range : mg "range" = none) (mb_tuple : mg "tuple" = none) : FnG P w K mg base 2 f fd ["_law_deck_here", "_law_kinds", "_law_most"] (spJ K M__law_collection) := by
  have sc := sc__law_collection
  exact fn_dk2 F sc rfl fun p_kinds p_most cdv A outer s H E hr gu => (fj_seq (sj_lcO 3 sc.nd (lj_lc1 [("_law_k", 4)] 4 sc.nd (ij_range1 mb_range (ej_vk 1)) (blk_of (by kernel_rfl)) (fun _ _ _ _ _ => pg_name (i := 4) sc.nd rfl (by first | exact Or.inl rfl | exact Or.inr rfl)) (fun _ _ _ _ _ c12 => (ej_bin op_mulD rd_mul (ej_callD d__law_draw (hr.mono (by decide)) gu (aj_dk 0 (aj_cons (ej_bin op_addD rd_add (ej_vk 2) ej_int) aj_nil))) (ej_callT call_int1 rc_int mb_int (ej_cmp op_gt rd_gt (ej_callD d__law_draw (hr.mono (by decide)) gu (aj_dk 0 (aj_cons ej_int aj_nil))) ej_int))))) (by kernel_rfl)) (fun v11 => (fj_if (P := fun (a13 : List D) => [.deck, .val p_kinds, .val p_most, .own a13, .any]) (tj_rd (tj_cmp (by exact op_eqA hy (units_of hr)) rd_eq (ej_call1 (call_maxD rfl) rc_max mb_max (ej_vk 3)) ej_int)) (bj_seq (sj_put 3 (ej_bin op_addD rd_add ej_int (ej_callD d__law_draw (hr.mono (by decide)) gu (aj_dk 0 (aj_cons (ej_vk 2) aj_nil)))) (ej_callD d__law_draw (hr.mono (by decide)) gu (aj_dk 0 (aj_cons (ej_vk 1) aj_nil)))) (fun v14 => (bj_nil (a := v14) ⟨.inr rfl, .inr rfl, .inr rfl, .inr rfl, .inl rfl, trivial⟩))) (bj_nil (a := v11) ⟨.inr rfl, .inr rfl, .inr rfl, .inr rfl, .inl rfl, trivial⟩) (fun a13 => (fj_fr 3 (fj_ret (ej_callT call_tuple_of rc_tuple mb_tuple (ej_vk 3))))))))
abbrev s__law_bent : Stmt := top 35
theorem sc__law_bent : FnScope ["_law_deck_here", "_law_text", "_law_words_here", "_law_at", "_law_way", "_law_place", "_law_sign"] ["_law_deck_here", "_law_text"] (defScope s__law_bent) := ⟨rfl, rfl, rfl, by decide +kernel, rfl, by decide +kernel, by decide +kernel⟩
def m__law_bent (p_text : D) : W D := ((splitM (pure p_text) (pure (.str " "))) >>= fun v15 => (((argK (argV (op1 lenD (pure v15)) (pure []))) >>= drawW) >>= fun v16 => (((argK (argV (pure (.int 6)) (pure []))) >>= drawW) >>= fun v17 => (iteM (cmp2 eqD (pure v17) (pure (.int 0))) (joinM (pure (.str " ")) (op2 addD (op2 addD (slcM (pure v15) (pure none) (partM (pure v16))) (slcM (pure v15) (partM (pure v16)) (partM (op2 addD (pure v16) (pure (.int 1)))))) (slcM (pure v15) (partM (pure v16)) (pure none)))) (iteM (cmp2 eqD (pure v17) (pure (.int 1))) (joinM (pure (.str " ")) (op2 addD (slcM (pure v15) (partM (pure v16)) (pure none)) (slcM (pure v15) (pure none) (partM (pure v16))))) (iteM (cmp2 eqD (pure v17) (pure (.int 2))) (joinM (pure (.str " ")) (op2 addD (slcM (pure v15) (pure none) (partM (pure v16))) (slcM (pure v15) (partM (op2 addD (pure v16) (pure (.int 1)))) (pure none)))) (iteM (cmp2 eqD (pure v17) (pure (.int 3))) (joinM (pure (.str " ")) (op2 addD (pure v15) (slcM (pure v15) (partM (pure v16)) (pure none)))) (((argK (argV (op2 addD (op1 lenD (pure p_text)) (pure (.int 1))) (pure []))) >>= drawW) >>= fun v18 => ((op2 getD (lstM (consM (pure (.str "0")) (consM (pure (.str "1")) (consM (pure (.str "5")) (consM (pure (.str "9")) (consM (pure (.str "-")) (consM (pure (.str " ")) (consM (pure (.str "+")) (consM (pure (.str "_")) (consM (pure (.str ",")) (consM (pure (.str ":")) (consM (pure (.str "for")) (consM (pure (.str "x")) (pure [])))))))))))))) ((argK (argV (pure (.int 12)) (pure []))) >>= drawW)) >>= fun v19 => (op2 addD (op2 addD (slcTM (pure p_text) (pure none) (partM (pure v18))) (op2 mulTD (pure v19) ((argK (argV (pure (.int 2)) (pure []))) >>= drawW))) (slcTM (pure p_text) (partM (op2 addD (pure v18) ((argK (argV (pure (.int 2)) (pure []))) >>= drawW))) (pure none))))))))))))
def M__law_bent : List Sl → W D := dk1 m__law_bent
theorem ok__law_bent {f : Addr} {fd : FuncData} (F : Fun K "_law_bent" "_law_bent" s__law_bent f fd) (hy : SysAt base) (d__law_draw : Def P w K mg base 1 "_law_draw" ["_law_deck_here", "_law_many"] (spJ K drawW)) (mb_len : mg "len" = none) : FnG P w K mg base 2 f fd ["_law_deck_here", "_law_text"] (spJ K M__law_bent) := by
  have sc := sc__law_bent
  exact fn_dk1 F sc rfl fun p_text cdv A outer s H E hr gu => (fj_seq (sj_set 2 sc.nd (ej_split (ej_vk 1) ej_str)) (fun v15 => (fj_seq (sj_set 3 sc.nd (ej_callD d__law_draw (hr.mono (by decide)) gu (aj_dk 0 (aj_cons (ej_call1 call_lenD' rc_len mb_len (ej_vk 2)) aj_nil)))) (fun v16 => (fj_seq (sj_set 4 sc.nd (ej_callD d__law_draw (hr.mono (by decide)) gu (aj_dk 0 (aj_cons ej_int aj_nil)))) (fun v17 => (fj_ifr (tj_cmp (by exact op_eqA hy (units_of hr)) rd_eq (ej_vk 4) ej_int) (fj_ret (ej_join ej_str (ej_bin op_addD rd_add (ej_bin op_addD rd_add (ej_slice (ej_vk 2) oj_none (oj_some (ej_vk 3))) (ej_slice (ej_vk 2) (oj_some (ej_vk 3)) (oj_some (ej_bin op_addD rd_add (ej_vk 3) ej_int)))) (ej_slice (ej_vk 2) (oj_some (ej_vk 3)) oj_none)))) (fj_ifr (tj_cmp (by exact op_eqA hy (units_of hr)) rd_eq (ej_vk 4) ej_int) (fj_ret (ej_join ej_str (ej_bin op_addD rd_add (ej_slice (ej_vk 2) (oj_some (ej_vk 3)) oj_none) (ej_slice (ej_vk 2) oj_none (oj_some (ej_vk 3)))))) (fj_ifr (tj_cmp (by exact op_eqA hy (units_of hr)) rd_eq (ej_vk 4) ej_int) (fj_ret (ej_join ej_str (ej_bin op_addD rd_add (ej_slice (ej_vk 2) oj_none (oj_some (ej_vk 3))) (ej_slice (ej_vk 2) (oj_some (ej_bin op_addD rd_add (ej_vk 3) ej_int)) oj_none)))) (fj_ifr (tj_cmp (by exact op_eqA hy (units_of hr)) rd_eq (ej_vk 4) ej_int) (fj_ret (ej_join ej_str (ej_bin op_addD rd_add (ej_vk 2) (ej_slice (ej_vk 2) (oj_some (ej_vk 3)) oj_none)))) (fj_seq (sj_set 5 sc.nd (ej_callD d__law_draw (hr.mono (by decide)) gu (aj_dk 0 (aj_cons (ej_bin op_addD rd_add (ej_call1 call_lenD' rc_len mb_len (ej_vk 1)) ej_int) aj_nil)))) (fun v18 => (fj_seq (sj_set 6 sc.nd (ej_ix ix_seq rd_ix (ej_l (lj_lst (dj_cons ej_str (dj_cons ej_str (dj_cons ej_str (dj_cons ej_str (dj_cons ej_str (dj_cons ej_str (dj_cons ej_str (dj_cons ej_str (dj_cons ej_str (dj_cons ej_str (dj_cons ej_str (dj_cons ej_str dj_nil)))))))))))))) (ej_callD d__law_draw (hr.mono (by decide)) gu (aj_dk 0 (aj_cons ej_int aj_nil))) (fun _ _ => rfl))) (fun v19 => (fj_ret (ej_bin op_addD rd_add (ej_bin op_addD rd_add (ej_sliceT (ej_vk 1) oj_none (oj_some (ej_vk 5))) (ej_bin op_mulT rd_mulT (ej_vk 6) (ej_callD d__law_draw (hr.mono (by decide)) gu (aj_dk 0 (aj_cons ej_int aj_nil))))) (ej_sliceT (ej_vk 1) (oj_some (ej_bin op_addD rd_add (ej_vk 5) (ej_callD d__law_draw (hr.mono (by decide)) gu (aj_dk 0 (aj_cons ej_int aj_nil))))) oj_none)))))))))))))))))
abbrev s_merged : Stmt := top 12
theorem sc_merged : FnScope ["stock", "drawers", "first", "others", "whole", "total", "found", "index", "drawer"] ["stock", "drawers"] (defScope s_merged) := ⟨rfl, rfl, rfl, by decide +kernel, rfl, by decide +kernel, by decide +kernel⟩
def mx_merged (p_stock p_drawers : D) : Xo D := ((unpS (upX (pure p_drawers))) >>= fun v29 => ((upX ((argV (lstM (comp1 (seqM (pure p_drawers)) (fun c31 => (op2 getD (pure p_stock) (pure c31))))) (pure [])) >>= M_totals_of)) >>= fun v30 => (forM1 (upX (seqM (pure v30))) () (fun x33 (a32 : Unit) => (iteM (upX (cmp2 gtD (pure x33) (pure (.int 50)))) (rtM ((upX (pure x33)) >>= fun d => MoX.throw ⟨"TooMuch", [("total", d)]⟩)) (pure (.nx ())))) >>= fun f => thenM f fun (a34 : Unit) => ((upX (comp2i (enumM (pure p_stock)) (fun c36 c37 => (cmp2 ninD (pure c36) (pure (PyData.list v29.2)))) (fun c36 c37 => (iteM (cmp2 eqD (pure c36) (pure v29.1)) (pure v30) (pure c37))))) >>= fun v35 => (upX (op1 tupleD (pure (PyData.list v35))))))))
def MX_merged : List Sl → Xo D := arS mx_merged
theorem okx_merged {f : Addr} {fd : FuncData} (F : Fun K "merged" "merged" s_merged f fd) (hy : SysAt base) {c_TooMuch : Addr} (e1_TooMuch : Er1 P w K mg base "TooMuch" "total" c_TooMuch) (d_totals_of : Def P w K mg base 1 "totals_of" ["stock"] (spJ K M_totals_of)) (mb_enumerate : mg "enumerate" = none) (mb_tuple : mg "tuple" = none) {tc_MAX_COUNT : Tok} (mc_MAX_COUNT : mg "MAX_COUNT" = some (.int 50 tc_MAX_COUNT)) : FnXS P w K mg base 3 f (spX K mg MX_merged) := by
  have sc := sc_merged
  exact fnx_arS (p1 := "stock") (pv := "drawers") F sc (fun kV doc pm an cdv ct => StX.bind_star1 (B := fun us => bindArgs (PySem.W.fnOf "merged" "merged" (defArgs s_merged) (defBody s_merged) (defScope s_merged) .none kV doc pm an cdv ct) ⟨us, []⟩) (fun _ => rfl) (fun _ _ _ => rfl)) fun p_stock p_drawers cdv A outer s H E hr gu => (fj_seq (sj_unpS 2 3 sc.nd (ej_up (m' := Option) (ej_vk 1))) (fun v29 => (fj_seq (sj_set 4 sc.nd (ej_up (m' := Option) (ej_callD d_totals_of (hr.mono (by decide)) gu (aj_cons (ej_l (LcP.expr (lj_lc1 [("drawer", 8)] 8 sc.nd (ij_seq (ej_vk 1)) (blk_of (by kernel_rfl)) (fun _ _ _ _ _ => pg_name (i := 8) sc.nd rfl (by first | exact Or.inl rfl | exact Or.inr rfl)) (fun _ _ _ _ _ c31 => (ej_ix ix_seq rd_ix (ej_vk 0) (ej_vk 8) (fun _ _ => rfl)))))) aj_nil)))) (fun v30 => (fj_of_for (for1 5 (P := fun (a32 : Unit) => [.val p_stock, .val p_drawers, .val v29.1, .val (PyData.list v29.2), .val v30, .any, .any, .any, .any]) (a0 := ()) passX (ij_up (m' := Option) (ij_seq (ej_vk 4))) (pg_name (i := 5) sc.nd rfl (by first | exact Or.inl rfl | exact Or.inr rfl)) (fun x33 a32 => (bj_ifr (tj_up (m' := Option) (tj_cmp op_gt rd_gt (ej_vk 5) (ej_gint mc_MAX_COUNT))) (fj_raise1 e1_TooMuch (hr.mono (by decide)) rfl takesX (sub_any rfl rfl) (ej_up (m' := Option) (ej_vk 5))) (bj_nil (a := ()) ⟨.inr rfl, .inr rfl, .inr rfl, .inr rfl, .inr rfl, .inl rfl, .inl rfl, .inl rfl, .inl rfl, trivial⟩))) ⟨.inr rfl, .inr rfl, .inr rfl, .inr rfl, .inr rfl, .inl rfl, .inl rfl, .inl rfl, .inl rfl, trivial⟩) (fun a34 => (fj_seq (sj_lcV 6 sc.nd (lcp_up (m' := Option) (lj_lc2i [("index", 7), ("drawer", 8)] 7 8 sc.nd (ij_enum mb_enumerate (ej_vk 0)) (blk_of (by kernel_rfl)) (fun _ _ _ _ _ => pg_tup rfl (pgs_cons (pg_name (i := 7) sc.nd rfl (by first | exact Or.inl rfl | exact Or.inr rfl)) (pgs_cons (pg_name (i := 8) sc.nd rfl (by first | exact Or.inl rfl | exact Or.inr rfl)) pgs_nil))) (fun _ _ _ _ _ c36 c37 => (tj_cmp (by exact op_ninB hy (units65 hr)) rd_nin (ej_vk 7) (ej_vk 3))) (fun _ _ _ _ _ c36 c37 => (ej_if (tj_cmp (by exact op_eqA hy (units_of hr)) rd_eq (ej_vk 7) (ej_vk 2)) (ej_vk 4) (ej_vk 8))))) (by kernel_rfl)) (fun v35 => (fj_ret (ej_up (m' := Option) (ej_callT call_tuple_of rc_tuple mb_tuple (ej_vk 6))))))))))))
def m_merged (p_stock p_drawers : D) : Option D := ((unpS (pure p_drawers)) >>= fun v20 => (((argV (lstM (comp1 (seqM (pure p_drawers)) (fun c22 => (op2 getD (pure p_stock) (pure c22))))) (pure [])) >>= M_totals_of) >>= fun v21 => (forM1 (seqM (pure v21)) () (fun x24 (a23 : Unit) => (iteM (cmp2 gtD (pure x24) (pure (.int 50))) (rtM (Mo.lift none)) (pure (.nx ())))) >>= fun f => thenM f fun (a25 : Unit) => ((comp2i (enumM (pure p_stock)) (fun c27 c28 => (cmp2 ninD (pure c27) (pure (PyData.list v20.2)))) (fun c27 c28 => (iteM (cmp2 eqD (pure c27) (pure v20.1)) (pure v21) (pure c28)))) >>= fun v26 => (op1 tupleD (pure (PyData.list v26)))))))
def M_merged : List Sl → Option D := arS m_merged
theorem ok_merged {f : Addr} {fd : FuncData} (F : Fun K "merged" "merged" s_merged f fd) (hy : SysAt base) (d_totals_of : Def P w K mg base 1 "totals_of" ["stock"] (spJ K M_totals_of)) (mb_enumerate : mg "enumerate" = none) (mb_tuple : mg "tuple" = none) {tc_MAX_COUNT : Tok} (mc_MAX_COUNT : mg "MAX_COUNT" = some (.int 50 tc_MAX_COUNT)) : FnS P w K mg base 3 f (spJ K M_merged) := by
  have sc := sc_merged
  exact fn_arS (p1 := "stock") (pv := "drawers") F sc (fun kV doc pm an cdv ct => StX.bind_star1 (B := fun us => bindArgs (PySem.W.fnOf "merged" "merged" (defArgs s_merged) (defBody s_merged) (defScope s_merged) .none kV doc pm an cdv ct) ⟨us, []⟩) (fun _ => rfl) (fun _ _ _ => rfl)) fun p_stock p_drawers cdv A outer s H E hr gu => (fj_seq (sj_unpS 2 3 sc.nd (ej_vk 1)) (fun v20 => (fj_seq (sj_set 4 sc.nd (ej_callD d_totals_of (hr.mono (by decide)) gu (aj_cons (ej_l (LcP.expr (lj_lc1 [("drawer", 8)] 8 sc.nd (ij_seq (ej_vk 1)) (blk_of (by kernel_rfl)) (fun _ _ _ _ _ => pg_name (i := 8) sc.nd rfl (by first | exact Or.inl rfl | exact Or.inr rfl)) (fun _ _ _ _ _ c22 => (ej_ix ix_seq rd_ix (ej_vk 0) (ej_vk 8) (fun _ _ => rfl)))))) aj_nil))) (fun v21 => (fj_of_for (for1 5 (P := fun (a23 : Unit) => [.val p_stock, .val p_drawers, .val v20.1, .val (PyData.list v20.2), .val v21, .any, .any, .any, .any]) (a0 := ()) PassesOwn.never (ij_seq (ej_vk 4)) (pg_name (i := 5) sc.nd rfl (by first | exact Or.inl rfl | exact Or.inr rfl)) (fun x24 a23 => (bj_ifr (tj_cmp op_gt rd_gt (ej_vk 5) (ej_gint mc_MAX_COUNT)) fj_dead (bj_nil (a := ()) ⟨.inr rfl, .inr rfl, .inr rfl, .inr rfl, .inr rfl, .inl rfl, .inl rfl, .inl rfl, .inl rfl, trivial⟩))) ⟨.inr rfl, .inr rfl, .inr rfl, .inr rfl, .inr rfl, .inl rfl, .inl rfl, .inl rfl, .inl rfl, trivial⟩) (fun a25 => (fj_seq (sj_lcV 6 sc.nd (lj_lc2i [("index", 7), ("drawer", 8)] 7 8 sc.nd (ij_enum mb_enumerate (ej_vk 0)) (blk_of (by kernel_rfl)) (fun _ _ _ _ _ => pg_tup rfl (pgs_cons (pg_name (i := 7) sc.nd rfl (by first | exact Or.inl rfl | exact Or.inr rfl)) (pgs_cons (pg_name (i := 8) sc.nd rfl (by first | exact Or.inl rfl | exact Or.inr rfl)) pgs_nil))) (fun _ _ _ _ _ c27 c28 => (tj_cmp (by exact op_ninB hy (units65 hr)) rd_nin (ej_vk 7) (ej_vk 3))) (fun _ _ _ _ _ c27 c28 => (ej_if (tj_cmp (by exact op_eqA hy (units_of hr)) rd_eq (ej_vk 7) (ej_vk 2)) (ej_vk 4) (ej_vk 8)))) (by kernel_rfl)) (fun v26 => (fj_ret (ej_callT call_tuple_of rc_tuple mb_tuple (ej_vk 6)))))))))))
abbrev s_is_collection : Stmt := top 14
theorem sc_is_collection : FnScope ["kinds", "value"] ["kinds", "value"] (defScope s_is_collection) := ⟨rfl, rfl, rfl, by decide +kernel, rfl, by decide +kernel, by decide +kernel⟩
def m_is_collection (p_kinds p_value : D) : Option D := (andD ((argV (pure p_value) (argV (pure p_kinds) (argV (pure (.int 50)) (pure [])))) >>= M_are_numbers) (op2 gtD (op1 maxD (pure p_value)) (pure (.int 0))))
def M_is_collection : List Sl → Option D := ar2 m_is_collection
theorem ok_is_collection {f : Addr} {fd : FuncData} (F : Fun K "is_collection" "is_collection" s_is_collection f fd) (hy : SysAt base) (d_are_numbers : Def P w K mg base 2 "are_numbers" ["value", "count", "high"] (spJ K M_are_numbers)) (mb_max : mg "max" = none) {tc_MAX_COUNT : Tok} (mc_MAX_COUNT : mg "MAX_COUNT" = some (.int 50 tc_MAX_COUNT)) : FnG P w K mg base 3 f fd ["kinds", "value"] (spJ K M_is_collection) := by
  have sc := sc_is_collection
  exact fn_ar2 F sc rfl fun p_kinds p_value cdv A outer s H E hr gu => (fj_ret (ej_and (ej_callD d_are_numbers (hr.mono (by decide)) gu (aj_cons (ej_vk 1) (aj_cons (ej_vk 0) (aj_cons (ej_gint mc_MAX_COUNT) aj_nil)))) (ej_one (ej_cmp op_gt rd_gt (ej_call1 (call_maxD rfl) rc_max mb_max (ej_vk 1)) ej_int))))
abbrev s_parse_drawer : Stmt := top 25
theorem sc_parse_drawer : FnScope ["kinds", "word", "numbers"] ["kinds", "word"] (defScope s_parse_drawer) := ⟨rfl, rfl, rfl, by decide +kernel, rfl, by decide +kernel, by decide +kernel⟩
def m_parse_drawer (p_kinds p_word : D) : Option D := (((argV (pure p_word) (pure [])) >>= M_parse_numbers) >>= fun v38 => (iteM (orB (cmp2 isD (pure v38) (pure .none)) (orB (cmp2 gtD (op1 lenD (pure v38)) (pure (.int 4))) (cmp2 gtD (op1 maxD (pure v38)) (pure (.int 50))))) (pure .none) (iteM (orB (cmp2 isD (pure p_kinds) (pure .none)) (cmp2 eqD (op1 lenD (pure v38)) (pure p_kinds))) (pure v38) (pure .none))))
def M_parse_drawer : List Sl → Option D := ar2 m_parse_drawer
theorem ok_parse_drawer {f : Addr} {fd : FuncData} (F : Fun K "parse_drawer" "parse_drawer" s_parse_drawer f fd) (hy : SysAt base) (d_parse_numbers : Def P w K mg base 2 "parse_numbers" ["word"] (spJ K M_parse_numbers)) (mb_len : mg "len" = none) (mb_max : mg "max" = none) {tc_MAX_COUNT : Tok} (mc_MAX_COUNT : mg "MAX_COUNT" = some (.int 50 tc_MAX_COUNT)) {tc_MAX_KINDS : Tok} (mc_MAX_KINDS : mg "MAX_KINDS" = some (.int 4 tc_MAX_KINDS)) : FnG P w K mg base 3 f fd ["kinds", "word"] (spJ K M_parse_drawer) := by
  have sc := sc_parse_drawer
  exact fn_ar2 F sc rfl fun p_kinds p_word cdv A outer s H E hr gu => (fj_seq (sj_set 2 sc.nd (ej_callD d_parse_numbers (hr.mono (by decide)) gu (aj_cons (ej_vk 1) aj_nil))) (fun v38 => (fj_ifr (tj_w (wj_or (tj_cmp op_isN rd_is (ej_vk 2) ej_non) (wj_or (tj_cmp op_gt rd_gt (ej_call1 call_lenD' rc_len mb_len (ej_vk 2)) (ej_gint mc_MAX_KINDS)) (wj_or1 (tj_cmp op_gt rd_gt (ej_call1 (call_maxD rfl) rc_max mb_max (ej_vk 2)) (ej_gint mc_MAX_COUNT)))))) (fj_ret ej_non) (fj_ret (ej_if (tj_w (wj_or (tj_cmp op_isN rd_is (ej_vk 0) ej_non) (wj_or1 (tj_cmp (by exact op_eqA hy (units_of hr)) rd_eq (ej_call1 call_lenD' rc_len mb_len (ej_vk 2)) (ej_vk 0))))) (ej_vk 2) ej_non)))))
abbrev s__law_state : Stmt := top 34
theorem sc__law_state : FnScope ["_law_deck_here", "_law_most", "_law_drawers", "_law_kinds", "_law_top", "_law_stock", "_law_wishes", "_law_k", "_law_drawer"] ["_law_deck_here", "_law_most"] (defScope s__law_state) := ⟨rfl, rfl, rfl, by decide +kernel, rfl, by decide +kernel, by decide +kernel⟩
def m__law_state (p_most : D) : W D := ((unp2 (tupM (consM (op2 addD (pure (.int 1)) ((argK (argV (pure (.int 4)) (pure []))) >>= drawW)) (consM (op2 addD (pure (.int 1)) ((argK (argV (pure (.int 4)) (pure []))) >>= drawW)) (pure []))))) >>= fun v39 => ((op2 getD (lstM (consM (pure (.int 1)) (consM (pure (.int 3)) (consM (pure p_most) (pure []))))) ((argK (argV (pure (.int 3)) (pure []))) >>= drawW)) >>= fun v40 => ((op1 tupleD (lstM (comp1 (rng1 (pure v39.1)) (fun c42 => (op1 tupleD (lstM (comp1 (rng1 (pure v39.2)) (fun c43 => ((argK (argV (op2 addD (pure v40) (pure (.int 1))) (pure []))) >>= drawW))))))))) >>= fun v41 => ((comp1 (rng1 (op2 addD (pure (.int 1)) ((argK (argV (pure (.int 4)) (pure []))) >>= drawW))) (fun c45 => ((argK (argV (pure v39.2) (argV (op2 getD (lstM (consM (pure (.int 2)) (consM (pure (.int 5)) (consM (pure p_most) (pure []))))) ((argK (argV (pure (.int 3)) (pure []))) >>= drawW)) (pure [])))) >>= M__law_collection))) >>= fun v44 => (tupM (consM (pure v41) (consM (op1 tupleD (pure (PyData.list v44))) (pure []))))))))
def M__law_state : List Sl → W D := dk1 m__law_state
theorem ok__law_state {f : Addr} {fd : FuncData} (F : Fun K "_law_state" "_law_state" s__law_state f fd) (hy : SysAt base) (d__law_collection : Def P w K mg base 2 "_law_collection" ["_law_deck_here", "_law_kinds", "_law_most"] (spJ K M__law_collection)) (d__law_draw : Def P w K mg base 1 "_law_draw" ["_law_deck_here", "_law_many"] (spJ K drawW)) (mb_range : mg "range" = none) (mb_tuple : mg "tuple" = none) : FnG P w K mg base 3 f fd ["_law_deck_here", "_law_most"] (spJ K M__law_state) := by
  have sc := sc__law_state
  exact fn_dk1 F sc rfl fun p_most cdv A outer s H E hr gu => (fj_seq (sj_unp2 2 3 (ej_tup (dj_cons (ej_bin op_addD rd_add ej_int (ej_callD d__law_draw (hr.mono (by decide)) gu (aj_dk 0 (aj_cons ej_int aj_nil)))) (dj_cons (ej_bin op_addD rd_add ej_int (ej_callD d__law_draw (hr.mono (by decide)) gu (aj_dk 0 (aj_cons ej_int aj_nil)))) dj_nil))) (pg_tup rfl (pgs_cons (pg_name (i := 2) sc.nd rfl (by first | exact Or.inl rfl | exact Or.inr rfl)) (pgs_cons (pg_name (i := 3) sc.nd rfl (by first | exact Or.inl rfl | exact Or.inr rfl)) pgs_nil)))) (fun v39 => (fj_seq (sj_set 4 sc.nd (ej_ix ix_seq rd_ix (ej_l (lj_lst (dj_cons ej_int (dj_cons ej_int (dj_cons (ej_vk 1) dj_nil))))) (ej_callD d__law_draw (hr.mono (by decide)) gu (aj_dk 0 (aj_cons ej_int aj_nil))) (fun _ _ => rfl))) (fun v40 => (fj_seq (sj_set 5 sc.nd (ej_callT call_tuple_of rc_tuple mb_tuple (ej_l (LcP.expr (lj_lc1 [("_law_drawer", 8)] 8 sc.nd (ij_range1 mb_range (ej_vk 2)) (blk_of (by kernel_rfl)) (fun _ _ _ _ _ => pg_name (i := 8) sc.nd rfl (by first | exact Or.inl rfl | exact Or.inr rfl)) (fun _ _ _ _ _ c42 => (ej_callT call_tuple_of rc_tuple mb_tuple (ej_l (LcP.expr (lj_lc1 [("_law_k", 7)] 7 sc.nd (ij_range1 mb_range (ej_vk 3)) (blk_of (by kernel_rfl)) (fun _ _ _ _ _ => pg_name (i := 7) sc.nd rfl (by first | exact Or.inl rfl | exact Or.inr rfl)) (fun _ _ _ _ _ c43 => (ej_callD d__law_draw (hr.mono (by decide)) gu (aj_dk 0 (aj_cons (ej_bin op_addD rd_add (ej_vk 4) ej_int) aj_nil)))))))))))))) (fun v41 => (fj_seq (sj_lcV 6 sc.nd (lj_lc1 [("_law_k", 7)] 7 sc.nd (ij_range1 mb_range (ej_bin op_addD rd_add ej_int (ej_callD d__law_draw (hr.mono (by decide)) gu (aj_dk 0 (aj_cons ej_int aj_nil))))) (blk_of (by kernel_rfl)) (fun _ _ _ _ _ => pg_name (i := 7) sc.nd rfl (by first | exact Or.inl rfl | exact Or.inr rfl)) (fun _ _ _ _ _ c45 => (ej_callD d__law_collection (hr.mono (by decide)) gu (aj_dk 0 (aj_cons (ej_vk 3) (aj_cons (ej_ix ix_seq rd_ix (ej_l (lj_lst (dj_cons ej_int (dj_cons ej_int (dj_cons (ej_vk 1) dj_nil))))) (ej_callD d__law_draw (hr.mono (by decide)) gu (aj_dk 0 (aj_cons ej_int aj_nil))) (fun _ _ => rfl)) aj_nil)))))) (by kernel_rfl)) (fun v44 => (fj_ret (ej_tup (dj_cons (ej_vk 5) (dj_cons (ej_callT call_tuple_of rc_tuple mb_tuple (ej_vk 6)) dj_nil))))))))))))
abbrev s__law_words : Stmt := top 38
theorem sc__law_words : FnScope ["_law_stock", "_law_collections"] ["_law_stock", "_law_collections"] (defScope s__law_words) := ⟨rfl, rfl, rfl, by decide +kernel, rfl, by decide +kernel, by decide +kernel⟩
def m__law_words (p_stock p_collections : D) : Option D := (splitM ((argV (pure p_stock) (argV (pure p_collections) (pure []))) >>= M_cabinet_text) (pure (.str " ")))
def M__law_words : List Sl → Option D := ar2 m__law_words
theorem ok__law_words {f : Addr} {fd : FuncData} (F : Fun K "_law_words" "_law_words" s__law_words f fd) (hy : SysAt base) (d_cabinet_text : Def P w K mg base 2 "cabinet_text" ["stock", "collections"] (spJ K M_cabinet_text)) : FnG P w K mg base 3 f fd ["_law_stock", "_law_collections"] (spJ K M__law_words) := by
  have sc := sc__law_words
  exact fn_ar2 F sc rfl fun p_stock p_collections cdv A outer s H E hr gu => (fj_ret (ej_split (ej_callD d_cabinet_text (hr.mono (by decide)) gu (aj_cons (ej_vk 0) (aj_cons (ej_vk 1) aj_nil))) ej_str))
abbrev s_are_collections : Stmt := top 15
theorem sc_are_collections : FnScope ["kinds", "value", "collection"] ["kinds", "value"] (defScope s_are_collections) := ⟨rfl, rfl, rfl, by decide +kernel, rfl, by decide +kernel, by decide +kernel⟩
def m_are_collections (p_kinds p_value : D) : Option D := (iteM (orB (notB (tst (isiM "tuple" (pure p_value)))) (notB (tst (chain3 leD leD (pure (.int 1)) (op1 lenD (pure p_value)) (pure (.int 4)))))) (pure (.bool false)) (op1 allD (lstM (comp1 (seqM (pure p_value)) (fun c46 => ((argV (pure p_kinds) (argV (pure c46) (pure []))) >>= M_is_collection))))))
def M_are_collections : List Sl → Option D := ar2 m_are_collections
theorem ok_are_collections {f : Addr} {fd : FuncData} (F : Fun K "are_collections" "are_collections" s_are_collections f fd) (hy : SysAt base) (d_is_collection : Def P w K mg base 3 "is_collection" ["kinds", "value"] (spJ K M_is_collection)) (mb_all : mg "all" = none) (mb_isinstance : mg "isinstance" = none) (mb_len : mg "len" = none) (mb_tuple : mg "tuple" = none) {tc_MAX_COLLECTIONS : Tok} (mc_MAX_COLLECTIONS : mg "MAX_COLLECTIONS" = some (.int 4 tc_MAX_COLLECTIONS)) : FnG P w K mg base 4 f fd ["kinds", "value"] (spJ K M_are_collections) := by
  have sc := sc_are_collections
  exact fn_ar2 F sc rfl fun p_kinds p_value cdv A outer s H E hr gu => (fj_ifr (tj_w (wj_or (tj_not (tj_val (ej_isi "tuple" (ej_vk 1) mb_isinstance mb_tuple))) (wj_or1 (tj_not (tj_chain op_le rd_le op_le rd_le ej_int (ej_call1 call_lenD' rc_len mb_len (ej_vk 1)) (ej_gint mc_MAX_COLLECTIONS)))))) (fj_ret ej_bl) (fj_ret (ej_call1 (cr_all rfl) rc_all mb_all (ej_l (LcP.expr (lj_lc1 [("collection", 2)] 2 sc.nd (ij_seq (ej_vk 1)) (blk_of (by kernel_rfl)) (fun _ _ _ _ _ => pg_name (i := 2) sc.nd rfl (by first | exact Or.inl rfl | exact Or.inr rfl)) (fun _ _ _ _ _ c46 => (ej_callD d_is_collection (hr.mono (by decide)) gu (aj_cons (ej_vk 0) (aj_cons (ej_vk 2) aj_nil))))))))))
abbrev s_parse_stock : Stmt := top 27
theorem sc_parse_stock : FnScope ["words", "stock", "index", "word", "drawer"] ["words"] (defScope s_parse_stock) := ⟨rfl, rfl, rfl, by decide +kernel, rfl, by decide +kernel, by decide +kernel⟩
def mx_parse_stock (p_words : D) : Xo D := ((upX (pure [])) >>= fun v54 => (forM2 (upX (enumM (pure p_words))) v54 (fun x56 x57 (a55 : List D) => ((upX (rdM ((argV (iteM (cmp2 neD (pure (PyData.list a55)) (lstM (pure []))) (op1 lenD (op2 getD (pure (PyData.list a55)) (pure (.int 0)))) (pure .none)) (argV (pure x57) (pure []))) >>= M_parse_drawer))) >>= fun v58 => (iteM (upX (orB (cmp2 isD (pure v58) (pure .none)) (cmp2 eqD (pure x56) (pure (.int 4))))) (rtM ((upX (pure x56)) >>= fun d => MoX.throw ⟨"BadText", [("index", d)]⟩)) (((upX (pure v58)) >>= fun d => Mo.lift (fits a55.length) >>= fun _ => pure d) >>= fun v59 => (pure (.nx (a55 ++ [v59]))))))) >>= fun f => thenM f fun (a60 : List D) => (iteM (upX (cmp2 eqD (pure (PyData.list a60)) (lstM (pure [])))) ((upX (pure (.int 0))) >>= fun d => MoX.throw ⟨"BadText", [("index", d)]⟩) (upX (op1 tupleD (pure (PyData.list a60)))))))
def MX_parse_stock : List Sl → Xo D := ar1 mx_parse_stock
theorem okx_parse_stock {f : Addr} {fd : FuncData} (F : Fun K "parse_stock" "parse_stock" s_parse_stock f fd) (hy : SysAt base) {c_BadText : Addr} (e1_BadText : Er1 P w K mg base "BadText" "index" c_BadText) (d_parse_drawer : Def P w K mg base 3 "parse_drawer" ["kinds", "word"] (spJ K M_parse_drawer)) (mb_enumerate : mg "enumerate" = none) (mb_len : mg "len" = none) (mb_tuple : mg "tuple" = none) {tc_MAX_DRAWERS : Tok} (mc_MAX_DRAWERS : mg "MAX_DRAWERS" = some (.int 4 tc_MAX_DRAWERS)) : FnX P w K mg base 4 f fd ["words"] (spX K mg MX_parse_stock) := by
  have sc := sc_parse_stock
  exact fnx_ar1 F sc rfl fun p_words cdv A outer s H E hr gu => (fj_seq (sj_setO 1 sc.nd (lj_up (m' := Option) (lj_lst dj_nil))) (fun v54 => (fj_of_for (for2 2 3 (P := fun (a55 : List D) => [.val p_words, .own a55, .any, .any, .any]) (a0 := v54) passX (ij_up (m' := Option) (ij_enum mb_enumerate (ej_vk 0))) (pg_tup rfl (pgs_cons (pg_name (i := 2) sc.nd rfl (by first | exact Or.inl rfl | exact Or.inr rfl)) (pgs_cons (pg_name (i := 3) sc.nd rfl (by first | exact Or.inl rfl | exact Or.inr rfl)) pgs_nil))) (fun x56 x57 a55 => (bj_seq (sj_set 4 sc.nd (ej_up (m' := Option) (ej_rd (ej_callD d_parse_drawer (hr.mono (by decide)) gu (aj_cons (ej_if (tj_cmp (by exact op_neA hy (units_of hr)) rd_ne (ej_vk 1) (ej_l (lj_lst dj_nil))) (ej_call1 call_lenD' rc_len mb_len (ej_ix ix_seq rd_ix (ej_vk 1) ej_int (fun _ _ => rfl))) ej_non) (aj_cons (ej_vk 3) aj_nil)))))) (fun v58 => (bj_ifr (tj_up (m' := Option) (tj_w (wj_or (tj_cmp op_isN rd_is (ej_vk 4) ej_non) (wj_or1 (tj_cmp (by exact op_eqA hy (units_of hr)) rd_eq (ej_vk 2) (ej_gint mc_MAX_DRAWERS)))))) (fj_raise1 e1_BadText (hr.mono (by decide)) rfl takesX (sub_any rfl rfl) (ej_up (m' := Option) (ej_vk 2))) (bj_seq (sj_append 1 (ej_up (m' := Option) (ej_vk 4))) (fun v59 => (bj_nil (a := (a55 ++ [v59])) ⟨.inr rfl, .inr rfl, .inl rfl, .inl rfl, .inl rfl, trivial⟩))))))) ⟨.inr rfl, .inr rfl, .inl rfl, .inl rfl, .inl rfl, trivial⟩) (fun a60 => (fj_fr 1 (fj_ifr (tj_up (m' := Option) (tj_cmp (by exact op_eqA hy (units_of hr)) rd_eq (ej_vk 1) (ej_l (lj_lst dj_nil)))) (fj_raise1 e1_BadText (hr.mono (by decide)) rfl takesX (sub_any rfl rfl) (ej_up (m' := Option) ej_int)) (fj_ret (ej_up (m' := Option) (ej_callT call_tuple_of rc_tuple mb_tuple (ej_vk 1))))))))))
def m_parse_stock (p_words : D) : Option D := ((pure []) >>= fun v47 => (forM2 (enumM (pure p_words)) v47 (fun x49 x50 (a48 : List D) => ((rdM ((argV (iteM (cmp2 neD (pure (PyData.list a48)) (lstM (pure []))) (op1 lenD (op2 getD (pure (PyData.list a48)) (pure (.int 0)))) (pure .none)) (argV (pure x50) (pure []))) >>= M_parse_drawer)) >>= fun v51 => (iteM (orB (cmp2 isD (pure v51) (pure .none)) (cmp2 eqD (pure x49) (pure (.int 4)))) (rtM (Mo.lift none)) (((pure v51) >>= fun d => Mo.lift (fits a48.length) >>= fun _ => pure d) >>= fun v52 => (pure (.nx (a48 ++ [v52]))))))) >>= fun f => thenM f fun (a53 : List D) => (iteM (cmp2 eqD (pure (PyData.list a53)) (lstM (pure []))) (Mo.lift none) (op1 tupleD (pure (PyData.list a53))))))
def M_parse_stock : List Sl → Option D := ar1 m_parse_stock
theorem ok_parse_stock {f : Addr} {fd : FuncData} (F : Fun K "parse_stock" "parse_stock" s_parse_stock f fd) (hy : SysAt base) (d_parse_drawer : Def P w K mg base 3 "parse_drawer" ["kinds", "word"] (spJ K M_parse_drawer)) (mb_enumerate : mg "enumerate" = none) (mb_len : mg "len" = none) (mb_tuple : mg "tuple" = none) {tc_MAX_DRAWERS : Tok} (mc_MAX_DRAWERS : mg "MAX_DRAWERS" = some (.int 4 tc_MAX_DRAWERS)) : FnG P w K mg base 4 f fd ["words"] (spJ K M_parse_stock) := by
  have sc := sc_parse_stock
  exact fn_ar1 F sc rfl fun p_words cdv A outer s H E hr gu => (fj_seq (sj_setO 1 sc.nd (lj_lst dj_nil)) (fun v47 => (fj_of_for (for2 2 3 (P := fun (a48 : List D) => [.val p_words, .own a48, .any, .any, .any]) (a0 := v47) PassesOwn.never (ij_enum mb_enumerate (ej_vk 0)) (pg_tup rfl (pgs_cons (pg_name (i := 2) sc.nd rfl (by first | exact Or.inl rfl | exact Or.inr rfl)) (pgs_cons (pg_name (i := 3) sc.nd rfl (by first | exact Or.inl rfl | exact Or.inr rfl)) pgs_nil))) (fun x49 x50 a48 => (bj_seq (sj_set 4 sc.nd (ej_rd (ej_callD d_parse_drawer (hr.mono (by decide)) gu (aj_cons (ej_if (tj_cmp (by exact op_neA hy (units_of hr)) rd_ne (ej_vk 1) (ej_l (lj_lst dj_nil))) (ej_call1 call_lenD' rc_len mb_len (ej_ix ix_seq rd_ix (ej_vk 1) ej_int (fun _ _ => rfl))) ej_non) (aj_cons (ej_vk 3) aj_nil))))) (fun v51 => (bj_ifr (tj_w (wj_or (tj_cmp op_isN rd_is (ej_vk 4) ej_non) (wj_or1 (tj_cmp (by exact op_eqA hy (units_of hr)) rd_eq (ej_vk 2) (ej_gint mc_MAX_DRAWERS))))) fj_dead (bj_seq (sj_append 1 (ej_vk 4)) (fun v52 => (bj_nil (a := (a48 ++ [v52])) ⟨.inr rfl, .inr rfl, .inl rfl, .inl rfl, .inl rfl, trivial⟩))))))) ⟨.inr rfl, .inr rfl, .inl rfl, .inl rfl, .inl rfl, trivial⟩) (fun a53 => (fj_fr 1 (fj_ifr (tj_cmp (by exact op_eqA hy (units_of hr)) rd_eq (ej_vk 1) (ej_l (lj_lst dj_nil))) fj_dead (fj_ret (ej_callT call_tuple_of rc_tuple mb_tuple (ej_vk 1)))))))))
abbrev s__law_words_right : Stmt := top 39
theorem sc__law_words_right : FnScope ["_law_deck_here", "_law_stock", "_law_collections", "_law_words_here", "_law_drawers", "_law_needed", "_law_more", "_law_sums", "_law_one", "_law_other"] ["_law_deck_here", "_law_stock", "_law_collections"] (defScope s__law_words_right) := ⟨rfl, rfl, rfl, by decide +kernel, rfl, by decide +kernel, by decide +kernel⟩
def m__law_words_right (p_stock p_collections : D) : W D := ((parM ((argV (pure p_stock) (argV (pure p_collections) (pure []))) >>= fun as => upW (M__law_words as)) (op1 lenD (pure p_stock))) >>= fun v61 => (iteM (orB (cmp2 neD (op1 lenD (pure v61.1)) (op2 addD (op2 addD (pure v61.2) (pure (.int 1))) (op1 lenD (pure p_collections)))) (cmp2 neD (op2 getD (pure v61.1) (pure v61.2)) (pure (.str "for")))) (pure (.bool false)) (iteM (cmp2 neD ((argV (op1 revD (pure p_stock)) (argV (pure p_collections) (pure []))) >>= fun as => upW (M__law_words as)) (op2 addD (op1 revD (slcM (pure v61.1) (pure none) (partM (pure v61.2)))) (slcM (pure v61.1) (partM (pure v61.2)) (pure none)))) (pure (.bool false)) (iteM (cmp2 neD ((argV (pure p_stock) (argV (op1 revD (pure p_collections)) (pure []))) >>= fun as => upW (M__law_words as)) (op2 addD (slcM (pure v61.1) (pure none) (partM (op2 addD (pure v61.2) (pure (.int 1))))) (op1 revD (slcM (pure v61.1) (partM (op2 addD (pure v61.2) (pure (.int 1)))) (pure none))))) (pure (.bool false)) (((argK (argV (op1 lenD (op2 getD (pure p_stock) (pure (.int 0)))) (argV (pure (.int 50)) (pure [])))) >>= M__law_collection) >>= fun v62 => ((iteM (cmp2 ltD (op1 lenD (pure p_collections)) (pure (.int 4))) ((argV (pure p_stock) (argV (op2 addD (pure p_collections) (tupM (consM (pure v62) (pure [])))) (pure []))) >>= fun as => upW (M__law_words as)) (pure v61.1)) >>= fun v63 => (iteM (andB (cmp2 ltD (op1 lenD (pure p_collections)) (pure (.int 4))) (cmp2 neD (pure v63) (op2 addD (pure v61.1) (lstM (consM ((argV (pure v62) (pure [])) >>= fun as => upW (M__law_numbers_text as)) (pure [])))))) (pure (.bool false)) (iteM (cmp2 ltD (pure v61.2) (pure (.int 2))) (pure (.bool true)) ((comp2 (zip2M (op2 getD (pure p_stock) (pure (.int 0))) (op2 getD (pure p_stock) (pure (.int 1)))) (fun c65 c66 => (op2 addD (pure c65) (pure c66)))) >>= fun v64 => (iteM (cmp2 gtD (op1 maxD (pure (PyData.list v64))) (pure (.int 50))) (pure (.bool true)) (op2 eqD ((argV ((argV (pure p_stock) (argV (pure (.int 0)) (argV (pure (.int 1)) (pure [])))) >>= fun as => upW (M_merged as)) (argV (pure p_collections) (pure []))) >>= fun as => upW (M__law_words as)) (op2 addD (lstM (consM ((argV (pure (PyData.list v64)) (pure [])) >>= fun as => upW (M__law_numbers_text as)) (pure []))) (slcM (pure v61.1) (partM (pure (.int 2))) (pure none))))))))))))))
def M__law_words_right : List Sl → W D := dk2 m__law_words_right
theorem ok__law_words_right {f : Addr} {fd : FuncData} (F : Fun K "_law_words_right" "_law_words_right" s__law_words_right f fd) (hy : SysAt base) (d__law_collection : Def P w K mg base 2 "_law_collection" ["_law_deck_here", "_law_kinds", "_law_most"] (spJ K M__law_collection)) (d__law_numbers_text : Def P w K mg base 1 "_law_numbers_text" ["_law_numbers"] (spJ K M__law_numbers_text)) (d__law_words : Def P w K mg base 3 "_law_words" ["_law_stock", "_law_collections"] (spJ K M__law_words)) (d_merged : DefS P w K mg base 3 "merged" (spJ K M_merged)) (mb_len : mg "len" = none) (mb_max : mg "max" = none) (mb_zip : mg "zip" = none) : FnG P w K mg base 4 f fd ["_law_deck_here", "_law_stock", "_law_collections"] (spJ K M__law_words_right) := by
  have sc := sc__law_words_right
  exact fn_dk2 F sc rfl fun p_stock p_collections cdv A outer s H E hr gu => (fj_seq (sj_par 3 4 sc.nd (ej_callDU d__law_words (hr.mono (by decide)) gu (aj_cons (ej_vk 1) (aj_cons (ej_vk 2) aj_nil))) (ej_call1 call_lenD' rc_len mb_len (ej_vk 1))) (fun v61 => (fj_ifr (tj_w (wj_or (tj_cmp (by exact op_neA hy (units_of hr)) rd_ne (ej_call1 call_lenD' rc_len mb_len (ej_vk 3)) (ej_bin op_addD rd_add (ej_bin op_addD rd_add (ej_vk 4) ej_int) (ej_call1 call_lenD' rc_len mb_len (ej_vk 2)))) (wj_or1 (tj_cmp (by exact op_neA hy (units_of hr)) rd_ne (ej_ix ix_seq rd_ix (ej_vk 3) (ej_vk 4) (fun _ _ => rfl)) ej_str)))) (fj_ret ej_bl) (fj_ifr (tj_cmp (by exact op_neA hy (units_of hr)) rd_ne (ej_callDU d__law_words (hr.mono (by decide)) gu (aj_cons (ej_rev (ej_vk 1)) (aj_cons (ej_vk 2) aj_nil))) (ej_bin op_addD rd_add (ej_rev (ej_slice (ej_vk 3) oj_none (oj_some (ej_vk 4)))) (ej_slice (ej_vk 3) (oj_some (ej_vk 4)) oj_none))) (fj_ret ej_bl) (fj_ifr (tj_cmp (by exact op_neA hy (units_of hr)) rd_ne (ej_callDU d__law_words (hr.mono (by decide)) gu (aj_cons (ej_vk 1) (aj_cons (ej_rev (ej_vk 2)) aj_nil))) (ej_bin op_addD rd_add (ej_slice (ej_vk 3) oj_none (oj_some (ej_bin op_addD rd_add (ej_vk 4) ej_int))) (ej_rev (ej_slice (ej_vk 3) (oj_some (ej_bin op_addD rd_add (ej_vk 4) ej_int)) oj_none)))) (fj_ret ej_bl) (fj_seq (sj_set 5 sc.nd (ej_callD d__law_collection (hr.mono (by decide)) gu (aj_dk 0 (aj_cons (ej_call1 call_lenD' rc_len mb_len (ej_ix ix_seq rd_ix (ej_vk 1) ej_int (fun _ _ => rfl))) (aj_cons ej_int aj_nil))))) (fun v62 => (fj_seq (sj_set 6 sc.nd (ej_if (tj_cmp op_lt rd_lt (ej_call1 call_lenD' rc_len mb_len (ej_vk 2)) ej_int) (ej_callDU d__law_words (hr.mono (by decide)) gu (aj_cons (ej_vk 1) (aj_cons (ej_bin op_addD rd_add (ej_vk 2) (ej_tup (dj_cons (ej_vk 5) dj_nil))) aj_nil))) (ej_vk 3))) (fun v63 => (fj_ifr (tj_w (wj_and (tj_cmp op_lt rd_lt (ej_call1 call_lenD' rc_len mb_len (ej_vk 2)) ej_int) (wj_and1 (tj_cmp (by exact op_neA hy (units_of hr)) rd_ne (ej_vk 6) (ej_bin op_addD rd_add (ej_vk 3) (ej_l (lj_lst (dj_cons (ej_callDU d__law_numbers_text (hr.mono (by decide)) gu (aj_cons (ej_vk 5) aj_nil)) dj_nil)))))))) (fj_ret ej_bl) (fj_ifr (tj_cmp op_lt rd_lt (ej_vk 4) ej_int) (fj_ret ej_bl) (fj_seq (sj_lcV 7 sc.nd (lj_lc2 [("_law_one", 8), ("_law_other", 9)] 8 9 sc.nd (ij_zip2 mb_zip (ej_ix ix_seq rd_ix (ej_vk 1) ej_int (fun _ _ => rfl)) (ej_ix ix_seq rd_ix (ej_vk 1) ej_int (fun _ _ => rfl))) (blk_of (by kernel_rfl)) (fun _ _ _ _ _ => pg_tup rfl (pgs_cons (pg_name (i := 8) sc.nd rfl (by first | exact Or.inl rfl | exact Or.inr rfl)) (pgs_cons (pg_name (i := 9) sc.nd rfl (by first | exact Or.inl rfl | exact Or.inr rfl)) pgs_nil))) (fun _ _ _ _ _ c65 c66 => (ej_bin op_addD rd_add (ej_vk 8) (ej_vk 9)))) (by kernel_rfl)) (fun v64 => (fj_ifr (tj_cmp op_gt rd_gt (ej_call1 (call_maxD rfl) rc_max mb_max (ej_vk 7)) ej_int) (fj_ret ej_bl) (fj_ret (ej_cmp (by exact op_eqA hy (units_of hr)) rd_eq (ej_callDU d__law_words (hr.mono (by decide)) gu (aj_cons (ej_callSU d_merged (hr.mono (by decide)) gu (aj_cons (ej_vk 1) (aj_cons ej_int (aj_cons ej_int aj_nil)))) (aj_cons (ej_vk 2) aj_nil))) (ej_bin op_addD rd_add (ej_l (lj_lst (dj_cons (ej_callDU d__law_numbers_text (hr.mono (by decide)) gu (aj_cons (ej_vk 7) aj_nil)) dj_nil))) (ej_slice (ej_vk 3) (oj_some ej_int) oj_none))))))))))))))))))
abbrev s__law_merged_right : Stmt := top 40
theorem sc__law_merged_right : FnScope ["_law_stock", "_law_sums", "error", "_law_one", "_law_other", "_law_number"] ["_law_stock"] (defScope s__law_merged_right) := ⟨rfl, rfl, rfl, by decide +kernel, rfl, by decide +kernel, by decide +kernel⟩
def m__law_merged_right (p_stock : D) : Option D := ((comp2 (zip2M (op2 getD (pure p_stock) (pure (.int 0))) (op2 getD (pure p_stock) (op1 negD (pure (.int 1))))) (fun c68 c69 => (op2 addD (pure c68) (pure c69)))) >>= fun v67 => ((Tr.try_ (m₁ := Xo) (((argV (upX (pure p_stock)) (argV (upX (pure (.int 0))) (argV (upX (op2 subD (op1 lenD (pure p_stock)) (pure (.int 1)))) (pure [])))) >>= MX_merged) >>= fun v71 => (pure (.nx ()))) (fun e => (exc1 "TooMuch" "total" e (fun f72 => (rtM (op2 eqD (slcM (lstM (comp1i (seqLM (pure (PyData.list v67))) (fun c73 => (cmp2 gtD (pure c73) (pure (.int 50)))) (fun c73 => (pure c73)))) (pure none) (partM (pure (.int 1)))) (lstM (consM (pure f72) (pure [])))))) (Mo.lift none)))) >>= fun f => thenM f fun (a70 : Unit) => (op2 leD (op1 maxD (pure (PyData.list v67))) (pure (.int 50)))))
def M__law_merged_right : List Sl → Option D := ar1 m__law_merged_right
theorem ok__law_merged_right {f : Addr} {fd : FuncData} (F : Fun K "_law_merged_right" "_law_merged_right" s__law_merged_right f fd) (hy : SysAt base) {c_TooMuch : Addr} (er_TooMuch : ErK K c_TooMuch) (mC_TooMuch : mg "TooMuch" = some (.ref c_TooMuch)) (no_TooMuch_total : PySem.W.findIn K (.ref c_TooMuch) "total" = some none) (xm_TooMuch_TooMuch : PySem.W.exmOne K (.ref c_TooMuch) (.ref c_TooMuch) = some true) (dx_merged : DefXS P w K mg base 3 "merged"  (spX K mg MX_merged)) (mb_len : mg "len" = none) (mb_max : mg "max" = none) (mb_zip : mg "zip" = none) : FnG P w K mg base 4 f fd ["_law_stock"] (spJ K M__law_merged_right) := by
  have sc := sc__law_merged_right
  exact fn_ar1 F sc rfl fun p_stock cdv A outer s H E hr gu => (fj_seq (sj_lcV 1 sc.nd (lj_lc2 [("_law_one", 3), ("_law_other", 4)] 3 4 sc.nd (ij_zip2 mb_zip (ej_ix ix_seq rd_ix (ej_vk 0) ej_int (fun _ _ => rfl)) (ej_ix ix_seq rd_ix (ej_vk 0) (ej_un un_neg ru_neg ej_int) (fun _ _ => rfl))) (blk_of (by kernel_rfl)) (fun _ _ _ _ _ => pg_tup rfl (pgs_cons (pg_name (i := 3) sc.nd rfl (by first | exact Or.inl rfl | exact Or.inr rfl)) (pgs_cons (pg_name (i := 4) sc.nd rfl (by first | exact Or.inl rfl | exact Or.inr rfl)) pgs_nil))) (fun _ _ _ _ _ c68 c69 => (ej_bin op_addD rd_add (ej_vk 3) (ej_vk 4)))) (by kernel_rfl)) (fun v67 => (fj_of_for (try_as 2 (gk := [.val p_stock, .val (PyData.list v67), .any, .any, .any, .any]) (P := fun (a70 : Unit) => [.val p_stock, .val (PyData.list v67), .any, .any, .any, .any]) rfl rfl sc.nd rfl rfl ⟨rfl, by decide, .inl mC_TooMuch⟩ takes00 (fun e n φ ξ s C hC => (exc1_pick s (fun z => pick_cls (Q := fun C => PySem.W.exmOne _ (.ref C) _ = some true) z mC_TooMuch hC xm_TooMuch_TooMuch) (fun s => (no_sat s)))) (fun _ => rfl) (fun W pn xe tk hpo => (bj_seq (sj_expr (ej_callXS dx_merged (hr.mono (by decide)) gu tk ⟨.inr rfl, .inr rfl, .inl rfl, .inl rfl, .inl rfl, .inl rfl, trivial⟩ (aj_cons (ej_up (m' := Option) (ej_vk 0)) (aj_cons (ej_up (m' := Option) ej_int) (aj_cons (ej_up (m' := Option) (ej_bin op_sub rd_sub (ej_call1 call_lenD' rc_len mb_len (ej_vk 0)) ej_int)) aj_nil))))) (fun v71 => (bj_nil (a := ()) ⟨.inr rfl, .inr rfl, .inl rfl, .inl rfl, .inl rfl, .inl rfl, trivial⟩)))) (fun e a oe od C pn hh => (suite1 (i := 2) hh mC_TooMuch (fun f72 hh => (bj_ret (ej_cmp (by exact op_eqA hy (unitsS hr)) rd_eq (ej_slice (ej_l (lj_lcY1i [("_law_number", 5)] 5 (hot_held hh) List.mem_cons_self sc.nd (ijY_seq (ej_vk 1)) (blk_of (by kernel_rfl)) (fun _ _ _ _ _ => pg_name (i := 5) sc.nd rfl (by first | exact Or.inl rfl | exact Or.inr rfl)) (fun _ _ _ _ _ c73 => (tj_cmp op_gt rd_gt (ej_vk 5) ej_int)) (fun _ _ _ _ _ c73 => (ej_vk 5)))) oj_none (oj_some ej_int)) (ej_l (lj_lst (dj_cons (ej_xf 2 hh er_TooMuch no_TooMuch_total) dj_nil)))))) bj_no))) (fun a70 => (fj_ret (ej_cmp op_le rd_le (ej_call1 (call_maxD rfl) rc_max mb_max (ej_vk 1)) ej_int))))))
abbrev s_parse_collection : Stmt := top 26
theorem sc_parse_collection : FnScope ["kinds", "word", "numbers"] ["kinds", "word"] (defScope s_parse_collection) := ⟨rfl, rfl, rfl, by decide +kernel, rfl, by decide +kernel, by decide +kernel⟩
def m_parse_collection (p_kinds p_word : D) : Option D := (((argV (pure p_word) (pure [])) >>= M_parse_numbers) >>= fun v74 => (iteM (andB (cmp2 isnD (pure v74) (pure .none)) (tst ((argV (pure p_kinds) (argV (tupM (consM (pure v74) (pure []))) (pure []))) >>= M_are_collections))) (pure v74) (pure .none)))
def M_parse_collection : List Sl → Option D := ar2 m_parse_collection
theorem ok_parse_collection {f : Addr} {fd : FuncData} (F : Fun K "parse_collection" "parse_collection" s_parse_collection f fd) (hy : SysAt base) (d_are_collections : Def P w K mg base 4 "are_collections" ["kinds", "value"] (spJ K M_are_collections)) (d_parse_numbers : Def P w K mg base 2 "parse_numbers" ["word"] (spJ K M_parse_numbers)) : FnG P w K mg base 5 f fd ["kinds", "word"] (spJ K M_parse_collection) := by
  have sc := sc_parse_collection
  exact fn_ar2 F sc rfl fun p_kinds p_word cdv A outer s H E hr gu => (fj_seq (sj_set 2 sc.nd (ej_callD d_parse_numbers (hr.mono (by decide)) gu (aj_cons (ej_vk 1) aj_nil))) (fun v74 => (fj_ret (ej_if (tj_w (wj_and (tj_cmp op_notN rd_isn (ej_vk 2) ej_non) (wj_and1 (tj_val (ej_callD d_are_collections (hr.mono (by decide)) gu (aj_cons (ej_vk 0) (aj_cons (ej_tup (dj_cons (ej_vk 2) dj_nil)) aj_nil))))))) (ej_vk 2) ej_non))))
abbrev s_parse_cabinet : Stmt := top 28
theorem sc_parse_cabinet : FnScope ["value", "words", "end", "stock", "collections", "index", "collection"] ["value"] (defScope s_parse_cabinet) := ⟨rfl, rfl, rfl, by decide +kernel, rfl, by decide +kernel, by decide +kernel⟩
def mx_parse_cabinet (p_value : D) : Xo D := (iteM (upX (notB (tst (isiM "str" (pure p_value))))) ((upX (pure .none)) >>= fun d => MoX.throw ⟨"BadText", [("index", d)]⟩) ((upX (splitM (pure p_value) (pure (.str " ")))) >>= fun v83 => ((upX (iteM (cmp2 inD (pure (.str "for")) (pure v83)) (indexM (pure v83) (pure (.str "for"))) (op1 lenD (pure v83)))) >>= fun v84 => ((parM ((argV (upX (slcM (pure v83) (pure none) (partM (pure v84)))) (pure [])) >>= MX_parse_stock) (upX (pure []))) >>= fun v85 => (forM1 (upX (rng2 (op2 addD (pure v84) (pure (.int 1))) (op1 lenD (pure v83)))) v85.2 (fun x87 (a86 : List D) => ((upX ((argV (op1 lenD (op2 getD (pure v85.1) (pure (.int 0)))) (argV (op2 getD (pure v83) (pure x87)) (pure []))) >>= M_parse_collection)) >>= fun v88 => (iteM (upX (orB (cmp2 isD (pure v88) (pure .none)) (cmp2 eqD (op1 lenD (pure (PyData.list a86))) (pure (.int 4))))) (rtM ((upX (pure x87)) >>= fun d => MoX.throw ⟨"BadText", [("index", d)]⟩)) (((upX (pure v88)) >>= fun d => Mo.lift (fits a86.length) >>= fun _ => pure d) >>= fun v89 => (pure (.nx (a86 ++ [v89]))))))) >>= fun f => thenM f fun (a90 : List D) => (iteM (upX (cmp2 eqD (pure (PyData.list a90)) (lstM (pure [])))) ((upX (op1 lenD (pure v83))) >>= fun d => MoX.throw ⟨"BadText", [("index", d)]⟩) (upX (tupM (consM (pure v85.1) (consM (op1 tupleD (pure (PyData.list a90))) (pure [])))))))))))
def MX_parse_cabinet : List Sl → Xo D := ar1 mx_parse_cabinet
theorem okx_parse_cabinet {f : Addr} {fd : FuncData} (F : Fun K "parse_cabinet" "parse_cabinet" s_parse_cabinet f fd) (hy : SysAt base) {c_BadText : Addr} (e1_BadText : Er1 P w K mg base "BadText" "index" c_BadText) (d_parse_collection : Def P w K mg base 5 "parse_collection" ["kinds", "word"] (spJ K M_parse_collection)) (dx_parse_stock : DefX P w K mg base 4 "parse_stock" ["words"] (spX K mg MX_parse_stock)) (mb_isinstance : mg "isinstance" = none) (mb_len : mg "len" = none) (mb_range : mg "range" = none) (mb_str : mg "str" = none) (mb_tuple : mg "tuple" = none) {tc_MAX_COLLECTIONS : Tok} (mc_MAX_COLLECTIONS : mg "MAX_COLLECTIONS" = some (.int 4 tc_MAX_COLLECTIONS)) {tc_MIDDLE : Tok} (mc_MIDDLE : mg "MIDDLE" = some (.str "for" tc_MIDDLE)) : FnX P w K mg base 6 f fd ["value"] (spX K mg MX_parse_cabinet) := by
  have sc := sc_parse_cabinet
  exact fnx_ar1 F sc rfl fun p_value cdv A outer s H E hr gu => (fj_ifr (tj_up (m' := Option) (tj_not (tj_val (ej_isi "str" (ej_vk 0) mb_isinstance mb_str)))) (fj_raise1 e1_BadText (hr.mono (by decide)) rfl takesX (sub_any rfl rfl) (ej_up (m' := Option) ej_non)) (fj_seq (sj_set 1 sc.nd (ej_up (m' := Option) (ej_split (ej_vk 0) ej_str))) (fun v83 => (fj_seq (sj_set 2 sc.nd (ej_up (m' := Option) (ej_if (tj_cmp (by exact op_inB hy (units65 hr)) rd_in (ej_gstr mc_MIDDLE) (ej_vk 1)) (ej_index (ej_vk 1) (ej_gstr mc_MIDDLE)) (ej_call1 call_lenD' rc_len mb_len (ej_vk 1))))) (fun v84 => (fj_seq (sj_parO 3 4 sc.nd (ej_callXD dx_parse_stock (hr.mono (by decide)) gu takesX (sub_any rfl rfl) (aj_cons (ej_up (m' := Option) (ej_slice (ej_vk 1) oj_none (oj_some (ej_vk 2)))) aj_nil)) (lj_up (m' := Option) (lj_lst dj_nil))) (fun v85 => (fj_of_for (for1 5 (P := fun (a86 : List D) => [.val p_value, .val v83, .val v84, .val v85.1, .own a86, .any, .any]) (a0 := v85.2) passX (ij_up (m' := Option) (ij_range2 mb_range (ej_bin op_addD rd_add (ej_vk 2) ej_int) (ej_call1 call_lenD' rc_len mb_len (ej_vk 1)))) (pg_name (i := 5) sc.nd rfl (by first | exact Or.inl rfl | exact Or.inr rfl)) (fun x87 a86 => (bj_seq (sj_set 6 sc.nd (ej_up (m' := Option) (ej_callD d_parse_collection (hr.mono (by decide)) gu (aj_cons (ej_call1 call_lenD' rc_len mb_len (ej_ix ix_seq rd_ix (ej_vk 3) ej_int (fun _ _ => rfl))) (aj_cons (ej_ix ix_seq rd_ix (ej_vk 1) (ej_vk 5) (fun _ _ => rfl)) aj_nil))))) (fun v88 => (bj_ifr (tj_up (m' := Option) (tj_rd (tj_w (wj_or (tj_cmp op_isN rd_is (ej_vk 6) ej_non) (wj_or1 (tj_cmp (by exact op_eqA hy (units_of hr)) rd_eq (ej_call1 call_lenD' rc_len mb_len (ej_vk 4)) (ej_gint mc_MAX_COLLECTIONS))))))) (fj_raise1 e1_BadText (hr.mono (by decide)) rfl takesX (sub_any rfl rfl) (ej_up (m' := Option) (ej_vk 5))) (bj_seq (sj_append 4 (ej_up (m' := Option) (ej_vk 6))) (fun v89 => (bj_nil (a := (a86 ++ [v89])) ⟨.inr rfl, .inr rfl, .inr rfl, .inr rfl, .inr rfl, .inl rfl, .inl rfl, trivial⟩))))))) ⟨.inr rfl, .inr rfl, .inr rfl, .inr rfl, .inr rfl, .inl rfl, .inl rfl, trivial⟩) (fun a90 => (fj_fr 4 (fj_ifr (tj_up (m' := Option) (tj_cmp (by exact op_eqA hy (units_of hr)) rd_eq (ej_vk 4) (ej_l (lj_lst dj_nil)))) (fj_raise1 e1_BadText (hr.mono (by decide)) rfl takesX (sub_any rfl rfl) (ej_up (m' := Option) (ej_call1 call_lenD' rc_len mb_len (ej_vk 1)))) (fj_ret (ej_up (m' := Option) (ej_tup (dj_cons (ej_vk 3) (dj_cons (ej_callT call_tuple_of rc_tuple mb_tuple (ej_vk 4)) dj_nil))))))))))))))))
def m_parse_cabinet (p_value : D) : Option D := (iteM (notB (tst (isiM "str" (pure p_value)))) (Mo.lift none) ((splitM (pure p_value) (pure (.str " "))) >>= fun v75 => ((iteM (cmp2 inD (pure (.str "for")) (pure v75)) (indexM (pure v75) (pure (.str "for"))) (op1 lenD (pure v75))) >>= fun v76 => ((parM ((argV (slcM (pure v75) (pure none) (partM (pure v76))) (pure [])) >>= M_parse_stock) (pure [])) >>= fun v77 => (forM1 (rng2 (op2 addD (pure v76) (pure (.int 1))) (op1 lenD (pure v75))) v77.2 (fun x79 (a78 : List D) => (((argV (op1 lenD (op2 getD (pure v77.1) (pure (.int 0)))) (argV (op2 getD (pure v75) (pure x79)) (pure []))) >>= M_parse_collection) >>= fun v80 => (iteM (orB (cmp2 isD (pure v80) (pure .none)) (cmp2 eqD (op1 lenD (pure (PyData.list a78))) (pure (.int 4)))) (rtM (Mo.lift none)) (((pure v80) >>= fun d => Mo.lift (fits a78.length) >>= fun _ => pure d) >>= fun v81 => (pure (.nx (a78 ++ [v81]))))))) >>= fun f => thenM f fun (a82 : List D) => (iteM (cmp2 eqD (pure (PyData.list a82)) (lstM (pure []))) (Mo.lift none) (tupM (consM (pure v77.1) (consM (op1 tupleD (pure (PyData.list a82))) (pure []))))))))))
def M_parse_cabinet : List Sl → Option D := ar1 m_parse_cabinet
theorem ok_parse_cabinet {f : Addr} {fd : FuncData} (F : Fun K "parse_cabinet" "parse_cabinet" s_parse_cabinet f fd) (hy : SysAt base) (d_parse_collection : Def P w K mg base 5 "parse_collection" ["kinds", "word"] (spJ K M_parse_collection)) (d_parse_stock : Def P w K mg base 4 "parse_stock" ["words"] (spJ K M_parse_stock)) (mb_isinstance : mg "isinstance" = none) (mb_len : mg "len" = none) (mb_range : mg "range" = none) (mb_str : mg "str" = none) (mb_tuple : mg "tuple" = none) {tc_MAX_COLLECTIONS : Tok} (mc_MAX_COLLECTIONS : mg "MAX_COLLECTIONS" = some (.int 4 tc_MAX_COLLECTIONS)) {tc_MIDDLE : Tok} (mc_MIDDLE : mg "MIDDLE" = some (.str "for" tc_MIDDLE)) : FnG P w K mg base 6 f fd ["value"] (spJ K M_parse_cabinet) := by
  have sc := sc_parse_cabinet
  exact fn_ar1 F sc rfl fun p_value cdv A outer s H E hr gu => (fj_ifr (tj_not (tj_val (ej_isi "str" (ej_vk 0) mb_isinstance mb_str))) fj_dead (fj_seq (sj_set 1 sc.nd (ej_split (ej_vk 0) ej_str)) (fun v75 => (fj_seq (sj_set 2 sc.nd (ej_if (tj_cmp (by exact op_inB hy (units65 hr)) rd_in (ej_gstr mc_MIDDLE) (ej_vk 1)) (ej_index (ej_vk 1) (ej_gstr mc_MIDDLE)) (ej_call1 call_lenD' rc_len mb_len (ej_vk 1)))) (fun v76 => (fj_seq (sj_parO 3 4 sc.nd (ej_callD d_parse_stock (hr.mono (by decide)) gu (aj_cons (ej_slice (ej_vk 1) oj_none (oj_some (ej_vk 2))) aj_nil)) (lj_lst dj_nil)) (fun v77 => (fj_of_for (for1 5 (P := fun (a78 : List D) => [.val p_value, .val v75, .val v76, .val v77.1, .own a78, .any, .any]) (a0 := v77.2) PassesOwn.never (ij_range2 mb_range (ej_bin op_addD rd_add (ej_vk 2) ej_int) (ej_call1 call_lenD' rc_len mb_len (ej_vk 1))) (pg_name (i := 5) sc.nd rfl (by first | exact Or.inl rfl | exact Or.inr rfl)) (fun x79 a78 => (bj_seq (sj_set 6 sc.nd (ej_callD d_parse_collection (hr.mono (by decide)) gu (aj_cons (ej_call1 call_lenD' rc_len mb_len (ej_ix ix_seq rd_ix (ej_vk 3) ej_int (fun _ _ => rfl))) (aj_cons (ej_ix ix_seq rd_ix (ej_vk 1) (ej_vk 5) (fun _ _ => rfl)) aj_nil)))) (fun v80 => (bj_ifr (tj_rd (tj_w (wj_or (tj_cmp op_isN rd_is (ej_vk 6) ej_non) (wj_or1 (tj_cmp (by exact op_eqA hy (units_of hr)) rd_eq (ej_call1 call_lenD' rc_len mb_len (ej_vk 4)) (ej_gint mc_MAX_COLLECTIONS)))))) fj_dead (bj_seq (sj_append 4 (ej_vk 6)) (fun v81 => (bj_nil (a := (a78 ++ [v81])) ⟨.inr rfl, .inr rfl, .inr rfl, .inr rfl, .inr rfl, .inl rfl, .inl rfl, trivial⟩))))))) ⟨.inr rfl, .inr rfl, .inr rfl, .inr rfl, .inr rfl, .inl rfl, .inl rfl, trivial⟩) (fun a82 => (fj_fr 4 (fj_ifr (tj_cmp (by exact op_eqA hy (units_of hr)) rd_eq (ej_vk 4) (ej_l (lj_lst dj_nil))) fj_dead (fj_ret (ej_tup (dj_cons (ej_vk 3) (dj_cons (ej_callT call_tuple_of rc_tuple mb_tuple (ej_vk 4)) dj_nil)))))))))))))))
abbrev s__law_accepted_right : Stmt := top 37
theorem sc__law_accepted_right : FnScope ["_law_text", "_law_found"] ["_law_text"] (defScope s__law_accepted_right) := ⟨rfl, rfl, rfl, by decide +kernel, rfl, by decide +kernel, by decide +kernel⟩
def m__law_accepted_right (p_text : D) : Option D := ((Tr.try_ (m₁ := Xo) (((argV (upX (pure p_text)) (pure [])) >>= MX_parse_cabinet) >>= fun v92 => (pure (.nx v92))) (fun e => (exc1 "BadText" "index" e (fun f93 => (rtM (pure (.bool true)))) (Mo.lift none)))) >>= fun f => thenM f fun (a91 : D) => (op2 eqD ((argV (op2 getD (pure a91) (pure (.int 0))) (argV (op2 getD (pure a91) (pure (.int 1))) (pure []))) >>= M_cabinet_text) (pure p_text)))
def M__law_accepted_right : List Sl → Option D := ar1 m__law_accepted_right
theorem ok__law_accepted_right {f : Addr} {fd : FuncData} (F : Fun K "_law_accepted_right" "_law_accepted_right" s__law_accepted_right f fd) (hy : SysAt base) {c_BadText : Addr} (mC_BadText : mg "BadText" = some (.ref c_BadText)) (xm_BadText_BadText : PySem.W.exmOne K (.ref c_BadText) (.ref c_BadText) = some true) (d_cabinet_text : Def P w K mg base 2 "cabinet_text" ["stock", "collections"] (spJ K M_cabinet_text)) (dx_parse_cabinet : DefX P w K mg base 6 "parse_cabinet" ["value"] (spX K mg MX_parse_cabinet)) : FnG P w K mg base 7 f fd ["_law_text"] (spJ K M__law_accepted_right) := by
  have sc := sc__law_accepted_right
  exact fn_ar1 F sc rfl fun p_text cdv A outer s H E hr gu => (fj_of_for (try_only (gk := [.val p_text, .any]) (P := fun (a91 : D) => [.val p_text, .val a91]) rfl rfl ⟨rfl, by decide, .inl mC_BadText⟩ takes00 (fun e n φ ξ s C hC => (exc1_pick s (fun z => pick_cls (Q := fun C => PySem.W.exmOne _ (.ref C) _ = some true) z mC_BadText hC xm_BadText_BadText) (fun s => (no_sat s)))) (fun W pn xe tk hpo => (bj_seq (sj_set 1 sc.nd (ej_callXD dx_parse_cabinet (hr.mono (by decide)) gu tk ⟨.inr rfl, .inl rfl, trivial⟩ (aj_cons (ej_up (m' := Option) (ej_vk 0)) aj_nil))) (fun v92 => (bj_nil (a := v92) ⟨.inr rfl, .inr rfl, trivial⟩)))) (fun e a oe od C pn hh => (bj_exc1 (fun f93 _ _ => (bj_ret ej_bl)) bj_no))) (fun a91 => (fj_ret (ej_cmp (by exact op_eqA hy (units_of hr)) rd_eq (ej_callD d_cabinet_text (hr.mono (by decide)) gu (aj_cons (ej_ix ix_seq rd_ix (ej_vk 1) ej_int (fun _ _ => rfl)) (aj_cons (ej_ix ix_seq rd_ix (ej_vk 1) ej_int (fun _ _ => rfl)) aj_nil))) (ej_vk 0)))))
abbrev s__law_same : Stmt := top 32
theorem sc__law_same : FnScope ["_law_found", "_law_due", "_law_one", "_law_other"] ["_law_found", "_law_due"] (defScope s__law_same) := ⟨rfl, rfl, rfl, by decide +kernel, rfl, by decide +kernel, by decide +kernel⟩
def m__law_same : Nat → D → D → Option D
  | 0, _, _ => Mo.lift none
  | n + 1, p_found, p_due => (iteM (tst (isiM "tuple" (pure p_due))) (iteM (orB (notB (tst (isiM "tuple" (pure p_found)))) (cmp2 neD (op1 lenD (pure p_found)) (op1 lenD (pure p_due)))) (pure (.bool false)) (op2 eqD (lstM (comp2i (zip2M (pure p_found) (pure p_due)) (fun c94 c95 => (notB (tst ((argV (pure c94) (argV (pure c95) (pure []))) >>= (ar2 (m__law_same n)))))) (fun c94 c95 => (pure (.int 1))))) (lstM (pure [])))) (iteM (cmp2 isD (pure p_due) (pure .none)) (op2 isD (pure p_found) (pure .none)) (iteM (tst (isiM "str" (pure p_due))) (andD (isiM "str" (pure p_found)) (op2 eqD (pure p_found) (pure p_due))) (andD (isiM "int" (pure p_found)) (andD (op2 eqD (isiM "bool" (pure p_found)) (isiM "bool" (pure p_due))) (op2 eqD (pure p_found) (pure p_due)))))))
def M__law_same : List Sl → Option D := ar2 (m__law_same 8)
theorem ok__law_same {f : Addr} {fd : FuncData} (F : Fun K "_law_same" "_law_same" s__law_same f fd) (e : mg "_law_same" = some (.ref f)) (kk : PySem.W.keepIn K (.ref f) = true) (bb : Binds K fd ["_law_found", "_law_due"] []) (hy : SysAt base) (mb_bool : mg "bool" = none) (mb_int : mg "int" = none) (mb_isinstance : mg "isinstance" = none) (mb_len : mg "len" = none) (mb_str : mg "str" = none) (mb_tuple : mg "tuple" = none) (mb_zip : mg "zip" = none) : ∀ n : Nat, FnG P w K mg base (0 + n) f fd ["_law_found", "_law_due"] (spJ K (ar2 (m__law_same n)))
  | 0 => fng_none fun as n φ h => by
    unfold ar2 at h
    split at h <;> exact no_lift h
  | n + 1 => by
    have sc := sc__law_same
    have d__law_same : Def P w K mg base (0 + n) "_law_same" ["_law_found", "_law_due"] (spJ K (ar2 (m__law_same n))) := ⟨f, fd, ok__law_same F e kk bb hy mb_bool mb_int mb_isinstance mb_len mb_str mb_tuple mb_zip n, e, kk, bb⟩
    exact fn_ar2 F sc rfl fun p_found p_due cdv A outer s H E hr gu => (fj_ifr (tj_val (ej_isi "tuple" (ej_vk 1) mb_isinstance mb_tuple)) (fj_ifr (tj_w (wj_or (tj_not (tj_val (ej_isi "tuple" (ej_vk 0) mb_isinstance mb_tuple))) (wj_or1 (tj_cmp (by exact op_neA hy (units_of hr)) rd_ne (ej_call1 call_lenD' rc_len mb_len (ej_vk 0)) (ej_call1 call_lenD' rc_len mb_len (ej_vk 1)))))) (fj_ret ej_bl) (fj_ret (ej_cmp (by exact op_eqA hy (units_of hr)) rd_eq (ej_l (LcP.expr (lj_lc2i [("_law_one", 2), ("_law_other", 3)] 2 3 sc.nd (ij_zip2 mb_zip (ej_vk 0) (ej_vk 1)) (blk_of (by kernel_rfl)) (fun _ _ _ _ _ => pg_tup rfl (pgs_cons (pg_name (i := 2) sc.nd rfl (by first | exact Or.inl rfl | exact Or.inr rfl)) (pgs_cons (pg_name (i := 3) sc.nd rfl (by first | exact Or.inl rfl | exact Or.inr rfl)) pgs_nil))) (fun _ _ _ _ _ c94 c95 => (tj_not (tj_val (ej_callD d__law_same (hr.mono (by first | exact Nat.le_refl _ | (simp only [Nat.add_eq]; omega))) gu (aj_cons (ej_vk 2) (aj_cons (ej_vk 3) aj_nil)))))) (fun _ _ _ _ _ c94 c95 => ej_int)))) (ej_l (lj_lst dj_nil))))) (fj_ifr (tj_cmp op_isN rd_is (ej_vk 1) ej_non) (fj_ret (ej_cmp op_isN rd_is (ej_vk 0) ej_non)) (fj_ifr (tj_val (ej_isi "str" (ej_vk 1) mb_isinstance mb_str)) (fj_ret (ej_and (ej_isi "str" (ej_vk 0) mb_isinstance mb_str) (ej_one (ej_cmp (by exact op_eqA hy (units_of hr)) rd_eq (ej_vk 0) (ej_vk 1))))) (fj_ret (ej_and (ej_isi "int" (ej_vk 0) mb_isinstance mb_int) (ej_and (ej_cmp (by exact op_eqA hy (units_of hr)) rd_eq (ej_isi "bool" (ej_vk 0) mb_isinstance mb_bool) (ej_isi "bool" (ej_vk 1) mb_isinstance mb_bool)) (ej_one (ej_cmp (by exact op_eqA hy (units_of hr)) rd_eq (ej_vk 0) (ej_vk 1)))))))))
abbrev s_law : Stmt := top 41
theorem sc_law : FnScope ["_law_script", "_law_deck_here", "_law_turn", "_law_stock", "_law_collections", "_law_text", "_law_k", "_law_once"] ["_law_script"] (defScope s_law) := ⟨rfl, rfl, rfl, by decide +kernel, rfl, by decide +kernel, by decide +kernel⟩
def m_law : W D := (forM1 (rng1 (pure (.int 4))) () (fun x97 (a96 : Unit) => ((unp2 ((argK (argV (op2 getD (lstM (consM (pure (.int 9)) (consM (pure (.int 50)) (consM (pure (.int 25)) (consM (pure (.int 50)) (pure [])))))) (pure x97)) (pure []))) >>= M__law_state)) >>= fun v98 => (((argV (pure v98.1) (argV (pure v98.2) (pure []))) >>= fun as => upW (M_cabinet_text as)) >>= fun v99 => (iteM (notB (tst ((argV ((argV (pure v99) (pure [])) >>= fun as => upW (M_parse_cabinet as)) (argV (tupM (consM (pure v98.1) (consM (pure v98.2) (pure [])))) (pure []))) >>= fun as => upW ((ar2 (m__law_same 8)) as)))) (rtM (pure (.bool false))) (iteM (orB (notB (tst ((argK (argV (pure v98.1) (argV (pure v98.2) (pure [])))) >>= M__law_words_right))) (andB (cmp2 gtD (op1 lenD (pure v98.1)) (pure (.int 1))) (notB (tst ((argV (pure v98.1) (pure [])) >>= fun as => upW (M__law_merged_right as)))))) (rtM (pure (.bool false))) (forM1 (rng1 (pure (.int 10))) () (fun x101 (a100 : Unit) => (((argK (argV (pure v99) (pure []))) >>= M__law_bent) >>= fun v102 => (iteM (orB (notB (tst ((argV (pure v102) (pure [])) >>= fun as => upW (M__law_accepted_right as)))) (notB (tst ((argV ((argK (argV (pure v102) (pure []))) >>= M__law_bent) (pure [])) >>= fun as => upW (M__law_accepted_right as))))) (rtM (pure (.bool false))) (pure (.nx ()))))) >>= fun f => thenB f fun (a103 : Unit) => (pure (.nx ())))))))) >>= fun f => thenM f fun (a104 : Unit) => (pure (.bool true)))
theorem ok_law {f : Addr} {fd : FuncData} (F : Fun K "law" "law" s_law f fd) (hy : SysAt base) (d__law_accepted_right : Def P w K mg base 7 "_law_accepted_right" ["_law_text"] (spJ K M__law_accepted_right)) (d__law_bent : Def P w K mg base 2 "_law_bent" ["_law_deck_here", "_law_text"] (spJ K M__law_bent)) (d__law_merged_right : Def P w K mg base 4 "_law_merged_right" ["_law_stock"] (spJ K M__law_merged_right)) (d__law_same : Def P w K mg base 8 "_law_same" ["_law_found", "_law_due"] (spJ K M__law_same)) (d__law_state : Def P w K mg base 3 "_law_state" ["_law_deck_here", "_law_most"] (spJ K M__law_state)) (d__law_words_right : Def P w K mg base 4 "_law_words_right" ["_law_deck_here", "_law_stock", "_law_collections"] (spJ K M__law_words_right)) (d_cabinet_text : Def P w K mg base 2 "cabinet_text" ["stock", "collections"] (spJ K M_cabinet_text)) (d_parse_cabinet : Def P w K mg base 6 "parse_cabinet" ["value"] (spJ K M_parse_cabinet)) (mb_len : mg "len" = none) (mb_range : mg "range" = none) (d__law_deck : Def P w K mg base 1 "_law_deck" ["_law_script"] (spDeck K)) (hM : Mo.sat m_law 0 (fun d _ => d = .bool true) (fun _ _ => False)) : FnG P w K mg base 9 f fd ["_law_script"] (spLaw K) := by
  have sc := sc_law
  obtain ⟨fk, fkd, h1, h2, h3, h4⟩ := d__law_deck.ex
  exact law_j (M := m_law) F sc (h1.mono (by decide)) h4 h2 rfl rfl rfl
    (fun cdv A outer s H E hr gu => ps_set (i := 1) sc.nd rfl (by first | exact Or.inl rfl | exact Or.inr rfl) (pe_g h1 (hr.mono (by decide)) gu (by rfl) h2 h3 h4 (pa_cons (pv 0) pa_nil) (by decide) (by rfl) (by rfl)))
    (fun cdv A outer s H E hr gu => (fj_of_for (for1 2 (P := fun (a96 : Unit) => [.any, .deck, .any, .any, .any, .any, .any, .any]) (a0 := ()) PassesOwn.never (ij_range1 mb_range ej_int) (pg_name (i := 2) sc.nd rfl (by first | exact Or.inl rfl | exact Or.inr rfl)) (fun x97 a96 => (bj_seq (sj_unp2 3 4 (ej_callD d__law_state (hr.mono (by decide)) gu (aj_dk 1 (aj_cons (ej_ix ix_seq rd_ix (ej_l (lj_lst (dj_cons ej_int (dj_cons ej_int (dj_cons ej_int (dj_cons ej_int dj_nil)))))) (ej_vk 2) (fun _ _ => rfl)) aj_nil))) (pg_tup rfl (pgs_cons (pg_name (i := 3) sc.nd rfl (by first | exact Or.inl rfl | exact Or.inr rfl)) (pgs_cons (pg_name (i := 4) sc.nd rfl (by first | exact Or.inl rfl | exact Or.inr rfl)) pgs_nil)))) (fun v98 => (bj_seq (sj_set 5 sc.nd (ej_callDU d_cabinet_text (hr.mono (by decide)) gu (aj_cons (ej_vk 3) (aj_cons (ej_vk 4) aj_nil)))) (fun v99 => (bj_ifr (tj_not (tj_val (ej_callDU d__law_same (hr.mono (by decide)) gu (aj_cons (ej_callDU d_parse_cabinet (hr.mono (by decide)) gu (aj_cons (ej_vk 5) aj_nil)) (aj_cons (ej_tup (dj_cons (ej_vk 3) (dj_cons (ej_vk 4) dj_nil))) aj_nil))))) (fj_ret ej_bl) (bj_ifr (tj_w (wj_or (tj_not (tj_val (ej_callD d__law_words_right (hr.mono (by decide)) gu (aj_dk 1 (aj_cons (ej_vk 3) (aj_cons (ej_vk 4) aj_nil)))))) (wj_or1 (tj_w (wj_and (tj_cmp op_gt rd_gt (ej_call1 call_lenD' rc_len mb_len (ej_vk 3)) ej_int) (wj_and1 (tj_not (tj_val (ej_callDU d__law_merged_right (hr.mono (by decide)) gu (aj_cons (ej_vk 3) aj_nil)))))))))) (fj_ret ej_bl) (bj_of_for (for1 6 (P := fun (a100 : Unit) => [.any, .deck, .val x97, .val v98.1, .val v98.2, .val v99, .any, .any]) (a0 := ()) PassesOwn.never (ij_range1 mb_range ej_int) (pg_name (i := 6) sc.nd rfl (by first | exact Or.inl rfl | exact Or.inr rfl)) (fun x101 a100 => (bj_seq (sj_set 7 sc.nd (ej_callD d__law_bent (hr.mono (by decide)) gu (aj_dk 1 (aj_cons (ej_vk 5) aj_nil)))) (fun v102 => (bj_ifr (tj_w (wj_or (tj_not (tj_val (ej_callDU d__law_accepted_right (hr.mono (by decide)) gu (aj_cons (ej_vk 7) aj_nil)))) (wj_or1 (tj_not (tj_val (ej_callDU d__law_accepted_right (hr.mono (by decide)) gu (aj_cons (ej_callD d__law_bent (hr.mono (by decide)) gu (aj_dk 1 (aj_cons (ej_vk 7) aj_nil))) aj_nil))))))) (fj_ret ej_bl) (bj_nil (a := ()) ⟨.inl rfl, .inr rfl, .inr rfl, .inr rfl, .inr rfl, .inr rfl, .inl rfl, .inl rfl, trivial⟩))))) ⟨.inl rfl, .inr rfl, .inr rfl, .inr rfl, .inr rfl, .inr rfl, .inl rfl, .inl rfl, trivial⟩) (fun a103 => (bj_nil (a := ()) ⟨.inl rfl, .inr rfl, .inl rfl, .inl rfl, .inl rfl, .inl rfl, .inl rfl, .inl rfl, trivial⟩)))))))))) ⟨.inl rfl, .inr rfl, .inl rfl, .inl rfl, .inl rfl, .inl rfl, .inl rfl, .inl rfl, trivial⟩) (fun a104 => (fj_ret ej_bl)))) hM
end
theorem all_mk {l : PySem.W.OpenLaw} {w : World} {K : PySem.W.Frag} {h : Heap} {mg : Str → Option Value} {fa : Addr} (X : K.In h) (G : h.Ns mainGlobals mg) (hfa : mg "law" = some (.ref fa)) (hM : Mo.sat m_law 0 (fun d _ => d = .bool true) (fun _ _ => False))
    {f0 : Addr} {od0 an0 : Option Addr} {sl0 : Array (Option Value)} {oc0 kV0 dc0 pm0 cd0 ct0 : Value} (a0 : PySem.W.nsIn K mainGlobals "is_number" = some (some (.ref f0))) (l0 : K.lookup f0 = some ⟨oc0, od0, .func (PySem.W.fnOf "is_number" "is_number" (defArgs s_is_number) (defBody s_is_number) (defScope s_is_number) .none kV0 dc0 pm0 an0 cd0 ct0), sl0⟩) (c0 : PySem.W.codeIn K cd0 "is_number" = true) (k0 : PySem.W.keepIn K (.ref f0) = true)
    {f1 : Addr} {od1 an1 : Option Addr} {sl1 : Array (Option Value)} {oc1 kV1 dc1 pm1 cd1 ct1 : Value} (a1 : PySem.W.nsIn K mainGlobals "totals_of" = some (some (.ref f1))) (l1 : K.lookup f1 = some ⟨oc1, od1, .func (PySem.W.fnOf "totals_of" "totals_of" (defArgs s_totals_of) (defBody s_totals_of) (defScope s_totals_of) .none kV1 dc1 pm1 an1 cd1 ct1), sl1⟩) (c1 : PySem.W.codeIn K cd1 "totals_of" = true) (k1 : PySem.W.keepIn K (.ref f1) = true)
    {f2 : Addr} {od2 an2 : Option Addr} {sl2 : Array (Option Value)} {oc2 kV2 dc2 pm2 cd2 ct2 : Value} (a2 : PySem.W.nsIn K mainGlobals "parse_number" = some (some (.ref f2))) (l2 : K.lookup f2 = some ⟨oc2, od2, .func (PySem.W.fnOf "parse_number" "parse_number" (defArgs s_parse_number) (defBody s_parse_number) (defScope s_parse_number) .none kV2 dc2 pm2 an2 cd2 ct2), sl2⟩) (c2 : PySem.W.codeIn K cd2 "parse_number" = true) (k2 : PySem.W.keepIn K (.ref f2) = true)
    {f3 : Addr} {od3 an3 : Option Addr} {sl3 : Array (Option Value)} {oc3 kV3 dc3 pm3 cd3 ct3 : Value} (a3 : PySem.W.nsIn K mainGlobals "numbers_text" = some (some (.ref f3))) (l3 : K.lookup f3 = some ⟨oc3, od3, .func (PySem.W.fnOf "numbers_text" "numbers_text" (defArgs s_numbers_text) (defBody s_numbers_text) (defScope s_numbers_text) .none kV3 dc3 pm3 an3 cd3 ct3), sl3⟩) (c3 : PySem.W.codeIn K cd3 "numbers_text" = true) (k3 : PySem.W.keepIn K (.ref f3) = true)
    {f4 : Addr} {od4 an4 : Option Addr} {sl4 : Array (Option Value)} {oc4 kV4 dc4 pm4 cd4 ct4 : Value} (a4 : PySem.W.nsIn K mainGlobals "_law_deck" = some (some (.ref f4))) (l4 : K.lookup f4 = some ⟨oc4, od4, .func (PySem.W.fnOf "_law_deck" "_law_deck" (defArgs s__law_deck) (defBody s__law_deck) (defScope s__law_deck) .none kV4 dc4 pm4 an4 cd4 ct4), sl4⟩) (c4 : PySem.W.codeIn K cd4 "_law_deck" = true) (k4 : PySem.W.keepIn K (.ref f4) = true)
    {f5 : Addr} {od5 an5 : Option Addr} {sl5 : Array (Option Value)} {oc5 kV5 dc5 pm5 cd5 ct5 : Value} (a5 : PySem.W.nsIn K mainGlobals "_law_draw" = some (some (.ref f5))) (l5 : K.lookup f5 = some ⟨oc5, od5, .func (PySem.W.fnOf "_law_draw" "_law_draw" (defArgs s__law_draw) (defBody s__law_draw) (defScope s__law_draw) .none kV5 dc5 pm5 an5 cd5 ct5), sl5⟩) (c5 : PySem.W.codeIn K cd5 "_law_draw" = true) (k5 : PySem.W.keepIn K (.ref f5) = true)
    {f6 : Addr} {od6 an6 : Option Addr} {sl6 : Array (Option Value)} {oc6 kV6 dc6 pm6 cd6 ct6 : Value} (a6 : PySem.W.nsIn K mainGlobals "_law_numbers_text" = some (some (.ref f6))) (l6 : K.lookup f6 = some ⟨oc6, od6, .func (PySem.W.fnOf "_law_numbers_text" "_law_numbers_text" (defArgs s__law_numbers_text) (defBody s__law_numbers_text) (defScope s__law_numbers_text) .none kV6 dc6 pm6 an6 cd6 ct6), sl6⟩) (c6 : PySem.W.codeIn K cd6 "_law_numbers_text" = true) (k6 : PySem.W.keepIn K (.ref f6) = true)
    {f7 : Addr} {od7 an7 : Option Addr} {sl7 : Array (Option Value)} {oc7 kV7 dc7 pm7 cd7 ct7 : Value} (a7 : PySem.W.nsIn K mainGlobals "are_numbers" = some (some (.ref f7))) (l7 : K.lookup f7 = some ⟨oc7, od7, .func (PySem.W.fnOf "are_numbers" "are_numbers" (defArgs s_are_numbers) (defBody s_are_numbers) (defScope s_are_numbers) .none kV7 dc7 pm7 an7 cd7 ct7), sl7⟩) (c7 : PySem.W.codeIn K cd7 "are_numbers" = true) (k7 : PySem.W.keepIn K (.ref f7) = true)
    {f8 : Addr} {od8 an8 : Option Addr} {sl8 : Array (Option Value)} {oc8 kV8 dc8 pm8 cd8 ct8 : Value} (a8 : PySem.W.nsIn K mainGlobals "parse_numbers" = some (some (.ref f8))) (l8 : K.lookup f8 = some ⟨oc8, od8, .func (PySem.W.fnOf "parse_numbers" "parse_numbers" (defArgs s_parse_numbers) (defBody s_parse_numbers) (defScope s_parse_numbers) .none kV8 dc8 pm8 an8 cd8 ct8), sl8⟩) (c8 : PySem.W.codeIn K cd8 "parse_numbers" = true) (k8 : PySem.W.keepIn K (.ref f8) = true)
    {f9 : Addr} {od9 an9 : Option Addr} {sl9 : Array (Option Value)} {oc9 kV9 dc9 pm9 cd9 ct9 : Value} (a9 : PySem.W.nsIn K mainGlobals "cabinet_text" = some (some (.ref f9))) (l9 : K.lookup f9 = some ⟨oc9, od9, .func (PySem.W.fnOf "cabinet_text" "cabinet_text" (defArgs s_cabinet_text) (defBody s_cabinet_text) (defScope s_cabinet_text) .none kV9 dc9 pm9 an9 cd9 ct9), sl9⟩) (c9 : PySem.W.codeIn K cd9 "cabinet_text" = true) (k9 : PySem.W.keepIn K (.ref f9) = true)
    {f10 : Addr} {od10 an10 : Option Addr} {sl10 : Array (Option Value)} {oc10 kV10 dc10 pm10 cd10 ct10 : Value} (a10 : PySem.W.nsIn K mainGlobals "_law_collection" = some (some (.ref f10))) (l10 : K.lookup f10 = some ⟨oc10, od10, .func (PySem.W.fnOf "_law_collection" "_law_collection" (defArgs s__law_collection) (defBody s__law_collection) (defScope s__law_collection) .none kV10 dc10 pm10 an10 cd10 ct10), sl10⟩) (c10 : PySem.W.codeIn K cd10 "_law_collection" = true) (k10 : PySem.W.keepIn K (.ref f10) = true)
    {f11 : Addr} {od11 an11 : Option Addr} {sl11 : Array (Option Value)} {oc11 kV11 dc11 pm11 cd11 ct11 : Value} (a11 : PySem.W.nsIn K mainGlobals "_law_bent" = some (some (.ref f11))) (l11 : K.lookup f11 = some ⟨oc11, od11, .func (PySem.W.fnOf "_law_bent" "_law_bent" (defArgs s__law_bent) (defBody s__law_bent) (defScope s__law_bent) .none kV11 dc11 pm11 an11 cd11 ct11), sl11⟩) (c11 : PySem.W.codeIn K cd11 "_law_bent" = true) (k11 : PySem.W.keepIn K (.ref f11) = true)
    {f12 : Addr} {od12 an12 : Option Addr} {sl12 : Array (Option Value)} {oc12 kV12 dc12 pm12 cd12 ct12 : Value} (a12 : PySem.W.nsIn K mainGlobals "merged" = some (some (.ref f12))) (l12 : K.lookup f12 = some ⟨oc12, od12, .func (PySem.W.fnOf "merged" "merged" (defArgs s_merged) (defBody s_merged) (defScope s_merged) .none kV12 dc12 pm12 an12 cd12 ct12), sl12⟩) (c12 : PySem.W.codeIn K cd12 "merged" = true) (k12 : PySem.W.keepIn K (.ref f12) = true)
    {f13 : Addr} {od13 an13 : Option Addr} {sl13 : Array (Option Value)} {oc13 kV13 dc13 pm13 cd13 ct13 : Value} (a13 : PySem.W.nsIn K mainGlobals "is_collection" = some (some (.ref f13))) (l13 : K.lookup f13 = some ⟨oc13, od13, .func (PySem.W.fnOf "is_collection" "is_collection" (defArgs s_is_collection) (defBody s_is_collection) (defScope s_is_collection) .none kV13 dc13 pm13 an13 cd13 ct13), sl13⟩) (c13 : PySem.W.codeIn K cd13 "is_collection" = true) (k13 : PySem.W.keepIn K (.ref f13) = true)
    {f14 : Addr} {od14 an14 : Option Addr} {sl14 : Array (Option Value)} {oc14 kV14 dc14 pm14 cd14 ct14 : Value} (a14 : PySem.W.nsIn K mainGlobals "parse_drawer" = some (some (.ref f14))) (l14 : K.lookup f14 = some ⟨oc14, od14, .func (PySem.W.fnOf "parse_drawer" "parse_drawer" (defArgs s_parse_drawer) (defBody s_parse_drawer) (defScope s_parse_drawer) .none kV14 dc14 pm14 an14 cd14 ct14), sl14⟩) (c14 : PySem.W.codeIn K cd14 "parse_drawer" = true) (k14 : PySem.W.keepIn K (.ref f14) = true)
    {f15 : Addr} {od15 an15 : Option Addr} {sl15 : Array (Option Value)} {oc15 kV15 dc15 pm15 cd15 ct15 : Value} (a15 : PySem.W.nsIn K mainGlobals "_law_state" = some (some (.ref f15))) (l15 : K.lookup f15 = some ⟨oc15, od15, .func (PySem.W.fnOf "_law_state" "_law_state" (defArgs s__law_state) (defBody s__law_state) (defScope s__law_state) .none kV15 dc15 pm15 an15 cd15 ct15), sl15⟩) (c15 : PySem.W.codeIn K cd15 "_law_state" = true) (k15 : PySem.W.keepIn K (.ref f15) = true)
    {f16 : Addr} {od16 an16 : Option Addr} {sl16 : Array (Option Value)} {oc16 kV16 dc16 pm16 cd16 ct16 : Value} (a16 : PySem.W.nsIn K mainGlobals "_law_words" = some (some (.ref f16))) (l16 : K.lookup f16 = some ⟨oc16, od16, .func (PySem.W.fnOf "_law_words" "_law_words" (defArgs s__law_words) (defBody s__law_words) (defScope s__law_words) .none kV16 dc16 pm16 an16 cd16 ct16), sl16⟩) (c16 : PySem.W.codeIn K cd16 "_law_words" = true) (k16 : PySem.W.keepIn K (.ref f16) = true)
    {f17 : Addr} {od17 an17 : Option Addr} {sl17 : Array (Option Value)} {oc17 kV17 dc17 pm17 cd17 ct17 : Value} (a17 : PySem.W.nsIn K mainGlobals "are_collections" = some (some (.ref f17))) (l17 : K.lookup f17 = some ⟨oc17, od17, .func (PySem.W.fnOf "are_collections" "are_collections" (defArgs s_are_collections) (defBody s_are_collections) (defScope s_are_collections) .none kV17 dc17 pm17 an17 cd17 ct17), sl17⟩) (c17 : PySem.W.codeIn K cd17 "are_collections" = true) (k17 : PySem.W.keepIn K (.ref f17) = true)
    {f18 : Addr} {od18 an18 : Option Addr} {sl18 : Array (Option Value)} {oc18 kV18 dc18 pm18 cd18 ct18 : Value} (a18 : PySem.W.nsIn K mainGlobals "parse_stock" = some (some (.ref f18))) (l18 : K.lookup f18 = some ⟨oc18, od18, .func (PySem.W.fnOf "parse_stock" "parse_stock" (defArgs s_parse_stock) (defBody s_parse_stock) (defScope s_parse_stock) .none kV18 dc18 pm18 an18 cd18 ct18), sl18⟩) (c18 : PySem.W.codeIn K cd18 "parse_stock" = true) (k18 : PySem.W.keepIn K (.ref f18) = true)
    {f19 : Addr} {od19 an19 : Option Addr} {sl19 : Array (Option Value)} {oc19 kV19 dc19 pm19 cd19 ct19 : Value} (a19 : PySem.W.nsIn K mainGlobals "_law_words_right" = some (some (.ref f19))) (l19 : K.lookup f19 = some ⟨oc19, od19, .func (PySem.W.fnOf "_law_words_right" "_law_words_right" (defArgs s__law_words_right) (defBody s__law_words_right) (defScope s__law_words_right) .none kV19 dc19 pm19 an19 cd19 ct19), sl19⟩) (c19 : PySem.W.codeIn K cd19 "_law_words_right" = true) (k19 : PySem.W.keepIn K (.ref f19) = true)
    {f20 : Addr} {od20 an20 : Option Addr} {sl20 : Array (Option Value)} {oc20 kV20 dc20 pm20 cd20 ct20 : Value} (a20 : PySem.W.nsIn K mainGlobals "_law_merged_right" = some (some (.ref f20))) (l20 : K.lookup f20 = some ⟨oc20, od20, .func (PySem.W.fnOf "_law_merged_right" "_law_merged_right" (defArgs s__law_merged_right) (defBody s__law_merged_right) (defScope s__law_merged_right) .none kV20 dc20 pm20 an20 cd20 ct20), sl20⟩) (c20 : PySem.W.codeIn K cd20 "_law_merged_right" = true) (k20 : PySem.W.keepIn K (.ref f20) = true)
    {f21 : Addr} {od21 an21 : Option Addr} {sl21 : Array (Option Value)} {oc21 kV21 dc21 pm21 cd21 ct21 : Value} (a21 : PySem.W.nsIn K mainGlobals "parse_collection" = some (some (.ref f21))) (l21 : K.lookup f21 = some ⟨oc21, od21, .func (PySem.W.fnOf "parse_collection" "parse_collection" (defArgs s_parse_collection) (defBody s_parse_collection) (defScope s_parse_collection) .none kV21 dc21 pm21 an21 cd21 ct21), sl21⟩) (c21 : PySem.W.codeIn K cd21 "parse_collection" = true) (k21 : PySem.W.keepIn K (.ref f21) = true)
    {f22 : Addr} {od22 an22 : Option Addr} {sl22 : Array (Option Value)} {oc22 kV22 dc22 pm22 cd22 ct22 : Value} (a22 : PySem.W.nsIn K mainGlobals "parse_cabinet" = some (some (.ref f22))) (l22 : K.lookup f22 = some ⟨oc22, od22, .func (PySem.W.fnOf "parse_cabinet" "parse_cabinet" (defArgs s_parse_cabinet) (defBody s_parse_cabinet) (defScope s_parse_cabinet) .none kV22 dc22 pm22 an22 cd22 ct22), sl22⟩) (c22 : PySem.W.codeIn K cd22 "parse_cabinet" = true) (k22 : PySem.W.keepIn K (.ref f22) = true)
    {f23 : Addr} {od23 an23 : Option Addr} {sl23 : Array (Option Value)} {oc23 kV23 dc23 pm23 cd23 ct23 : Value} (a23 : PySem.W.nsIn K mainGlobals "_law_accepted_right" = some (some (.ref f23))) (l23 : K.lookup f23 = some ⟨oc23, od23, .func (PySem.W.fnOf "_law_accepted_right" "_law_accepted_right" (defArgs s__law_accepted_right) (defBody s__law_accepted_right) (defScope s__law_accepted_right) .none kV23 dc23 pm23 an23 cd23 ct23), sl23⟩) (c23 : PySem.W.codeIn K cd23 "_law_accepted_right" = true) (k23 : PySem.W.keepIn K (.ref f23) = true)
    {f24 : Addr} {od24 an24 : Option Addr} {sl24 : Array (Option Value)} {oc24 kV24 dc24 pm24 cd24 ct24 : Value} (a24 : PySem.W.nsIn K mainGlobals "_law_same" = some (some (.ref f24))) (l24 : K.lookup f24 = some ⟨oc24, od24, .func (PySem.W.fnOf "_law_same" "_law_same" (defArgs s__law_same) (defBody s__law_same) (defScope s__law_same) .none kV24 dc24 pm24 an24 cd24 ct24), sl24⟩) (c24 : PySem.W.codeIn K cd24 "_law_same" = true) (k24 : PySem.W.keepIn K (.ref f24) = true)
    {f25 : Addr} {od25 an25 : Option Addr} {sl25 : Array (Option Value)} {oc25 kV25 dc25 pm25 cd25 ct25 : Value} (a25 : PySem.W.nsIn K mainGlobals "law" = some (some (.ref f25))) (l25 : K.lookup f25 = some ⟨oc25, od25, .func (PySem.W.fnOf "law" "law" (defArgs s_law) (defBody s_law) (defScope s_law) .none kV25 dc25 pm25 an25 cd25 ct25), sl25⟩) (c25 : PySem.W.codeIn K cd25 "law" = true) (k25 : PySem.W.keepIn K (.ref f25) = true)
    (z0 : PySem.W.nsIn K mainGlobals "abs" = some none)
    (z1 : PySem.W.nsIn K mainGlobals "all" = some none)
    (z2 : PySem.W.nsIn K mainGlobals "bool" = some none)
    (z3 : PySem.W.nsIn K mainGlobals "enumerate" = some none)
    (z4 : PySem.W.nsIn K mainGlobals "int" = some none)
    (z5 : PySem.W.nsIn K mainGlobals "isinstance" = some none)
    (z6 : PySem.W.nsIn K mainGlobals "len" = some none)
    (z7 : PySem.W.nsIn K mainGlobals "max" = some none)
    (z8 : PySem.W.nsIn K mainGlobals "range" = some none)
    (z9 : PySem.W.nsIn K mainGlobals "str" = some none)
    (z10 : PySem.W.nsIn K mainGlobals "sum" = some none)
    (z11 : PySem.W.nsIn K mainGlobals "tuple" = some none)
    (z12 : PySem.W.nsIn K mainGlobals "zip" = some none)
    {tc0 : Tok} (y0 : PySem.W.nsIn K mainGlobals "COMMA" = some (some (.str "," tc0)))
    {tc1 : Tok} (y1 : PySem.W.nsIn K mainGlobals "FIGURES" = some (some (.str "0123456789" tc1)))
    {tc2 : Tok} (y2 : PySem.W.nsIn K mainGlobals "LONGEST" = some (some (.int 7 tc2)))
    {tc3 : Tok} (y3 : PySem.W.nsIn K mainGlobals "MAX_COLLECTIONS" = some (some (.int 4 tc3)))
    {tc4 : Tok} (y4 : PySem.W.nsIn K mainGlobals "MAX_COUNT" = some (some (.int 50 tc4)))
    {tc5 : Tok} (y5 : PySem.W.nsIn K mainGlobals "MAX_DRAWERS" = some (some (.int 4 tc5)))
    {tc6 : Tok} (y6 : PySem.W.nsIn K mainGlobals "MAX_KINDS" = some (some (.int 4 tc6)))
    {tc7 : Tok} (y7 : PySem.W.nsIn K mainGlobals "MIDDLE" = some (some (.str "for" tc7)))
    {c_BadText : Addr} (aC_BadText : PySem.W.nsIn K mainGlobals "BadText" = some (some (.ref c_BadText)))
    {c_TooMuch : Addr} (aC_TooMuch : PySem.W.nsIn K mainGlobals "TooMuch" = some (some (.ref c_TooMuch)))
    {fi_BadText : Addr} {odi_BadText ani_BadText : Option Addr} {sli_BadText : Array (Option Value)} {oci_BadText kVi_BadText dci_BadText pmi_BadText cdi_BadText cti_BadText : Value} (iC_BadText : PySem.W.findIn K (.ref c_BadText) "__init__" = some (some (.ref fi_BadText))) (iT_BadText : PySem.W.typeIn K (.ref fi_BadText) = some (.type "function")) (iL_BadText : K.lookup fi_BadText = some ⟨oci_BadText, odi_BadText, .func (PySem.W.fnOf "__init__" "BadText.__init__" (defArgs i_BadText) (defBody i_BadText) (defScope i_BadText) .none kVi_BadText dci_BadText pmi_BadText ani_BadText cdi_BadText cti_BadText), sli_BadText⟩) (iD_BadText : PySem.W.codeIn K cdi_BadText "BadText.__init__" = true) (iK_BadText : PySem.W.keepIn K (.ref fi_BadText) = true) (iO_BadText : oexC0 K c_BadText = true) (iA_BadText : PySem.W.findIn K (.ref c_BadText) "__setattr__" = some (some (.builtin "object.__setattr__"))) (iB_BadText : PySem.W.subIn K (.ref c_BadText) (.type "BaseException") = some true) (iY_BadText : PySem.W.typeIn K (.ref c_BadText) = some (.type "type")) (iE_BadText : PySem.W.keepIn K (.ref c_BadText) = true) (iN_BadText : PySem.W.findIn K (.ref c_BadText) "index" = some none)
    {fi_TooMuch : Addr} {odi_TooMuch ani_TooMuch : Option Addr} {sli_TooMuch : Array (Option Value)} {oci_TooMuch kVi_TooMuch dci_TooMuch pmi_TooMuch cdi_TooMuch cti_TooMuch : Value} (iC_TooMuch : PySem.W.findIn K (.ref c_TooMuch) "__init__" = some (some (.ref fi_TooMuch))) (iT_TooMuch : PySem.W.typeIn K (.ref fi_TooMuch) = some (.type "function")) (iL_TooMuch : K.lookup fi_TooMuch = some ⟨oci_TooMuch, odi_TooMuch, .func (PySem.W.fnOf "__init__" "TooMuch.__init__" (defArgs i_TooMuch) (defBody i_TooMuch) (defScope i_TooMuch) .none kVi_TooMuch dci_TooMuch pmi_TooMuch ani_TooMuch cdi_TooMuch cti_TooMuch), sli_TooMuch⟩) (iD_TooMuch : PySem.W.codeIn K cdi_TooMuch "TooMuch.__init__" = true) (iK_TooMuch : PySem.W.keepIn K (.ref fi_TooMuch) = true) (iO_TooMuch : oexC0 K c_TooMuch = true) (iA_TooMuch : PySem.W.findIn K (.ref c_TooMuch) "__setattr__" = some (some (.builtin "object.__setattr__"))) (iB_TooMuch : PySem.W.subIn K (.ref c_TooMuch) (.type "BaseException") = some true) (iY_TooMuch : PySem.W.typeIn K (.ref c_TooMuch) = some (.type "type")) (iE_TooMuch : PySem.W.keepIn K (.ref c_TooMuch) = true) (iN_TooMuch : PySem.W.findIn K (.ref c_TooMuch) "total" = some none)
    (e0_TooMuch : (PySem.W.clsIn K c_TooMuch).isSome = true)
    (eg_TooMuch : PySem.W.findIn K (.ref c_TooMuch) "__getattribute__" = some (some (.builtin "BaseException.__getattribute__")))
    (et_TooMuch : PySem.W.findIn K (.ref c_TooMuch) "__getattr__" = some none)
    (es_TooMuch : PySem.W.subIn K (.ref c_TooMuch) (.type "BaseException") = some true)
    (ed_TooMuch : PySem.W.hasDictIn K c_TooMuch = true)
    (ea_TooMuch : PySem.W.findIn K (.ref c_TooMuch) "__class__" = some (some (.builtin "object.__class__")))
    (en_TooMuch : PySem.W.specialIn K (.builtin "object.__class__") "__get__" = some (some (.builtin "getset_descriptor.__get__")))
    (ek_TooMuch : PySem.W.takesIn K (.builtin "object.__class__") = some true)
    (em_TooMuch : PySem.W.mroIn K c_TooMuch (.type "object") = some true)
    (no_TooMuch_total : PySem.W.findIn K (.ref c_TooMuch) "total" = some none)
    (xm_BadText_BadText : PySem.W.exmOne K (.ref c_BadText) (.ref c_BadText) = some true)
    (xm_TooMuch_TooMuch : PySem.W.exmOne K (.ref c_TooMuch) (.ref c_TooMuch) = some true)
    : ∃ fd : FuncData, (∀ (s : Shared) (v : Value), BindsTo s fd ⟨[v], []⟩ [("_law_script", v)]) ∧ ∀ base : Heap, K.In base → base.Ns mainGlobals mg → SysAt base → FnG l.prog w K mg base 9 fa fd ["_law_script"] (spLaw K) := by
  have e := hfa.symm.trans (PySem.W.mg_of X G a25)
  cases e
  have F0 := fun_mk (st := s_is_number) l0 c0 k0
  have b0 := F0.binds (ps := ["value", "low", "high"]) fun _ _ _ _ _ _ us hl => match us, hl with | [_, _, _], _ => rfl
  have e0 := PySem.W.mg_of X G a0
  have F1 := fun_mk (st := s_totals_of) l1 c1 k1
  have b1 := F1.binds (ps := ["stock"]) fun _ _ _ _ _ _ us hl => match us, hl with | [_], _ => rfl
  have e1 := PySem.W.mg_of X G a1
  have F2 := fun_mk (st := s_parse_number) l2 c2 k2
  have b2 := F2.binds (ps := ["word"]) fun _ _ _ _ _ _ us hl => match us, hl with | [_], _ => rfl
  have e2 := PySem.W.mg_of X G a2
  have F3 := fun_mk (st := s_numbers_text) l3 c3 k3
  have b3 := F3.binds (ps := ["numbers"]) fun _ _ _ _ _ _ us hl => match us, hl with | [_], _ => rfl
  have e3 := PySem.W.mg_of X G a3
  have F4 := fun_mk (st := s__law_deck) l4 c4 k4
  have b4 := F4.binds (ps := ["_law_script"]) fun _ _ _ _ _ _ us hl => match us, hl with | [_], _ => rfl
  have e4 := PySem.W.mg_of X G a4
  have F5 := fun_mk (st := s__law_draw) l5 c5 k5
  have b5 := F5.binds (ps := ["_law_deck_here", "_law_many"]) fun _ _ _ _ _ _ us hl => match us, hl with | [_, _], _ => rfl
  have e5 := PySem.W.mg_of X G a5
  have F6 := fun_mk (st := s__law_numbers_text) l6 c6 k6
  have b6 := F6.binds (ps := ["_law_numbers"]) fun _ _ _ _ _ _ us hl => match us, hl with | [_], _ => rfl
  have e6 := PySem.W.mg_of X G a6
  have F7 := fun_mk (st := s_are_numbers) l7 c7 k7
  have b7 := F7.binds (ps := ["value", "count", "high"]) fun _ _ _ _ _ _ us hl => match us, hl with | [_, _, _], _ => rfl
  have e7 := PySem.W.mg_of X G a7
  have F8 := fun_mk (st := s_parse_numbers) l8 c8 k8
  have b8 := F8.binds (ps := ["word"]) fun _ _ _ _ _ _ us hl => match us, hl with | [_], _ => rfl
  have e8 := PySem.W.mg_of X G a8
  have F9 := fun_mk (st := s_cabinet_text) l9 c9 k9
  have b9 := F9.binds (ps := ["stock", "collections"]) fun _ _ _ _ _ _ us hl => match us, hl with | [_, _], _ => rfl
  have e9 := PySem.W.mg_of X G a9
  have F10 := fun_mk (st := s__law_collection) l10 c10 k10
  have b10 := F10.binds (ps := ["_law_deck_here", "_law_kinds", "_law_most"]) fun _ _ _ _ _ _ us hl => match us, hl with | [_, _, _], _ => rfl
  have e10 := PySem.W.mg_of X G a10
  have F11 := fun_mk (st := s__law_bent) l11 c11 k11
  have b11 := F11.binds (ps := ["_law_deck_here", "_law_text"]) fun _ _ _ _ _ _ us hl => match us, hl with | [_, _], _ => rfl
  have e11 := PySem.W.mg_of X G a11
  have F12 := fun_mk (st := s_merged) l12 c12 k12
  have e12 := PySem.W.mg_of X G a12
  have F13 := fun_mk (st := s_is_collection) l13 c13 k13
  have b13 := F13.binds (ps := ["kinds", "value"]) fun _ _ _ _ _ _ us hl => match us, hl with | [_, _], _ => rfl
  have e13 := PySem.W.mg_of X G a13
  have F14 := fun_mk (st := s_parse_drawer) l14 c14 k14
  have b14 := F14.binds (ps := ["kinds", "word"]) fun _ _ _ _ _ _ us hl => match us, hl with | [_, _], _ => rfl
  have e14 := PySem.W.mg_of X G a14
  have F15 := fun_mk (st := s__law_state) l15 c15 k15
  have b15 := F15.binds (ps := ["_law_deck_here", "_law_most"]) fun _ _ _ _ _ _ us hl => match us, hl with | [_, _], _ => rfl
  have e15 := PySem.W.mg_of X G a15
  have F16 := fun_mk (st := s__law_words) l16 c16 k16
  have b16 := F16.binds (ps := ["_law_stock", "_law_collections"]) fun _ _ _ _ _ _ us hl => match us, hl with | [_, _], _ => rfl
  have e16 := PySem.W.mg_of X G a16
  have F17 := fun_mk (st := s_are_collections) l17 c17 k17
  have b17 := F17.binds (ps := ["kinds", "value"]) fun _ _ _ _ _ _ us hl => match us, hl with | [_, _], _ => rfl
  have e17 := PySem.W.mg_of X G a17
  have F18 := fun_mk (st := s_parse_stock) l18 c18 k18
  have b18 := F18.binds (ps := ["words"]) fun _ _ _ _ _ _ us hl => match us, hl with | [_], _ => rfl
  have e18 := PySem.W.mg_of X G a18
  have F19 := fun_mk (st := s__law_words_right) l19 c19 k19
  have b19 := F19.binds (ps := ["_law_deck_here", "_law_stock", "_law_collections"]) fun _ _ _ _ _ _ us hl => match us, hl with | [_, _, _], _ => rfl
  have e19 := PySem.W.mg_of X G a19
  have F20 := fun_mk (st := s__law_merged_right) l20 c20 k20
  have b20 := F20.binds (ps := ["_law_stock"]) fun _ _ _ _ _ _ us hl => match us, hl with | [_], _ => rfl
  have e20 := PySem.W.mg_of X G a20
  have F21 := fun_mk (st := s_parse_collection) l21 c21 k21
  have b21 := F21.binds (ps := ["kinds", "word"]) fun _ _ _ _ _ _ us hl => match us, hl with | [_, _], _ => rfl
  have e21 := PySem.W.mg_of X G a21
  have F22 := fun_mk (st := s_parse_cabinet) l22 c22 k22
  have b22 := F22.binds (ps := ["value"]) fun _ _ _ _ _ _ us hl => match us, hl with | [_], _ => rfl
  have e22 := PySem.W.mg_of X G a22
  have F23 := fun_mk (st := s__law_accepted_right) l23 c23 k23
  have b23 := F23.binds (ps := ["_law_text"]) fun _ _ _ _ _ _ us hl => match us, hl with | [_], _ => rfl
  have e23 := PySem.W.mg_of X G a23
  have F24 := fun_mk (st := s__law_same) l24 c24 k24
  have b24 := F24.binds (ps := ["_law_found", "_law_due"]) fun _ _ _ _ _ _ us hl => match us, hl with | [_, _], _ => rfl
  have e24 := PySem.W.mg_of X G a24
  have F25 := fun_mk (st := s_law) l25 c25 k25
  have mb_abs := PySem.W.mg_none_of X G z0
  have mb_all := PySem.W.mg_none_of X G z1
  have mb_bool := PySem.W.mg_none_of X G z2
  have mb_enumerate := PySem.W.mg_none_of X G z3
  have mb_int := PySem.W.mg_none_of X G z4
  have mb_isinstance := PySem.W.mg_none_of X G z5
  have mb_len := PySem.W.mg_none_of X G z6
  have mb_max := PySem.W.mg_none_of X G z7
  have mb_range := PySem.W.mg_none_of X G z8
  have mb_str := PySem.W.mg_none_of X G z9
  have mb_sum := PySem.W.mg_none_of X G z10
  have mb_tuple := PySem.W.mg_none_of X G z11
  have mb_zip := PySem.W.mg_none_of X G z12
  have mc_COMMA := PySem.W.mg_of X G y0
  have mc_FIGURES := PySem.W.mg_of X G y1
  have mc_LONGEST := PySem.W.mg_of X G y2
  have mc_MAX_COLLECTIONS := PySem.W.mg_of X G y3
  have mc_MAX_COUNT := PySem.W.mg_of X G y4
  have mc_MAX_DRAWERS := PySem.W.mg_of X G y5
  have mc_MAX_KINDS := PySem.W.mg_of X G y6
  have mc_MIDDLE := PySem.W.mg_of X G y7
  have mC_BadText := PySem.W.mg_of X G aC_BadText
  have mC_TooMuch := PySem.W.mg_of X G aC_TooMuch
  have er_TooMuch : ErK K c_TooMuch := ⟨e0_TooMuch, eg_TooMuch, et_TooMuch, es_TooMuch, ed_TooMuch, ea_TooMuch, en_TooMuch, ek_TooMuch, em_TooMuch⟩
  have oe_BadText := oex_mk iO_BadText iA_BadText iB_BadText iY_BadText iE_BadText
  have Fi_BadText := fun_mk (st := i_BadText) iL_BadText iD_BadText iK_BadText
  have bi_BadText := Fi_BadText.binds (ps := ["self", "index"]) fun _ _ _ _ _ _ us hl => match us, hl with | [_, _], _ => rfl
  have oe_TooMuch := oex_mk iO_TooMuch iA_TooMuch iB_TooMuch iY_TooMuch iE_TooMuch
  have Fi_TooMuch := fun_mk (st := i_TooMuch) iL_TooMuch iD_TooMuch iK_TooMuch
  have bi_TooMuch := Fi_TooMuch.binds (ps := ["self", "total"]) fun _ _ _ _ _ _ us hl => match us, hl with | [_, _], _ => rfl
  refine ⟨PySem.W.fnOf "law" "law" (defArgs s_law) (defBody s_law) (defScope s_law) .none kV25 dc25 pm25 an25 cd25 ct25, fun s v => .of_eq rfl, fun base _ _ hy => ?_⟩
  have e1_BadText : Er1 l.prog w K mg base "BadText" "index" c_BadText := er1_mk mC_BadText oe_BadText iC_BadText iT_BadText (init_ok Fi_BadText sci_BadText rfl oe_BadText iN_BadText fun cdv A outer s H E => pss_one (ps_ost (pv 0) (pv 1))) bi_BadText
  have e1_TooMuch : Er1 l.prog w K mg base "TooMuch" "total" c_TooMuch := er1_mk mC_TooMuch oe_TooMuch iC_TooMuch iT_TooMuch (init_ok Fi_TooMuch sci_TooMuch rfl oe_TooMuch iN_TooMuch fun cdv A outer s H E => pss_one (ps_ost (pv 0) (pv 1))) bi_TooMuch
  have d_is_number : Def l.prog w K mg base 1 "is_number" ["value", "low", "high"] (spJ K M_is_number) := ⟨f0, _, ok_is_number F0 hy mb_bool mb_int mb_isinstance, e0, k0, b0⟩
  have d_totals_of : Def l.prog w K mg base 1 "totals_of" ["stock"] (spJ K M_totals_of) := ⟨f1, _, ok_totals_of F1 hy mb_sum mb_tuple mb_zip, e1, k1, b1⟩
  have d_parse_number : Def l.prog w K mg base 1 "parse_number" ["word"] (spJ K M_parse_number) := ⟨f2, _, ok_parse_number F2 hy mb_all mb_int mb_len mc_FIGURES mc_LONGEST, e2, k2, b2⟩
  have d_numbers_text : Def l.prog w K mg base 1 "numbers_text" ["numbers"] (spJ K M_numbers_text) := ⟨f3, _, ok_numbers_text F3 hy mb_str mc_COMMA, e3, k3, b3⟩
  have d__law_deck : Def l.prog w K mg base 1 "_law_deck" ["_law_script"] (spDeck K) := ⟨f4, _, ok__law_deck F4 mb_abs, e4, k4, b4⟩
  have d__law_draw : Def l.prog w K mg base 1 "_law_draw" ["_law_deck_here", "_law_many"] (spJ K drawW) := ⟨f5, _, drawn (ok__law_draw F5 mb_len), e5, k5, b5⟩
  have d__law_numbers_text : Def l.prog w K mg base 1 "_law_numbers_text" ["_law_numbers"] (spJ K M__law_numbers_text) := ⟨f6, _, ok__law_numbers_text F6 hy mb_str, e6, k6, b6⟩
  have d_are_numbers : Def l.prog w K mg base 2 "are_numbers" ["value", "count", "high"] (spJ K M_are_numbers) := ⟨f7, _, ok_are_numbers F7 hy d_is_number mb_all mb_isinstance mb_len mb_tuple, e7, k7, b7⟩
  have d_parse_numbers : Def l.prog w K mg base 2 "parse_numbers" ["word"] (spJ K M_parse_numbers) := ⟨f8, _, ok_parse_numbers F8 hy d_parse_number mb_tuple mc_COMMA, e8, k8, b8⟩
  have d_cabinet_text : Def l.prog w K mg base 2 "cabinet_text" ["stock", "collections"] (spJ K M_cabinet_text) := ⟨f9, _, ok_cabinet_text F9 hy d_numbers_text mc_MIDDLE, e9, k9, b9⟩
  have d__law_collection : Def l.prog w K mg base 2 "_law_collection" ["_law_deck_here", "_law_kinds", "_law_most"] (spJ K M__law_collection) := ⟨f10, _, ok__law_collection F10 hy d__law_draw mb_int mb_max mb_range mb_tuple, e10, k10, b10⟩
  have d__law_bent : Def l.prog w K mg base 2 "_law_bent" ["_law_deck_here", "_law_text"] (spJ K M__law_bent) := ⟨f11, _, ok__law_bent F11 hy d__law_draw mb_len, e11, k11, b11⟩
  have dx_merged : DefXS l.prog w K mg base 3 "merged" (spX K mg MX_merged) := ⟨f12, okx_merged F12 hy e1_TooMuch d_totals_of mb_enumerate mb_tuple mc_MAX_COUNT, e12, k12⟩
  have d_merged : DefS l.prog w K mg base 3 "merged" (spJ K M_merged) := ⟨f12, ok_merged F12 hy d_totals_of mb_enumerate mb_tuple mc_MAX_COUNT, e12, k12⟩
  have d_is_collection : Def l.prog w K mg base 3 "is_collection" ["kinds", "value"] (spJ K M_is_collection) := ⟨f13, _, ok_is_collection F13 hy d_are_numbers mb_max mc_MAX_COUNT, e13, k13, b13⟩
  have d_parse_drawer : Def l.prog w K mg base 3 "parse_drawer" ["kinds", "word"] (spJ K M_parse_drawer) := ⟨f14, _, ok_parse_drawer F14 hy d_parse_numbers mb_len mb_max mc_MAX_COUNT mc_MAX_KINDS, e14, k14, b14⟩
  have d__law_state : Def l.prog w K mg base 3 "_law_state" ["_law_deck_here", "_law_most"] (spJ K M__law_state) := ⟨f15, _, ok__law_state F15 hy d__law_collection d__law_draw mb_range mb_tuple, e15, k15, b15⟩
  have d__law_words : Def l.prog w K mg base 3 "_law_words" ["_law_stock", "_law_collections"] (spJ K M__law_words) := ⟨f16, _, ok__law_words F16 hy d_cabinet_text, e16, k16, b16⟩
  have d_are_collections : Def l.prog w K mg base 4 "are_collections" ["kinds", "value"] (spJ K M_are_collections) := ⟨f17, _, ok_are_collections F17 hy d_is_collection mb_all mb_isinstance mb_len mb_tuple mc_MAX_COLLECTIONS, e17, k17, b17⟩
  have dx_parse_stock : DefX l.prog w K mg base 4 "parse_stock" ["words"] (spX K mg MX_parse_stock) := ⟨f18, _, okx_parse_stock F18 hy e1_BadText d_parse_drawer mb_enumerate mb_len mb_tuple mc_MAX_DRAWERS, e18, k18, b18⟩
  have d_parse_stock : Def l.prog w K mg base 4 "parse_stock" ["words"] (spJ K M_parse_stock) := ⟨f18, _, ok_parse_stock F18 hy d_parse_drawer mb_enumerate mb_len mb_tuple mc_MAX_DRAWERS, e18, k18, b18⟩
  have d__law_words_right : Def l.prog w K mg base 4 "_law_words_right" ["_law_deck_here", "_law_stock", "_law_collections"] (spJ K M__law_words_right) := ⟨f19, _, ok__law_words_right F19 hy d__law_collection d__law_numbers_text d__law_words d_merged mb_len mb_max mb_zip, e19, k19, b19⟩
  have d__law_merged_right : Def l.prog w K mg base 4 "_law_merged_right" ["_law_stock"] (spJ K M__law_merged_right) := ⟨f20, _, ok__law_merged_right F20 hy er_TooMuch mC_TooMuch no_TooMuch_total xm_TooMuch_TooMuch dx_merged mb_len mb_max mb_zip, e20, k20, b20⟩
  have d_parse_collection : Def l.prog w K mg base 5 "parse_collection" ["kinds", "word"] (spJ K M_parse_collection) := ⟨f21, _, ok_parse_collection F21 hy d_are_collections d_parse_numbers, e21, k21, b21⟩
  have dx_parse_cabinet : DefX l.prog w K mg base 6 "parse_cabinet" ["value"] (spX K mg MX_parse_cabinet) := ⟨f22, _, okx_parse_cabinet F22 hy e1_BadText d_parse_collection dx_parse_stock mb_isinstance mb_len mb_range mb_str mb_tuple mc_MAX_COLLECTIONS mc_MIDDLE, e22, k22, b22⟩
  have d_parse_cabinet : Def l.prog w K mg base 6 "parse_cabinet" ["value"] (spJ K M_parse_cabinet) := ⟨f22, _, ok_parse_cabinet F22 hy d_parse_collection d_parse_stock mb_isinstance mb_len mb_range mb_str mb_tuple mc_MAX_COLLECTIONS mc_MIDDLE, e22, k22, b22⟩
  have d__law_accepted_right : Def l.prog w K mg base 7 "_law_accepted_right" ["_law_text"] (spJ K M__law_accepted_right) := ⟨f23, _, ok__law_accepted_right F23 hy mC_BadText xm_BadText_BadText d_cabinet_text dx_parse_cabinet, e23, k23, b23⟩
  have d__law_same : Def l.prog w K mg base 8 "_law_same" ["_law_found", "_law_due"] (spJ K M__law_same) := ⟨f24, _, ok__law_same F24 e24 k24 b24 hy mb_bool mb_int mb_isinstance mb_len mb_str mb_tuple mb_zip 8, e24, k24, b24⟩
  exact ok_law F25 hy d__law_accepted_right d__law_bent d__law_merged_right d__law_same d__law_state d__law_words_right d_cabinet_text d_parse_cabinet mb_len mb_range d__law_deck hM
end DD
namespace DD
open PySem PySem.Spec PyProof.Rows L2
/-! ### texts read: plain -/
open TL
def figB (w : Str) : Bool := (tl w).all fun c => decide (48 ≤ c ∧ c ≤ 57)
/-- the number of a word -/
def numP (w : Str) : Option Int := if 1 ≤ w.length ∧ w.length ≤ 7 ∧ figB w = true ∧ ((tl w).head? ≠ some 48 ∨ w = Str.ofString "0") then some (NumText.digitsVal (tl w) : Nat) else none
/-- .. up to 50 -/
def numQ (w : Str) : Option Int := (numP w).filter fun v => decide (v ≤ 50)
def optI : Option Int → D
  | none => .none
  | some i => .int i
def optT : Option (List Int) → D
  | none => .none
  | some r => tI r
def allO {α : Type} : List (Option α) → Option (List α)
  | [] => some []
  | none :: _ => none
  | some a :: r => (allO r).map (a :: ·)
abbrev parts (w : Str) : List Str := Txt.split w (Str.ofString ",")
abbrev words (w : Str) : List Str := Txt.split w (Str.ofString " ")
def numsP (w : Str) : Option (List Int) := allO ((parts w).map numP)
def numsQ (w : Str) : Option (List Int) := allO ((parts w).map numQ)
theorem numP_ge {w : Str} {v : Int} (h : numP w = some v) : 0 ≤ v := by
  unfold numP at h
  split at h
  · cases h; omega
  · cases h
theorem allO_len {α : Type} : ∀ {l : List (Option α)} {r : List α}, allO l = some r → r.length = l.length
  | [], r, h => by cases h; rfl
  | none :: _, r, h => by cases h
  | some a :: l, r, h => by
    obtain ⟨r', h', rfl⟩ := Option.map_eq_some_iff.mp (show (allO l).map (a :: ·) = some r from h)
    rw [List.length_cons, List.length_cons, allO_len h']
theorem allO_iff {α : Type} : ∀ {l : List (Option α)} {r : List α}, allO l = some r ↔ l = r.map some
  | [], r => by
    constructor
    · intro h; cases h; rfl
    · intro h
      cases r with
      | nil => rfl
      | cons a r => simp at h
  | none :: l, r => by
    constructor
    · intro h; cases h
    · intro h
      cases r with
      | nil => simp at h
      | cons a r => simp at h
  | some a :: l, r => by
    constructor
    · intro h
      obtain ⟨r', h', rfl⟩ := Option.map_eq_some_iff.mp (show (allO l).map (a :: ·) = some r from h)
      rw [allO_iff.mp h']
      rfl
    · intro h
      cases r with
      | nil => simp at h
      | cons b r =>
        rw [List.map_cons] at h
        injection h with h1 h2
        cases h1
        show (allO l).map (a :: ·) = _
        rw [allO_iff.mpr h2]
        rfl
theorem allO_none {α : Type} {l : List (Option α)} : allO l = none ↔ none ∈ l := by
  induction l with
  | nil => simp [allO]
  | cons o l ih =>
    cases o with
    | none => simp [allO]
    | some a =>
      show (allO l).map (a :: ·) = none ↔ _
      rw [Option.map_eq_none_iff, ih]
      simp
/-- the numbers of a word, up to 50 -/
theorem numsQ_of (w : Str) : numsQ w = (numsP w).filter fun r => decide (∀ v ∈ r, v ≤ 50) := by
  cases hP : numsP w with
  | none =>
    have h1 := allO_none.mp hP
    obtain ⟨p, hp, hn⟩ := List.mem_map.mp h1
    show allO _ = none
    rw [allO_none]
    exact List.mem_map.mpr ⟨p, hp, by unfold numQ; rw [hn]; rfl⟩
  | some r =>
    have h1 := allO_iff.mp hP
    by_cases hr : ∀ v ∈ r, v ≤ 50
    · rw [Option.filter_some_pos (by simpa using hr)]
      show allO _ = some r
      rw [allO_iff]
      have : (parts w).map numQ = ((parts w).map numP).map fun o => o.filter fun v => decide (v ≤ 50) := by rw [List.map_map]; rfl
      rw [this, h1, List.map_map]
      refine List.map_congr_left fun v hv => ?_
      rw [Function.comp_apply]
      rw [Option.filter_some_pos (by simpa using hr v hv)]
    · rw [Option.filter_some_neg (by simpa using hr)]
      show allO _ = none
      rw [allO_none]
      have : (parts w).map numQ = ((parts w).map numP).map fun o => o.filter fun v => decide (v ≤ 50) := by rw [List.map_map]; rfl
      rw [this, h1, List.map_map]
      obtain ⟨v, hv⟩ := Classical.not_forall.mp hr
      obtain ⟨hv, hv'⟩ := Classical.not_imp.mp hv
      refine List.mem_map.mpr ⟨v, hv, ?_⟩
      rw [Function.comp_apply]
      rw [Option.filter_some_neg (by simpa using hv')]
theorem parts_pos (w : Str) : 1 ≤ (parts w).length := PyProof.Rows.split_pos w _
theorem numsQ_ge {w : Str} {r : List Int} (h : numsQ w = some r) : r ≠ [] ∧ ∀ v ∈ r, 0 ≤ v ∧ v ≤ 50 := by
  have h1 := allO_iff.mp h
  refine ⟨fun e => ?_, fun v hv => ?_⟩
  · rw [e] at h1
    have := parts_pos w
    have h2 := congrArg List.length h1
    simp at h2
    rw [h2] at this
    simp at this
  · have : some v ∈ (parts w).map numQ := by rw [h1]; exact List.mem_map.mpr ⟨v, hv, rfl⟩
    obtain ⟨p, hp, e⟩ := List.mem_map.mp this
    unfold numQ at e
    obtain ⟨e1, e2⟩ := Option.filter_eq_some_iff.mp e
    exact ⟨numP_ge e1, by simpa using e2⟩
/-! ### .. and by the mirrors -/
theorem sign_in (c : Nat) : inTD (.str ⟨#[c]⟩) (.str "0123456789") = some (.bool (decide (48 ≤ c ∧ c ≤ 57))) := by
  show some (PyData.bool (decide (c ∈ tl (Str.ofString "0123456789")))) = _
  have e : tl (Str.ofString "0123456789") = [48, 49, 50, 51, 52, 53, 54, 55, 56, 57] := by decide +kernel
  rw [e]
  congr 2
  rw [decide_eq_decide]
  simp
  omega
theorem len_str {w : Str} (h : w.length ≤ 1000000) : lenD (.str w) = some (.int (w.length : Nat)) := by
  show (if w.length ≤ 1000000 then some (PyData.int w.length) else none) = _
  rw [if_pos h]
theorem get_str {w : Str} {c : Nat} {l : List Nat} (h : w.length ≤ 1000000) (e : tl w = c :: l) : DD.getD (.str w) (.int 0) = some (.str ⟨#[c]⟩) := by
  show (if w.length ≤ 1000000 then (L2.atI w.cps.toList 0).map fun c => PyData.str ⟨#[c]⟩ else none) = _
  rw [if_pos h, show w.cps.toList = c :: l from e]
  unfold L2.atI
  rw [show ixN (c :: l).length 0 = some 0 from ixN_at (i := 0) rfl (by simp)]
  rfl
theorem one_eq (c d : Nat) : decide ((⟨#[c]⟩ : Str) = ⟨#[d]⟩) = decide (c = d) := by
  rw [decide_eq_decide]
  constructor
  · intro h
    have := congrArg tl h
    simpa [tl] using this
  · rintro rfl; rfl
theorem int_word {w : Str} (hf : figB w = true) (h1 : 1 ≤ w.length) (h2 : w.length ≤ 640) : intTD (.str w) = some (.int (NumText.digitsVal (tl w) : Nat)) := by
  show (if w.length ≤ 640 then (PySem.intText? w).map PyData.int else none) = _
  rw [if_pos h2]
  have := PySem.intText_digits (x := w) (fun c hc => by
    have := List.all_eq_true.mp hf c hc
    simpa using this) (fun e => by
    have : w.length = 0 := by rw [len0_tl]; exact e
    omega) (by omega)
  have h3 : PySem.intText? w = some ((NumText.digitsVal (tl w) : Nat) : Int) := this
  rw [h3]
  rfl
theorem zero_str : (Str.ofString "0") = ⟨#[48]⟩ := by decide +kernel
theorem numP_no {w : Str} (h : ¬ (1 ≤ w.length ∧ w.length ≤ 7 ∧ figB w = true ∧ ((tl w).head? ≠ some 48 ∨ w = Str.ofString "0"))) : numP w = none := if_neg h
theorem numP_yes {w : Str} (h : 1 ≤ w.length ∧ w.length ≤ 7 ∧ figB w = true ∧ ((tl w).head? ≠ some 48 ∨ w = Str.ofString "0")) : numP w = some ((NumText.digitsVal (tl w) : Nat) : Int) := if_pos h
/-- the law's and the program's first look at a word's first sign -/
theorem lead_eq {w : Str} (hl : w.length ≤ 1000000) (h1 : 1 ≤ w.length) : ((DD.getD (.str w) (.int 0)).bind fun a => (eqD a (.str "0")).bind boolD) = some (decide ((tl w).head? = some 48)) := by
  match e : tl w with
  | [] =>
    have : w.length = 0 := by rw [len0_tl]; exact e
    omega
  | c :: l =>
    rw [get_str hl e, Option.bind_some]
    show (some (PyData.bool (decide ((⟨#[c]⟩ : Str) = Str.ofString "0")))).bind boolD = _
    rw [zero_str, one_eq]
    show some (decide (c = 48)) = _
    congr 1
    rw [decide_eq_decide]
    simp
theorem pnum_eq {w : Str} (hl : w.length ≤ 1000000) : m_parse_number (.str w) = some (optI (numP w)) := by
  unfold m_parse_number
  simp only [op2, op1, cmp2, chain3, tst, notB, andB, orB, andD, orD, iteM, consM, starM, smallM, tupM, tupSM, lstM, argV, argK, comp1, comp1i, comp2, comp2i, comp11, seqM, rng1, rng2, zipSM, zip2M, zip3M, enumM, repM, joinM, catM, par3LM, put2M, popM, parLV, putVM, unpS, trg1M, orV, lrg1M, par3M, rdM, rdLM, partM, slcM, isiM, rtM, forM1, forM2, forM3, parM, unp2, unp3, ob_pure, ob_some, ob_lift, Option.pure_def, add_int, sub_int, lt_int, le_int, gt_int, ge_int, eq_int, ne_int, min_int, max_int, neg_int, bool_bool, not_bool, is_none, isn_none, nn_int, nn_none, nn_tup, len_tup, len_lst, tup_lst, tup_tup, it_lst, it_tup, int_bool, int_int, oint_int, addI_int, subI_int, flat_tI, flat_int, flat_none, Option.bind_some, Option.map_some, Int.zero_add, thenB, thenM, List.nil_append, List.length_map, ob_assoc, len_str hl]
  by_cases c1 : 1 ≤ w.length
  · by_cases c2 : w.length ≤ 7
    · have d1 : decide ((1 : Int) ≤ ((w.length : Nat) : Int)) = true := decide_eq_true (by omega)
      have d2 : decide (((w.length : Nat) : Int) ≤ 7) = true := decide_eq_true (by omega)
      simp only [d1, d2, if_true, ob_some, bool_bool, Bool.not_true, Bool.false_eq_true, if_false, ob_assoc]
      refine bindE (show strItems (.str w) = some (signsD w) from rfl) (bindE (small_ok (by rw [show (signsD w).length = (tl w).length from List.length_map .., ← len_tl]; exact hl)) (bindE (lcA_mapP (m := Option) (F := fun c => PyData.str ⟨#[c]⟩) (G := fun c => .bool (decide (48 ≤ c ∧ c ≤ 57))) (tl w) [] fun c _ => sign_in c) ?_))
      rw [List.nil_append]
      refine bindE (all_map (p := fun c => decide (48 ≤ c ∧ c ≤ 57)) (tl w)) ?_
      simp only [ob_some, bool_bool]
      by_cases c3 : figB w = true
      · rw [show ((tl w).all fun c => decide (48 ≤ c ∧ c ≤ 57)) = true from c3]
        simp only [Bool.not_true, Bool.false_eq_true, if_false, ob_some]
        have hld := lead_eq hl c1
        obtain ⟨a0, e0, e1⟩ := Option.bind_eq_some_iff.mp hld
        refine bindE e0 (bindE e1 ?_)
        have e3 : neD (.str w) (.str "0") = some (.bool (!decide (w = Str.ofString "0"))) := rfl
        simp only [e3, Option.bind_some, bool_bool]
        by_cases c4 : (tl w).head? = some 48
        · by_cases c5 : w = Str.ofString "0"
          · rw [numP_yes ⟨c1, c2, c3, .inr c5⟩, decide_eq_true c4, if_pos rfl, decide_eq_true c5]
            exact int_word c3 c1 (by omega)
          · rw [numP_no (by rintro ⟨_, _, _, h | h⟩; exact h c4; exact c5 h), decide_eq_true c4, if_pos rfl, decide_eq_false c5]
            rfl
        · rw [numP_yes ⟨c1, c2, c3, .inl c4⟩, decide_eq_false c4, if_neg Bool.false_ne_true]
          exact int_word c3 c1 (by omega)
      · have c3' : figB w = false := by simpa using c3
        rw [numP_no (by rintro ⟨_, _, h, _⟩; exact c3 h), show ((tl w).all fun c => decide (48 ≤ c ∧ c ≤ 57)) = false from c3']
        rfl
    · have d1 : decide ((1 : Int) ≤ ((w.length : Nat) : Int)) = true := decide_eq_true (by omega)
      have d2 : decide (((w.length : Nat) : Int) ≤ 7) = false := decide_eq_false (by omega)
      rw [numP_no (by rintro ⟨_, h, _⟩; exact c2 h)]
      simp only [d1, d2, if_true, ob_some, bool_bool]
      rfl
  · have d1 : decide ((1 : Int) ≤ ((w.length : Nat) : Int)) = false := decide_eq_false (by omega)
    rw [numP_no (by rintro ⟨h, _⟩; exact c1 h)]
    simp only [d1, ob_some, bool_bool]
    rfl
theorem comma1 : (Str.ofString ",").length ≠ 0 := by decide +kernel
theorem blank1 : (Str.ofString " ").length ≠ 0 := by decide +kernel
theorem split_c {w : Str} (hl : w.length ≤ 900000) : splitD w (.str ",") = some (.list ((parts w).map .str)) := by
  show (if (Str.ofString ",").length ≠ 0 ∧ w.length ≤ 1000000 then some (PyData.list ((parts w).map .str)) else none) = _
  rw [if_pos ⟨comma1, by omega⟩]
theorem split_b {w : Str} (hl : w.length ≤ 900000) : splitD w (.str " ") = some (.list ((words w).map .str)) := by
  show (if (Str.ofString " ").length ≠ 0 ∧ w.length ≤ 1000000 then some (PyData.list ((words w).map .str)) else none) = _
  rw [if_pos ⟨blank1, by omega⟩]
theorem parts_le {w : Str} (hl : w.length ≤ 900000) : (parts w).length ≤ 900002 := Nat.le_trans (PyProof.Rows.split_le w _) (by omega)
theorem words_le {w : Str} (hl : w.length ≤ 900000) : (words w).length ≤ 900002 := Nat.le_trans (PyProof.Rows.split_le w _) (by omega)
theorem lay_opt : ∀ l : List (Option Int), PyData.canLayAll0 (l.map optI) = true
  | [] => rfl
  | none :: l => by show (PyData.canLay0 .none && PyData.canLayAll0 (l.map optI)) = true; rw [lay_opt l]; rfl
  | some i :: l => by show (PyData.canLay0 (.int i) && PyData.canLayAll0 (l.map optI)) = true; rw [lay_opt l]; rfl
theorem any_none (l : List (Option Int)) : ((l.map optI).any fun y => PyData.eqv y .none) = decide (none ∈ l) := by
  induction l with
  | nil => rfl
  | cons o l ih =>
    rw [List.map_cons, List.any_cons, ih]
    cases o with
    | none => simp [optI, PyData.eqv]
    | some i => simp [optI, PyData.eqv]
theorem in_none (l : List (Option Int)) : inD .none (.tuple (l.map optI)) = some (.bool (decide (none ∈ l))) := by
  have h : laidIn .none (l.map optI) = true := by unfold laidIn; rw [lay_opt]; rfl
  show (if laidIn .none (l.map optI) = true then some (PyData.bool ((l.map optI).any fun y => PyData.eqv y .none)) else _) = _
  rw [if_pos h, any_none]
theorem opt_some (r : List Int) : (r.map some).map optI = r.map PyData.int := by rw [List.map_map]; rfl
theorem pnums_eq {w : Str} (hl : w.length ≤ 900000) : m_parse_numbers (.str w) = some (optT (numsP w)) := by
  unfold m_parse_numbers
  simp only [op2, op1, cmp2, chain3, tst, notB, andB, orB, andD, orD, iteM, consM, starM, smallM, tupM, tupSM, lstM, argV, argK, comp1, comp1i, comp2, comp2i, comp11, seqM, rng1, rng2, zipSM, zip2M, zip3M, enumM, repM, joinM, catM, par3LM, put2M, popM, parLV, putVM, unpS, trg1M, orV, lrg1M, par3M, rdM, rdLM, partM, slcM, isiM, rtM, forM1, forM2, forM3, parM, unp2, unp3, ob_pure, ob_some, ob_lift, Option.pure_def, add_int, sub_int, lt_int, le_int, gt_int, ge_int, eq_int, ne_int, min_int, max_int, neg_int, bool_bool, not_bool, is_none, isn_none, nn_int, nn_none, nn_tup, len_tup, len_lst, tup_lst, tup_tup, it_lst, it_tup, int_bool, int_int, oint_int, addI_int, subI_int, flat_tI, flat_int, flat_none, Option.bind_some, Option.map_some, Int.zero_add, thenB, thenM, List.nil_append, List.length_map, ob_assoc]
  refine bindE (show txtD (.str w) = some w from rfl) (bindE (split_c hl) (bindE (it_lst _) (bindE (small_ok (by rw [List.length_map]; have := parts_le hl; omega)) (bindE (lcA_mapP (m := Option) (F := PyData.str) (G := fun p => optI (numP p)) (parts w) [] fun p hp => ?_) ?_))))
  · have : p.length ≤ w.length := PyProof.Rows.part_short hp
    exact pnum_eq (by omega)
  · rw [List.nil_append]
    rw [show ((parts w).map fun p => optI (numP p)) = ((parts w).map numP).map optI by rw [List.map_map]; rfl, in_none]
    simp only [Option.bind_some, bool_bool, ob_some]
    unfold numsP
    by_cases h : none ∈ (parts w).map numP
    · rw [decide_eq_true h, if_pos rfl, allO_none.mpr h]
      rfl
    · rw [decide_eq_false h, if_neg Bool.false_ne_true]
      cases e : allO ((parts w).map numP) with
      | none => exact absurd (allO_none.mp e) h
      | some r =>
        rw [allO_iff.mp e, opt_some]
        rfl
theorem max_ok {r : List Int} (h : r ≠ []) : ∃ m, maxD (tI r) = some (.int m) ∧ m ∈ r ∧ ∀ v ∈ r, v ≤ m := by
  cases e : r.max? with
  | none => exact absurd (List.max?_eq_none_iff.mp e) h
  | some m =>
    obtain ⟨a, b⟩ := List.max?_eq_some_iff.mp e
    refine ⟨m, ?_, a, b⟩
    show (intsD (r.map PyData.int)).bind (fun ns => ns.max?.map PyData.int) = _
    rw [ints_of]
    show r.max?.map PyData.int = _
    rw [e]
    rfl
theorem numsP_ge {w : Str} {r : List Int} (h : numsP w = some r) : r ≠ [] ∧ ∀ v ∈ r, 0 ≤ v := by
  have h1 := allO_iff.mp h
  refine ⟨fun e => ?_, fun v hv => ?_⟩
  · rw [e] at h1
    have := parts_pos w
    have h2 := congrArg List.length h1
    simp at h2
    rw [h2] at this
    simp at this
  · have : some v ∈ (parts w).map numP := by rw [h1]; exact List.mem_map.mpr ⟨v, hv, rfl⟩
    obtain ⟨p, hp, e⟩ := List.mem_map.mp this
    exact numP_ge e
def optK : Option Nat → D
  | none => .none
  | some k => .int (k : Nat)
/-- a drawer's word -/
def drw (k : Option Nat) (w : Str) : Option (List Int) := (numsQ w).filter fun r => decide (r.length ≤ 4 ∧ (k = none ∨ k = some r.length))
theorem pdrawer_eq {w : Str} {k : Option Nat} (hl : w.length ≤ 900000) : m_parse_drawer (optK k) (.str w) = some (optT (drw k w)) := by
  unfold m_parse_drawer
  simp only [op2, op1, cmp2, chain3, tst, notB, andB, orB, andD, orD, iteM, consM, starM, smallM, tupM, tupSM, lstM, argV, argK, comp1, comp1i, comp2, comp2i, comp11, seqM, rng1, rng2, zipSM, zip2M, zip3M, enumM, repM, joinM, catM, par3LM, put2M, popM, parLV, putVM, unpS, trg1M, orV, lrg1M, par3M, rdM, rdLM, partM, slcM, isiM, rtM, forM1, forM2, forM3, parM, unp2, unp3, ob_pure, ob_some, ob_lift, Option.pure_def, add_int, sub_int, lt_int, le_int, gt_int, ge_int, eq_int, ne_int, min_int, max_int, neg_int, bool_bool, not_bool, is_none, isn_none, nn_int, nn_none, nn_tup, len_tup, len_lst, tup_lst, tup_tup, it_lst, it_tup, int_bool, int_int, oint_int, addI_int, subI_int, flat_tI, flat_int, flat_none, Option.bind_some, Option.map_some, Int.zero_add, thenB, thenM, List.nil_append, List.length_map, ob_assoc]
  refine bindE (show M_parse_numbers [.val (.str w)] = _ from pnums_eq hl) ?_
  unfold drw
  rw [numsQ_of]
  cases hP : numsP w with
  | none => rfl
  | some r =>
    obtain ⟨hne, hge⟩ := numsP_ge hP
    obtain ⟨m, em, hm, hmm⟩ := max_ok hne
    have en : isNone (tI r) = false := rfl
    simp only [optT, en, ob_some, Option.bind_some, bool_bool, Bool.false_eq_true, if_false, len_tup, List.length_map, gt_int, em]
    by_cases h4 : r.length ≤ 4
    · rw [decide_eq_false (by omega : ¬ (4 : Int) < (r.length : Int)), if_neg Bool.false_ne_true]
      by_cases h50 : ∀ v ∈ r, v ≤ 50
      · rw [decide_eq_false (by have := h50 m hm; omega : ¬ (50 : Int) < m), ob_some, if_neg Bool.false_ne_true, Option.filter_some_pos (by simpa using h50)]
        cases k with
        | none =>
          rw [Option.filter_some_pos (by simpa using h4)]
          rfl
        | some k =>
          have e1 : isNone (optK (some k)) = false := rfl
          simp only [e1, ob_some, Option.bind_some, bool_bool, Bool.false_eq_true, if_false]
          have e2 : eqD (.int (r.length : Nat)) (optK (some k)) = some (.bool (decide (r.length = k))) := by
            show eqD (.int (r.length : Nat)) (.int (k : Nat)) = _
            rw [eq_int]
            congr 2
            rw [Bool.eq_iff_iff]
            simp
            omega
          simp only [e2, Option.bind_some, bool_bool, ob_some]
          by_cases hk : r.length = k
          · rw [decide_eq_true hk, if_pos rfl, Option.filter_some_pos (by simp [hk]; omega)]
          · rw [decide_eq_false hk, if_neg Bool.false_ne_true, Option.filter_some_neg (by simp; intro _ h; exact hk h.symm)]
      · have : (50 : Int) < m := by
          refine Classical.byContradiction fun hc => h50 fun v hv => ?_
          have := hmm v hv
          omega
        rw [decide_eq_true this, ob_some, if_pos rfl, Option.filter_some_neg (by simpa using h50)]
        rfl
    · rw [decide_eq_true (by omega : (4 : Int) < (r.length : Int)), if_pos rfl]
      by_cases h50 : ∀ v ∈ r, v ≤ 50
      · rw [Option.filter_some_pos (by simpa using h50), Option.filter_some_neg (by simp; omega)]
        rfl
      · rw [Option.filter_some_neg (by simpa using h50)]
        rfl
/-- a collection's word -/
def colw (k : Nat) (w : Str) : Option (List Int) := (numsQ w).filter fun r => decide (r.length = k ∧ ∃ v ∈ r, 0 < v)
theorem isnum_eq {v : Int} (h0 : 0 ≤ v) : m_is_number (.int v) (.int 0) (.int 50) = some (.bool (decide (v ≤ 50))) := by
  unfold m_is_number
  simp only [op2, op1, cmp2, chain3, tst, notB, andB, orB, andD, orD, iteM, consM, starM, smallM, tupM, tupSM, lstM, argV, argK, comp1, comp1i, comp2, comp2i, comp11, seqM, rng1, rng2, zipSM, zip2M, zip3M, enumM, repM, joinM, catM, par3LM, put2M, popM, parLV, putVM, unpS, trg1M, orV, lrg1M, par3M, rdM, rdLM, partM, slcM, isiM, rtM, forM1, forM2, forM3, parM, unp2, unp3, ob_pure, ob_some, ob_lift, Option.pure_def, add_int, sub_int, lt_int, le_int, gt_int, ge_int, eq_int, ne_int, min_int, max_int, neg_int, bool_bool, not_bool, is_none, isn_none, nn_int, nn_none, nn_tup, len_tup, len_lst, tup_lst, tup_tup, it_lst, it_tup, int_bool, int_int, oint_int, addI_int, subI_int, flat_tI, flat_int, flat_none, Option.bind_some, Option.map_some, Int.zero_add, thenB, thenM, List.nil_append, List.length_map, ob_assoc]
  have e1 : isiB "int" (.int v) = true := rfl
  have e2 : isiB "bool" (.int v) = false := rfl
  simp only [e1, e2, bool_bool, ob_some, not_bool, Bool.not_false, if_true, decide_eq_true h0]
theorem arecol_eq {r : List Int} {k : Nat} (hne : r ≠ []) (hg : ∀ v ∈ r, 0 ≤ v) (hl : r.length ≤ 1000000) : m_are_collections (.int (k : Nat)) (.tuple [tI r]) = some (.bool (decide ((∀ v ∈ r, v ≤ 50) ∧ r.length = k ∧ ∃ v ∈ r, 0 < v))) := by
  have en : m_are_numbers (tI r) (.int (k : Nat)) (.int 50) = some (.bool (decide ((∀ v ∈ r, v ≤ 50) ∧ r.length = k))) := by
    unfold m_are_numbers
    simp only [op2, op1, cmp2, chain3, tst, notB, andB, orB, andD, orD, iteM, consM, starM, smallM, tupM, tupSM, lstM, argV, argK, comp1, comp1i, comp2, comp2i, comp11, seqM, rng1, rng2, zipSM, zip2M, zip3M, enumM, repM, joinM, catM, par3LM, put2M, popM, parLV, putVM, unpS, trg1M, orV, lrg1M, par3M, rdM, rdLM, partM, slcM, isiM, rtM, forM1, forM2, forM3, parM, unp2, unp3, ob_pure, ob_some, ob_lift, Option.pure_def, add_int, sub_int, lt_int, le_int, gt_int, ge_int, eq_int, ne_int, min_int, max_int, neg_int, bool_bool, not_bool, is_none, isn_none, nn_int, nn_none, nn_tup, len_tup, len_lst, tup_lst, tup_tup, it_lst, it_tup, int_bool, int_int, oint_int, addI_int, subI_int, flat_tI, flat_int, flat_none, Option.bind_some, Option.map_some, Int.zero_add, thenB, thenM, List.nil_append, List.length_map, ob_assoc]
    have e1 : isiB "tuple" (tI r) = true := rfl
    simp only [e1, bool_bool, ob_some, Bool.not_true, Bool.false_eq_true, if_false, Option.bind_some]
    by_cases hk : r.length = k
    · rw [show (((r.length : Nat) : Int) == ((k : Nat) : Int)) = true by simp [hk]]
      simp only [Bool.not_true, Bool.false_eq_true, if_false]
      refine bindE (small_ok (by rw [List.length_map]; exact hl)) (bindE (lcA_mapP (m := Option) (F := PyData.int) (G := fun v => .bool (decide (v ≤ 50))) r [] fun v hv => isnum_eq (hg v hv)) ?_)
      rw [List.nil_append, all_map]
      congr 2
      rw [Bool.eq_iff_iff]
      simp [hk]
    · rw [show (((r.length : Nat) : Int) == ((k : Nat) : Int)) = false by rw [beq_eq_false_iff_ne]; omega]
      simp only [Bool.not_false, if_true]
      rw [decide_eq_false (fun h => hk h.2)]
  obtain ⟨m, em, hm, hmm⟩ := max_ok hne
  have ec : m_is_collection (.int (k : Nat)) (tI r) = some (.bool (decide ((∀ v ∈ r, v ≤ 50) ∧ r.length = k ∧ ∃ v ∈ r, 0 < v))) := by
    unfold m_is_collection
    simp only [op2, op1, cmp2, chain3, tst, notB, andB, orB, andD, orD, iteM, consM, starM, smallM, tupM, tupSM, lstM, argV, argK, comp1, comp1i, comp2, comp2i, comp11, seqM, rng1, rng2, zipSM, zip2M, zip3M, enumM, repM, joinM, catM, par3LM, put2M, popM, parLV, putVM, unpS, trg1M, orV, lrg1M, par3M, rdM, rdLM, partM, slcM, isiM, rtM, forM1, forM2, forM3, parM, unp2, unp3, ob_pure, ob_some, ob_lift, Option.pure_def, add_int, sub_int, lt_int, le_int, gt_int, ge_int, eq_int, ne_int, min_int, max_int, neg_int, bool_bool, not_bool, is_none, isn_none, nn_int, nn_none, nn_tup, len_tup, len_lst, tup_lst, tup_tup, it_lst, it_tup, int_bool, int_int, oint_int, addI_int, subI_int, flat_tI, flat_int, flat_none, Option.bind_some, Option.map_some, Int.zero_add, thenB, thenM, List.nil_append, List.length_map, ob_assoc]
    refine bindE (show M_are_numbers [.val (tI r), .val (.int (k : Nat)), .val (.int 50)] = _ from en) ?_
    simp only [bool_bool, ob_some]
    by_cases h : (∀ v ∈ r, v ≤ 50) ∧ r.length = k
    · rw [decide_eq_true h, if_pos rfl, em, ob_some, gt_int]
      congr 2
      rw [Bool.eq_iff_iff, decide_eq_true_eq, decide_eq_true_eq]
      constructor
      · intro h0; exact ⟨h.1, h.2, m, hm, h0⟩
      · rintro ⟨_, _, v, hv, h0⟩
        have := hmm v hv
        omega
    · rw [decide_eq_false h, if_neg Bool.false_ne_true, decide_eq_false (fun h' => h ⟨h'.1, h'.2.1⟩)]
  unfold m_are_collections
  simp only [op2, op1, cmp2, chain3, tst, notB, andB, orB, andD, orD, iteM, consM, starM, smallM, tupM, tupSM, lstM, argV, argK, comp1, comp1i, comp2, comp2i, comp11, seqM, rng1, rng2, zipSM, zip2M, zip3M, enumM, repM, joinM, catM, par3LM, put2M, popM, parLV, putVM, unpS, trg1M, orV, lrg1M, par3M, rdM, rdLM, partM, slcM, isiM, rtM, forM1, forM2, forM3, parM, unp2, unp3, ob_pure, ob_some, ob_lift, Option.pure_def, add_int, sub_int, lt_int, le_int, gt_int, ge_int, eq_int, ne_int, min_int, max_int, neg_int, bool_bool, not_bool, is_none, isn_none, nn_int, nn_none, nn_tup, len_tup, len_lst, tup_lst, tup_tup, it_lst, it_tup, int_bool, int_int, oint_int, addI_int, subI_int, flat_tI, flat_int, flat_none, Option.bind_some, Option.map_some, Int.zero_add, thenB, thenM, List.nil_append, List.length_map, ob_assoc]
  have e1 : isiB "tuple" (.tuple [tI r]) = true := rfl
  have e2 : decide ((1 : Int) ≤ ((([tI r] : List D).length : Nat) : Int)) = true := rfl
  have e3 : decide (((([tI r] : List D).length : Nat) : Int) ≤ 4) = true := rfl
  simp only [e1, e2, e3, bool_bool, ob_some, Bool.not_true, Bool.false_eq_true, if_false, if_true]
  refine bindE (small_ok (show 1 ≤ 1000000 by decide)) (bindE (lcA_mapP (m := Option) (F := tI) (G := fun r => .bool (decide ((∀ v ∈ r, v ≤ 50) ∧ r.length = k ∧ ∃ v ∈ r, 0 < v))) [r] [] fun x hx => ?_) ?_)
  · rw [List.mem_singleton.mp hx]; exact ec
  · rw [List.nil_append, all_map]
    simp only [List.all_cons, List.all_nil, Bool.and_true]
theorem pcol_eq {w : Str} {k : Nat} (hl : w.length ≤ 900000) : m_parse_collection (.int (k : Nat)) (.str w) = some (optT (colw k w)) := by
  unfold m_parse_collection
  simp only [op2, op1, cmp2, chain3, tst, notB, andB, orB, andD, orD, iteM, consM, starM, smallM, tupM, tupSM, lstM, argV, argK, comp1, comp1i, comp2, comp2i, comp11, seqM, rng1, rng2, zipSM, zip2M, zip3M, enumM, repM, joinM, catM, par3LM, put2M, popM, parLV, putVM, unpS, trg1M, orV, lrg1M, par3M, rdM, rdLM, partM, slcM, isiM, rtM, forM1, forM2, forM3, parM, unp2, unp3, ob_pure, ob_some, ob_lift, Option.pure_def, add_int, sub_int, lt_int, le_int, gt_int, ge_int, eq_int, ne_int, min_int, max_int, neg_int, bool_bool, not_bool, is_none, isn_none, nn_int, nn_none, nn_tup, len_tup, len_lst, tup_lst, tup_tup, it_lst, it_tup, int_bool, int_int, oint_int, addI_int, subI_int, flat_tI, flat_int, flat_none, Option.bind_some, Option.map_some, Int.zero_add, thenB, thenM, List.nil_append, List.length_map, ob_assoc]
  refine bindE (show M_parse_numbers [.val (.str w)] = _ from pnums_eq hl) ?_
  unfold colw
  rw [numsQ_of]
  cases hP : numsP w with
  | none => rfl
  | some r =>
    obtain ⟨hne, hge⟩ := numsP_ge hP
    have hlr : r.length ≤ 1000000 := by
      have := allO_len hP
      rw [List.length_map] at this
      have := parts_le hl
      omega
    have en : isNone (tI r) = false := rfl
    simp only [optT, en, ob_some, Option.bind_some, bool_bool, Bool.not_false, if_true]
    refine bindE (show (M_are_collections [.val (.int (k : Nat)), .val (.tuple [tI r])] >>= boolD) = some (decide ((∀ v ∈ r, v ≤ 50) ∧ r.length = k ∧ ∃ v ∈ r, 0 < v)) by
      rw [show M_are_collections [.val (.int (k : Nat)), .val (.tuple [tI r])] = _ from arecol_eq hne hge hlr]; rfl) ?_
    by_cases h50 : ∀ v ∈ r, v ≤ 50
    · rw [Option.filter_some_pos (by simpa using h50)]
      by_cases h2 : r.length = k ∧ ∃ v ∈ r, 0 < v
      · rw [Option.filter_some_pos (by simpa using h2), decide_eq_true ⟨h50, h2⟩]
        rfl
      · rw [Option.filter_some_neg (by simpa using h2), decide_eq_false (fun h => h2 h.2)]
        rfl
    · rw [Option.filter_some_neg (by simpa using h50), decide_eq_false (fun h => h50 h.1)]
      rfl
theorem ne_nilN (d : D) (ds : List D) : neD (.list (d :: ds)) (.list []) = some (.bool true) := by
  show (if SeqAt.shaped (.list (d :: ds)) = true ∧ SeqAt.shaped (.list []) = true then some (PyData.bool (!PyData.eqv (.list (d :: ds)) (.list []))) else (lensD (.list (d :: ds)) (.list [])).map fun k => .bool (!k)) = _
  split
  · rfl
  · rfl
/-! ### the program's reading of a stock, a cabinet; the law's -/
/-! mirrors that raise: equations -/
instance : MoL Xo := ⟨fun _ _ => rfl, fun x f g => by
  match x with
  | some (.ok a) => rfl
  | some (.error e) => rfl
  | none => rfl, fun _ => rfl⟩
theorem upx_some {α : Type} (a : α) : upX (some a) = (Pure.pure a : Xo α) := rfl
theorem bindU {α β : Type} {o : Option α} {a : α} {f : α → Xo β} {y : Xo β} (e : o = some a) (h : f a = y) : (upX o >>= f) = y := by
  rw [e, upx_some, MoL.pb]; exact h
theorem loop_raise {A γ : Type} {f : D → A → Xo (Fl A)} {F : γ → D} {p : γ → Bool} {R : γ → Exn} {a : A} : ∀ xs : List γ, (∀ x ∈ xs, f (F x) a = if p x = true then MoX.throw (R x) else pure (.nx a)) → loopM f (xs.map F) a = (match xs.find? p with | some x => (MoX.throw (R x) : Xo (Fl A)) | none => pure (.nx a))
  | [], _ => rfl
  | x :: xs, h => by
    show (f (F x) a >>= _) = _
    rw [h x List.mem_cons_self, List.find?_cons]
    cases hp : p x with
    | true => rfl
    | false =>
      rw [if_neg Bool.false_ne_true, MoL.pb]
      exact loop_raise xs fun y hy => h y (List.mem_cons_of_mem _ hy)
def retX {α : Type} (x : Except Exn α) : Xo α := some x
theorem try_err {α β : Type} {e : Exn} {f : α → Xo β} {H : Exn → Option β} : tryO (retX (.error e) >>= f) H = H e := rfl
theorem retX_ok {α β : Type} (a : α) (f : α → Xo β) : (retX (.ok a) >>= f) = f a := rfl
theorem loop_preR {A γ : Type} {f : D → A → Xo (Fl A)} {F : γ → D} {bad : γ → Bool} {R : γ → Exn} {S : List γ → A} : ∀ post pre : List γ, (∀ p x q, pre ++ post = p ++ x :: q → (∀ y ∈ p, bad y = false) → f (F x) (S p) = if bad x = true then MoX.throw (R x) else pure (.nx (S (p ++ [x])))) → (∀ y ∈ pre, bad y = false) →
    loopM f (post.map F) (S pre) = (match post.find? bad with | some x => (MoX.throw (R x) : Xo (Fl A)) | none => pure (.nx (S (pre ++ post))))
  | [], pre, _, _ => by rw [List.append_nil]; rfl
  | x :: post, pre, h, hp => by
    show (f (F x) (S pre) >>= _) = _
    rw [h pre x post rfl hp, List.find?_cons]
    cases hb : bad x with
    | true => rfl
    | false =>
      rw [if_neg Bool.false_ne_true, MoL.pb]
      show loopM f (post.map F) (S (pre ++ [x])) = _
      rw [loop_preR post (pre ++ [x]) (fun p y q e hy => h p y q (by rw [← e]; simp) hy) fun y hy => by
        rcases List.mem_append.mp hy with hy | hy
        · exact hp y hy
        · rw [List.mem_singleton.mp hy]; exact hb]
      cases post.find? bad with
      | some y => rfl
      | none => simp
/-- a drawer's word that is wrong, beside a first drawer of n0 kinds -/
def badD (n0 : Nat) (x : Str × Nat) : Bool := match numsQ x.1 with
  | none => true
  | some r => decide (4 < r.length) || decide (r.length ≠ n0) || decide (x.2 = 4)
abbrev firstK (ws : List Str) : Nat := ((numsQ (ws.headD Str.empty)).getD []).length
abbrev rowOf (w : Str) : List Int := (numsQ w).getD []
abbrev badText (i : Nat) : Exn := ⟨"BadText", [("index", .int (i : Nat))]⟩
def stockX (ws : List Str) : Except Exn D := match (ws.zipIdx).find? (badD (firstK ws)) with
  | some x => .error (badText x.2)
  | none => if ws = [] then .error (badText 0) else .ok (tT (ws.map rowOf))
theorem zip_pre {ws : List Str} {p q : List (Str × Nat)} {x : Str × Nat} (h : ws.zipIdx = p ++ x :: q) : x.2 = p.length ∧ ws[p.length]? = some x.1 ∧ p.map (·.1) = ws.take p.length := by
  have h1 : ws.zipIdx[p.length]? = some x := by rw [h, List.getElem?_append_right (Nat.le_refl _)]; simp
  rw [List.getElem?_zipIdx] at h1
  obtain ⟨a, h2, h3⟩ := Option.map_eq_some_iff.mp h1
  refine ⟨by rw [← h3]; simp, by rw [h2, ← h3], ?_⟩
  have h4 : ws = (ws.zipIdx).map (·.1) := by simp
  conv => rhs; rw [h4, h]
  rw [List.map_append, List.take_left' (by simp)]
theorem eq_nilN (d : D) (ds : List D) : eqD (.list (d :: ds)) (.list []) = some (.bool false) := by
  show (if SeqAt.shaped (.list (d :: ds)) = true ∧ SeqAt.shaped (.list []) = true then some (PyData.bool (PyData.eqv (.list (d :: ds)) (.list []))) else (lensD (.list (d :: ds)) (.list [])).map fun k => .bool k) = _
  split
  · rfl
  · rfl
theorem eq_tTL (rows : List (List Int)) : eqD (.list (rows.map tI)) (.list []) = some (.bool rows.isEmpty) := by
  cases rows with
  | nil => rfl
  | cons r rs => exact eq_nilN _ _
theorem get_first (d : D) (ds : List D) : DD.getD (.list (d :: ds)) (.int 0) = some d := by
  show L2.atI (d :: ds) 0 = _
  unfold L2.atI
  rw [show ixN (d :: ds).length 0 = some 0 from ixN_at (i := 0) rfl (by simp)]
  rfl
theorem get_firstT (d : D) (ds : List D) : DD.getD (.tuple (d :: ds)) (.int 0) = some d := by
  show L2.atI (d :: ds) 0 = _
  unfold L2.atI
  rw [show ixN (d :: ds).length 0 = some 0 from ixN_at (i := 0) rfl (by simp)]
  rfl
theorem flat_optT (o : Option (List Int)) : flatO (optT o) = some (optT o) := by
  cases o with
  | none => rfl
  | some r => exact flat_tI r
theorem drw_bad {n0 : Nat} {w : Str} {k : Nat} {kk : Option Nat} (hk : kk = some n0 ∨ (kk = none ∧ ∀ r, numsQ w = some r → r.length = n0)) : badD n0 (w, k) = (isNone (optT (drw kk w)) || decide (k = 4)) ∧ (isNone (optT (drw kk w)) = false → optT (drw kk w) = tI (rowOf w)) := by
  unfold badD drw rowOf
  dsimp only
  cases e : numsQ w with
  | none => exact ⟨rfl, fun h => by cases h⟩
  | some r =>
    dsimp only
    by_cases h4 : r.length ≤ 4
    · by_cases h5 : r.length = n0
      · have h6 : kk = none ∨ kk = some r.length := by
          rcases hk with h | ⟨h, _⟩
          · rw [h, h5]; exact .inr rfl
          · exact .inl h
        rw [Option.filter_some_pos (by simpa using ⟨h4, h6⟩), decide_eq_false (by omega), decide_eq_false (by simpa using h5)]
        exact ⟨by simp [optT, isNone], fun _ => rfl⟩
      · rcases hk with h | ⟨h, h'⟩
        · rw [h, Option.filter_some_neg (by simp; intro _ hh; exact h5 hh.symm), decide_eq_true (show r.length ≠ n0 from h5)]
          exact ⟨by simp [optT, isNone], fun h => by cases h⟩
        · exact absurd (h' r e) h5
    · rw [Option.filter_some_neg (by simp; omega), decide_eq_true (by omega)]
      exact ⟨by simp [optT, isNone], fun h => by cases h⟩
theorem tT_rows (ws : List Str) : tT (ws.map rowOf) = .tuple (ws.map fun w => tI (rowOf w)) := by
  show PyData.tuple _ = _
  rw [List.map_map]
  rfl
theorem pstock_eq {ws : List Str} (hl : ∀ w ∈ ws, w.length ≤ 900000) (hn : ws.length ≤ 900002) : mx_parse_stock (.list (ws.map .str)) = retX (stockX ws) := by
  unfold mx_parse_stock
  simp only [op2, op1, cmp2, chain3, tst, notB, andB, orB, andD, orD, iteM, consM, starM, smallM, tupM, tupSM, lstM, argV, argK, comp1, comp1i, comp2, comp2i, comp11, seqM, rng1, rng2, zipSM, zip2M, zip3M, enumM, repM, joinM, catM, par3LM, put2M, popM, parLV, putVM, unpS, trg1M, orV, lrg1M, par3M, rdM, rdLM, partM, slcM, isiM, rtM, forM1, forM2, forM3, parM, unp2, unp3, ob_pure, ob_some, ob_lift, Option.pure_def, add_int, sub_int, lt_int, le_int, gt_int, ge_int, eq_int, ne_int, min_int, max_int, neg_int, bool_bool, not_bool, is_none, isn_none, nn_int, nn_none, nn_tup, len_tup, len_lst, tup_lst, tup_tup, it_lst, it_tup, int_bool, int_int, oint_int, addI_int, subI_int, flat_tI, flat_int, flat_none, Option.bind_some, Option.map_some, Int.zero_add, thenB, thenM, List.nil_append, List.length_map, ob_assoc, MoL.as]
  refine bindU rfl ?_
  refine bindU (show (some (enumL (ws.map PyData.str))) = some _ from rfl) ?_
  rw [enum_map]
  refine Eq.trans (congrArg (· >>= _) (loop_preR (F := fun p : Str × Nat => .tuple [.int (p.2 : Nat), .str p.1]) (bad := badD (firstK ws)) (R := fun x => badText x.2) (S := fun p => p.map fun x => tI (rowOf x.1)) ws.zipIdx [] ?_ (fun _ h => by cases h))) ?_
  · intro p x q e hb
    obtain ⟨w, k⟩ := x
    obtain ⟨e1, e2, e3⟩ := zip_pre (show ws.zipIdx = p ++ (w, k) :: q from e)
    dsimp only at e1 e2
    have hw : w ∈ ws := List.mem_of_getElem? e2
    have hpl : p.length < ws.length := (List.getElem?_eq_some_iff.mp e2).1
    obtain ⟨kk, hk, ha⟩ : ∃ kk : Option Nat, (kk = some (firstK ws) ∨ (kk = none ∧ ∀ r, numsQ w = some r → r.length = firstK ws)) ∧ ((neD (.list (p.map fun x => tI (rowOf x.1))) (.list [])).bind boolD >>= fun c => if c = true then DD.getD (.list (p.map fun x => tI (rowOf x.1))) (.int 0) >>= lenD else some PyData.none) = some (optK kk) := by
      cases p with
      | nil =>
        refine ⟨none, .inr ⟨rfl, fun r hr => ?_⟩, rfl⟩
        cases ws with
        | nil => cases hw
        | cons w0 ws =>
          have : w0 = w := by simpa using e2
          show r.length = ((numsQ w0).getD []).length
          rw [this, hr]
          rfl
      | cons y p =>
        refine ⟨some (firstK ws), .inl rfl, ?_⟩
        rw [List.map_cons, ne_nilN]
        show (DD.getD (.list (tI (rowOf y.1) :: _)) (.int 0) >>= lenD) = _
        rw [get_first, ob_some, len_tup, List.length_map]
        cases ws with
        | nil => cases hw
        | cons w0 ws =>
          rw [List.length_cons, List.take_succ_cons, List.map_cons] at e3
          injection e3 with e3 _
          rw [e3]
          rfl
    obtain ⟨hbad, hrow⟩ := drw_bad (k := k) hk
    refine bindU (a := optT (drw kk w)) ?_ ?_
    · refine Eq.trans (b := ((neD (.list (p.map fun x => tI (rowOf x.1))) (.list [])).bind boolD >>= fun c => if c = true then DD.getD (.list (p.map fun x => tI (rowOf x.1))) (.int 0) >>= lenD else some PyData.none) >>= fun a => M_parse_drawer [.val a, .val (.str w)] >>= flatO) ?_ ?_
      · rw [ob_assoc]
      · rw [ha, ob_some, show M_parse_drawer [.val (optK kk), .val (.str w)] = _ from pdrawer_eq (hl w hw), ob_some, flat_optT]
    · rw [hbad]
      cases hi : isNone (optT (drw kk w)) with
      | true => rfl
      | false =>
        refine bindU (a := decide (k = 4)) (by
          show (eqD (.int (k : Nat)) (.int 4)).bind boolD = _
          rw [eq_int]
          show some _ = some _
          congr 1
          rw [Bool.eq_iff_iff]
          simp
          omega) ?_
        rw [Bool.false_or]
        by_cases h4 : k = 4
        · rw [decide_eq_true h4]; rfl
        · rw [decide_eq_false h4, if_neg Bool.false_ne_true, if_neg Bool.false_ne_true, hrow hi]
          refine bindU rfl ?_
          rw [fits_ok (by rw [List.length_map]; omega), MoL.ls, MoL.pb, MoL.pb, List.map_append]
          rfl
  · unfold stockX
    rw [List.nil_append]
    cases (ws.zipIdx).find? (badD (firstK ws)) with
    | some x => rfl
    | none =>
      rw [show (fun x : Str × Nat => tI (rowOf x.1)) = (fun w => tI (rowOf w)) ∘ Prod.fst from rfl, ← List.map_map, show (ws.zipIdx).map Prod.fst = ws by simp]
      dsimp only
      rw [MoL.pb]
      refine bindU (a := ws.isEmpty) ?_ ?_
      · rw [show (ws.map fun w => tI (rowOf w)) = (ws.map rowOf).map tI by rw [List.map_map]; rfl, eq_tTL]
        show some _ = some _
        cases ws <;> rfl
      · rw [tT_rows]
        cases ws with
        | nil => rfl
        | cons w ws => rfl
/-- what a text is read as: the index of the first wrong word, or the cabinet -/
def endOf (W : List Str) : Nat := (findS (Str.ofString "for") W).getD W.length
def badC (n0 : Nat) (x : Str × Nat) : Bool := match numsQ x.1 with
  | none => true
  | some r => decide (r.length ≠ n0) || !decide (∃ v ∈ r, 0 < v) || decide (x.2 = 4)
def cabX (s : Str) : Except Exn D :=
  let W := words s
  let e := endOf W
  match stockX (W.take e) with
  | .error x => .error x
  | .ok S => match ((W.drop (e + 1)).zipIdx).find? (badC (firstK (W.take e))) with
    | some x => .error (badText (e + 1 + x.2))
    | none => if W.drop (e + 1) = [] then .error (badText W.length) else .ok (.tuple [S, tT ((W.drop (e + 1)).map rowOf)])
theorem findS_lt {x : Str} {ss : List Str} {i : Nat} (h : findS x ss = some i) : i < ss.length := (List.getElem?_eq_some_iff.mp (findS_at h).1).1
theorem findS_none {x : Str} : ∀ {ss : List Str}, findS x ss = none ↔ x ∉ ss
  | [] => by simp [findS]
  | y :: ys => by
    unfold findS
    by_cases h : y = x
    · rw [if_pos h]; simp [h]
    · rw [if_neg h, Option.map_eq_none_iff, findS_none]
      simp [Ne.symm h]
theorem strsOf_map (l : List Str) : strsOf (l.map PyData.str) = some l := by
  induction l with
  | nil => rfl
  | cons y l ih => show (strsOf (l.map PyData.str)).map (y :: ·) = _; rw [ih]; rfl
theorem in_strs (x : Str) (ss : List Str) : inD (.str x) (.list (ss.map .str)) = some (.bool (decide (x ∈ ss))) := by
  show (if laidIn (.str x) (ss.map .str) = true then some (PyData.bool ((ss.map PyData.str).any fun y => PyData.eqv y (.str x))) else (inStr (.str x) (ss.map .str)).map fun b => .bool b) = _
  by_cases h : laidIn (.str x) (ss.map .str) = true
  · rw [if_pos h]
    congr 2
    rw [Bool.eq_iff_iff, List.any_eq_true, decide_eq_true_eq]
    constructor
    · rintro ⟨y, hy, he⟩
      obtain ⟨z, hz, rfl⟩ := List.mem_map.mp hy
      have : z = x := by simpa [PyData.eqv] using he
      rw [← this]; exact hz
    · intro hx
      exact ⟨_, List.mem_map.mpr ⟨x, hx, rfl⟩, by simp [PyData.eqv]⟩
  · rw [if_neg h]
    show ((strsOf (ss.map PyData.str)).map fun ss => decide (x ∈ ss)).map (fun b => PyData.bool b) = _
    rw [strsOf_map]
    rfl
theorem end_eq {W : List Str} : ((inD (.str "for") (.list (W.map .str))).bind boolD >>= fun k => if k = true then (listO (.list (W.map .str)) >>= fun ds => indexD (.list ds) (.str "for")) else lenD (.list (W.map .str))) = some (.int (endOf W : Nat)) := by
  rw [in_strs]
  show (if decide (Str.ofString "for" ∈ W) = true then indexD (.list (W.map .str)) (.str "for") else lenD (.list (W.map .str))) = _
  unfold endOf
  by_cases h : Str.ofString "for" ∈ W
  · rw [decide_eq_true h, if_pos rfl]
    show ((strsOf (W.map .str)).bind fun ss => (findS (Str.ofString "for") ss).map fun i => PyData.int (i : Nat)) = _
    rw [strsOf_map]
    cases e : findS (Str.ofString "for") W with
    | none => exact absurd h (findS_none.mp e)
    | some i => show (findS (Str.ofString "for") W).map _ = _; rw [e]; rfl
  · rw [decide_eq_false h, if_neg Bool.false_ne_true, len_lst, List.length_map, findS_none.mpr h]
    rfl
theorem end_le (W : List Str) : endOf W ≤ W.length := by
  unfold endOf
  cases e : findS (Str.ofString "for") W with
  | none => exact Nat.le_refl _
  | some i => exact Nat.le_of_lt (findS_lt e)
theorem stockX_ok {ws : List Str} {S : D} (h : stockX ws = .ok S) : ws ≠ [] ∧ S = tT (ws.map rowOf) ∧ (ws.zipIdx).find? (badD (firstK ws)) = none := by
  unfold stockX at h
  split at h
  · cases h
  · rename_i e
    split at h
    · cases h
    · rename_i hn
      cases h
      exact ⟨hn, rfl, e⟩
theorem tk_lst {l : List Str} {e : Nat} (h : e ≤ l.length) : sliceD (.list (l.map PyData.str)) none (some (e : Nat)) = some (.list ((l.take e).map .str)) := by
  show some (PyData.list (cutD (l.map PyData.str) none (some (e : Nat)))) = _
  unfold cutD
  rw [sIx_at (by omega) (by rw [List.length_map]; omega), HT.sIx_none, List.drop_zero, Nat.sub_zero, ← List.map_take]
  rfl
theorem dr_lst {l : List Str} {e : Nat} : sliceD (.list (l.map PyData.str)) (some (e : Nat)) none = some (.list ((l.drop e).map .str)) := by
  show some (PyData.list (cutD (l.map PyData.str) (some (e : Nat)) none)) = _
  unfold cutD
  rw [HT.sIx_none, List.take_of_length_le (by simp), ← List.map_drop]
  have : HT.sIx (l.map PyData.str).length 0 (some (e : Nat)) = min e l.length := by
    show (if ((e : Nat) : Int) < 0 then (((e : Nat) : Int) + ((l.map PyData.str).length : Nat)).toNat else min ((e : Nat) : Int).toNat (l.map PyData.str).length) = _
    rw [if_neg (by omega), List.length_map]
    rfl
  rw [this]
  congr 3
  by_cases h : e ≤ l.length
  · rw [Nat.min_eq_left h]
  · rw [Nat.min_eq_right (by omega), List.drop_length, List.drop_of_length_le (by omega)]
theorem rng_zip {l : List Str} {e : Nat} : rangeL ((e : Nat) : Int) l.length = (l.zipIdx).map fun x => PyData.int (((e + x.2 : Nat) : Nat) : Int) := by
  unfold rangeL
  have : List.range l.length = (l.zipIdx).map (·.2) := by
    rw [List.range_eq_range']
    simp
  rw [this, List.map_map]
  refine List.map_congr_left fun x _ => ?_
  show PyData.int _ = PyData.int _
  congr 1
theorem get_wd {l : List Str} {i : Nat} {w : Str} (h : l[i]? = some w) : DD.getD (.list (l.map PyData.str)) (.int (i : Nat)) = some (.str w) := by
  show L2.atI (l.map PyData.str) _ = _
  unfold L2.atI
  have hi : i < l.length := (List.getElem?_eq_some_iff.mp h).1
  rw [ixN_at rfl (by rw [List.length_map]; exact hi), Option.bind_some, List.getElem?_map, h]
  rfl
theorem colw_bad {n0 : Nat} {w : Str} {k : Nat} : badC n0 (w, k) = (isNone (optT (colw n0 w)) || decide (k = 4)) ∧ (isNone (optT (colw n0 w)) = false → optT (colw n0 w) = tI (rowOf w)) := by
  unfold badC colw rowOf
  dsimp only
  cases e : numsQ w with
  | none => exact ⟨rfl, fun h => by cases h⟩
  | some r =>
    dsimp only
    by_cases h1 : r.length = n0
    · by_cases h2 : ∃ v ∈ r, 0 < v
      · rw [Option.filter_some_pos (by simpa using ⟨h1, h2⟩), decide_eq_false (by simpa using h1), decide_eq_true h2]
        exact ⟨by simp [optT, isNone], fun _ => rfl⟩
      · rw [Option.filter_some_neg (by simpa using fun _ => by simpa using h2), decide_eq_false h2]
        exact ⟨by simp [optT, isNone], fun h => by cases h⟩
    · rw [Option.filter_some_neg (by simp; intro h; exact absurd h h1), decide_eq_true (show r.length ≠ n0 from h1)]
      exact ⟨by simp [optT, isNone], fun h => by cases h⟩
theorem word_len {s w : Str} (hl : s.length ≤ 900000) (h : w ∈ words s) : w.length ≤ 900000 := Nat.le_trans (PyProof.Rows.part_short h) hl
theorem pcab_eq {s : Str} (hl : s.length ≤ 900000) : mx_parse_cabinet (.str s) = retX (cabX s) := by
  unfold mx_parse_cabinet
  simp only [op2, op1, cmp2, chain3, tst, notB, andB, orB, andD, orD, iteM, consM, starM, smallM, tupM, tupSM, lstM, argV, argK, comp1, comp1i, comp2, comp2i, comp11, seqM, rng1, rng2, zipSM, zip2M, zip3M, enumM, repM, joinM, catM, par3LM, put2M, popM, parLV, putVM, unpS, trg1M, orV, lrg1M, par3M, rdM, rdLM, partM, slcM, isiM, rtM, forM1, forM2, forM3, parM, unp2, unp3, ob_pure, ob_some, ob_lift, Option.pure_def, add_int, sub_int, lt_int, le_int, gt_int, ge_int, eq_int, ne_int, min_int, max_int, neg_int, bool_bool, not_bool, is_none, isn_none, nn_int, nn_none, nn_tup, len_tup, len_lst, tup_lst, tup_tup, it_lst, it_tup, int_bool, int_int, oint_int, addI_int, subI_int, flat_tI, flat_int, flat_none, Option.bind_some, Option.map_some, Int.zero_add, thenB, thenM, List.nil_append, List.length_map, ob_assoc, MoL.as, MoL.pb]
  refine bindU (a := false) rfl ?_
  rw [if_neg Bool.false_ne_true]
  refine bindU (a := .list ((words s).map .str)) (by rw [show txtD (.str s) = some s from rfl, ob_some]; exact split_b hl) ?_
  refine bindU (a := .int (endOf (words s) : Nat)) end_eq ?_
  have hle := end_le (words s)
  have hwn := words_le hl
  refine bindU (a := .list (((words s).take (endOf (words s))).map .str)) (by
    show (some (some ((endOf (words s) : Nat) : Int)) >>= fun h => sliceD (.list ((words s).map .str)) none h) = _
    rw [ob_some, tk_lst hle]) ?_
  have hst : MX_parse_stock [.val (.list (((words s).take (endOf (words s))).map .str))] = retX (stockX ((words s).take (endOf (words s)))) := pstock_eq (fun w hw => word_len hl (List.mem_of_mem_take hw)) (by rw [List.length_take]; omega)
  rw [hst]
  unfold cabX
  dsimp only
  cases hS : stockX ((words s).take (endOf (words s))) with
  | error x => rfl
  | ok S =>
    obtain ⟨hne, rfl, hbd⟩ := stockX_ok hS
    rw [retX_ok]
    dsimp only
    refine bindU rfl ?_
    obtain ⟨W, hW⟩ : ∃ W, W = words s := ⟨_, rfl⟩
    obtain ⟨e, hE⟩ : ∃ e, e = endOf (words s) := ⟨_, rfl⟩
    have hwl : ∀ w ∈ W, w.length ≤ 900000 := fun w hw => word_len hl (hW ▸ hw)
    rw [← hE, ← hW] at hne hbd hle ⊢
    rw [← hW] at hwn
    obtain ⟨w0, ws0, hw0⟩ : ∃ w0 ws0, W.take e = w0 :: ws0 := by
      cases hh : W.take e with
      | nil => exact absurd hh hne
      | cons a b => exact ⟨a, b, rfl⟩
    refine bindU (a := ((W.drop (e + 1)).zipIdx).map fun x => PyData.int (((e + 1 + x.2 : Nat) : Nat) : Int)) ?_ ?_
    · rw [add_int, ob_some, len_lst, ob_some, ← rng_zip (l := W.drop (e + 1)) (e := e + 1), List.length_map, List.length_drop]
      show (if ((e : Int) + 1).natAbs < 2 ^ 62 ∧ ((W.length : Nat) : Int).natAbs < 2 ^ 62 then some (rangeL ((e : Int) + 1) (((W.length : Nat) : Int) - ((e : Int) + 1)).toNat) else none) = _
      rw [if_pos (by omega), show (((W.length : Nat) : Int) - ((e : Int) + 1)).toNat = W.length - (e + 1) by omega]
      rfl
    · refine Eq.trans (congrArg (· >>= _) (loop_preR (F := fun x : Str × Nat => PyData.int (((e + 1 + x.2 : Nat) : Nat) : Int)) (bad := badC (firstK (W.take e))) (R := fun x => badText (e + 1 + x.2)) (S := fun p => p.map fun x => tI (rowOf x.1)) (W.drop (e + 1)).zipIdx [] ?_ (fun _ h => by cases h))) ?_
      · intro p x q ep hb
        obtain ⟨w, k⟩ := x
        obtain ⟨e1, e2, e3⟩ := zip_pre (show (W.drop (e + 1)).zipIdx = p ++ (w, k) :: q from ep)
        dsimp only at e1 e2
        have hpl : p.length < (W.drop (e + 1)).length := (List.getElem?_eq_some_iff.mp e2).1
        rw [List.length_drop] at hpl
        rw [List.getElem?_drop, ← e1] at e2
        obtain ⟨hbad, hrow⟩ := colw_bad (n0 := firstK (W.take e)) (w := w) (k := k)
        have hf : DD.getD (tT ((W.take e).map rowOf)) (.int 0) = some (tI (rowOf w0)) := by
          rw [hw0]
          exact get_firstT _ _
        have hk : (rowOf w0).length = firstK (W.take e) := by rw [hw0]; rfl
        refine bindU (a := optT (colw (firstK (W.take e)) w)) ?_ ?_
        · rw [hf, ob_some, len_tup, List.length_map, ob_some, hk, get_wd e2, ob_some]
          exact pcol_eq (hwl w (List.mem_of_getElem? e2))
        · rw [hbad]
          cases hi : isNone (optT (colw (firstK (W.take e)) w)) with
          | true => rfl
          | false =>
            refine bindU (a := decide (k = 4)) (by
              show some _ = some _
              congr 1
              rw [List.length_map, ← e1, Bool.eq_iff_iff]
              simp
              omega) ?_
            rw [Bool.false_or]
            by_cases h4 : k = 4
            · rw [decide_eq_true h4]; rfl
            · rw [decide_eq_false h4, if_neg Bool.false_ne_true, if_neg Bool.false_ne_true, hrow hi]
              refine bindU rfl ?_
              rw [fits_ok (by rw [List.length_map]; omega), MoL.ls, MoL.pb, List.map_append]
              rfl
      · rw [List.nil_append]
        cases ((W.drop (e + 1)).zipIdx).find? (badC (firstK (W.take e))) with
        | some x => rfl
        | none =>
          rw [show (fun x : Str × Nat => tI (rowOf x.1)) = (fun w => tI (rowOf w)) ∘ Prod.fst from rfl, ← List.map_map, show ((W.drop (e + 1)).zipIdx).map Prod.fst = W.drop (e + 1) by simp]
          dsimp only
          rw [MoL.pb]
          refine bindU (a := (W.drop (e + 1)).isEmpty) ?_ ?_
          · rw [show ((W.drop (e + 1)).map fun w => tI (rowOf w)) = ((W.drop (e + 1)).map rowOf).map tI by rw [List.map_map]; rfl, eq_tTL]
            show some _ = some _
            cases W.drop (e + 1) <;> rfl
          · rw [tT_rows (W.drop (e + 1))]
            cases W.drop (e + 1) with
            | nil => 
              refine bindU (len_lst _) ?_
              rw [List.length_map]
              rfl
            | cons w ws => rfl
theorem cabX_err {s : Str} {e : Exn} (h : cabX s = .error e) : ∃ i : Nat, e = badText i := by
  unfold cabX at h
  dsimp only at h
  cases hS : stockX ((words s).take (endOf (words s))) with
  | error x =>
    rw [hS] at h
    cases h
    unfold stockX at hS
    split at hS
    · cases hS; exact ⟨_, rfl⟩
    · split at hS
      · cases hS; exact ⟨0, rfl⟩
      · cases hS
  | ok S =>
    rw [hS] at h
    dsimp only at h
    split at h
    · cases h; exact ⟨_, rfl⟩
    · split at h
      · cases h; exact ⟨_, rfl⟩
      · cases h
/-! ### texts of numbers -/
def nstr (i : Int) : Str := Str.ofString (toString i)
def ntext (r : List Int) : Str := Str.join "," (r.map nstr)
def ctext (S C : List (List Int)) : Str := Str.join " " (S.map ntext ++ Str.ofString "for" :: C.map ntext)
/-- rows that a text shows: not empty, numbers from 0 to 10 ** 6 -/
structure Rws (rows : List (List Int)) : Prop where
  one : 1 ≤ rows.length
  four : rows.length ≤ 4
  len : ∀ r ∈ rows, 1 ≤ r.length ∧ r.length ≤ 4
  ge : ∀ r ∈ rows, ∀ x ∈ r, 0 ≤ x ∧ x ≤ 1000000
theorem strs_map (l : List Str) : strsOf (l.map PyData.str) = some l := by
  induction l with
  | nil => rfl
  | cons y l ih => show (strsOf (l.map PyData.str)).map (y :: ·) = _; rw [ih]; rfl
theorem nstr_len {i : Int} (h0 : 0 ≤ i) (h : i ≤ 1000000) : (nstr i).length ≤ 21 := int_len (by omega)
theorem sum_len {l : List Str} {b : Nat} (h : ∀ x ∈ l, x.length ≤ b) : (l.map (·.length)).sum ≤ l.length * b := by
  induction l with
  | nil => simp
  | cons x l ih =>
    rw [List.map_cons, List.sum_cons, List.length_cons, Nat.succ_mul]
    have := h x List.mem_cons_self
    have := ih fun y hy => h y (List.mem_cons_of_mem _ hy)
    omega
theorem join_len (a : Str) : ∀ ss : List Str, (Str.join a ss).length ≤ (ss.map (·.length)).sum + ss.length * a.length
  | [] => by simp [Str.join]; rfl
  | [x] => by show x.length ≤ _; simp
  | x :: y :: r => by
    have ih := join_len a (y :: r)
    show (x ++ a ++ Str.join a (y :: r)).length ≤ _
    rw [strLen_append, strLen_append, List.map_cons, List.sum_cons, List.length_cons, Nat.succ_mul]
    omega
theorem join_ok {a : Str} {ss : List Str} (h : (ss.map (·.length)).sum + ss.length * a.length ≤ 1000000) : joinD a (.list (ss.map PyData.str)) = some (.str (Str.join a ss)) := by
  show ((some (ss.map PyData.str)).bind fun xs => (strsOf xs).bind fun ss => if (ss.map (·.length)).sum + ss.length * a.length ≤ 1000000 then some (PyData.str (Str.join a ss)) else none) = _
  rw [Option.bind_some, strs_map, Option.bind_some, if_pos h]
theorem str_int {i : Int} (h : i.natAbs < 10 ^ 60) : strD (.int i) = some (.str (nstr i)) := by
  show (if i.natAbs < 10 ^ 60 then some (PyData.str (Str.ofString (toString i))) else none) = _
  rw [if_pos h]
  rfl
theorem comma_len : (Str.ofString ",").length = 1 := rfl
theorem blank_len : (Str.ofString " ").length = 1 := rfl
theorem ntext_sum {r : List Int} (hl : r.length ≤ 4) (hg : ∀ x ∈ r, 0 ≤ x ∧ x ≤ 1000000) : ((r.map nstr).map (·.length)).sum + (r.map nstr).length * (Str.ofString ",").length ≤ 100 := by
  have := sum_len (l := r.map nstr) (b := 21) fun x hx => by
    obtain ⟨i, hi, rfl⟩ := List.mem_map.mp hx
    exact nstr_len (hg i hi).1 (hg i hi).2
  rw [List.length_map] at this ⊢
  rw [comma_len]
  omega
theorem ntext_len {r : List Int} (hl : r.length ≤ 4) (hg : ∀ x ∈ r, 0 ≤ x ∧ x ≤ 1000000) : (ntext r).length ≤ 100 := Nat.le_trans (join_len _ _) (ntext_sum hl hg)
theorem ntext_eq {r : List Int} (hl : r.length ≤ 4) (hg : ∀ x ∈ r, 0 ≤ x ∧ x ≤ 1000000) : m_numbers_text (tI r) = some (.str (ntext r)) := by
  unfold m_numbers_text
  simp only [op2, op1, cmp2, chain3, tst, notB, andB, orB, andD, orD, iteM, consM, starM, smallM, tupM, tupSM, lstM, argV, argK, comp1, comp1i, comp2, comp2i, comp11, seqM, rng1, rng2, zipSM, zip2M, zip3M, enumM, repM, joinM, catM, par3LM, put2M, popM, parLV, putVM, unpS, trg1M, orV, lrg1M, par3M, rdM, rdLM, partM, slcM, isiM, rtM, forM1, forM2, forM3, parM, unp2, unp3, ob_pure, ob_some, ob_lift, Option.pure_def, add_int, sub_int, lt_int, le_int, gt_int, ge_int, eq_int, ne_int, min_int, max_int, neg_int, bool_bool, not_bool, is_none, isn_none, nn_int, nn_none, nn_tup, len_tup, len_lst, tup_lst, tup_tup, it_lst, it_tup, int_bool, int_int, oint_int, addI_int, subI_int, flat_tI, flat_int, flat_none, Option.bind_some, Option.map_some, Int.zero_add, thenB, thenM, List.nil_append, List.length_map, ob_assoc]
  refine bindE (show strOnly (.str ",") = some _ from rfl) (bindE (small_ok (by rw [List.length_map]; omega)) (bindE (lcA_mapP (m := Option) (F := PyData.int) (G := fun i => .str (nstr i)) r [] fun x hx => str_int (by have := hg x hx; omega)) ?_))
  rw [List.nil_append, show (r.map fun i => PyData.str (nstr i)) = (r.map nstr).map PyData.str by simp]
  exact join_ok (by have := ntext_sum hl hg; omega)
theorem ltext_eq {r : List Int} (hl : r.length ≤ 4) (hg : ∀ x ∈ r, 0 ≤ x ∧ x ≤ 1000000) : m__law_numbers_text (tI r) = some (.str (ntext r)) := by
  unfold m__law_numbers_text
  simp only [op2, op1, cmp2, chain3, tst, notB, andB, orB, andD, orD, iteM, consM, starM, smallM, tupM, tupSM, lstM, argV, argK, comp1, comp1i, comp2, comp2i, comp11, seqM, rng1, rng2, zipSM, zip2M, zip3M, enumM, repM, joinM, catM, par3LM, put2M, popM, parLV, putVM, unpS, trg1M, orV, lrg1M, par3M, rdM, rdLM, partM, slcM, isiM, rtM, forM1, forM2, forM3, parM, unp2, unp3, ob_pure, ob_some, ob_lift, Option.pure_def, add_int, sub_int, lt_int, le_int, gt_int, ge_int, eq_int, ne_int, min_int, max_int, neg_int, bool_bool, not_bool, is_none, isn_none, nn_int, nn_none, nn_tup, len_tup, len_lst, tup_lst, tup_tup, it_lst, it_tup, int_bool, int_int, oint_int, addI_int, subI_int, flat_tI, flat_int, flat_none, Option.bind_some, Option.map_some, Int.zero_add, thenB, thenM, List.nil_append, List.length_map, ob_assoc]
  refine bindE (show strOnly (.str ",") = some _ from rfl) (bindE (small_ok (by rw [List.length_map]; omega)) (bindE (lcA_mapP (m := Option) (F := PyData.int) (G := fun i => .str (nstr i)) r [] fun x hx => str_int (by have := hg x hx; omega)) ?_))
  rw [List.nil_append, show (r.map fun i => PyData.str (nstr i)) = (r.map nstr).map PyData.str by simp]
  exact join_ok (by have := ntext_sum hl hg; omega)
theorem words_sum {S C : List (List Int)} (hS : Rws S) (hC : Rws C) : ((S.map ntext ++ Str.ofString "for" :: C.map ntext).map (·.length)).sum + (S.map ntext ++ Str.ofString "for" :: C.map ntext).length * (Str.ofString " ").length ≤ 2000 := by
  have := sum_len (l := S.map ntext ++ Str.ofString "for" :: C.map ntext) (b := 100) fun x hx => by
    rcases List.mem_append.mp hx with hx | hx
    · obtain ⟨r, hr, rfl⟩ := List.mem_map.mp hx
      exact ntext_len (hS.len r hr).2 (hS.ge r hr)
    · rcases List.mem_cons.mp hx with rfl | hx
      · exact show (3 : Nat) ≤ 100 by decide
      · obtain ⟨r, hr, rfl⟩ := List.mem_map.mp hx
        exact ntext_len (hC.len r hr).2 (hC.ge r hr)
  have h1 := hS.four
  have h2 := hC.four
  simp only [List.length_append, List.length_cons, List.length_map] at this ⊢
  rw [blank_len]
  omega
theorem ctext_eq {S C : List (List Int)} (hS : Rws S) (hC : Rws C) : m_cabinet_text (tT S) (tT C) = some (.str (ctext S C)) := by
  have h1 := hS.four
  have h2 := hC.four
  unfold m_cabinet_text
  simp only [op2, op1, cmp2, chain3, tst, notB, andB, orB, andD, orD, iteM, consM, starM, smallM, tupM, tupSM, lstM, argV, argK, comp1, comp1i, comp2, comp2i, comp11, seqM, rng1, rng2, zipSM, zip2M, zip3M, enumM, repM, joinM, catM, par3LM, put2M, popM, parLV, putVM, unpS, trg1M, orV, lrg1M, par3M, rdM, rdLM, partM, slcM, isiM, rtM, forM1, forM2, forM3, parM, unp2, unp3, ob_pure, ob_some, ob_lift, Option.pure_def, add_int, sub_int, lt_int, le_int, gt_int, ge_int, eq_int, ne_int, min_int, max_int, neg_int, bool_bool, not_bool, is_none, isn_none, nn_int, nn_none, nn_tup, len_tup, len_lst, tup_lst, tup_tup, it_lst, it_tup, int_bool, int_int, oint_int, addI_int, subI_int, flat_tI, flat_int, flat_none, Option.bind_some, Option.map_some, Int.zero_add, thenB, thenM, List.nil_append, List.length_map, ob_assoc]
  refine bindE (small_ok (by rw [List.length_map]; omega)) (bindE (lcA_mapP (m := Option) (F := tI) (G := fun r => .str (ntext r)) S [] fun r hr => ntext_eq (hS.len r hr).2 (hS.ge r hr)) (bindE (small_ok (by rw [List.length_map]; omega)) (bindE (lcA_mapP (m := Option) (F := tI) (G := fun r => .str (ntext r)) C [] fun r hr => ntext_eq (hC.len r hr).2 (hC.ge r hr)) ?_)))
  refine bindE (show strOnly (.str " ") = some _ from rfl) (bindE (small_ok (by simp; omega)) ?_)
  rw [List.nil_append, List.nil_append, List.append_nil, show ((S.map fun r => PyData.str (ntext r)) ++ PyData.str "for" :: C.map fun r => PyData.str (ntext r)) = (S.map ntext ++ Str.ofString "for" :: C.map ntext).map PyData.str by simp; rfl]
  exact join_ok (by have := words_sum hS hC; omega)
open TL in
theorem tl_nstr {i : Int} (h : 0 ≤ i) : tl (nstr i) = numL i.toNat := by
  obtain ⟨n, rfl⟩ := Int.eq_ofNat_of_zero_le h
  exact tl_num n
open TL in
theorem tl_ntext (r : List Int) : tl (ntext r) = joinL [44] (r.map fun i => tl (nstr i)) := by
  unfold ntext
  rw [tl_join, List.map_map]
  rfl
open TL in
theorem mem_joinL {S : List Nat} {c : Nat} : ∀ {ps : List (List Nat)}, c ∈ joinL S ps → c ∈ S ∨ ∃ p ∈ ps, c ∈ p
  | [], h => by simp [joinL] at h
  | [p], h => .inr ⟨p, by simp, h⟩
  | p :: q :: r, h => by
    rcases List.mem_append.mp (show c ∈ p ++ (S ++ joinL S (q :: r)) from h) with h | h
    · exact .inr ⟨p, by simp, h⟩
    · rcases List.mem_append.mp h with h | h
      · exact .inl h
      · rcases mem_joinL h with h | ⟨z, hz, h⟩
        · exact .inl h
        · exact .inr ⟨z, List.mem_cons_of_mem _ hz, h⟩
open TL in
theorem ntext_chars {r : List Int} (hg : ∀ x ∈ r, 0 ≤ x) : ∀ c ∈ tl (ntext r), c = 44 ∨ (48 ≤ c ∧ c ≤ 57) := fun c hc => by
  rw [tl_ntext] at hc
  rcases mem_joinL hc with h | ⟨p, hp, h⟩
  · left; simpa using h
  · obtain ⟨i, hi, rfl⟩ := List.mem_map.mp hp
    rw [tl_nstr (hg i hi)] at h
    exact .inr (numL_digits _ c h)
/-! ### texts that are bent: signs below 128, at most L of them -/
structure As (L : Nat) (x : Str) : Prop where
  l : x.length ≤ L
  c : ∀ c ∈ TL.tl x, c < 128
theorem As.le {L M : Nat} {x : Str} (h : As L x) (hm : L ≤ M) : As M x := ⟨Nat.le_trans h.l hm, h.c⟩
def asB (L : Nat) (x : Str) : Bool := decide (x.length ≤ L) && (TL.tl x).all fun c => decide (c < 128)
theorem As.of {L : Nat} {x : Str} (h : asB L x = true) : As L x := by
  unfold asB at h
  rw [Bool.and_eq_true, decide_eq_true_eq, List.all_eq_true] at h
  exact ⟨h.1, fun c hc => by simpa using h.2 c hc⟩
theorem As.app {L M : Nat} {x y : Str} (h : As L x) (k : As M y) : As (L + M) (x ++ y) := ⟨by rw [strLen_append]; have := h.l; have := k.l; omega, fun c hc => by
  rw [TL.tl_append] at hc
  rcases List.mem_append.mp hc with hc | hc
  · exact h.c c hc
  · exact k.c c hc⟩
theorem As.cut {L : Nat} {x : Str} (h : As L x) (lo hi : Option Int) : As L (cutS x lo hi) := ⟨Nat.le_trans (cutS_length x lo hi) h.l, fun c hc => h.c c (by
  have : TL.tl (cutS x lo hi) = ((x.cps.toList.drop (HT.sIx x.length 0 lo)).take (HT.sIx x.length x.length hi - HT.sIx x.length 0 lo)) := rfl
  rw [this] at hc
  exact List.mem_of_mem_drop (List.mem_of_mem_take hc))⟩
/-- the weight of words: one more for each -/
def wt (ws : List Str) : Nat := (ws.map fun w => w.length + 1).sum
theorem wt_sum (ws : List Str) : wt ws = (ws.map (·.length)).sum + ws.length := by
  unfold wt
  induction ws with
  | nil => rfl
  | cons w ws ih => rw [List.map_cons, List.sum_cons, ih, List.map_cons, List.sum_cons, List.length_cons]; omega
theorem wt_app (a b : List Str) : wt (a ++ b) = wt a + wt b := by unfold wt; rw [List.map_append, List.sum_append]
theorem wt_join : ∀ ws : List Str, ws ≠ [] → (Str.join (Str.ofString " ") ws).length + 1 = wt ws
  | [], h => absurd rfl h
  | [x], _ => by show x.length + 1 = _; simp [wt]
  | x :: y :: r, _ => by
    have ih := wt_join (y :: r) (by simp)
    show (x ++ Str.ofString " " ++ Str.join (Str.ofString " ") (y :: r)).length + 1 = _
    rw [strLen_append, strLen_append, show (Str.ofString " ").length = 1 from rfl]
    unfold wt at ih ⊢
    rw [List.map_cons, List.sum_cons]
    omega
theorem words_ne (t : Str) : words t ≠ [] := fun e => by
  have := PyProof.Rows.split_pos t (Str.ofString " ")
  rw [show Txt.split t (Str.ofString " ") = [] from e] at this
  simp at this
theorem wt_words (t : Str) : wt (words t) = t.length + 1 := by
  rw [← wt_join _ (words_ne t), show Str.join (Str.ofString " ") (words t) = t from StrLaws.join_split t _]
open TL in
theorem joinL_mem {S : List Nat} {c : Nat} {p : List Nat} (hc : c ∈ p) : ∀ {ps : List (List Nat)}, p ∈ ps → c ∈ joinL S ps
  | [q], h => by rw [← List.mem_singleton.mp h]; exact hc
  | q :: r :: ps, h => by
    show c ∈ q ++ (S ++ joinL S (r :: ps))
    rcases List.mem_cons.mp h with rfl | h
    · exact List.mem_append.mpr (.inl hc)
    · exact List.mem_append.mpr (.inr (List.mem_append.mpr (.inr (joinL_mem hc h))))
theorem words_as {L : Nat} {t : Str} (h : As L t) : ∀ w ∈ words t, ∀ c ∈ TL.tl w, c < 128 := fun w hw c hc => h.c c (by
  have e : Str.join (Str.ofString " ") (words t) = t := StrLaws.join_split t _
  rw [← e, TL.tl_join]
  exact joinL_mem hc (List.mem_map.mpr ⟨w, hw, rfl⟩))
/-- words of a text, some left out, some twice -/
structure Ws (b : Nat) (ws : List Str) : Prop where
  w : wt ws ≤ b
  c : ∀ w ∈ ws, ∀ c ∈ TL.tl w, c < 128
theorem Ws.app {a b : Nat} {x y : List Str} (h : Ws a x) (k : Ws b y) : Ws (a + b) (x ++ y) := ⟨by rw [wt_app]; have := h.w; have := k.w; omega, fun w hw => (List.mem_append.mp hw).elim (h.c w) (k.c w)⟩
theorem wt_sub {a b : List Str} (h : a.Sublist b) : wt a ≤ wt b := by
  unfold wt
  induction h with
  | slnil => exact Nat.le_refl _
  | cons a _ ih => rw [List.map_cons, List.sum_cons]; omega
  | cons_cons a _ ih => rw [List.map_cons, List.sum_cons, List.map_cons, List.sum_cons]; omega
theorem Ws.sub {b : Nat} {x y : List Str} (h : Ws b x) (s : y.Sublist x) : Ws b y := ⟨Nat.le_trans (wt_sub s) h.w, fun w hw => h.c w (s.subset hw)⟩
theorem Ws.slice {b : Nat} {x : List Str} (h : Ws b x) (lo hi : Option Int) : ∃ y, sliceD (.list (x.map PyData.str)) lo hi = some (.list (y.map .str)) ∧ Ws b y :=
  ⟨(x.drop (HT.sIx x.length 0 lo)).take (HT.sIx x.length x.length hi - HT.sIx x.length 0 lo), by
    show some (PyData.list (cutD (x.map PyData.str) lo hi)) = _
    unfold cutD
    rw [List.length_map, ← List.map_drop, ← List.map_take], h.sub ((List.take_sublist _ _).trans (List.drop_sublist _ _))⟩
theorem Ws.cat {a b : Nat} {x y : List Str} (h : Ws a x) (k : Ws b y) (hb : a + b ≤ 1000000) : addD (.list (x.map .str)) (.list (y.map .str)) = some (.list ((x ++ y).map .str)) := by
  show (small (x.map PyData.str ++ y.map PyData.str)).map PyData.list = _
  have h1 := (h.app k).w
  rw [wt_sum] at h1
  rw [small_ok (by rw [← List.map_append, List.length_map]; omega), ← List.map_append]
  rfl
open TL in
theorem Ws.join {b : Nat} {x : List Str} (h : Ws b x) (hb : b ≤ 1000000) : ∃ u, joinD (Str.ofString " ") (.list (x.map .str)) = some (.str u) ∧ As b u := by
  have hw := h.w
  have hs := wt_sum x
  refine ⟨Str.join (Str.ofString " ") x, join_ok (by rw [show (Str.ofString " ").length = 1 from rfl]; omega), ?_, fun c hc => ?_⟩
  · cases x with
    | nil => exact Nat.zero_le _
    | cons w r =>
      have := wt_join (w :: r) (by simp)
      omega
  · rw [tl_join] at hc
    rcases mem_joinL hc with h1 | ⟨p, hp, h1⟩
    · have : tl (Str.ofString " ") = [32] := by decide +kernel
      rw [this] at h1
      rw [List.mem_singleton.mp h1]
      decide
    · obtain ⟨w, hw, rfl⟩ := List.mem_map.mp hp
      exact h.c w hw c h1
theorem Ws.words {L : Nat} {t : Str} (h : As L t) : Ws (L + 1) (words t) := ⟨by rw [wt_words]; have := h.l; omega, words_as h⟩
theorem sign12 {r : Int} (h0 : 0 ≤ r) (h1 : r < 12) : ∃ x, DD.getD (.list [.str "0", .str "1", .str "5", .str "9", .str "-", .str " ", .str "+", .str "_", .str ",", .str ":", .str "for", .str "x"]) (.int r) = some (.str x) ∧ As 3 x := by
  have : r = 0 ∨ r = 1 ∨ r = 2 ∨ r = 3 ∨ r = 4 ∨ r = 5 ∨ r = 6 ∨ r = 7 ∨ r = 8 ∨ r = 9 ∨ r = 10 ∨ r = 11 := by omega
  rcases this with h | h | h | h | h | h | h | h | h | h | h | h <;> subst h <;> exact ⟨_, rfl, As.of (by decide +kernel)⟩
theorem cat_str {a b : Str} (h : a.length + b.length ≤ 1000000) : addD (.str a) (.str b) = some (.str (a ++ b)) := by
  show (if a.length + b.length ≤ 1000000 then some (PyData.str (a ++ b)) else none) = _
  rw [if_pos h]
theorem cut_str {L : Nat} {x : Str} (h : As L x) (hl : L ≤ 900000) (lo hi : Option Int) : ∃ u, sliceTD (.str x) lo hi = some (.str u) ∧ As L u := ⟨cutS x lo hi, by
  show (if x.length ≤ 1000000 then some (PyData.str (cutS x lo hi)) else none) = _
  rw [if_pos (by have := h.l; omega)], h.cut lo hi⟩
theorem mul_str {x : Str} (h : As 3 x) {r : Int} (h0 : 0 ≤ r) (h1 : r < 2) : ∃ u, mulTD (.str x) (.int r) = some (.str u) ∧ As 3 u := by
  have : r = 0 ∨ r = 1 := by omega
  rcases this with rfl | rfl
  · exact ⟨Str.empty, rfl, As.of (by decide +kernel)⟩
  · exact ⟨x, rfl, h⟩
theorem bent_ok {L : Nat} {t : Str} (h : As L t) (hL : L ≤ 100000) : Tri 6 (m__law_bent (.str t)) (fun d => ∃ u, d = .str u ∧ As (3 * L + 3) u) := by
  have hl := h.l
  have hw := Ws.words h
  have hwl : (words t).length ≤ 100001 := by have := hw.w; rw [wt_sum] at this; omega
  have hw1 : 1 ≤ (words t).length := Nat.pos_of_ne_zero fun e => words_ne t (List.eq_nil_of_length_eq_zero e)
  unfold m__law_bent
  simp only [op2, op1, cmp2, chain3, tst, notB, andB, orB, andD, orD, iteM, consM, starM, smallM, tupM, tupSM, lstM, argV, argK, comp1, comp1i, comp2, comp2i, comp11, seqM, rng1, rng2, zipSM, zip2M, zip3M, enumM, repM, joinM, catM, par3LM, put2M, popM, parLV, putVM, unpS, trg1M, orV, lrg1M, par3M, rdM, rdLM, partM, slcM, isiM, rtM, forM1, forM2, forM3, parM, unp2, unp3, wb_assoc, wb_pure]
  refine Tri.bindL (show txtD (.str t) = some t from rfl) (Tri.bindL (split_b (by omega)) ?_)
  refine Tri.bindL (len_lst _) ?_
  rw [List.length_map]
  refine Tri.dr (by omega) (by omega) fun a a0 a1 => Tri.dr (by decide) (by decide) fun w w0 w1 => ?_
  have eqw : ∀ k : Int, (eqD (.int w) (.int k)).bind boolD = some (w == k) := fun k => by rw [eq_int]; rfl
  have oi : ∀ i : Int, oint (.int i) = some (some i) := fun _ => rfl
  have fin : ∀ {b : Nat} {x : List Str} {d : Nat}, Ws b x → b ≤ 3 * L + 3 → Tri d (Mo.lift (joinD (Str.ofString " ") (.list (x.map .str))) : W D) (fun d => ∃ u, d = .str u ∧ As (3 * L + 3) u) := fun {b x d} hx hb => by
    obtain ⟨u, eu, hu⟩ := hx.join (by omega)
    exact Tri.li eu ⟨u, rfl, hu.le hb⟩
  obtain ⟨x1, e1, h1⟩ := hw.slice none (some a)
  obtain ⟨x2, e2, h2⟩ := hw.slice (some a) (some (a + 1))
  obtain ⟨x3, e3, h3⟩ := hw.slice (some a) none
  obtain ⟨x4, e4, h4⟩ := hw.slice (some (a + 1)) none
  refine Tri.bindL (eqw 0) (Tri.ite (fun _ => ?_) fun _ => Tri.bindL (eqw 1) (Tri.ite (fun _ => ?_) fun _ => Tri.bindL (eqw 2) (Tri.ite (fun _ => ?_) fun _ => Tri.bindL (eqw 3) (Tri.ite (fun _ => ?_) fun _ => ?_))))
  · refine Tri.bindL (show strOnly (.str " ") = some _ from rfl) (Tri.bindL (oi a) (Tri.bindL e1 (Tri.bindL (oi a) (Tri.bindL (add_int _ _) (Tri.bindL (oi _) (Tri.bindL e2 (Tri.bindL (h1.cat h2 (by omega)) (Tri.bindL (oi a) (Tri.bindL e3 (Tri.bindL ((h1.app h2).cat h3 (by omega)) ?_))))))))))
    exact fin ((h1.app h2).app h3) (by omega)
  · refine Tri.bindL (show strOnly (.str " ") = some _ from rfl) (Tri.bindL (oi a) (Tri.bindL e3 (Tri.bindL (oi a) (Tri.bindL e1 (Tri.bindL (h3.cat h1 (by omega)) ?_)))))
    exact fin (h3.app h1) (by omega)
  · refine Tri.bindL (show strOnly (.str " ") = some _ from rfl) (Tri.bindL (oi a) (Tri.bindL e1 (Tri.bindL (add_int _ _) (Tri.bindL (oi _) (Tri.bindL e4 (Tri.bindL (h1.cat h4 (by omega)) ?_))))))
    exact fin (h1.app h4) (by omega)
  · refine Tri.bindL (show strOnly (.str " ") = some _ from rfl) (Tri.bindL (oi a) (Tri.bindL e3 (Tri.bindL (hw.cat h3 (by omega)) ?_)))
    exact fin (hw.app h3) (by omega)
  · refine Tri.bindL (len_str (by omega)) (Tri.bindL (add_int _ _) (Tri.dr (by omega) (by omega) fun p p0 p1 => ?_))
    refine Tri.dr (by decide) (by decide) fun s s0 s1 => ?_
    obtain ⟨x, ex, hx⟩ := sign12 s0 s1
    refine Tri.bindL ex ?_
    obtain ⟨u1, eu1, hu1⟩ := cut_str h (by omega) none (some p)
    refine Tri.bindL (oi p) (Tri.bindL eu1 (Tri.dr (by decide) (by decide) fun m m0 m1 => ?_))
    obtain ⟨u2, eu2, hu2⟩ := mul_str hx m0 m1
    refine Tri.bindL eu2 (Tri.bindL (cat_str (by have := hu1.l; have := hu2.l; omega)) (Tri.dr (by decide) (by decide) fun z z0 z1 => ?_))
    obtain ⟨u3, eu3, hu3⟩ := cut_str h (by omega) (some (p + z)) none
    refine Tri.bindL (add_int _ _) (Tri.bindL (oi _) (Tri.bindL eu3 (Tri.li (cat_str (by have := (hu1.app hu2).l; have := hu3.l; omega)) ⟨_, rfl, ((hu1.app hu2).app hu3).le (by omega)⟩)))
/-! ### texts written and read back -/
open TL in
theorem numL_head {n : Nat} (h : 0 < n) : (numL n).head? ≠ some 48 := by
  induction n using Nat.strongRecOn with
  | _ n ih =>
    by_cases h10 : n < 10
    · rw [numL_lt h10]
      intro e
      injection e with e
      omega
    · rw [numL_step (by omega)]
      have hne := numL_ne (n / 10)
      cases e : numL (n / 10) with
      | nil => exact absurd e hne
      | cons c l =>
        have := ih (n / 10) (by omega) (by omega)
        rw [e] at this
        exact this
open TL in
theorem len_tl (w : Str) : w.length = (tl w).length := rfl
open TL in
theorem numP_nstr {i : Int} (h0 : 0 ≤ i) (h : i ≤ 9999999) : numP (nstr i) = some i := by
  obtain ⟨n, rfl⟩ := Int.eq_ofNat_of_zero_le h0
  have ht : tl (nstr ((n : Nat) : Int)) = numL n := tl_num n
  have hl : (nstr ((n : Nat) : Int)).length = (numL n).length := by rw [len_tl, ht]
  have h1 : 1 ≤ (numL n).length := by
    have := numL_ne n
    cases e : numL n with
    | nil => exact absurd e this
    | cons c l => simp
  have h7 : (numL n).length ≤ 7 := numL_len (by decide) (by omega)
  have hf : figB (nstr ((n : Nat) : Int)) = true := by
    unfold figB
    rw [ht, List.all_eq_true]
    intro c hc
    exact decide_eq_true (numL_digits n c hc)
  have hh : (tl (nstr ((n : Nat) : Int))).head? ≠ some 48 ∨ nstr ((n : Nat) : Int) = Str.ofString "0" := by
    by_cases h0 : n = 0
    · subst h0; exact .inr rfl
    · rw [ht]
      exact .inl (numL_head (by omega))
  rw [numP_yes ⟨by omega, by omega, hf, hh⟩, ht, numL_val]
open TL in
theorem parts_ntext {r : List Int} (hne : r ≠ []) (hg : ∀ x ∈ r, 0 ≤ x) : parts (ntext r) = r.map nstr := by
  unfold parts ntext
  rw [← join_eq]
  refine split_join (s := 44) (S := []) (by decide +kernel) (by decide +kernel) (by simpa using hne) fun p hp => ?_
  obtain ⟨i, hi, rfl⟩ := List.mem_map.mp hp
  rw [tl_nstr (hg i hi)]
  exact numL_free (.inl (by decide))
theorem numsP_ntext {r : List Int} (hne : r ≠ []) (hg : ∀ x ∈ r, 0 ≤ x ∧ x ≤ 9999999) : numsP (ntext r) = some r := by
  unfold numsP
  rw [parts_ntext hne fun x hx => (hg x hx).1, allO_iff, List.map_map]
  exact List.map_congr_left fun x hx => numP_nstr (hg x hx).1 (hg x hx).2
theorem numsQ_ntext {r : List Int} (hne : r ≠ []) (hg : ∀ x ∈ r, 0 ≤ x ∧ x ≤ 50) : numsQ (ntext r) = some r := by
  rw [numsQ_of, numsP_ntext hne fun x hx => by have := hg x hx; omega]
  show (if _ then _ else _) = _
  rw [if_pos (decide_eq_true fun x hx => (hg x hx).2)]
open TL in
theorem nosp_ntext {r : List Int} (hg : ∀ x ∈ r, 0 ≤ x) : 32 ∉ tl (ntext r) := fun h => by
  rcases ntext_chars hg 32 h with h | h <;> omega
open TL in
theorem words_join {ws : List Str} (hne : ws ≠ []) (h : ∀ w ∈ ws, 32 ∉ tl w) : words (Str.join " " ws) = ws := by
  unfold words
  rw [← join_eq]
  exact split_join (s := 32) (S := []) (by decide +kernel) (by decide +kernel) hne h
/-! ### a text that is accepted is the text of what it denotes -/
abbrev Sta : Type := List (List Int) × List (List Int)
def stD (s : Sta) : D := .tuple [tT s.1, tT s.2]
structure GoodS (k : Nat) (s : Sta) : Prop where
  st : Stk 50 k s.1
  ro : Wishes k 50 s.2
open TL in
theorem ntext_ne {r : List Int} (hg : ∀ x ∈ r, 0 ≤ x) (w : Str) (hw : ∃ c ∈ tl w, c ≠ 44 ∧ ¬ (48 ≤ c ∧ c ≤ 57)) : ntext r ≠ w := fun e => by
  obtain ⟨c, hc, h1, h2⟩ := hw
  rw [← e] at hc
  rcases ntext_chars hg c hc with h | h
  · exact h1 h
  · exact h2 h
theorem findS_app {x : Str} : ∀ {A B : List Str}, x ∉ A → findS x (A ++ x :: B) = some A.length
  | [], B, _ => by
    show (if x = x then some 0 else _) = _
    rw [if_pos rfl]
    rfl
  | a :: A, B, h => by
    have ih := findS_app (A := A) (B := B) fun hx => h (List.mem_cons_of_mem _ hx)
    show (if a = x then some 0 else (findS x (A ++ x :: B)).map (· + 1)) = _
    rw [if_neg (fun e => h (by rw [e]; exact List.mem_cons_self)), ih]
    rfl
open TL in
/-- the text of a cabinet is read back -/
theorem cabX_text {n : Nat} {s : Sta} (g : GoodS n s) : cabX (ctext s.1 s.2) = .ok (stD s) := by
  obtain ⟨T, C⟩ := s
  have st := g.st
  have ro := g.ro
  have st : Stk 50 n T := st
  have ro : Wishes n 50 C := ro
  have k4 := st.k4
  have k1 := st.k1
  have ne : ∀ r : List Int, r.length = n → r ≠ [] := fun r hr e => by rw [e] at hr; simp at hr; omega
  have qT : ∀ r ∈ T, numsQ (ntext r) = some r := fun r hr => numsQ_ntext (ne r (st.len r hr)) (st.ge r hr)
  have qC : ∀ r ∈ C, numsQ (ntext r) = some r := fun r hr => numsQ_ntext (ne r (ro.len r hr)) (ro.ge r hr)
  have gT : ∀ r ∈ T, ∀ x ∈ r, 0 ≤ x := fun r hr x hx => (st.ge r hr x hx).1
  have gC : ∀ r ∈ C, ∀ x ∈ r, 0 ≤ x := fun r hr x hx => (ro.ge r hr x hx).1
  have hfor : 32 ∉ tl (Str.ofString "for") := by decide +kernel
  have hW : words (ctext T C) = T.map ntext ++ Str.ofString "for" :: C.map ntext := by
    refine words_join (by simp) fun w hw => ?_
    rcases List.mem_append.mp hw with h | h
    · obtain ⟨r, hr, rfl⟩ := List.mem_map.mp h
      exact nosp_ntext (gT r hr)
    · rcases List.mem_cons.mp h with rfl | h
      · exact hfor
      · obtain ⟨r, hr, rfl⟩ := List.mem_map.mp h
        exact nosp_ntext (gC r hr)
  have hE : endOf (T.map ntext ++ Str.ofString "for" :: C.map ntext) = T.length := by
    unfold endOf
    rw [findS_app fun h => ?_]
    · simp
    · obtain ⟨r, hr, e⟩ := List.mem_map.mp h
      exact ntext_ne (gT r hr) _ ⟨102, by decide +kernel, by decide, by decide⟩ e
  have tk : (T.map ntext ++ Str.ofString "for" :: C.map ntext).take T.length = T.map ntext := List.take_left' (by simp)
  have dr : (T.map ntext ++ Str.ofString "for" :: C.map ntext).drop (T.length + 1) = C.map ntext := by
    rw [show T.map ntext ++ Str.ofString "for" :: C.map ntext = (T.map ntext ++ [Str.ofString "for"]) ++ C.map ntext by simp]
    exact List.drop_left' (by simp)
  have rT : (T.map ntext).map rowOf = T := by
    rw [List.map_map]
    conv => rhs; rw [← List.map_id T]
    exact List.map_congr_left fun r hr => by show (numsQ (ntext r)).getD [] = r; rw [qT r hr]; rfl
  have rC : (C.map ntext).map rowOf = C := by
    rw [List.map_map]
    conv => rhs; rw [← List.map_id C]
    exact List.map_congr_left fun r hr => by show (numsQ (ntext r)).getD [] = r; rw [qC r hr]; rfl
  have fk : firstK (T.map ntext) = n := by
    have h1 := st.one
    cases T with
    | nil => simp at h1
    | cons r T =>
      show ((numsQ (ntext r)).getD []).length = n
      rw [qT r List.mem_cons_self]
      exact st.len r List.mem_cons_self
  have f1 : ((T.map ntext).zipIdx).find? (badD n) = none := by
    rw [List.find?_eq_none]
    rintro ⟨w, i⟩ hx
    obtain ⟨hi, hw⟩ := List.mem_zipIdx' hx
    have hm : w ∈ T.map ntext := by rw [hw]; exact List.getElem_mem hi
    obtain ⟨r, hr, rfl⟩ := List.mem_map.mp hm
    have hl := st.len r hr
    have h4 := st.four
    rw [List.length_map] at hi
    unfold badD
    rw [qT r hr]
    simp only [Bool.or_eq_true, decide_eq_true_eq]
    omega
  have f2 : ((C.map ntext).zipIdx).find? (badC n) = none := by
    rw [List.find?_eq_none]
    rintro ⟨w, i⟩ hx
    obtain ⟨hi, hw⟩ := List.mem_zipIdx' hx
    have hm : w ∈ C.map ntext := by rw [hw]; exact List.getElem_mem hi
    obtain ⟨r, hr, rfl⟩ := List.mem_map.mp hm
    have hl := ro.len r hr
    have h4 := ro.four
    have hp := ro.pos r hr
    rw [List.length_map] at hi
    unfold badC
    rw [qC r hr]
    simp only [Bool.or_eq_true, decide_eq_true_eq, Bool.not_eq_true', decide_eq_false_iff_not]
    rintro ((h | h) | h)
    · exact h hl
    · exact h hp
    · omega
  unfold cabX
  simp only [hW, hE, tk, dr]
  unfold stockX
  rw [fk, f1]
  simp only
  rw [if_neg fun e => by have h1 := st.one; rw [List.map_eq_nil_iff.mp e] at h1; simp at h1]
  simp only
  rw [f2]
  simp only
  rw [if_neg fun e => by have h1 := ro.one; rw [List.map_eq_nil_iff.mp e] at h1; simp at h1, rT, rC]
  rfl
open TL in
theorem numL_back : ∀ (k : Nat) (l : List Nat), l.length ≤ k → l ≠ [] → (∀ c ∈ l, 48 ≤ c ∧ c ≤ 57) → (l.head? ≠ some 48 ∨ l = [48]) → numL (NumText.digitsVal l) = l
  | 0, l, hk, hne, _, _ => absurd (List.length_eq_zero_iff.mp (by omega)) hne
  | k + 1, l, hk, hne, hd, hh => by
    obtain ⟨ini, c, rfl⟩ : ∃ ini c, l = ini ++ [c] := ⟨l.dropLast, l.getLast hne, (List.dropLast_concat_getLast hne).symm⟩
    have hc := hd c (by simp)
    rw [NumText.digitsVal_snoc]
    cases ini with
    | nil =>
      have e : NumText.digitsVal [] * 10 + (c - 48) = c - 48 := by show 0 * 10 + (c - 48) = c - 48; omega
      rw [List.nil_append, e, numL_lt (by omega)]
      congr 1
      omega
    | cons h t =>
      have hh' := hd h (by simp)
      have h48 : h ≠ 48 := fun e => by
        rcases hh with hh | hh
        · exact hh (by rw [e]; rfl)
        · have := congrArg List.length hh
          simp at this
      have ih := numL_back k (h :: t) (by simp at hk ⊢; omega) (by simp) (fun d hdm => hd d (List.mem_append_left _ hdm)) (.inl fun e => h48 (by simpa using e))
      have hp := NumText.digitsVal_pos (c := h) (cs := t) (by omega)
      generalize NumText.digitsVal (h :: t) = v at ih hp ⊢
      rw [numL_step (by omega), show (v * 10 + (c - 48)) / 10 = v by omega, show (v * 10 + (c - 48)) % 10 = c - 48 by omega, ih]
      congr 2
      omega
open TL in
theorem nstr_back {w : Str} {v : Int} (h : numQ w = some v) : nstr v = w := by
  unfold numQ at h
  obtain ⟨h, _⟩ := Option.filter_eq_some_iff.mp h
  unfold numP at h
  split at h
  · rename_i hc
    obtain ⟨h1, h7, hf, hz⟩ := hc
    cases h
    have ht : tl (nstr ((NumText.digitsVal (tl w) : Nat) : Int)) = numL (NumText.digitsVal (tl w)) := tl_num _
    refine ext_tl ?_
    rw [ht]
    refine numL_back _ _ (Nat.le_refl _) (fun e => ?_) (fun c hc => ?_) ?_
    · have : w.length = 0 := by rw [len_tl, e]; rfl
      omega
    · unfold figB at hf
      exact of_decide_eq_true (List.all_eq_true.mp hf c hc)
    · rcases hz with hz | rfl
      · exact .inl hz
      · exact .inr (by decide +kernel)
  · cases h
theorem map_back : ∀ {ws : List Str} {r : List Int}, ws.map numQ = r.map some → r.map nstr = ws
  | [], [], _ => rfl
  | w :: ws, v :: r, h => by
    rw [List.map_cons, List.map_cons] at h
    injection h with h1 h2
    rw [List.map_cons, nstr_back h1, map_back h2]
  | [], _ :: _, h => by cases h
  | _ :: _, [], h => by cases h
theorem ntext_back {w : Str} {r : List Int} (h : numsQ w = some r) : ntext r = w := by
  unfold ntext
  rw [map_back (allO_iff.mp h)]
  exact StrLaws.join_split w _
theorem lay_rows {ws : List Str} (h : ∀ w ∈ ws, numsQ w ≠ none) : (ws.map rowOf).map ntext = ws := by
  rw [List.map_map]
  conv => rhs; rw [← List.map_id ws]
  refine List.map_congr_left fun w hw => ?_
  obtain ⟨r, hr⟩ := Option.ne_none_iff_exists'.mp (h w hw)
  show ntext ((numsQ w).getD []) = w
  rw [hr]
  exact ntext_back hr
theorem zip_of {ws : List Str} {w : Str} (h : w ∈ ws) : ∃ i, (w, i) ∈ ws.zipIdx := by
  obtain ⟨i, hi, rfl⟩ := List.getElem_of_mem h
  exact ⟨i, by rw [List.mem_zipIdx_iff_getElem?]; simp⟩
theorem badD_no {n : Nat} {w : Str} {i : Nat} (h : ¬ badD n (w, i) = true) : ∃ r, numsQ w = some r ∧ r.length ≤ 4 ∧ r.length = n ∧ i ≠ 4 := by
  unfold badD at h
  dsimp only at h
  split at h
  · exact absurd rfl h
  · rename_i r hr
    simp only [Bool.or_eq_true, decide_eq_true_eq, not_or] at h
    exact ⟨r, hr, by omega, by omega, h.2⟩
theorem badC_no {n : Nat} {w : Str} {i : Nat} (h : ¬ badC n (w, i) = true) : ∃ r, numsQ w = some r ∧ r.length = n ∧ i ≠ 4 := by
  unfold badC at h
  dsimp only at h
  split at h
  · exact absurd rfl h
  · rename_i r hr
    simp only [Bool.or_eq_true, decide_eq_true_eq, not_or] at h
    exact ⟨r, hr, by omega, h.2⟩
theorem rws_of {ws : List Str} (hne : ws ≠ []) (h : ∀ w i, (w, i) ∈ ws.zipIdx → ∃ r, numsQ w = some r ∧ r.length ≤ 4 ∧ i ≠ 4) : Rws (ws.map rowOf) := by
  have row : ∀ r ∈ ws.map rowOf, ∃ w, numsQ w = some r ∧ r.length ≤ 4 := fun r hr => by
    obtain ⟨w, hw, rfl⟩ := List.mem_map.mp hr
    obtain ⟨i, hi⟩ := zip_of hw
    obtain ⟨r, e, h4, _⟩ := h w i hi
    have : rowOf w = r := by show (numsQ w).getD [] = r; rw [e]; rfl
    rw [this]
    exact ⟨w, e, h4⟩
  refine ⟨?_, ?_, fun r hr => ?_, fun r hr x hx => ?_⟩
  · rw [List.length_map]
    cases ws with
    | nil => exact absurd rfl hne
    | cons w ws => simp
  · rw [List.length_map]
    rcases Nat.lt_or_ge 4 ws.length with h5 | h5
    · obtain ⟨_, _, _, h⟩ := h ws[4] 4 (by rw [List.mem_zipIdx_iff_getElem?]; simp [h5])
      exact absurd rfl h
    · exact h5
  · obtain ⟨w, e, h4⟩ := row r hr
    have := (numsQ_ge e).1
    cases r with
    | nil => exact absurd rfl this
    | cons x r => exact ⟨by simp, h4⟩
  · obtain ⟨w, e, _⟩ := row r hr
    have := (numsQ_ge e).2 x hx
    omega
theorem cabX_back {s : Str} {d : D} (h : cabX s = .ok d) : ∃ S C, d = .tuple [tT S, tT C] ∧ Rws S ∧ Rws C ∧ ctext S C = s := by
  unfold cabX at h
  dsimp only at h
  generalize hW : words s = W at h
  generalize he : endOf W = e at h
  cases hS : stockX (W.take e) with
  | error x => rw [hS] at h; cases h
  | ok S0 =>
    obtain ⟨h1, rfl, h2⟩ := stockX_ok hS
    rw [hS] at h
    dsimp only at h
    split at h
    · cases h
    rename_i h3
    split at h
    · cases h
    rename_i h4
    cases h
    have g1 : ∀ w i, (w, i) ∈ (W.take e).zipIdx → ∃ r, numsQ w = some r ∧ r.length ≤ 4 ∧ r.length = firstK (W.take e) ∧ i ≠ 4 := fun w i hw => badD_no (List.find?_eq_none.mp h2 _ hw)
    have g2 : ∀ w i, (w, i) ∈ (W.drop (e + 1)).zipIdx → ∃ r, numsQ w = some r ∧ r.length = firstK (W.take e) ∧ i ≠ 4 := fun w i hw => badC_no (List.find?_eq_none.mp h3 _ hw)
    have f4 : firstK (W.take e) ≤ 4 := by
      cases hT : W.take e with
      | nil => exact absurd hT h1
      | cons w ws =>
        obtain ⟨r, e1, h4, h5, _⟩ := g1 w 0 (by rw [hT]; simp [List.zipIdx])
        rw [hT] at h5
        omega
    have l1 : ((W.take e).map rowOf).map ntext = W.take e := lay_rows fun w hw => by
      obtain ⟨i, hi⟩ := zip_of hw
      obtain ⟨r, e1, _⟩ := g1 w i hi
      rw [e1]
      simp
    have l2 : ((W.drop (e + 1)).map rowOf).map ntext = W.drop (e + 1) := lay_rows fun w hw => by
      obtain ⟨i, hi⟩ := zip_of hw
      obtain ⟨r, e1, _⟩ := g2 w i hi
      rw [e1]
      simp
    have lt : e + 1 < W.length := by
      rcases Nat.lt_or_ge (e + 1) W.length with h | h
      · exact h
      · exact absurd (List.drop_eq_nil_of_le h) h4
    have at_e : W[e]? = some (Str.ofString "for") := by
      unfold endOf at he
      cases hf : findS (Str.ofString "for") W with
      | none => rw [hf] at he; simp at he; omega
      | some i =>
        rw [hf] at he
        have : i = e := he
        rw [← this]
        exact (findS_at hf).1
    have hsp : W = W.take e ++ Str.ofString "for" :: W.drop (e + 1) := by
      have hlt : e < W.length := by omega
      have := List.getElem?_eq_getElem hlt
      rw [at_e] at this
      injection this with this
      conv => lhs; rw [← List.take_append_drop e W]
      rw [List.drop_eq_getElem_cons hlt, ← this]
    refine ⟨_, _, rfl, rws_of h1 fun w i hw => ?_, rws_of h4 fun w i hw => ?_, ?_⟩
    · obtain ⟨r, e1, h4, _, h5⟩ := g1 w i hw
      exact ⟨r, e1, h4, h5⟩
    · obtain ⟨r, e1, h4, h5⟩ := g2 w i hw
      exact ⟨r, e1, by omega, h5⟩
    · unfold ctext
      rw [l1, l2, ← hsp, ← hW]
      exact StrLaws.join_split s _
theorem exc_bad {α : Type} {x : D} {h : D → Option α} {r : Option α} : exc1 (m := Option) "BadText" "index" ⟨"BadText", [("index", x)]⟩ h r = h x := by
  unfold exc1
  rw [if_pos rfl]
  dsimp only
  rw [if_pos rfl]
theorem accepted_ok {u : Str} (hl : u.length ≤ 900000) : M__law_accepted_right [.val (.str u)] = some (.bool true) := by
  show m__law_accepted_right (.str u) = _
  unfold m__law_accepted_right
  have hp : MX_parse_cabinet [.val (.str u)] = retX (cabX u) := pcab_eq hl
  show ((tryO ((MX_parse_cabinet [.val (.str u)]) >>= fun v => (pure (.nx v) : Xo (Fl D))) _) >>= _) = _
  rw [hp]
  cases hc : cabX u with
  | error e =>
    obtain ⟨i, rfl⟩ := cabX_err hc
    rw [try_err, exc_bad]
    rfl
  | ok d =>
    obtain ⟨S, C, rfl, hS, hC, rfl⟩ := cabX_back hc
    show (M_cabinet_text [.val (tT S), .val (tT C)] >>= fun d => eqD d (.str (ctext S C))) = _
    rw [show M_cabinet_text [.val (tT S), .val (tT C)] = some (.str (ctext S C)) from ctext_eq hS hC]
    show some (PyData.bool (decide (ctext S C = ctext S C))) = _
    rw [decide_eq_true rfl]
/-! ### the drawn cabinets -/
theorem collP_ok {k most : Int} (k0 : 1 ≤ k) (k1 : k ≤ 4) (m0 : 1 ≤ most) (m1 : most ≤ 50) : Tri 10 (m__law_collection (.int k) (.int most)) (fun d => ∃ r : List Int, d = tI r ∧ r.length = k.toNat ∧ (∀ x ∈ r, 0 ≤ x ∧ x ≤ 50) ∧ ∃ x ∈ r, 0 < x) := by
  unfold m__law_collection
  simp only [op2, op1, cmp2, chain3, tst, notB, andB, orB, andD, orD, iteM, consM, starM, smallM, tupM, tupSM, lstM, argV, argK, comp1, comp1i, comp2, comp2i, comp11, seqM, rng1, rng2, zipSM, zip2M, zip3M, enumM, repM, joinM, catM, par3LM, put2M, popM, parLV, putVM, unpS, trg1M, orV, lrg1M, par3M, rdM, rdLM, partM, slcM, isiM, rtM, forM1, forM2, forM3, parM, unp2, unp3, wb_assoc, wb_pure]
  refine Tri.bindL (range1_ok (by omega) (by omega)) (Tri.bindL (small_ok (by rw [rangeL_length]; omega)) ?_)
  refine Tri.st (b := 4 * 2) ((Tri.comp (c := 2) (P := fun _ d => ∃ r : Int, d = .int r ∧ (0 ≤ r ∧ r ≤ 50)) (rangeL 0 k.toNat) [] fun d _ => ?_).le (by rw [rangeL_length]; omega)) ?_
  · refine Tri.bindL (add_int _ _) (Tri.dr (by omega) (by omega) fun a a0 a1 => Tri.dr (by decide) (by decide) fun b b0 b1 => Tri.bindL (gt_int _ _) (Tri.bindL (int_bool _) (Tri.li (mul_int (.inl ⟨by omega, by omega⟩)) ⟨_, rfl, ?_⟩)))
    cases decide (0 < b)
    · simp
    · simp; omega
  rintro out ⟨es, eo, esl, hes⟩
  obtain rfl : out = es := eo
  rw [rangeL_length] at esl
  obtain ⟨w, rfl, wg⟩ := ints_ex (P := fun r => 0 ≤ r ∧ r ≤ 50) out fun d hd => by
    obtain ⟨j, hj, rfl⟩ := List.getElem_of_mem hd
    exact hes j _ _ (List.getElem?_eq_getElem (by rw [rangeL_length]; omega)) (List.getElem?_eq_getElem hj)
  rw [List.length_map] at esl
  obtain ⟨v, ev⟩ : ∃ v, w.max? = some v := by
    cases w with
    | nil => simp at esl; omega
    | cons x w => exact ⟨_, rfl⟩
  refine Tri.bindL (max_lI ev) (Tri.bindL (a := (v == 0)) (by rw [eq_int]; rfl) ?_)
  refine Tri.thM (b := 2) (I := fun acc => ∃ w : List Int, acc = w.map .int ∧ w.length = k.toNat ∧ (∀ x ∈ w, 0 ≤ x ∧ x ≤ 50) ∧ ∃ x ∈ w, 0 < x) (Tri.ite (fun h => ?_) fun h => Tri.nx ⟨w, rfl, esl, wg, v, List.max?_mem ev, ?_⟩) ?_
  · refine Tri.dr (by omega) (by omega) fun y y0 y1 => Tri.bindL (add_int _ _) (Tri.dr (by omega) (by omega) fun z z0 z1 => ?_)
    obtain ⟨zn, rfl⟩ : ∃ n : Nat, z = (n : Int) := ⟨z.toNat, by omega⟩
    refine Tri.bindL (put_at (by rw [List.length_map]; omega)) (Tri.nx ⟨w.set zn (1 + y), by rw [List.map_set], by simpa using esl, fun x hx => ?_, 1 + y, List.mem_set (by omega) _, by omega⟩)
    rcases List.mem_or_eq_of_mem_set hx with hx | rfl
    · exact wg x hx
    · omega
  · have := wg v (List.max?_mem ev)
    have h' : v ≠ 0 := by simpa using h
    omega
  · rintro _ ⟨w, rfl, wl, wg⟩
    exact Tri.li (tup_lst _) ⟨w, rfl, wl, wg⟩
theorem pick3 {a b c : Int} {r : Int} (h0 : 0 ≤ r) (h1 : r < 3) : ∃ v : Int, getD (.list [.int a, .int b, .int c]) (.int r) = some (.int v) ∧ (v = a ∨ v = b ∨ v = c) := by
  have : r = 0 ∨ r = 1 ∨ r = 2 := by omega
  rcases this with rfl | rfl | rfl
  · exact ⟨a, rfl, .inl rfl⟩
  · exact ⟨b, rfl, .inr (.inl rfl)⟩
  · exact ⟨c, rfl, .inr (.inr rfl)⟩
theorem stateP_ok {most : Int} (m0 : 1 ≤ most) (m1 : most ≤ 50) : Tri 70 (m__law_state (.int most)) (fun d => ∃ n s, d = stD s ∧ GoodS n s) := by
  unfold m__law_state
  simp only [op2, op1, cmp2, chain3, tst, notB, andB, orB, andD, orD, iteM, consM, starM, smallM, tupM, tupSM, lstM, argV, argK, comp1, comp1i, comp2, comp2i, comp11, seqM, rng1, rng2, zipSM, zip2M, zip3M, enumM, repM, joinM, catM, par3LM, put2M, popM, parLV, putVM, unpS, trg1M, orV, lrg1M, par3M, rdM, rdLM, partM, slcM, isiM, rtM, forM1, forM2, forM3, parM, unp2, unp3, wb_assoc, wb_pure]
  refine Tri.dr (by decide) (by decide) fun a a0 a1 => Tri.bindL (add_int _ _) (Tri.dr (by decide) (by decide) fun b b0 b1 => Tri.bindL (add_int _ _) ?_)
  refine Tri.bindL (a := (.int (1 + a), .int (1 + b))) rfl ?_
  refine Tri.dr (by decide) (by decide) fun r r0 r1 => ?_
  obtain ⟨top, et, ht⟩ := pick3 (a := 1) (b := 3) (c := most) r0 r1
  refine Tri.bindL et ?_
  refine Tri.bindL (range1_ok (by omega) (by omega)) (Tri.bindL (small_ok (by rw [rangeL_length]; omega)) ?_)
  refine Tri.st (b := 4 * 4) ((Tri.comp (c := 4) (P := fun _ d => ∃ r : List Int, d = tI r ∧ (r.length = (1 + b).toNat ∧ ∀ x ∈ r, 0 ≤ x ∧ x ≤ 50)) (rangeL 0 (1 + a).toNat) [] fun d _ => ?_).le (by rw [rangeL_length]; omega)) ?_
  · refine Tri.bindL (range1_ok (by omega) (by omega)) (Tri.bindL (small_ok (by rw [rangeL_length]; omega)) ?_)
    refine Tri.st (b := 4 * 1) ((Tri.comp (c := 1) (P := fun _ d => ∃ r : Int, d = .int r ∧ (0 ≤ r ∧ r ≤ 50)) (rangeL 0 (1 + b).toNat) [] fun d _ => ?_).le (by rw [rangeL_length]; omega)) ?_
    · exact Tri.bindL (add_int _ _) ((Tri.draw (by omega) (by omega)).mono (Nat.le_refl _) fun d ⟨r, e, h0, h1⟩ => ⟨r, e, h0, by omega⟩)
    rintro out ⟨es, eo, esl, hes⟩
    obtain rfl : out = es := eo
    rw [rangeL_length] at esl
    obtain ⟨w, rfl, wg⟩ := ints_ex (P := fun r => 0 ≤ r ∧ r ≤ 50) out fun d hd => by
      obtain ⟨j, hj, rfl⟩ := List.getElem_of_mem hd
      exact hes j _ _ (List.getElem?_eq_getElem (by rw [rangeL_length]; omega)) (List.getElem?_eq_getElem hj)
    exact Tri.li (tup_lst _) ⟨w, rfl, by rw [List.length_map] at esl; exact esl, wg⟩
  rintro out ⟨es, eo, esl, hes⟩
  obtain rfl : out = es := eo
  rw [rangeL_length] at esl
  obtain ⟨S, rfl, hS⟩ := rows_ex (P := fun r => r.length = (1 + b).toNat ∧ ∀ x ∈ r, 0 ≤ x ∧ x ≤ 50) out fun d hd => by
    obtain ⟨j, hj, rfl⟩ := List.getElem_of_mem hd
    exact hes j _ _ (List.getElem?_eq_getElem (by rw [rangeL_length]; omega)) (List.getElem?_eq_getElem hj)
  rw [List.length_map] at esl
  refine Tri.bindL (tup_lst _) (Tri.dr (by decide) (by decide) fun c c0 c1 => Tri.bindL (add_int _ _) (Tri.bindL (range1_ok (by omega) (by omega)) (Tri.bindL (small_ok (by rw [rangeL_length]; omega)) ?_)))
  refine Tri.st (b := 4 * 11) ((Tri.comp (c := 11) (P := fun _ d => ∃ r : List Int, d = tI r ∧ (r.length = (1 + b).toNat ∧ (∀ x ∈ r, 0 ≤ x ∧ x ≤ 50) ∧ ∃ x ∈ r, 0 < x)) (rangeL 0 (1 + c).toNat) [] fun d _ => ?_).le (by rw [rangeL_length]; omega)) ?_
  · refine Tri.dr (by decide) (by decide) fun r r0 r1 => ?_
    obtain ⟨mo, em, hm⟩ := pick3 (a := 2) (b := 5) (c := most) r0 r1
    exact Tri.bindL em (collP_ok (by omega) (by omega) (by omega) (by omega))
  rintro out ⟨es, eo, esl2, hes2⟩
  obtain rfl : out = es := eo
  rw [rangeL_length] at esl2
  obtain ⟨C, rfl, hC⟩ := rows_ex (P := fun r => r.length = (1 + b).toNat ∧ (∀ x ∈ r, 0 ≤ x ∧ x ≤ 50) ∧ ∃ x ∈ r, 0 < x) out fun d hd => by
    obtain ⟨j, hj, rfl⟩ := List.getElem_of_mem hd
    exact hes2 j _ _ (List.getElem?_eq_getElem (by rw [rangeL_length]; omega)) (List.getElem?_eq_getElem hj)
  rw [List.length_map] at esl2
  exact Tri.bindL (tup_lst _) (Tri.pr ⟨(1 + b).toNat, (S, C), rfl, ⟨⟨by show 1 ≤ S.length; omega, by show S.length ≤ 4; omega, by omega, by omega, fun r hr => (hS r hr).1, fun r hr x hx => (hS r hr).2 x hx⟩, ⟨by show 1 ≤ C.length; omega, by show C.length ≤ 4; omega, fun r hr => (hC r hr).1, fun r hr x hx => (hC r hr).2.1 x hx, fun r hr => (hC r hr).2.2⟩⟩⟩)
theorem add_tTs {S M : List (List Int)} (h : S.length + M.length ≤ 1000) : addD (tT S) (tT M) = some (tT (S ++ M)) := by
  show addD (.tuple (S.map tI)) (.tuple (M.map tI)) = _
  rw [add_tup (by rw [List.length_map, List.length_map]; omega), ← List.map_append]
theorem totalsL_eq {k : Nat} {rows : List (List Int)} (h1 : 1 ≤ rows.length) (h4 : rows.length ≤ 4) (hl : ∀ r ∈ rows, r.length = k) (hk : k ≤ 1000) : m_totals_of (.list (rows.map tI)) = some (tI (cols rows k)) := by
  unfold m_totals_of
  simp only [op2, op1, cmp2, chain3, tst, notB, andB, orB, andD, orD, iteM, consM, starM, smallM, tupM, tupSM, lstM, argV, argK, comp1, comp1i, comp2, comp2i, comp11, seqM, rng1, rng2, zipSM, zip2M, zip3M, enumM, repM, joinM, catM, par3LM, put2M, popM, parLV, putVM, unpS, trg1M, orV, lrg1M, par3M, rdM, rdLM, partM, slcM, isiM, rtM, forM1, forM2, forM3, parM, unp2, unp3, ob_pure, ob_some, ob_lift, itemsD, Option.bind_some]
  rw [zip_rows h1 h4 hl, ob_some, small_ok (by simp; omega), ob_some, lcA_mapM (List.range k) [] (F := fun i => tI (col rows i)) (G := fun i => .int (col rows i).sum) fun i _ => sum_tI _]
  simp only [ob_some, ob_pure, tupleD, List.nil_append, tI, cols, List.map_map, Function.comp_def]
theorem nin_one (v w : Int) : ninD (.int v) (.list [.int w]) = some (.bool (!decide (v = w))) := by
  show (if laidIn (.int v) [.int w] = true then some (PyData.bool (!([PyData.int w].any fun y => PyData.eqv y (.int v)))) else (inStr (.int v) [.int w]).map fun b => PyData.bool !b) = _
  rw [if_pos (by rfl)]
  congr 3
  rw [Bool.eq_iff_iff, List.any_eq_true, decide_eq_true_eq]
  constructor
  · rintro ⟨y, hy, he⟩
    rw [List.mem_singleton.mp hy] at he
    have := (eqv_iff (.int w) (.int v) rfl rfl).mp he
    cases this
    rfl
  · rintro rfl
    exact ⟨_, List.mem_singleton.mpr rfl, eqv_self rfl⟩
/-- two drawers a, b put together -/
abbrev restL (n b : Nat) : List Nat := (List.range n).filter fun i => !decide ((i : Int) = (b : Int))
abbrev mrgS (S : List (List Int)) (k a b : Nat) : List (List Int) := (restL S.length b).map fun i => if i = a then cols [S.getD a [], S.getD b []] k else S.getD i []
theorem zip_list (S : List (List Int)) : S.zipIdx = (List.range S.length).map fun i => (S.getD i [], i) := by
  refine List.ext_getElem (by simp) fun i h1 h2 => ?_
  have : i < S.length := by simpa using h1
  simp [List.getD, this]
theorem merged_gen {k a b : Nat} {S : List (List Int)} (hl : ∀ r ∈ S, r.length = k) (k4 : k ≤ 4) (h4 : S.length ≤ 4) (ha : a < S.length) (hb : b < S.length) (h50 : ∀ x ∈ cols [S.getD a [], S.getD b []] k, x ≤ 50) : M_merged [.val (tT S), .val (.int (a : Nat)), .val (.int (b : Nat))] = some (tT (mrgS S k a b)) := by
  show (((valsOf [.val (.int (a : Nat)), .val (.int (b : Nat))]).bind small) >>= fun ds => m_merged (tT S) (.tuple ds)) = _
  rw [show (valsOf [.val (.int (a : Nat)), .val (.int (b : Nat))]).bind small = some [.int (a : Nat), .int (b : Nat)] from rfl, ob_some]
  have et : M_totals_of [.val (.list [tI (S.getD a []), tI (S.getD b [])])] = some (tI (cols [S.getD a [], S.getD b []] k)) := totalsL_eq (rows := [S.getD a [], S.getD b []]) (by simp) (by simp) (fun r hr => by
    rcases List.mem_cons.mp hr with rfl | hr
    · exact row_len hl ha
    · rw [List.mem_singleton.mp hr]; exact row_len hl hb) (by omega)
  unfold m_merged
  simp only [op2, op1, cmp2, chain3, tst, notB, andB, orB, andD, orD, iteM, consM, starM, smallM, tupM, tupSM, lstM, argV, argK, comp1, comp1i, comp2, comp2i, comp11, seqM, rng1, rng2, zipSM, zip2M, zip3M, enumM, repM, joinM, catM, par3LM, put2M, popM, parLV, putVM, unpS, trg1M, orV, lrg1M, par3M, rdM, rdLM, partM, slcM, isiM, rtM, forM1, forM2, forM3, parM, unp2, unp3, ob_pure, ob_some, ob_lift, Option.pure_def, add_int, sub_int, lt_int, le_int, gt_int, ge_int, eq_int, ne_int, min_int, max_int, neg_int, bool_bool, not_bool, is_none, isn_none, nn_int, nn_none, nn_tup, len_tup, len_lst, tup_lst, tup_tup, it_lst, it_tup, int_bool, int_int, oint_int, addI_int, subI_int, flat_tI, flat_int, flat_none, Option.bind_some, Option.map_some, Int.zero_add, thenB, thenM, List.nil_append, List.length_map, ob_assoc]
  refine bindE (a := (.int (a : Nat), [.int (b : Nat)])) rfl ?_
  have hc := lcA_mapP (m := Option) (γ := Nat) (f := fun d => getD (tT S) d) (F := fun i : Nat => PyData.int (i : Nat)) (G := fun i => tI (S.getD i [])) [a, b] [] fun i hi => get_row (by
    simp only [List.mem_cons, List.not_mem_nil, or_false] at hi
    rcases hi with rfl | rfl
    · exact ha
    · exact hb)
  refine bindE (small_ok (by simp)) (bindE (a := [tI (S.getD a []), tI (S.getD b [])]) hc (bindE et ?_))
  refine bindE (it_tup _) (bindE (a := Fl.nx ()) (loop_same (m := Option) _ fun x hx => ?_) ?_)
  · obtain ⟨y, hy, rfl⟩ := List.mem_map.mp hx
    have := h50 y hy
    rw [gt_int]
    show (if decide (50 < y) = true then _ else _) = _
    rw [if_neg (by simp; omega)]
    rfl
  · rw [enum_map]
    show (small _ >>= _) = _
    rw [small_ok (by simp; omega), ob_some]
    refine bindE (lcA_filt2 (m := Option) (γ := List Int × Nat) (Ga := fun p => .int (p.2 : Nat)) (Gb := fun p => tI p.1) (G := fun p => if p.2 = a then tI (cols [S.getD a [], S.getD b []] k) else tI p.1) (p := fun p => !decide ((p.2 : Int) = (b : Int))) (fun _ => rfl) S.zipIdx [] (fun p _ => ?_) (fun p _ _ => ?_)) ?_
    · show (ninD (.int (p.2 : Nat)) (.list [.int (b : Nat)])).bind boolD = _
      rw [nin_one]
      rfl
    · show ((eqD (.int (p.2 : Nat)) (.int (a : Nat))).bind boolD >>= _) = _
      rw [eq_int]
      show (if ((p.2 : Int) == (a : Int)) = true then _ else _) = _
      by_cases z : p.2 = a
      · rw [if_pos (by simp [z]), if_pos z] <;> rfl
      · rw [if_neg (by simp; omega), if_neg z] <;> rfl
    · rw [List.nil_append]
      refine congrArg (fun l => some (PyData.tuple l)) ?_
      rw [zip_list, List.filter_map, List.map_map, List.map_map]
      refine List.map_congr_left fun i _ => ?_
      show (if i = a then _ else _) = tI (if i = a then _ else _)
      split <;> rfl
/-- the drawers L put together -/
abbrev whole (S : List (List Int)) (k : Nat) (L : List Nat) : List Int := cols (L.map fun i => S.getD i []) k
abbrev others (n : Nat) (O : List Nat) : List Nat := (List.range n).filter fun i => !decide (i ∈ O)
abbrev mrgL (S : List (List Int)) (k a : Nat) (O : List Nat) : List (List Int) := (others S.length O).map fun i => if i = a then whole S k (a :: O) else S.getD i []
def mrgX (S : List (List Int)) (k a : Nat) (O : List Nat) : Except Exn D := match (whole S k (a :: O)).find? fun x => decide (50 < x) with
  | some x => .error ⟨"TooMuch", [("total", .int x)]⟩
  | none => .ok (tT (mrgL S k a O))
abbrev natsD (O : List Nat) : List D := O.map fun i => PyData.int (i : Nat)
theorem nats_lay (O : List Nat) : PyData.canLayAll0 (natsD O) = true := by
  induction O with
  | nil => rfl
  | cons x O ih => show (PyData.canLay0 (.int _) && PyData.canLayAll0 (natsD O)) = true; rw [ih]; rfl
theorem any_nats (v : Nat) (O : List Nat) : ((natsD O).any fun y => PyData.eqv y (.int (v : Nat))) = decide (v ∈ O) := by
  rw [Bool.eq_iff_iff, List.any_eq_true, decide_eq_true_eq]
  constructor
  · rintro ⟨y, hy, he⟩
    obtain ⟨w, hw, rfl⟩ := List.mem_map.mp hy
    have := (eqv_iff (.int (w : Nat)) (.int (v : Nat)) rfl rfl).mp he
    have : (w : Int) = (v : Int) := by cases this; rfl
    rw [show v = w from by omega]
    exact hw
  · intro h
    exact ⟨_, List.mem_map.mpr ⟨v, h, rfl⟩, eqv_self rfl⟩
theorem nin_nats (v : Nat) (O : List Nat) : ninD (.int (v : Nat)) (.list (natsD O)) = some (.bool (!decide (v ∈ O))) := by
  have h3 : laidIn (.int (v : Nat)) (natsD O) = true := by unfold laidIn; rw [nats_lay, Bool.and_true]; rfl
  show (if laidIn (.int (v : Nat)) (natsD O) = true then some (PyData.bool (!(natsD O).any fun y => PyData.eqv y (.int (v : Nat)))) else _) = _
  rw [if_pos h3, any_nats]
theorem merged_x {k a : Nat} {O : List Nat} {S : List (List Int)} (hl : ∀ r ∈ S, r.length = k) (k4 : k ≤ 4) (h4 : S.length ≤ 4) (ha : a < S.length) (hO : ∀ b ∈ O, b < S.length) (ho : O.length ≤ 3) : mx_merged (tT S) (.tuple (natsD (a :: O))) = some (mrgX S k a O) := by
  have et : M_totals_of [.val (.list ((a :: O).map fun i => tI (S.getD i [])))] = some (tI (whole S k (a :: O))) := by
    have := totalsL_eq (k := k) (rows := (a :: O).map fun i => S.getD i []) (by simp) (by simp; omega) (fun r hr => by
      obtain ⟨i, hi, rfl⟩ := List.mem_map.mp hr
      rcases List.mem_cons.mp hi with rfl | hi
      · exact row_len hl ha
      · exact row_len hl (hO i hi)) (by omega)
    rw [List.map_map] at this
    exact this
  have ec : ((argV (lstM (comp1 (seqM (pure (PyData.tuple (natsD (a :: O))))) (fun c30 => (op2 getD (pure (tT S)) (pure c30))))) (pure []) : Option (List Sl)) >>= M_totals_of) = some (tI (whole S k (a :: O))) := by
    simp only [op2, op1, cmp2, chain3, tst, notB, andB, orB, andD, orD, iteM, consM, starM, smallM, tupM, tupSM, lstM, argV, argK, comp1, comp1i, comp2, comp2i, comp11, seqM, rng1, rng2, zipSM, zip2M, zip3M, enumM, repM, joinM, catM, par3LM, put2M, popM, parLV, putVM, unpS, trg1M, orV, lrg1M, par3M, rdM, rdLM, partM, slcM, isiM, rtM, forM1, forM2, forM3, parM, unp2, unp3, ob_pure, ob_some, ob_lift, Option.pure_def, add_int, sub_int, lt_int, le_int, gt_int, ge_int, eq_int, ne_int, min_int, max_int, neg_int, bool_bool, not_bool, is_none, isn_none, nn_int, nn_none, nn_tup, len_tup, len_lst, tup_lst, tup_tup, it_lst, it_tup, int_bool, int_int, oint_int, addI_int, subI_int, flat_tI, flat_int, flat_none, Option.bind_some, Option.map_some, Int.zero_add, thenB, thenM, List.nil_append, List.length_map, ob_assoc]
    have hc := lcA_mapP (m := Option) (γ := Nat) (f := fun d => getD (tT S) d) (F := fun i : Nat => PyData.int (i : Nat)) (G := fun i => tI (S.getD i [])) (a :: O) [] fun i hi => get_row (by
      rcases List.mem_cons.mp hi with rfl | hi
      · exact ha
      · exact hO i hi)
    refine bindE (small_ok (by simp; omega)) (bindE (a := (a :: O).map fun i => tI (S.getD i [])) hc et)
  unfold mx_merged
  refine bindU (a := (.int (a : Nat), natsD O)) ?_ ?_
  · rfl
  · refine bindU ec ?_
    have hloop := loop_raise (A := Unit) (γ := Int) (f := fun x32 (a31 : Unit) => (iteM (upX (cmp2 gtD (pure x32) (pure (.int 50)))) (rtM ((upX (pure x32)) >>= fun d => MoX.throw ⟨"TooMuch", [("total", d)]⟩)) (pure (.nx ())))) (F := PyData.int) (p := fun x => decide (50 < x)) (R := fun x => ⟨"TooMuch", [("total", .int x)]⟩) (a := ()) (whole S k (a :: O)) fun x _ => by
      simp only [cmp2, iteM, gt_int]
      by_cases hx : 50 < x
      · rw [if_pos (by simpa using hx)]
        refine bindU (a := true) (by simp [op2, op1, cmp2, chain3, tst, notB, andB, orB, andD, orD, iteM, consM, starM, smallM, tupM, tupSM, lstM, argV, argK, comp1, comp1i, comp2, comp2i, comp11, seqM, rng1, rng2, zipSM, zip2M, zip3M, enumM, repM, joinM, catM, par3LM, put2M, popM, parLV, putVM, unpS, trg1M, orV, lrg1M, par3M, rdM, rdLM, partM, slcM, isiM, rtM, forM1, forM2, forM3, parM, unp2, unp3, ob_pure, ob_some, ob_lift, Option.pure_def, add_int, sub_int, lt_int, le_int, gt_int, ge_int, eq_int, ne_int, min_int, max_int, neg_int, bool_bool, not_bool, is_none, isn_none, nn_int, nn_none, nn_tup, len_tup, len_lst, tup_lst, tup_tup, it_lst, it_tup, int_bool, int_int, oint_int, addI_int, subI_int, flat_tI, flat_int, flat_none, Option.bind_some, Option.map_some, Int.zero_add, thenB, thenM, List.nil_append, List.length_map, hx]) ?_
        rfl
      · rw [if_neg (by simpa using hx)]
        refine bindU (a := false) (by simp [op2, op1, cmp2, chain3, tst, notB, andB, orB, andD, orD, iteM, consM, starM, smallM, tupM, tupSM, lstM, argV, argK, comp1, comp1i, comp2, comp2i, comp11, seqM, rng1, rng2, zipSM, zip2M, zip3M, enumM, repM, joinM, catM, par3LM, put2M, popM, parLV, putVM, unpS, trg1M, orV, lrg1M, par3M, rdM, rdLM, partM, slcM, isiM, rtM, forM1, forM2, forM3, parM, unp2, unp3, ob_pure, ob_some, ob_lift, Option.pure_def, add_int, sub_int, lt_int, le_int, gt_int, ge_int, eq_int, ne_int, min_int, max_int, neg_int, bool_bool, not_bool, is_none, isn_none, nn_int, nn_none, nn_tup, len_tup, len_lst, tup_lst, tup_tup, it_lst, it_tup, int_bool, int_int, oint_int, addI_int, subI_int, flat_tI, flat_int, flat_none, Option.bind_some, Option.map_some, Int.zero_add, thenB, thenM, List.nil_append, List.length_map, hx]) ?_
        rfl
    unfold mrgX
    show ((upX (seqM (pure (tI (whole S k (a :: O))))) >>= fun ds => loopM _ ds ()) >>= _) = _
    rw [MoL.as]
    refine bindU (a := (whole S k (a :: O)).map PyData.int) rfl ?_
    rw [hloop]
    cases hf : (whole S k (a :: O)).find? fun x => decide (50 < x) with
    | some x => rfl
    | none =>
      dsimp only
      rw [MoL.pb]
      refine bindU (a := (mrgL S k a O).map tI) ?_ rfl
      simp only [op2, op1, cmp2, chain3, tst, notB, andB, orB, andD, orD, iteM, consM, starM, smallM, tupM, tupSM, lstM, argV, argK, comp1, comp1i, comp2, comp2i, comp11, seqM, rng1, rng2, zipSM, zip2M, zip3M, enumM, repM, joinM, catM, par3LM, put2M, popM, parLV, putVM, unpS, trg1M, orV, lrg1M, par3M, rdM, rdLM, partM, slcM, isiM, rtM, forM1, forM2, forM3, parM, unp2, unp3, ob_pure, ob_some, ob_lift, Option.pure_def, add_int, sub_int, lt_int, le_int, gt_int, ge_int, eq_int, ne_int, min_int, max_int, neg_int, bool_bool, not_bool, is_none, isn_none, nn_int, nn_none, nn_tup, len_tup, len_lst, tup_lst, tup_tup, it_lst, it_tup, int_bool, int_int, oint_int, addI_int, subI_int, flat_tI, flat_int, flat_none, Option.bind_some, Option.map_some, Int.zero_add, thenB, thenM, List.nil_append, List.length_map, ob_assoc]
      rw [enum_map]
      show (small _ >>= _) = _
      rw [small_ok (by simp; omega), ob_some]
      refine (lcA_filt2 (m := Option) (γ := List Int × Nat) (Ga := fun p => .int (p.2 : Nat)) (Gb := fun p => tI p.1) (G := fun p => if p.2 = a then tI (whole S k (a :: O)) else tI p.1) (p := fun p => !decide (p.2 ∈ O)) (fun _ => rfl) S.zipIdx [] (fun p _ => ?_) (fun p _ _ => ?_)).trans ?_
      · show (ninD (.int (p.2 : Nat)) (.list (natsD O))).bind boolD = _
        rw [nin_nats]
        rfl
      · show ((eqD (.int (p.2 : Nat)) (.int (a : Nat))).bind boolD >>= _) = _
        rw [eq_int]
        show (if ((p.2 : Int) == (a : Int)) = true then _ else _) = _
        by_cases z : p.2 = a
        · rw [if_pos (by simp [z]), if_pos z] <;> rfl
        · rw [if_neg (by simp; omega), if_neg z] <;> rfl
      · rw [List.nil_append]
        refine congrArg some ?_
        rw [zip_list, List.filter_map, List.map_map, List.map_map]
        refine List.map_congr_left fun i _ => ?_
        show (if i = a then _ else _) = tI (if i = a then _ else _)
        split <;> rfl
theorem exc_much {α : Type} {x : D} {h : D → Option α} {r : Option α} : exc1 (m := Option) "TooMuch" "total" ⟨"TooMuch", [("total", x)]⟩ h r = h x := by
  unfold exc1
  rw [if_pos rfl]
  dsimp only
  rw [if_pos rfl]
theorem zip_twin (ds : List D) : zipD [.tuple ds, .tuple ds] = some (ds.map fun d => .tuple [d, d]) := by
  have h := zip_map (F := fun d : D => d) (G := fun d : D => d) (xs := ds) (ys := ds) (Nat.le_refl _)
  rw [List.map_id'] at h
  rw [h]
  congr 1
  have : ∀ l : List D, l.zip l = l.map fun d => (d, d) := fun l => by
    induction l with
    | nil => rfl
    | cons a l ih => rw [List.zip_cons_cons, ih]; rfl
  rw [this, List.map_map]
  rfl
theorem same_tup {n : Nat} {ds : List D} (hl : ds.length ≤ 1000000) (h : ∀ d ∈ ds, m__law_same n d d = some (.bool true)) : m__law_same (n + 1) (.tuple ds) (.tuple ds) = some (.bool true) := by
  show (iteM (tst (isiM "tuple" (pure (.tuple ds)))) _ _ : Option D) = _
  simp only [op2, op1, cmp2, chain3, tst, notB, andB, orB, andD, orD, iteM, consM, starM, smallM, tupM, tupSM, lstM, argV, argK, comp1, comp1i, comp2, comp2i, comp11, seqM, rng1, rng2, zipSM, zip2M, zip3M, enumM, repM, joinM, catM, par3LM, put2M, popM, parLV, putVM, unpS, trg1M, orV, lrg1M, par3M, rdM, rdLM, partM, slcM, isiM, rtM, forM1, forM2, forM3, parM, unp2, unp3, ob_pure, ob_some, ob_lift, Option.pure_def, add_int, sub_int, lt_int, le_int, gt_int, ge_int, eq_int, ne_int, min_int, max_int, neg_int, bool_bool, not_bool, is_none, isn_none, nn_int, nn_none, nn_tup, len_tup, len_lst, tup_lst, tup_tup, it_lst, it_tup, int_bool, int_int, oint_int, addI_int, subI_int, flat_tI, flat_int, flat_none, Option.bind_some, Option.map_some, Int.zero_add, thenB, thenM, List.nil_append, List.length_map, ob_assoc]
  have e1 : isiB "tuple" (.tuple ds) = true := rfl
  simp only [e1, bool_bool, ob_some, Bool.not_true, Bool.false_eq_true, if_true, if_false, beq_self_eq_true]
  rw [zip_twin]
  refine bindE rfl (bindE (small_ok (by rw [List.length_map]; exact hl)) (bindE (lcA_filt2 (m := Option) (F := fun d => .tuple [d, d]) (Ga := fun d => d) (Gb := fun d => d) (G := fun _ => .int 1) (p := fun _ => false) (fun _ => rfl) ds [] (fun d hd => ?_) fun _ _ hf => by cases hf) ?_))
  · rw [show (ar2 (m__law_same n)) [.val d, .val d] = m__law_same n d d from rfl, h d hd]
    rfl
  · rw [List.nil_append, List.filter_eq_nil_iff.mpr (by simp)]
    rfl
theorem same_int {n : Nat} (i : Int) : m__law_same (n + 1) (.int i) (.int i) = some (.bool true) := by
  show (iteM (tst (isiM "tuple" (pure (.int i)))) _ _ : Option D) = _
  simp only [op2, op1, cmp2, chain3, tst, notB, andB, orB, andD, orD, iteM, consM, starM, smallM, tupM, tupSM, lstM, argV, argK, comp1, comp1i, comp2, comp2i, comp11, seqM, rng1, rng2, zipSM, zip2M, zip3M, enumM, repM, joinM, catM, par3LM, put2M, popM, parLV, putVM, unpS, trg1M, orV, lrg1M, par3M, rdM, rdLM, partM, slcM, isiM, rtM, forM1, forM2, forM3, parM, unp2, unp3, ob_pure, ob_some, ob_lift, Option.pure_def, add_int, sub_int, lt_int, le_int, gt_int, ge_int, eq_int, ne_int, min_int, max_int, neg_int, bool_bool, not_bool, is_none, isn_none, nn_int, nn_none, nn_tup, len_tup, len_lst, tup_lst, tup_tup, it_lst, it_tup, int_bool, int_int, oint_int, addI_int, subI_int, flat_tI, flat_int, flat_none, Option.bind_some, Option.map_some, Int.zero_add, thenB, thenM, List.nil_append, List.length_map, ob_assoc]
  have e1 : isiB "tuple" (.int i) = false := rfl
  have e2 : isiB "str" (.int i) = false := rfl
  have e3 : isiB "int" (.int i) = true := rfl
  have e4 : isiB "bool" (.int i) = false := rfl
  simp only [e1, e2, e3, e4, bool_bool, ob_some, Bool.false_eq_true, if_true, if_false, beq_self_eq_true]
  rfl
theorem same_tI {n : Nat} {r : List Int} (h : r.length ≤ 1000000) : m__law_same (n + 2) (tI r) (tI r) = some (.bool true) := same_tup (by rw [List.length_map]; exact h) fun d hd => by
  obtain ⟨i, _, rfl⟩ := List.mem_map.mp hd
  exact same_int i
theorem same_tT {n : Nat} {S : List (List Int)} (h : S.length ≤ 1000000) (h2 : ∀ r ∈ S, r.length ≤ 1000000) : m__law_same (n + 3) (tT S) (tT S) = some (.bool true) := same_tup (by rw [List.length_map]; exact h) fun d hd => by
  obtain ⟨r, hr, rfl⟩ := List.mem_map.mp hd
  exact same_tI (h2 r hr)
/-! ### words of texts -/
abbrev lS (l : List Str) : D := .list (l.map PyData.str)
abbrev SOk (l : List Str) : Prop := ∀ w ∈ l, PyData.strOk w = true
theorem sok_tl {x : Str} (h : ∀ c ∈ TL.tl x, c < 128) : PyData.strOk x = true := by
  unfold PyData.strOk
  rw [← Array.all_toList, List.all_eq_true]
  intro c hc
  have := h c hc
  exact decide_eq_true (by omega)
theorem lay_strs : ∀ l : List Str, SOk l → PyData.canLayAll0 (l.map PyData.str) = true
  | [], _ => rfl
  | x :: l, h => by
    show (PyData.canLay0 (.str x) && PyData.canLayAll0 (l.map PyData.str)) = true
    rw [lay_strs l fun w hw => h w (List.mem_cons_of_mem _ hw), Bool.and_true]
    exact h x List.mem_cons_self
theorem dep_strs : ∀ l : List Str, PyData.depthAll (l.map PyData.str) = 0
  | [] => rfl
  | x :: l => by
    have h := dep_strs l
    simp [PyData.depthAll, PyData.depth] at h ⊢
    exact h
theorem shaped_strs {l : List Str} (h : SOk l) : SeqAt.shaped (lS l) = true := by
  unfold SeqAt.shaped
  have h1 : PyData.canLay0 (lS l) = true := lay_strs l h
  have h2 : PyData.depth (lS l) ≤ 64 := by
    have := dep_strs l
    show PyData.depth (.list _) ≤ 64
    simp only [PyData.depth, this]
    decide
  rw [h1, decide_eq_true h2]
  rfl
theorem eqv_strs {l : List Str} (h : SOk l) : PyData.eqv (lS l) (lS l) = true := SeqAt.eqv_refl _ (lay_strs l h)
theorem eq_lS {l : List Str} (h : SOk l) : eqD (lS l) (lS l) = some (.bool true) := by
  unfold eqD
  exact (if_pos (And.intro (shaped_strs h) (shaped_strs h))).trans (by rw [eqv_strs h])
theorem ne_lS {l : List Str} (h : SOk l) : neD (lS l) (lS l) = some (.bool false) := by
  unfold neD
  exact (if_pos (And.intro (shaped_strs h) (shaped_strs h))).trans (by rw [eqv_strs h]; rfl)
abbrev wordsOf (S C : List (List Int)) : List Str := S.map ntext ++ Str.ofString "for" :: C.map ntext
theorem words_ctext {S C : List (List Int)} (gS : ∀ r ∈ S, ∀ x ∈ r, 0 ≤ x) (gC : ∀ r ∈ C, ∀ x ∈ r, 0 ≤ x) : words (ctext S C) = wordsOf S C := by
  refine words_join (by simp) fun w hw => ?_
  rcases List.mem_append.mp hw with h | h
  · obtain ⟨r, hr, rfl⟩ := List.mem_map.mp h
    exact nosp_ntext (gS r hr)
  · rcases List.mem_cons.mp h with rfl | h
    · decide +kernel
    · obtain ⟨r, hr, rfl⟩ := List.mem_map.mp h
      exact nosp_ntext (gC r hr)
theorem ctext_len {S C : List (List Int)} (hS : Rws S) (hC : Rws C) : (ctext S C).length ≤ 2000 := Nat.le_trans (join_len _ _) (words_sum hS hC)
theorem lwords_eq {S C : List (List Int)} (hS : Rws S) (hC : Rws C) : M__law_words [.val (tT S), .val (tT C)] = some (lS (wordsOf S C)) := by
  show m__law_words (tT S) (tT C) = _
  unfold m__law_words
  show (splitM (M_cabinet_text [.val (tT S), .val (tT C)]) (pure (.str " "))) = _
  rw [show M_cabinet_text [.val (tT S), .val (tT C)] = some (.str (ctext S C)) from ctext_eq hS hC]
  show splitD (ctext S C) (.str " ") = _
  rw [split_b (by have := ctext_len hS hC; omega), words_ctext (fun r hr x hx => (hS.ge r hr x hx).1) (fun r hr x hx => (hC.ge r hr x hx).1)]
theorem Stk.rws {m : Int} {n : Nat} {S : List (List Int)} (st : Stk m n S) (hm : m ≤ 1000000) : Rws S := ⟨st.one, st.four, fun r hr => by have := st.len r hr; have := st.k1; have := st.k4; omega, fun r hr x hx => by have := st.ge r hr x hx; omega⟩
theorem Wishes.rws {n : Nat} {C : List (List Int)} (ro : Wishes n 50 C) (k1 : 1 ≤ n) (k4 : n ≤ 4) : Rws C := ⟨ro.one, ro.four, fun r hr => by have := ro.len r hr; omega, fun r hr x hx => by have := ro.ge r hr x hx; omega⟩
theorem tk_lS {l : List Str} {e : Int} (h0 : 0 ≤ e) (h : e ≤ l.length) : sliceD (lS l) none (some e) = some (lS (l.take e.toNat)) := by
  obtain ⟨n, rfl⟩ := Int.eq_ofNat_of_zero_le h0
  exact tk_lst (by omega)
theorem dr_lS {l : List Str} {e : Int} (h0 : 0 ≤ e) : sliceD (lS l) (some e) none = some (lS (l.drop e.toNat)) := by
  obtain ⟨n, rfl⟩ := Int.eq_ofNat_of_zero_le h0
  exact dr_lst
theorem rev_lS (l : List Str) : revD (lS l) = some (lS l.reverse) := by
  show some (PyData.list (l.map PyData.str).reverse) = _
  rw [← List.map_reverse]
theorem rev_tT (S : List (List Int)) : revD (tT S) = some (tT S.reverse) := by
  show some (PyData.tuple (S.map tI).reverse) = _
  rw [← List.map_reverse]
theorem cat_lS {a b : List Str} (h : a.length + b.length ≤ 1000000) : addD (lS a) (lS b) = some (lS (a ++ b)) := by
  rw [add_lst (by simpa using h), ← List.map_append]
theorem words_sok {S C : List (List Int)} (gS : ∀ r ∈ S, ∀ x ∈ r, 0 ≤ x) (gC : ∀ r ∈ C, ∀ x ∈ r, 0 ≤ x) : SOk (wordsOf S C) := fun w hw => by
  have row : ∀ r : List Int, (∀ x ∈ r, 0 ≤ x) → PyData.strOk (ntext r) = true := fun r hr => sok_tl fun c hc => by
    have := ntext_chars hr c hc
    omega
  rcases List.mem_append.mp hw with h | h
  · obtain ⟨r, hr, rfl⟩ := List.mem_map.mp h
    exact row r (gS r hr)
  · rcases List.mem_cons.mp h with rfl | h
    · decide +kernel
    · obtain ⟨r, hr, rfl⟩ := List.mem_map.mp h
      exact row r (gC r hr)
theorem Rws.ge0 {S : List (List Int)} (h : Rws S) : ∀ r ∈ S, ∀ x ∈ r, 0 ≤ x := fun r hr x hx => (h.ge r hr x hx).1
theorem Rws.rev {S : List (List Int)} (h : Rws S) : Rws S.reverse := ⟨by simpa using h.one, by simpa using h.four, fun r hr => h.len r (List.mem_reverse.mp hr), fun r hr => h.ge r (List.mem_reverse.mp hr)⟩
theorem Rws.snoc {S : List (List Int)} (h : Rws S) {r : List Int} (h4 : S.length < 4) (hl : 1 ≤ r.length ∧ r.length ≤ 4) (hg : ∀ x ∈ r, 0 ≤ x ∧ x ≤ 1000000) : Rws (S ++ [r]) := ⟨by simp, by simp; omega, fun q hq => (List.mem_append.mp hq).elim (h.len q) fun hq => by rw [List.mem_singleton.mp hq]; exact hl, fun q hq => (List.mem_append.mp hq).elim (h.ge q) fun hq => by rw [List.mem_singleton.mp hq]; exact hg⟩
/-- two rows added -/
def sumP (a b : List Int) : List Int := (a.zip b).map fun p => p.1 + p.2
theorem sumP_cols {n : Nat} {a b : List Int} (ha : a.length = n) (hb : b.length = n) : cols [a, b] n = sumP a b := by
  refine List.ext_getElem (by simp [sumP]; omega) fun i h1 h2 => ?_
  have hi : i < n := by simpa using h1
  simp [sumP, cols, col, List.getD, show i < a.length by omega, show i < b.length by omega]
theorem sumP_len {n : Nat} {a b : List Int} (ha : a.length = n) (hb : b.length = n) : (sumP a b).length = n := by
  unfold sumP
  rw [List.length_map, List.length_zip]
  omega
theorem sumP_ge {a b : List Int} (ha : ∀ x ∈ a, 0 ≤ x ∧ x ≤ 50) (hb : ∀ x ∈ b, 0 ≤ x ∧ x ≤ 50) : ∀ x ∈ sumP a b, 0 ≤ x ∧ x ≤ 1000000 := fun x hx => by
  obtain ⟨⟨y, z⟩, hp, rfl⟩ := List.mem_map.mp hx
  have h1 := ha y (List.of_mem_zip hp).1
  have h2 := hb z (List.of_mem_zip hp).2
  dsimp only
  omega
theorem zip_rows2 {n : Nat} {a b : List Int} (ha : a.length = n) (hb : b.length = n) : zipD [tI a, tI b] = some ((a.zip b).map fun p => .tuple [.int p.1, .int p.2]) := zip_map (F := PyData.int) (G := PyData.int) (by omega)
theorem sum_lc {m : Type → Type} [Mo m] [MoL m] {a b : List Int} : lcA (m := m) (fun d => pairM d fun a b => someM (Mo.lift (addD a b))) ((a.zip b).map fun p => PyData.tuple [.int p.1, .int p.2]) [] = pure ((sumP a b).map PyData.int) := by
  rw [lcA_map2 (Ga := fun p : Int × Int => PyData.int p.1) (Gb := fun p : Int × Int => PyData.int p.2) (G := fun p : Int × Int => PyData.int (p.1 + p.2)) (fun _ => rfl) (a.zip b) [] fun p _ => liE (add_int _ _)]
  rw [List.nil_append]
  unfold sumP
  rw [List.map_map]
  rfl
theorem ltextL_eq {r : List Int} (hl : r.length ≤ 4) (hg : ∀ x ∈ r, 0 ≤ x ∧ x ≤ 1000000) : M__law_numbers_text [.val (.list (r.map PyData.int))] = some (.str (ntext r)) := by
  show m__law_numbers_text (.list (r.map PyData.int)) = _
  unfold m__law_numbers_text
  simp only [op2, op1, cmp2, chain3, tst, notB, andB, orB, andD, orD, iteM, consM, starM, smallM, tupM, tupSM, lstM, argV, argK, comp1, comp1i, comp2, comp2i, comp11, seqM, rng1, rng2, zipSM, zip2M, zip3M, enumM, repM, joinM, catM, par3LM, put2M, popM, parLV, putVM, unpS, trg1M, orV, lrg1M, par3M, rdM, rdLM, partM, slcM, isiM, rtM, forM1, forM2, forM3, parM, unp2, unp3, ob_pure, ob_some, ob_lift, Option.pure_def, add_int, sub_int, lt_int, le_int, gt_int, ge_int, eq_int, ne_int, min_int, max_int, neg_int, bool_bool, not_bool, is_none, isn_none, nn_int, nn_none, nn_tup, len_tup, len_lst, tup_lst, tup_tup, it_lst, it_tup, int_bool, int_int, oint_int, addI_int, subI_int, flat_tI, flat_int, flat_none, Option.bind_some, Option.map_some, Int.zero_add, thenB, thenM, List.nil_append, List.length_map, ob_assoc]
  refine bindE (show strOnly (.str ",") = some _ from rfl) (bindE (small_ok (by rw [List.length_map]; omega)) (bindE (lcA_mapP (m := Option) (F := PyData.int) (G := fun i => .str (nstr i)) r [] fun x hx => str_int (by have := hg x hx; omega)) ?_))
  rw [List.nil_append, show (r.map fun i => PyData.str (nstr i)) = (r.map nstr).map PyData.str by simp]
  exact join_ok (by have := ntext_sum hl hg; omega)
theorem max_lok {r : List Int} (h : r ≠ []) : ∃ m, maxD (.list (r.map PyData.int)) = some (.int m) ∧ m ∈ r ∧ ∀ v ∈ r, v ≤ m := max_ok h
theorem mrg_two {n : Nat} {S : List (List Int)} (h2 : 2 ≤ S.length) (h4 : S.length ≤ 4) : mrgS S n 0 1 = cols [S.getD 0 [], S.getD 1 []] n :: S.drop 2 := by
  match S, h2, h4 with
  | [a, b], _, _ => rfl
  | [a, b, c], _, _ => rfl
  | [a, b, c, d], _, _ => rfl
theorem words_ok {n : Nat} {s : Sta} (g : GoodS n s) : Tri 10 (m__law_words_right (tT s.1) (tT s.2)) (fun d => d = .bool true) := by
  obtain ⟨S, C⟩ := s
  have st : Stk 50 n S := g.st
  have ro : Wishes n 50 C := g.ro
  have k1 := st.k1
  have k4 := st.k4
  have hS := st.rws (by decide)
  have hC := ro.rws k1 k4
  have s1 := st.one
  have s4 := st.four
  have c4 := ro.four
  show Tri 10 (m__law_words_right (tT S) (tT C)) _
  unfold m__law_words_right
  simp only [op2, op1, cmp2, chain3, tst, notB, andB, orB, andD, orD, iteM, consM, starM, smallM, tupM, tupSM, lstM, argV, argK, comp1, comp1i, comp2, comp2i, comp11, seqM, rng1, rng2, zipSM, zip2M, zip3M, enumM, repM, joinM, catM, par3LM, put2M, popM, parLV, putVM, unpS, trg1M, orV, lrg1M, par3M, rdM, rdLM, partM, slcM, isiM, rtM, forM1, forM2, forM3, parM, unp2, unp3, wb_assoc, wb_pure]
  have el : lenD (tT S) = some (.int (S.length : Nat)) := by rw [len_tup, List.length_map]
  have ec : lenD (tT C) = some (.int (C.length : Nat)) := by rw [len_tup, List.length_map]
  have wl : (wordsOf S C).length = S.length + 1 + C.length := by simp [wordsOf]; omega
  have ew : lenD (lS (wordsOf S C)) = some (.int ((S.length : Int) + 1 + (C.length : Int))) := by
    rw [len_lst, List.length_map, wl]
    congr 2
  have lt4 : (ltD (.int (C.length : Nat)) (.int 4)).bind boolD = some (decide (C.length < 4)) := by
    rw [lt_int]
    show some (decide ((C.length : Int) < 4)) = _
    congr 1
    exact decide_eq_decide.mpr (by omega)
  have efor : DD.getD (lS (wordsOf S C)) (.int (S.length : Nat)) = some (.str (Str.ofString "for")) := get_wd (by
    show (S.map ntext ++ Str.ofString "for" :: C.map ntext)[S.length]? = _
    rw [List.getElem?_append_right (by simp)]
    simp)
  have tk : (wordsOf S C).take S.length = S.map ntext := List.take_left' (by simp)
  have dr : (wordsOf S C).drop S.length = Str.ofString "for" :: C.map ntext := List.drop_left' (by simp)
  have sp : wordsOf S C = (S.map ntext ++ [Str.ofString "for"]) ++ C.map ntext := by simp [wordsOf]
  have tk1 : (wordsOf S C).take (S.length + 1) = S.map ntext ++ [Str.ofString "for"] := by rw [sp]; exact List.take_left' (by simp)
  have dr1 : (wordsOf S C).drop (S.length + 1) = C.map ntext := by rw [sp]; exact List.drop_left' (by simp)
  refine Tri.bindU (lwords_eq hS hC) (Tri.bindL el (Tri.bindL ew (Tri.bindL (add_int _ _) (Tri.bindL ec (Tri.bindL (add_int _ _) (Tri.bindL (a := false) (by rw [ne_int]; simp [boolD]) ?_))))))
  refine Tri.st (b := 0) (φ := fun k => k = false) (Tri.ite (fun h => by cases h) fun _ => Tri.bindL efor (Tri.li (by rw [ne_str]; simp [boolD]) rfl)) ?_
  rintro _ rfl
  refine Tri.ite (fun h => by cases h) fun _ => ?_
  refine Tri.bindL (rev_tT S) (Tri.bindU (lwords_eq hS.rev hC) (Tri.bindL (oint_int _) (Tri.bindL (tk_lS (by omega) (by rw [wl]; omega)) (Tri.bindL (rev_lS _) (Tri.bindL (oint_int _) (Tri.bindL (dr_lS (by omega)) ?_))))))
  rw [Int.toNat_natCast, tk, dr]
  refine Tri.bindL (cat_lS (by simp; omega)) (Tri.bindL (a := false) (by
    rw [show (S.map ntext).reverse ++ Str.ofString "for" :: C.map ntext = wordsOf S.reverse C by simp [wordsOf], ne_lS (words_sok hS.rev.ge0 hC.ge0)]
    rfl) (Tri.ite (fun h => by cases h) fun _ => ?_))
  refine Tri.bindL (rev_tT C) (Tri.bindU (lwords_eq hS hC.rev) (Tri.bindL (add_int _ _) (Tri.bindL (oint_int _) (Tri.bindL (tk_lS (by omega) (by rw [wl]; omega)) (Tri.bindL (add_int _ _) (Tri.bindL (oint_int _) (Tri.bindL (dr_lS (by omega)) ?_)))))))
  rw [show ((S.length : Int) + 1).toNat = S.length + 1 by omega, tk1, dr1]
  refine Tri.bindL (rev_lS _) (Tri.bindL (cat_lS (by simp; omega)) (Tri.bindL (a := false) (by
    rw [show (S.map ntext ++ [Str.ofString "for"]) ++ (C.map ntext).reverse = wordsOf S C.reverse by simp [wordsOf], ne_lS (words_sok hS.ge0 hC.rev.ge0)]
    rfl) (Tri.ite (fun h => by cases h) fun _ => ?_)))
  have g0 : DD.getD (tT S) (.int 0) = some (tI (S.getD 0 [])) := get_row (d := 0) (by omega)
  have r0l := row_len st.len (d := 0) (by omega)
  have er : lenD (tI (S.getD 0 [])) = some (.int (n : Nat)) := by rw [len_tup, List.length_map, r0l]
  refine Tri.bindL g0 (Tri.bindL er ?_)
  refine Tri.st (b := 10) (collP_ok (k := (n : Nat)) (most := 50) (by omega) (by omega) (by decide) (by decide)) ?_
  rintro _ ⟨r, rfl, rl, rg, rp⟩
  rw [Int.toNat_natCast] at rl
  have rg6 : ∀ x ∈ r, 0 ≤ x ∧ x ≤ 1000000 := fun x hx => by have := rg x hx; omega
  have hCr : C.length < 4 → Rws (C ++ [r]) := fun h => hC.snoc h (by omega) rg6
  refine Tri.bindL ec (Tri.bindL lt4 ?_)
  refine Tri.st (b := 0) (φ := fun d => d = lS (if C.length < 4 then wordsOf S (C ++ [r]) else wordsOf S C)) (Tri.ite (fun h => Tri.bindL (add_tTs (M := [r]) (by simp; omega)) (Tri.li (lwords_eq hS (hCr (of_decide_eq_true h))) (by rw [if_pos (of_decide_eq_true h)]))) fun h => Tri.pr (by rw [if_neg (of_decide_eq_false h)])) ?_
  rintro _ rfl
  refine Tri.bindL ec (Tri.bindL lt4 ?_)
  refine Tri.st (b := 0) (φ := fun k => k = false) (Tri.ite (fun h => ?_) fun _ => Tri.pr rfl) ?_
  · have h4 := of_decide_eq_true h
    refine Tri.bindU (show M__law_numbers_text [.val (tI r)] = _ from ltext_eq (by omega) rg6) (Tri.bindL (show addD (lS (wordsOf S C)) (lS [ntext r]) = _ from cat_lS (by rw [wl]; simp; omega)) (Tri.li ?_ rfl))
    rw [if_pos h4, show wordsOf S C ++ [ntext r] = wordsOf S (C ++ [r]) by simp [wordsOf], ne_lS (words_sok hS.ge0 (hCr h4).ge0)]
    rfl
  rintro _ rfl
  refine Tri.ite (fun h => by cases h) fun _ => ?_
  refine Tri.bindL (a := decide ((S.length : Int) < 2)) (by rw [lt_int]; rfl) (Tri.ite (fun _ => Tri.pr rfl) fun h2 => ?_)
  have h2 := of_decide_eq_false h2
  have h2 : 2 ≤ S.length := by omega
  have g1 : DD.getD (tT S) (.int 1) = some (tI (S.getD 1 [])) := get_row (d := 1) (by omega)
  have r1l := row_len st.len (d := 1) (by omega)
  have m0 : S.getD 0 [] ∈ S := by rw [List.getD_eq_getElem?_getD, List.getElem?_eq_getElem (by omega)]; exact List.getElem_mem _
  have m1 : S.getD 1 [] ∈ S := by rw [List.getD_eq_getElem?_getD, List.getElem?_eq_getElem (by omega)]; exact List.getElem_mem _
  refine Tri.bindL g0 (Tri.bindL g1 (Tri.bindL (zip_rows2 r0l r1l) (Tri.bindL (small_ok (by rw [List.length_map, List.length_zip]; omega)) ?_)))
  refine Tri.stE sum_lc ?_
  have ql := sumP_len r0l r1l
  have qg := sumP_ge (st.ge _ m0) (st.ge _ m1)
  have qc := sumP_cols r0l r1l
  generalize hq : sumP (S.getD 0 []) (S.getD 1 []) = q at ql qg qc
  obtain ⟨m, em, _, hm⟩ := max_lok (r := q) (fun e => by rw [e] at ql; simp at ql; omega)
  refine Tri.bindL em (Tri.bindL (a := decide (50 < m)) (by rw [gt_int]; rfl) (Tri.ite (fun _ => Tri.pr rfl) fun h50 => ?_))
  have h50 := of_decide_eq_false h50
  have em : M_merged [.val (tT S), .val (.int 0), .val (.int 1)] = some (tT (q :: S.drop 2)) := by
    have := merged_gen (a := 0) (b := 1) st.len k4 s4 (by omega) (by omega) (fun x hx => by rw [qc] at hx; have := hm x hx; omega)
    rw [mrg_two h2 s4, qc] at this
    exact this
  have hM : Rws (q :: S.drop 2) := ⟨by simp, by simp; omega, fun r hr => by
    rcases List.mem_cons.mp hr with rfl | hr
    · omega
    · exact hS.len r (List.mem_of_mem_drop hr), fun r hr => by
    rcases List.mem_cons.mp hr with rfl | hr
    · exact qg
    · exact hS.ge r (List.mem_of_mem_drop hr)⟩
  refine Tri.bindU em (Tri.bindU (lwords_eq hM hC) (Tri.bindU (ltextL_eq (by omega) qg) (Tri.bindL (oint_int _) (Tri.bindL (dr_lS (by decide)) (Tri.bindL (show addD (lS [ntext q]) (lS _) = _ from cat_lS (by simp; omega)) (Tri.li ?_ rfl))))))
  rw [show [ntext q] ++ (wordsOf S C).drop (Int.toNat 2) = wordsOf (q :: S.drop 2) C by
    show ntext q :: (S.map ntext ++ Str.ofString "for" :: C.map ntext).drop 2 = _
    rw [List.drop_append_of_le_length (by simpa using h2)]
    simp [wordsOf, List.map_drop]]
  exact eq_lS (words_sok hM.ge0 hC.ge0)
/-! ### what does not raise: the plain mirror of parse_cabinet -/
theorem cO_bind {α β : Type} (x : Xo α) (f : α → Xo β) : calmO (x >>= f) = calmO x >>= fun a => calmO (f a) := by
  match x with
  | some (.ok a) => rfl
  | some (.error e) => rfl
  | none => rfl
theorem cO_up {α : Type} (o : Option α) : calmO (upX o) = o := by cases o <;> rfl
theorem cO_pure {α : Type} (a : α) : calmO (Pure.pure a : Xo α) = (Pure.pure a : Option α) := rfl
theorem cO_throw {α : Type} (e : Exn) : calmO (MoX.throw e : Xo α) = (Mo.lift none : Option α) := rfl
theorem cO_lift {α : Type} (o : Option α) : calmO (Mo.lift o : Xo α) = (Mo.lift o : Option α) := by cases o <;> rfl
theorem cO_ite {α : Type} (c : Bool) (x y : Xo α) : calmO (if c = true then x else y) = if c = true then calmO x else calmO y := by cases c <;> rfl
theorem cO_loop {A : Type} (f : D → A → Xo (Fl A)) : ∀ (ds : List D) (a : A), calmO (loopM f ds a) = loopM (fun d a => calmO (f d a)) ds a
  | [], a => rfl
  | d :: ds, a => by
    show calmO (f d a >>= _) = (calmO (f d a) >>= _)
    rw [cO_bind]
    congr 1
    funext fl
    cases fl with
    | nx a => exact cO_loop f ds a
    | rt v => rfl
theorem cO_then {A : Type} (f : Fl A) (y : A → Xo D) : calmO (thenM f y) = thenM f fun a => calmO (y a) := by cases f <;> rfl
theorem cO_pair {α : Type} (d : D) (f : D → D → Xo α) : calmO (pairM d f) = pairM d fun a b => calmO (f a b) := by
  unfold pairM
  split <;> rfl
theorem ob_no {α β : Type} (o : Option α) : (o >>= fun _ => (Mo.lift none : Option β)) = Mo.lift none := by cases o <;> rfl
theorem cO_ar1 (F : D → Xo D) (as : List Sl) : calmO (ar1 F as) = ar1 (fun d => calmO (F d)) as := by
  unfold ar1
  split <;> rfl
theorem pstock_calm (p : D) : calmO (mx_parse_stock p) = m_parse_stock p := by
  unfold mx_parse_stock m_parse_stock
  simp only [forM2, iteM, rtM, cO_bind, cO_up, cO_pure, cO_throw, cO_lift, cO_ite, cO_loop, cO_then, cO_pair]
  rfl
theorem cO_stock (as : List Sl) : calmO (MX_parse_stock as) = M_parse_stock as := by
  show calmO (ar1 mx_parse_stock as) = ar1 m_parse_stock as
  rw [cO_ar1]
  congr 1
  funext d
  exact pstock_calm d
theorem pcab_calm (p : D) : calmO (mx_parse_cabinet p) = m_parse_cabinet p := by
  unfold mx_parse_cabinet m_parse_cabinet
  simp only [forM1, iteM, rtM, parM, cO_bind, cO_up, cO_pure, cO_throw, cO_lift, cO_ite, cO_loop, cO_then, cO_pair, cO_stock, ob_no]
theorem pcab_ok {n : Nat} {s : Sta} (g : GoodS n s) (hl : (ctext s.1 s.2).length ≤ 900000) : M_parse_cabinet [.val (.str (ctext s.1 s.2))] = some (stD s) := by
  show m_parse_cabinet _ = _
  rw [← pcab_calm, pcab_eq hl, cabX_text g]
  rfl
theorem getT_last {S : List (List Int)} (h : 1 ≤ S.length) : DD.getD (tT S) (.int (-1)) = some (tI (S.getD (S.length - 1) [])) := by
  show L2.atI (S.map tI) (-1) = _
  unfold L2.atI
  have e : L2.ixN (S.map tI).length (-1) = some (S.length - 1) := by
    unfold L2.ixN
    rw [if_neg (by decide), if_pos (by rw [List.length_map]; omega)]
    congr 1
    rw [List.length_map]
    omega
  rw [e]
  simp [List.getD, show S.length - 1 < S.length by omega]
theorem find_take {l : List Int} {p : Int → Bool} {x : Int} (h : l.find? p = some x) : (l.filter p).take 1 = [x] := by
  rw [← List.head?_filter] at h
  cases e : l.filter p with
  | nil => rw [e] at h; cases h
  | cons y ys =>
    rw [e] at h
    injection h with h
    rw [h]
    rfl
theorem merged_ok {n : Nat} {S : List (List Int)} (st : Stk 50 n S) (h2 : 2 ≤ S.length) : M__law_merged_right [.val (tT S)] = some (.bool true) := by
  have s4 := st.four
  have k1 := st.k1
  have k4 := st.k4
  have r0l := row_len st.len (d := 0) (by omega)
  have r1l := row_len st.len (d := S.length - 1) (by omega)
  have m0 : S.getD 0 [] ∈ S := by rw [List.getD_eq_getElem?_getD, List.getElem?_eq_getElem (by omega)]; exact List.getElem_mem _
  have m1 : S.getD (S.length - 1) [] ∈ S := by rw [List.getD_eq_getElem?_getD, List.getElem?_eq_getElem (by omega)]; exact List.getElem_mem _
  have ql := sumP_len r0l r1l
  have qc := sumP_cols r0l r1l
  have g0 : DD.getD (tT S) (.int 0) = some (tI (S.getD 0 [])) := get_row (d := 0) (by omega)
  have g1 := getT_last (S := S) (by omega)
  have el : lenD (tT S) = some (.int (S.length : Nat)) := by rw [len_tup, List.length_map]
  have mx := merged_x (a := 0) (O := [S.length - 1]) st.len k4 s4 (by omega) (fun b hb => by rw [List.mem_singleton.mp hb]; omega) (by simp)
  have wq : whole S n [0, S.length - 1] = sumP (S.getD 0 []) (S.getD (S.length - 1) []) := qc
  show m__law_merged_right (tT S) = _
  unfold m__law_merged_right
  have c1 : (comp2 (zip2M (op2 getD (pure (tT S)) (pure (.int 0))) (op2 getD (pure (tT S)) (op1 negD (pure (.int 1))))) (fun c68 c69 => (op2 addD (pure c68) (pure c69))) : Option (List D)) = some ((sumP (S.getD 0 []) (S.getD (S.length - 1) [])).map PyData.int) := by
    simp only [op2, op1, cmp2, chain3, tst, notB, andB, orB, andD, orD, iteM, consM, starM, smallM, tupM, tupSM, lstM, argV, argK, comp1, comp1i, comp2, comp2i, comp11, seqM, rng1, rng2, zipSM, zip2M, zip3M, enumM, repM, joinM, catM, par3LM, put2M, popM, parLV, putVM, unpS, trg1M, orV, lrg1M, par3M, rdM, rdLM, partM, slcM, isiM, rtM, forM1, forM2, forM3, parM, unp2, unp3, ob_pure, ob_some, ob_lift, Option.pure_def, add_int, sub_int, lt_int, le_int, gt_int, ge_int, eq_int, ne_int, min_int, max_int, neg_int, bool_bool, not_bool, is_none, isn_none, nn_int, nn_none, nn_tup, len_tup, len_lst, tup_lst, tup_tup, it_lst, it_tup, int_bool, int_int, oint_int, addI_int, subI_int, flat_tI, flat_int, flat_none, Option.bind_some, Option.map_some, Int.zero_add, thenB, thenM, List.nil_append, List.length_map, ob_assoc]
    refine bindE g0 (bindE g1 (bindE (zip_rows2 r0l r1l) (bindE (small_ok (by rw [List.length_map, List.length_zip]; omega)) ?_)))
    exact sum_lc
  rw [c1, ob_some]
  generalize hq : sumP (S.getD 0 []) (S.getD (S.length - 1) []) = q at ql qc wq
  have body : ((argV (upX (pure (tT S))) (argV (upX (pure (.int 0))) (argV (upX (op2 subD (op1 lenD (pure (tT S))) (pure (.int 1)))) (pure [])))) >>= MX_merged : Xo D) = retX (mrgX S n 0 [S.length - 1]) := by
    have e1 : (op2 subD (op1 lenD (pure (tT S))) (pure (.int 1)) : Option D) = some (.int ((S.length - 1 : Nat) : Nat)) := by
      simp only [op2, op1, cmp2, chain3, tst, notB, andB, orB, andD, orD, iteM, consM, starM, smallM, tupM, tupSM, lstM, argV, argK, comp1, comp1i, comp2, comp2i, comp11, seqM, rng1, rng2, zipSM, zip2M, zip3M, enumM, repM, joinM, catM, par3LM, put2M, popM, parLV, putVM, unpS, trg1M, orV, lrg1M, par3M, rdM, rdLM, partM, slcM, isiM, rtM, forM1, forM2, forM3, parM, unp2, unp3, ob_pure, ob_some, ob_lift, Option.pure_def, add_int, sub_int, lt_int, le_int, gt_int, ge_int, eq_int, ne_int, min_int, max_int, neg_int, bool_bool, not_bool, is_none, isn_none, nn_int, nn_none, nn_tup, len_tup, len_lst, tup_lst, tup_tup, it_lst, it_tup, int_bool, int_int, oint_int, addI_int, subI_int, flat_tI, flat_int, flat_none, Option.bind_some, Option.map_some, Int.zero_add, thenB, thenM, List.nil_append, List.length_map, ob_assoc, el]
      show some (PyData.int ((S.length : Int) - 1)) = _
      congr 2
      omega
    rw [e1]
    exact mx
  rw [body]
  obtain ⟨m, em, mm, hm⟩ := max_lok (r := q) (fun e => by rw [e] at ql; simp at ql; omega)
  unfold mrgX
  rw [wq]
  cases hf : q.find? fun x => decide (50 < x) with
  | some x =>
    dsimp only
    show (tryO (retX (.error _) >>= _) _ >>= _) = _
    rw [try_err, exc_much]
    have e1 : (comp1i (seqLM (pure (PyData.list (q.map PyData.int)))) (fun c73 => (cmp2 gtD (pure c73) (pure (.int 50)))) (fun c73 => (pure c73)) : Option (List D)) = some ((q.filter fun x => decide (50 < x)).map PyData.int) := by
      show (small (q.map PyData.int) >>= _) = _
      rw [small_ok (by rw [List.length_map]; omega), ob_some]
      rw [lcA_filtP (m := Option) (F := PyData.int) (G := PyData.int) (p := fun x => decide (50 < x)) q [] (fun x _ => rfl) (fun x _ _ => rfl), List.nil_append]
      rfl
    have e2 : (slcM (lstM (comp1i (seqLM (pure (PyData.list (q.map PyData.int)))) (fun c73 => (cmp2 gtD (pure c73) (pure (.int 50)))) (fun c73 => (pure c73)))) (pure none) (partM (pure (.int 1))) : Option D) = some (.list [.int x]) := by
      rw [e1]
      have h1 := find_take hf
      show sliceD (.list ((q.filter fun x => decide (50 < x)).map PyData.int)) none (some 1) = _
      show some (PyData.list (cutD _ none (some 1))) = _
      have h2 : (((q.filter fun x => decide (50 < x)).map PyData.int).take 1) = [PyData.int x] := by rw [← List.map_take, h1]; rfl
      have h3 : sliceD (.tuple ((q.filter fun x => decide (50 < x)).map PyData.int)) none (some 1) = some (.tuple [.int x]) := by rw [cut_loA (by decide)]; rw [show Int.toNat 1 = 1 from rfl, h2]
      have h4 : some (PyData.tuple (cutD ((q.filter fun x => decide (50 < x)).map PyData.int) none (some 1))) = some (PyData.tuple [.int x]) := h3
      injection h4 with h4
      injection h4 with h4
      rw [h4]
    rw [e2]
    have e3 : eqD (.list [.int x]) (.list [.int x]) = some (.bool true) := by
      unfold eqD
      have hs : SeqAt.shaped (PyData.list [PyData.int x]) = true := by
        unfold SeqAt.shaped
        rfl
      exact (if_pos (And.intro hs hs)).trans (by rw [SeqAt.eqv_refl _ (SeqAt.canLay_of_shaped hs)])
    show (eqD (.list [.int x]) (.list [.int x]) >>= fun d => some (Fl.rt d)) >>= _ = _
    rw [e3]
    rfl
  | none =>
    dsimp only
    show (maxD (.list (q.map PyData.int)) >>= fun a => leD a (.int 50)) = _
    rw [em, ob_some, le_int, decide_eq_true]
    have := List.find?_eq_none.mp hf m mm
    simp at this
    exact this
theorem same_s {n : Nat} {s : Sta} (g : GoodS n s) : (ar2 (m__law_same 8)) [.val (stD s), .val (stD s)] = some (.bool true) := by
  have st : Stk 50 n s.1 := g.st
  have ro : Wishes n 50 s.2 := g.ro
  have k4 := st.k4
  refine same_tup (by show 2 ≤ 1000000; decide) fun d hd => ?_
  rcases List.mem_cons.mp hd with rfl | hd
  · exact same_tT (by have := st.four; omega) fun r hr => by rw [st.len r hr]; omega
  · rw [List.mem_singleton.mp hd]
    exact same_tT (by have := ro.four; omega) fun r hr => by rw [ro.len r hr]; omega
theorem ctext_as {S C : List (List Int)} (hS : Rws S) (hC : Rws C) : As 2000 (ctext S C) := ⟨ctext_len hS hC, fun c hc => by
  unfold ctext at hc
  rw [TL.tl_join] at hc
  rcases mem_joinL hc with h1 | ⟨p, hp, h1⟩
  · have : TL.tl (Str.ofString " ") = [32] := by decide +kernel
    rw [this] at h1
    rw [List.mem_singleton.mp h1]
    decide
  · obtain ⟨x, hx, rfl⟩ := List.mem_map.mp hp
    rcases List.mem_append.mp hx with hx | hx
    · obtain ⟨r, hr, rfl⟩ := List.mem_map.mp hx
      have := ntext_chars (fun y hy => (hS.ge r hr y hy).1) c h1
      omega
    · rcases List.mem_cons.mp hx with rfl | hx
      · exact (show As 20 (Str.ofString "for") from As.of (by decide +kernel)).c c h1
      · obtain ⟨r, hr, rfl⟩ := List.mem_map.mp hx
        have := ntext_chars (fun y hy => (hC.ge r hr y hy).1) c h1
        omega⟩
theorem law_true : Mo.sat m_law 0 (fun d _ => d = .bool true) (fun _ _ => False) := by
  refine Tri.sat (b := 4 * 220) (φ := fun d => d = .bool true) ?_ (by decide)
  unfold m_law
  simp only [op2, op1, cmp2, chain3, tst, notB, andB, orB, andD, orD, iteM, consM, starM, smallM, tupM, tupSM, lstM, argV, argK, comp1, comp1i, comp2, comp2i, comp11, seqM, rng1, rng2, zipSM, zip2M, zip3M, enumM, repM, joinM, catM, par3LM, put2M, popM, parLV, putVM, unpS, trg1M, orV, lrg1M, par3M, rdM, rdLM, partM, slcM, isiM, rtM, forM1, forM2, forM3, parM, unp2, unp3, wb_assoc, wb_pure]
  refine Tri.bindL (range1_ok (by decide) (by decide)) ?_
  refine Tri.thenM (b := 4 * 220) (c := 0) (I := fun _ => True) ((Tri.loopR (c := 220) (I := fun _ _ => True) (R := fun _ => False) trivial fun i a hi _ => ?_).le (by decide)) fun a _ => Tri.pure rfl
  rw [Int.zero_add]
  obtain ⟨most, em, hm⟩ : ∃ v : Int, DD.getD (.list [.int 9, .int 50, .int 25, .int 50]) (.int (i : Nat)) = some (.int v) ∧ (1 ≤ v ∧ v ≤ 50) := by
    have : i = 0 ∨ i = 1 ∨ i = 2 ∨ i = 3 := by omega
    rcases this with rfl | rfl | rfl | rfl
    · exact ⟨9, rfl, by decide⟩
    · exact ⟨50, rfl, by decide⟩
    · exact ⟨25, rfl, by decide⟩
    · exact ⟨50, rfl, by decide⟩
  refine Tri.bindL em (Tri.st (b := 70) (stateP_ok hm.1 hm.2) ?_)
  rintro _ ⟨n, s, rfl, g⟩
  have st : Stk 50 n s.1 := g.st
  have ro : Wishes n 50 s.2 := g.ro
  have hS := st.rws (by decide)
  have hC := ro.rws st.k1 st.k4
  have ha := ctext_as hS hC
  have ep : pairD (stD s) = some (tT s.1, tT s.2) := rfl
  refine Tri.bindL ep (Tri.bindU (show M_cabinet_text [.val (tT s.1), .val (tT s.2)] = some (.str (ctext s.1 s.2)) from ctext_eq hS hC) (Tri.bindU (pcab_ok g (by have := ha.l; omega)) (Tri.bindU (same_s g) (Tri.bindL rfl (Tri.ite (fun h => by cases h) fun _ => ?_)))))
  refine Tri.st (b := 10) (words_ok g) ?_
  rintro _ rfl
  refine Tri.bindL rfl (Tri.st (b := 0) (φ := fun k => k = false) (Tri.ite (fun h => by cases h) fun _ => ?_) ?_)
  · refine Tri.bindL (a := .int (s.1.length : Nat)) (by rw [len_tup, List.length_map]) (Tri.bindL (a := decide ((1 : Int) < s.1.length)) (by rw [gt_int]; rfl) (Tri.ite (fun h => ?_) fun _ => Tri.pr rfl))
    have h2 := of_decide_eq_true h
    exact Tri.bindU (merged_ok st (by omega)) (Tri.bindL rfl (Tri.pr rfl))
  rintro _ rfl
  refine Tri.ite (fun h => by cases h) fun _ => Tri.bindL (range1_ok (by decide) (by decide)) ?_
  refine Tri.thB (b := 10 * 12) (I := fun _ => True) ((Tri.loopR (c := 12) (I := fun _ _ => True) (R := fun _ => False) trivial fun j a hj _ => ?_).le (by decide)) fun a _ => Tri.nx trivial
  refine Tri.st (b := 6) (bent_ok ha (by decide)) ?_
  rintro _ ⟨u1, rfl, h1⟩
  refine Tri.bindU (accepted_ok (by have := h1.l; omega)) (Tri.bindL rfl (Tri.st (b := 6) (φ := fun k => k = false) (Tri.ite (fun h => by cases h) fun _ => ?_) ?_))
  · refine Tri.st (b := 6) (bent_ok h1 (by decide)) ?_
    rintro _ ⟨u2, rfl, h2⟩
    exact Tri.bindU (accepted_ok (by have := h2.l; omega)) (Tri.bindL rfl (Tri.pr rfl))
  rintro _ rfl
  exact Tri.ite (fun h => by cases h) fun _ => Tri.nx trivial
end DD
namespace DD
open PySem PySem.Spec PyProof.Rows L2
theorem walk {l : PySem.W.OpenLaw} {q : Program} {loose : List Str} {XP : (Str → Option Value) → Heap → Prop} {YP : World → Heap → Prop} {d : DefRec} {K : Params → PySem.W.Frag} (hn : l.most = some 63) (hdf : d.params.defaults = []) (himp : importsNone q = true) (hY : ∀ (w : World) (h : Heap), YP w h → (K w.params).In h)
    (F : ∀ (w : World) (mg : Str → Option Value) (fa : Addr) (h : Heap), (K w.params).In h → h.Ns mainGlobals mg → mg d.name = some (.ref fa) → ∃ fd : FuncData, (∀ (s : Shared) (u : Value), BindsTo s fd ⟨[u], []⟩ [("_law_script", u)]) ∧ ∀ base : Heap, (K w.params).In base → base.Ns mainGlobals mg → SysAt base → FnG l.prog w (K w.params) mg base 9 fa fd ["_law_script"] (spLaw (K w.params))) :
    PySem.W.WalkO q loose XP YP l.row.toRowW d [] (fun f vs => PySem.call f vs) :=
  walk_g (n := 63) (k := 9) (x := "_law_script") (sp := fun w => spLaw (K w.params)) hn (by decide) hdf ⟨rfl, by decide, by decide⟩ himp hY F fun _ _ a ns _ hS => ⟨a, ns, rfl, hS, fun _ => rfl⟩
end DD
open PySem PySem.W PyProof.Rows
set_option maxRecDepth 100000 in
set_option maxHeartbeats 0 in
theorem PySem.Challenge.cw_darkdrawers_k63_whole_texts_there_and_ba_holds : PySem.Challenge.rw_darkdrawers_k63_whole_texts_there_and_ba.Holds := by
  w_on; o_law; k_head; (case hw => w_witness2)
  k_fill
  refine DD.walk (l := PySem.Challenge.rw_darkdrawers_k63_whole_texts_there_and_ba) rfl rfl (by decide +kernel) (fun w h Y => PySem.W.kIn_of Y) ?F
  case F =>
    intro w mg fa h KX G hmg
    refine' DD.all_mk KX G hmg DD.law_true ?a0 ?l0 ?c0 ?k0 ?a1 ?l1 ?c1 ?k1 ?a2 ?l2 ?c2 ?k2 ?a3 ?l3 ?c3 ?k3 ?a4 ?l4 ?c4 ?k4 ?a5 ?l5 ?c5 ?k5 ?a6 ?l6 ?c6 ?k6 ?a7 ?l7 ?c7 ?k7 ?a8 ?l8 ?c8 ?k8 ?a9 ?l9 ?c9 ?k9 ?a10 ?l10 ?c10 ?k10 ?a11 ?l11 ?c11 ?k11 ?a12 ?l12 ?c12 ?k12 ?a13 ?l13 ?c13 ?k13 ?a14 ?l14 ?c14 ?k14 ?a15 ?l15 ?c15 ?k15 ?a16 ?l16 ?c16 ?k16 ?a17 ?l17 ?c17 ?k17 ?a18 ?l18 ?c18 ?k18 ?a19 ?l19 ?c19 ?k19 ?a20 ?l20 ?c20 ?k20 ?a21 ?l21 ?c21 ?k21 ?a22 ?l22 ?c22 ?k22 ?a23 ?l23 ?c23 ?k23 ?a24 ?l24 ?c24 ?k24 ?a25 ?l25 ?c25 ?k25 ?z0 ?z1 ?z2 ?z3 ?z4 ?z5 ?z6 ?z7 ?z8 ?z9 ?z10 ?z11 ?z12 ?y0 ?y1 ?y2 ?y3 ?y4 ?y5 ?y6 ?y7 ?aC_BadText ?aC_TooMuch ?iC_BadText ?iT_BadText ?iL_BadText ?iD_BadText ?iK_BadText ?iO_BadText ?iA_BadText ?iB_BadText ?iY_BadText ?iE_BadText ?iN_BadText ?iC_TooMuch ?iT_TooMuch ?iL_TooMuch ?iD_TooMuch ?iK_TooMuch ?iO_TooMuch ?iA_TooMuch ?iB_TooMuch ?iY_TooMuch ?iE_TooMuch ?iN_TooMuch ?e0_TooMuch ?eg_TooMuch ?et_TooMuch ?es_TooMuch ?ed_TooMuch ?ea_TooMuch ?en_TooMuch ?ek_TooMuch ?em_TooMuch ?no_TooMuch_total ?xm_BadText_BadText ?xm_TooMuch_TooMuch
    (case a0 => k_is); (case l0 => k_is); (case c0 => k_is); (case k0 => k_is)
    (case a1 => k_is); (case l1 => k_is); (case c1 => k_is); (case k1 => k_is)
    (case a2 => k_is); (case l2 => k_is); (case c2 => k_is); (case k2 => k_is)
    (case a3 => k_is); (case l3 => k_is); (case c3 => k_is); (case k3 => k_is)
    (case a4 => k_is); (case l4 => k_is); (case c4 => k_is); (case k4 => k_is)
    (case a5 => k_is); (case l5 => k_is); (case c5 => k_is); (case k5 => k_is)
    (case a6 => k_is); (case l6 => k_is); (case c6 => k_is); (case k6 => k_is)
    (case a7 => k_is); (case l7 => k_is); (case c7 => k_is); (case k7 => k_is)
    (case a8 => k_is); (case l8 => k_is); (case c8 => k_is); (case k8 => k_is)
    (case a9 => k_is); (case l9 => k_is); (case c9 => k_is); (case k9 => k_is)
    (case a10 => k_is); (case l10 => k_is); (case c10 => k_is); (case k10 => k_is)
    (case a11 => k_is); (case l11 => k_is); (case c11 => k_is); (case k11 => k_is)
    (case a12 => k_is); (case l12 => k_is); (case c12 => k_is); (case k12 => k_is)
    (case a13 => k_is); (case l13 => k_is); (case c13 => k_is); (case k13 => k_is)
    (case a14 => k_is); (case l14 => k_is); (case c14 => k_is); (case k14 => k_is)
    (case a15 => k_is); (case l15 => k_is); (case c15 => k_is); (case k15 => k_is)
    (case a16 => k_is); (case l16 => k_is); (case c16 => k_is); (case k16 => k_is)
    (case a17 => k_is); (case l17 => k_is); (case c17 => k_is); (case k17 => k_is)
    (case a18 => k_is); (case l18 => k_is); (case c18 => k_is); (case k18 => k_is)
    (case a19 => k_is); (case l19 => k_is); (case c19 => k_is); (case k19 => k_is)
    (case a20 => k_is); (case l20 => k_is); (case c20 => k_is); (case k20 => k_is)
    (case a21 => k_is); (case l21 => k_is); (case c21 => k_is); (case k21 => k_is)
    (case a22 => k_is); (case l22 => k_is); (case c22 => k_is); (case k22 => k_is)
    (case a23 => k_is); (case l23 => k_is); (case c23 => k_is); (case k23 => k_is)
    (case a24 => k_is); (case l24 => k_is); (case c24 => k_is); (case k24 => k_is)
    (case a25 => k_is); (case l25 => k_is); (case c25 => k_is); (case k25 => k_is)
    (case z0 => k_is)
    (case z1 => k_is)
    (case z2 => k_is)
    (case z3 => k_is)
    (case z4 => k_is)
    (case z5 => k_is)
    (case z6 => k_is)
    (case z7 => k_is)
    (case z8 => k_is)
    (case z9 => k_is)
    (case z10 => k_is)
    (case z11 => k_is)
    (case z12 => k_is)
    (case y0 => k_is)
    (case y1 => k_is)
    (case y2 => k_is)
    (case y3 => k_is)
    (case y4 => k_is)
    (case y5 => k_is)
    (case y6 => k_is)
    (case y7 => k_is)
    (case aC_BadText => first | k_is | kernel_rfl | decide +kernel)
    (case aC_TooMuch => first | k_is | kernel_rfl | decide +kernel)
    (case iC_BadText => first | k_is | kernel_rfl | decide +kernel)
    (case iT_BadText => first | k_is | kernel_rfl | decide +kernel)
    (case iL_BadText => first | k_is | kernel_rfl | decide +kernel)
    (case iD_BadText => first | k_is | kernel_rfl | decide +kernel)
    (case iK_BadText => first | k_is | kernel_rfl | decide +kernel)
    (case iO_BadText => first | k_is | kernel_rfl | decide +kernel)
    (case iA_BadText => first | k_is | kernel_rfl | decide +kernel)
    (case iB_BadText => first | k_is | kernel_rfl | decide +kernel)
    (case iY_BadText => first | k_is | kernel_rfl | decide +kernel)
    (case iE_BadText => first | k_is | kernel_rfl | decide +kernel)
    (case iN_BadText => first | k_is | kernel_rfl | decide +kernel)
    (case iC_TooMuch => first | k_is | kernel_rfl | decide +kernel)
    (case iT_TooMuch => first | k_is | kernel_rfl | decide +kernel)
    (case iL_TooMuch => first | k_is | kernel_rfl | decide +kernel)
    (case iD_TooMuch => first | k_is | kernel_rfl | decide +kernel)
    (case iK_TooMuch => first | k_is | kernel_rfl | decide +kernel)
    (case iO_TooMuch => first | k_is | kernel_rfl | decide +kernel)
    (case iA_TooMuch => first | k_is | kernel_rfl | decide +kernel)
    (case iB_TooMuch => first | k_is | kernel_rfl | decide +kernel)
    (case iY_TooMuch => first | k_is | kernel_rfl | decide +kernel)
    (case iE_TooMuch => first | k_is | kernel_rfl | decide +kernel)
    (case iN_TooMuch => first | k_is | kernel_rfl | decide +kernel)
    (case e0_TooMuch => first | k_is | kernel_rfl | decide +kernel)
    (case eg_TooMuch => first | k_is | kernel_rfl | decide +kernel)
    (case et_TooMuch => first | k_is | kernel_rfl | decide +kernel)
    (case es_TooMuch => first | k_is | kernel_rfl | decide +kernel)
    (case ed_TooMuch => first | k_is | kernel_rfl | decide +kernel)
    (case ea_TooMuch => first | k_is | kernel_rfl | decide +kernel)
    (case en_TooMuch => first | k_is | kernel_rfl | decide +kernel)
    (case ek_TooMuch => first | k_is | kernel_rfl | decide +kernel)
    (case em_TooMuch => first | k_is | kernel_rfl | decide +kernel)
    (case no_TooMuch_total => first | k_is | kernel_rfl | decide +kernel)
    (case xm_BadText_BadText => first | k_is | kernel_rfl | decide +kernel)
    (case xm_TooMuch_TooMuch => first | k_is | kernel_rfl | decide +kernel)
