import PyProof.Rows.All
import Wide.All
import OpenK.AllK
import Wide.FinOn
import HandS.ForMost
import HandS.Walk
import HandS.Zip
import HandS.Flow
import HandS.IsInst
import HandS.Style
import HandS.TupAny
import HandS.TupMul
import HandS.Star
import PyProof.ListMulRoad
import PyProof.FactsAll.tuple_2
import PyProof.ReprRoads
import HandS.Zip0
import KE.GoesMore
import KE.GoesEnum
import HandS.Conv
import HandS.Dict
import HandS.RaiseMore
import HandS.Text
import HandS.SortInts
import HandS.SetFor
import PyProof.Rows.SetFrom
import HandS.Strs
import PySem.Challenge.RW_darkdrawers_k08_whole_merged_drawers
set_option Elab.async false
set_option linter.all false
set_option maxRecDepth 100000
set_option maxHeartbeats 4000000
namespace DD
open PySem PySem.Spec PyProof.Rows L2

abbrev D := PyData

/-- an error: its class, its fields -/
structure Exn where
  cls : Str
  fs : List (Str × D)

/-- a mirror's monad: what holds behind a run that begins at n draws -/
class Mo (m : Type → Type) extends Monad m where
  sat : {α : Type} → m α → Nat → (α → Nat → Prop) → (Exn → Nat → Prop) → Prop
  lift : {α : Type} → Option α → m α
  sat_pure : ∀ {α : Type} {a : α} {n : Nat} {φ : α → Nat → Prop} {ξ : Exn → Nat → Prop}, sat (pure a) n φ ξ → φ a n
  sat_bind : ∀ {α β : Type} {x : m α} {f : α → m β} {n : Nat} {φ : β → Nat → Prop} {ξ : Exn → Nat → Prop}, sat (x >>= f) n φ ξ → sat x n (fun a n' => sat (f a) n' φ ξ) ξ
  sat_lift : ∀ {α : Type} {o : Option α} {n : Nat} {φ : α → Nat → Prop} {ξ : Exn → Nat → Prop}, sat (lift o) n φ ξ → ∃ a, o = some a ∧ φ a n

instance : Mo Option where
  sat := fun o n φ _ => ∃ a, o = some a ∧ φ a n
  lift := fun o => o
  sat_pure := fun h => by obtain ⟨a, e, q⟩ := h; cases e; exact q
  sat_bind := fun {α β x f n φ ξ} h => by
    obtain ⟨b, e, q⟩ := h
    cases x with
    | none => cases e
    | some a => exact ⟨a, rfl, b, e, q⟩
  sat_lift := fun h => h

/-- the wishes themselves as a mirror (no error leaves) -/
def W (α : Type) : Type := Nat → (α → Nat → Prop) → Prop
instance : Mo W where
  pure := fun a n φ => φ a n
  bind := fun x f n φ => x n (fun a n' => f a n' φ)
  sat := fun w n φ _ => w n φ
  lift := fun o n φ => ∃ a, o = some a ∧ φ a n
  sat_pure := fun h => h
  sat_bind := fun h => h
  sat_lift := fun h => h
/-- no error comes out of it -/
class Calm (m : Type → Type) [Mo m] : Prop where
  calm : ∀ {α : Type} {x : m α} {n : Nat} {φ : α → Nat → Prop} {ξ ξ' : Exn → Nat → Prop}, Mo.sat x n φ ξ → Mo.sat x n φ ξ'
instance : Calm Option := ⟨fun h => h⟩
instance : Calm W := ⟨fun h => h⟩

/-! ### data in the heap -/
def keyD : Key → D
  | .inl i => .int i
  | .inr x => .str x
/-- a value that is no reference, as data -/
def flat : V → Bool
  | .non => true
  | .bl _ => true
  | .int _ => true
  | .str _ => true
  | _ => false
def flatD : V → D
  | .bl b => .bool b
  | .int i => .int i
  | .str x => .str x
  | _ => .none
mutual
inductive Da (K : PySem.W.Frag) (G : Hp) : V → D → Prop
  | non : Da K G .non .none
  | bl (b : Bool) : Da K G (.bl b) (.bool b)
  | int (i : Int) : Da K G (.int i) (.int i)
  | str (x : Str) : Da K G (.str x) (.str x)
  | lst {a : Addr} {xs : List V} {ds : List D} : G a = some (.lst xs) → DaAll K G xs ds → Da K G (.ref a) (.list ds)
  | tup {a : Addr} {xs : List V} {ds : List D} : SqT K G a xs → DaAll K G xs ds → Da K G (.ref a) (.tuple ds)
  | dct {a : Addr} {kvs : List (Key × V)} : G a = some (.dK kvs) → (∀ p ∈ kvs, flat p.2 = true) → Da K G (.ref a) (.dict (kvs.map fun p => (keyD p.1, flatD p.2)))
inductive DaAll (K : PySem.W.Frag) (G : Hp) : List V → List D → Prop
  | nil : DaAll K G [] []
  | cons {v : V} {vs : List V} {d : D} {ds : List D} : Da K G v d → DaAll K G vs ds → DaAll K G (v :: vs) (d :: ds)
end

theorem sameT {K : PySem.W.Frag} {H H' : Hp} {a : Addr} {xs : List V} (e : Same H H') (h : SqT K H a xs) : SqT K H' a xs := by
  rcases h with (h | ⟨o, h⟩) | h
  · exact .inl (.inl (e _ _ h))
  · exact .inl (.inr ⟨o, e _ _ h⟩)
  · exact .inr h

section
variable {K : PySem.W.Frag} {G G' H H' : Hp}
mutual
theorem Da.mono (e : Same G G') : ∀ {d : D} {v : V}, Da K G v d → Da K G' v d
  | _, _, .non => .non
  | _, _, .bl b => .bl b
  | _, _, .int i => .int i
  | _, _, .str x => .str x
  | _, _, .lst h a => .lst (e _ _ h) (DaAll.mono e a)
  | _, _, .tup h a => .tup (sameT e h) (DaAll.mono e a)
  | _, _, .dct h a => .dct (e _ _ h) a
theorem DaAll.mono (e : Same G G') : ∀ {ds : List D} {vs : List V}, DaAll K G vs ds → DaAll K G' vs ds
  | _, _, .nil => .nil
  | _, _, .cons a b => .cons (Da.mono e a) (DaAll.mono e b)
end
theorem DaAll.length : ∀ {vs : List V} {ds : List D}, DaAll K G vs ds → vs.length = ds.length
  | _, _, .nil => rfl
  | _, _, .cons _ b => by simp [DaAll.length b]
theorem DaAll.get : ∀ {vs : List V} {ds : List D} {i : Nat} {d : D}, DaAll K G vs ds → ds[i]? = some d → ∃ v, vs[i]? = some v ∧ Da K G v d
  | _, _, _, _, .nil, e => by simp at e
  | _, _, 0, _, .cons a _, e => by simp at e; subst e; exact ⟨_, rfl, a⟩
  | _, _, i + 1, d, .cons _ b, e => by
    obtain ⟨v, h1, h2⟩ := DaAll.get (i := i) (d := d) b (by simpa using e)
    exact ⟨v, by simpa using h1, h2⟩
theorem DaAll.getV : ∀ {vs : List V} {ds : List D} {i : Nat} {v : V}, DaAll K G vs ds → vs[i]? = some v → ∃ d, ds[i]? = some d ∧ Da K G v d
  | _, _, _, _, .nil, e => by simp at e
  | _, _, 0, _, .cons a _, e => by simp at e; subst e; exact ⟨_, rfl, a⟩
  | _, _, i + 1, v, .cons _ b, e => by
    obtain ⟨d, h1, h2⟩ := DaAll.getV (i := i) (v := v) b (by simpa using e)
    exact ⟨d, by simpa using h1, h2⟩
theorem DaAll.append : ∀ {vs ws : List V} {ds es : List D}, DaAll K G vs ds → DaAll K G ws es → DaAll K G (vs ++ ws) (ds ++ es)
  | _, _, _, _, .nil, b => b
  | _, _, _, _, .cons a r, b => .cons a (DaAll.append r b)
theorem DaAll.one {v : V} {d : D} (h : Da K G v d) : DaAll K G [v] [d] := .cons h .nil
theorem DaAll.take : ∀ {vs : List V} {ds : List D} (n : Nat), DaAll K G vs ds → DaAll K G (vs.take n) (ds.take n)
  | _, _, 0, _ => .nil
  | _, _, _ + 1, .nil => .nil
  | _, _, n + 1, .cons a b => .cons a (DaAll.take n b)
theorem DaAll.drop : ∀ {vs : List V} {ds : List D} (n : Nat), DaAll K G vs ds → DaAll K G (vs.drop n) (ds.drop n)
  | _, _, 0, h => h
  | _, _, _ + 1, .nil => .nil
  | _, _, n + 1, .cons _ b => DaAll.drop n b
theorem DaAll.set {v : V} {d : D} (h : Da K G v d) : ∀ {vs : List V} {ds : List D} (n : Nat), DaAll K G vs ds → DaAll K G (vs.set n v) (ds.set n d)
  | _, _, _, .nil => .nil
  | _, _, 0, .cons _ b => .cons h b
  | _, _, n + 1, .cons a b => .cons a (DaAll.set h n b)
theorem DaAll.reverse : ∀ {vs : List V} {ds : List D}, DaAll K G vs ds → DaAll K G vs.reverse ds.reverse
  | _, _, .nil => .nil
  | _, _, .cons a b => by
    rw [List.reverse_cons, List.reverse_cons]
    exact (DaAll.reverse b).append (.one a)
theorem DaAll.replicate {v : V} {d : D} (h : Da K G v d) : ∀ n : Nat, DaAll K G (List.replicate n v) (List.replicate n d)
  | 0 => .nil
  | n + 1 => .cons h (DaAll.replicate h n)
theorem DaAll.flatReplicate {vs : List V} {ds : List D} (h : DaAll K G vs ds) : ∀ n : Nat, DaAll K G (List.replicate n vs).flatten (List.replicate n ds).flatten
  | 0 => .nil
  | n + 1 => by
    rw [List.replicate_succ, List.replicate_succ, List.flatten_cons, List.flatten_cons]
    exact h.append (DaAll.flatReplicate h n)
theorem daInts : ∀ ns : List Int, DaAll K G (ns.map V.int) (ns.map PyData.int)
  | [] => .nil
  | n :: r => .cons (.int n) (daInts r)
theorem DaAll.ints : ∀ {vs : List V} {ns : List Int}, DaAll K G vs (ns.map PyData.int) → vs = ns.map V.int
  | [], [], _ => rfl
  | _ :: _, n :: ns, .cons a b => by
    cases a
    rw [List.map_cons, DaAll.ints b]
end

/-- the dict of sys.modules is none of ours -/
def Sys (X : Cx) : Prop := ∃ o es ep, X.base.get? sysModules = some o ∧ o.data = .dict es ep
section
variable {X : Cx} {pins : List (Addr × Obj)} {σ : L2.St} {H : Hp} {s : Shared}
theorem ne_sysL (hy : Sys X) (I : Inv X pins σ H s) {a : Addr} {xs : List V} (h : SqL X.K H a xs) : a ≠ sysModules := by
  rintro rfl
  obtain ⟨o, es, ep, e, d⟩ := hy
  obtain ⟨its, _, ⟨o', n, e', _, _, d'⟩, _⟩ := I.list h
  rw [(I.bs _ _ e).1] at e'
  cases e'
  rw [d] at d'
  cases d'
theorem flat_reads {v : V} {u : Value} (f : flat v = true) (r : RelV v u) : ∀ h : Heap, Reads h u (flatD v) [] := fun h => by
  cases v with
  | non => cases r; exact Reads.none
  | bl b => cases r; exact Reads.bool b
  | int i => obtain ⟨t, rfl⟩ := r; exact Reads.int i t
  | str x => obtain ⟨t, rfl⟩ := r; exact Reads.str x t
  | _ => cases f
theorem pairs_reads {h : Heap} : ∀ {es : List DictEntry} {vs : List (Key × Value)} {kvs : List (Key × V)}, Pairs (mixKind X.prog X.w) es vs → KV kvs vs → (∀ p ∈ kvs, flat p.2 = true) →
    ReadsAll h (es.map (·.key)) ((kvs.map fun p => (keyD p.1, flatD p.2)).map (·.1)) [] ∧ ReadsAll h (es.map (·.val)) ((kvs.map fun p => (keyD p.1, flatD p.2)).map (·.2)) []
  | _, _, _, .nil, .nil, _ => ⟨.nil, .nil⟩
  | _, _, _, .cons hk hv t, .cons r rr, f => by
    obtain ⟨h1, h2⟩ := pairs_reads (h := h) t rr fun p hp => f p (List.mem_cons_of_mem _ hp)
    obtain ⟨e1, r1⟩ := r
    refine ⟨ReadsAll.cons (as := []) (bs := []) ?_ h1, ReadsAll.cons (as := []) (bs := []) ?_ h2⟩
    · rcases keyIs_shape (show keyIs _ _ = true from hk) with ⟨i, t, ek, ev⟩ | ⟨x, t, ek, ev⟩
      · dsimp only
        rw [ev, e1, ek]
        exact Reads.int i t
      · dsimp only
        rw [ev, e1, ek]
        exact Reads.str x t
    · dsimp only
      rw [hv]
      exact flat_reads (f _ List.mem_cons_self) r1 h
mutual
theorem Da.reads (hy : Sys X) (I : Inv X pins σ H s) : ∀ (d : D) (v : V) (u : Value), Da X.K H v d → RelV v u → ∃ as, Reads s.heap u d as ∧ sysModules ∉ as
  | .none, _, _, h, r => by
    cases h
    cases r
    exact ⟨_, Reads.none, by simp⟩
  | .bool b, _, _, h, r => by
    cases h
    cases r
    exact ⟨_, Reads.bool b, by simp⟩
  | .int i, _, _, h, r => by
    cases h
    obtain ⟨t, rfl⟩ := r
    exact ⟨_, Reads.int i t, by simp⟩
  | .str x, _, _, h, r => by
    cases h
    obtain ⟨t, rfl⟩ := r
    exact ⟨_, Reads.str x t, by simp⟩
  | .list ds, _, _, h, r => by
    cases h with
    | lst hs ha =>
      cases r
      obtain ⟨its, rv, ⟨o, n, ho, hc, _, hd⟩, _⟩ := I.list (SqL.of hs)
      obtain ⟨as, hr, hn⟩ := Da.readsAll hy I ds _ its ha rv
      refine ⟨_, Reads.list ho hc hd hr, fun hm => ?_⟩
      rcases List.mem_cons.mp hm with e | e
      · exact ne_sysL hy I (SqL.of hs) e.symm
      · exact hn e
  | .tuple ds, _, _, h, r => by
    cases h with
    | tup hs ha =>
      cases r
      obtain ⟨its, rv, ⟨o, ho, hc, n, hd⟩, _⟩ := I.tuple hs
      obtain ⟨as, hr, hn⟩ := Da.readsAll hy I ds _ its ha rv
      exact ⟨_, Reads.tuple ho hc hd hr, hn⟩
  | .dict kvs, _, _, h, r => by
    cases h with
    | dct hs hf =>
      cases r
      obtain ⟨z, y, vs, kv, o, es, ep, ho, hx, hd, _, hp, _⟩ := I.hok _ _ hs
      obtain ⟨h1, h2⟩ := pairs_reads (h := s.heap) hp kv hf
      refine ⟨_, Reads.dict ho hx.1 hd h1 h2, fun hm => ?_⟩
      rcases List.mem_cons.mp hm with e | e
      · rw [← e] at y
        exact absurd y (by decide)
      · simp at e
theorem Da.readsAll (hy : Sys X) (I : Inv X pins σ H s) : ∀ (ds : List D) (vs : List V) (us : List Value), DaAll X.K H vs ds → Vals vs us → ∃ as, ReadsAll s.heap us ds as ∧ sysModules ∉ as
  | [], _, _, h, r => by
    cases h
    cases r
    exact ⟨_, ReadsAll.nil, by simp⟩
  | d :: ds, _, _, h, r => by
    cases h with
    | cons h1 h2 =>
      cases r with
      | cons r1 r2 =>
        obtain ⟨as, q1, n1⟩ := Da.reads hy I d _ _ h1 r1
        obtain ⟨bs, q2, n2⟩ := Da.readsAll hy I ds _ _ h2 r2
        exact ⟨_, ReadsAll.cons q1 q2, by simp [n1, n2]⟩
end
end

/-! ### the state: what a body knows -/
/-- a def's entry: the heap, what of it is data, the deck -/
structure Bs where
  H : Hp
  G : Hp
  dk : Option (Addr × Addr)
def Bs.fp (B : Bs) (a : Addr) : Prop := ∃ x y, B.dk = some (x, y) ∧ (a = x ∨ a = y)
def DeckAt (H : Hp) (a b : Addr) (n : Nat) : Prop := ∃ (cells : List Int) (c : Int), H a = some (.lst [.ref b, .int c]) ∧ H b = some (.lst (cells.map V.int)) ∧ a ≠ b ∧ 0 ≤ c ∧ c ≤ (n : Int) ∧ (∀ x ∈ cells, 0 ≤ x) ∧ cells.length ≤ 63
structure Fm (B : Bs) (H G : Hp) (n : Nat) : Prop where
  keep : ∀ a o, B.H a = some o → ¬ B.fp a → H a = some o
  sub : Same G H
  old : Same B.G G
  new : ∀ a, B.H a ≠ none → B.G a = none → G a = none
  deck : ∀ a b, B.dk = some (a, b) → DeckAt H a b n ∧ B.H a ≠ none ∧ B.H b ≠ none ∧ B.G a = none ∧ B.G b = none
/-- what a slot holds: data, a list of its own (it may be changed), the deck, anything -/
inductive Sl where
  | val (d : D) | own (ds : List D) | deck | any
structure Ok (K : PySem.W.Frag) (B : Bs) (g : List Sl) (σ : L2.St) (H G : Hp) (n : Nat) : Prop where
  fm : Fm B H G n
  len : g.length = σ.length
  val : ∀ (i : Nat) (d : D), g[i]? = some (Sl.val d) → ∃ v, σ[i]? = some (some v) ∧ Da K G v d
  own : ∃ f : Nat → Addr, (∀ (i j : Nat) (ds es : List D), g[i]? = some (Sl.own ds) → g[j]? = some (Sl.own es) → f i = f j → i = j) ∧
    ∀ (i : Nat) (ds : List D), g[i]? = some (Sl.own ds) → σ[i]? = some (some (V.ref (f i))) ∧ G (f i) = none ∧ B.H (f i) = none ∧ ∃ xs, H (f i) = some (.lst xs) ∧ DaAll K G xs ds
  dck : ∀ (i : Nat), g[i]? = some Sl.deck → ∃ a b, B.dk = some (a, b) ∧ σ[i]? = some (some (V.ref a))
/-- an error as it lies behind the code -/
def ExAt (X : Cx) (e : Exn) (G H : Hp) (c : Value) (od : Option Addr) : Prop := ∃ C, X.mg e.cls = some (.ref C) ∧ c = .ref C ∧
  ((e.fs = [] ∧ od = none) ∨ ∃ dx vs, od = some dx ∧ H dx = some (.xd vs) ∧ vs.map (·.1) = e.fs.map (·.1) ∧ DaAll X.K G (vs.map (·.2)) (e.fs.map (·.2)))
def Xw (X : Cx) (B : Bs) (EX : XK) (ξ : Exn → Nat → Prop) : Prop := ∀ e n' H' G' c od, ξ e n' → Fm B H' G' n' → ExAt X e G' H' c od → EX c od H'

section
variable {K : PySem.W.Frag} {B : Bs} {g : List Sl} {σ : L2.St} {H G H' G' : Hp} {n : Nat}
/-- the heap grows: G grows with it, but not into what stood there -/
theorem Fm.grow (f : Fm B H G n) (s : Same H H') (sg : Same G G') (sb : Same G' H') (nw : ∀ a, H a ≠ none → G a = none → G' a = none) : Fm B H' G' n where
  keep := fun a o e q => s _ _ (f.keep a o e q)
  sub := sb
  old := f.old.trans sg
  new := fun a e q => by
    by_cases h : H a = none
    · by_cases hp : B.fp a
      · obtain ⟨x, y, ed, hxy⟩ := hp
        obtain ⟨⟨cs, c, h1, h2, _⟩, _⟩ := f.deck x y ed
        rcases hxy with rfl | rfl
        · rw [h1] at h; cases h
        · rw [h2] at h; cases h
      · cases hb : B.H a with
        | none => exact absurd hb e
        | some o => rw [f.keep a o hb hp] at h; cases h
    · exact nw a h (f.new a e q)
  deck := fun a b e => by
    obtain ⟨⟨cs, c, h1, h2, h3⟩, r⟩ := f.deck a b e
    exact ⟨⟨cs, c, s _ _ h1, s _ _ h2, h3⟩, r⟩
theorem Ok.grow (o : Ok K B g σ H G n) (s : Same H H') (sg : Same G G') (sb : Same G' H') (nw : ∀ a, H a ≠ none → G a = none → G' a = none) : Ok K B g σ H' G' n where
  fm := o.fm.grow s sg sb nw
  len := o.len
  val := fun i d e => by
    obtain ⟨v, h1, h2⟩ := o.val i d e
    exact ⟨v, h1, h2.mono sg⟩
  own := by
    obtain ⟨f, h1, h2⟩ := o.own
    refine ⟨f, h1, fun i ds e => ?_⟩
    obtain ⟨a, b, c, xs, d, e⟩ := h2 i ds e
    exact ⟨a, nw _ (by rw [d]; simp) b, c, xs, s _ _ d, e.mono sg⟩
  dck := o.dck
theorem same_upd {H : Hp} {p : Addr} {o : HO} (h : H p = none) : Same H (upd H p o) := fun b x e => by
  rw [upd_ne (ne_of_none e h)]
  exact e
/-- a new object that is data -/
theorem Ok.alloc (o : Ok K B g σ H G n) {p : Addr} {u : HO} (h : H p = none) : Ok K B g σ (upd H p u) (upd G p u) n ∧ Same G (upd G p u) := by
  have hg : G p = none := by
    cases e : G p with
    | none => rfl
    | some z => rw [o.fm.sub _ _ e] at h; cases h
  refine ⟨o.grow (same_upd h) (same_upd hg) (fun a z e => ?_) (fun a e q => ?_), same_upd hg⟩
  · unfold upd at e ⊢
    split at e
    · rename_i ha; rw [if_pos ha]; exact e
    · rename_i ha; rw [if_neg ha]; exact o.fm.sub _ _ e
  · have : a ≠ p := by rintro rfl; exact e h
    rw [upd_ne this]; exact q
/-- a new object that is not data (yet) -/
theorem Ok.raw (o : Ok K B g σ H G n) {p : Addr} {u : HO} (h : H p = none) : Ok K B g σ (upd H p u) G n :=
  o.grow (same_upd h) (Same.refl _) (o.fm.sub.trans (same_upd h)) fun _ _ q => q
theorem Ok.free (o : Ok K B g σ H G n) {p : Addr} (h : H p = none) : G p = none := by
  cases e : G p with
  | none => rfl
  | some z => rw [o.fm.sub _ _ e] at h; cases h
end

/-! ### the judgements -/
section
variable {m : Type → Type} [Mo m]
/-- an expression that gives data -/
def teJ (X : Cx) (EX : XK) (g : List Sl) (x : m D) : TE := fun σ H Q => ∃ B G n φ ξ, Ok X.K B g σ H G n ∧ Mo.sat x n φ ξ ∧ (∀ v H' G' d n', Ok X.K B g σ H' G' n' → Same G G' → Da X.K G' v d → φ d n' → Q v H') ∧ Xw X B EX ξ
def EJ (X : Cx) (EX : XK) (e : Expr) (g : List Sl) (x : m D) : Prop := PE X e (teJ X EX g x)
/-- an expression that gives a new list, not data yet -/
def tlJ (X : Cx) (EX : XK) (g : List Sl) (x : m (List D)) : TE := fun σ H Q => ∃ B G n φ ξ, Ok X.K B g σ H G n ∧ Mo.sat x n φ ξ ∧
  (∀ p xs H' G' ds n', Ok X.K B g σ H' G' n' → Same G G' → B.H p = none → G' p = none → H' p = some (.lst xs) → (∀ (i : Nat) (es : List D) (f : Addr), g[i]? = some (Sl.own es) → σ[i]? = some (some (V.ref f)) → f ≠ p) → DaAll X.K G' xs ds → φ ds n' → Q (.ref p) H') ∧ Xw X B EX ξ
def LJ (X : Cx) (EX : XK) (e : Expr) (g : List Sl) (x : m (List D)) : Prop := PE X e (tlJ X EX g x)
def ttJ (X : Cx) (EX : XK) (g : List Sl) (x : m Bool) : TT := fun σ H Q => ∃ B G n φ ξ, Ok X.K B g σ H G n ∧ Mo.sat x n φ ξ ∧ (∀ b H' G' n', Ok X.K B g σ H' G' n' → Same G G' → φ b n' → Q b H') ∧ Xw X B EX ξ
def TJ (X : Cx) (EX : XK) (e : Expr) (g : List Sl) (x : m Bool) : Prop := PT X e (ttJ X EX g x)
/-- arguments: data, or the deck -/
def ArgOk (K : PySem.W.Frag) (B : Bs) (G : Hp) : V → Sl → Prop
  | v, .val d => Da K G v d
  | v, .deck => ∃ a b, B.dk = some (a, b) ∧ v = .ref a
  | _, _ => False
inductive ArgsOk (K : PySem.W.Frag) (B : Bs) (G : Hp) : List V → List Sl → Prop
  | nil : ArgsOk K B G [] []
  | cons {v : V} {vs : List V} {a : Sl} {as : List Sl} : ArgOk K B G v a → ArgsOk K B G vs as → ArgsOk K B G (v :: vs) (a :: as)
def taJ (X : Cx) (EX : XK) (g : List Sl) (x : m (List Sl)) : TA := fun σ H Q => ∃ B G n φ ξ, Ok X.K B g σ H G n ∧ Mo.sat x n φ ξ ∧ (∀ vs H' G' as n', Ok X.K B g σ H' G' n' → Same G G' → ArgsOk X.K B G' vs as → φ as n' → Q vs H') ∧ Xw X B EX ξ
def AJ (X : Cx) (EX : XK) (es : List Expr) (g : List Sl) (x : m (List Sl)) : Prop := PA X es (taJ X EX g x)
end
theorem _root_.L2.PE.weak {X : Cx} {e : Expr} {t t' : TE} (h : PE X e t) (w : ∀ σ H Q, t' σ H Q → t σ H Q) : PE X e t' := ⟨fun pins s σ H Q I q => h.run pins s σ H Q I (w _ _ _ q)⟩
theorem _root_.L2.PT.weak {X : Cx} {e : Expr} {t t' : TT} (h : PT X e t) (w : ∀ σ H Q, t' σ H Q → t σ H Q) : PT X e t' := ⟨fun pins s σ H Q I q => h.run pins s σ H Q I (w _ _ _ q)⟩
theorem _root_.L2.PA.weak {X : Cx} {es : List Expr} {t t' : TA} (h : PA X es t) (w : ∀ σ H Q, t' σ H Q → t σ H Q) : PA X es t' := ⟨fun pos pins s σ H Q I q => h.run pos pins s σ H Q I (w _ _ _ q)⟩
theorem _root_.L2.PSs.weak {X : Cx} {ss : List Stmt} {t t' : TS} (h : PSs X ss t) (w : ∀ D σ H, t' D σ H → t D σ H) : PSs X ss t' := ⟨fun pins s σ H D I q => h.run pins s σ H D I (w _ _ _ q)⟩
theorem _root_.L2.PS.weak {X : Cx} {ss : Stmt} {t t' : TS} (h : PS X ss t) (w : ∀ D σ H, t' D σ H → t D σ H) : PS X ss t' := ⟨fun pins s σ H D I q => h.run pins s σ H D I (w _ _ _ q)⟩
end DD
namespace DD
open PySem PySem.Spec PyProof.Rows L2

/-- the heap and its data grow -/
structure Gr (H G H' G' : Hp) : Prop where
  h : Same H H'
  g : Same G G'
  sub : Same G' H'
  new : ∀ a, H a ≠ none → G a = none → G' a = none
theorem Gr.refl {H G : Hp} (s : Same G H) : Gr H G H G := ⟨Same.refl _, Same.refl _, s, fun _ _ q => q⟩
theorem Ok.gr {K : PySem.W.Frag} {B : Bs} {g : List Sl} {σ : L2.St} {H G H' G' : Hp} {n : Nat} (o : Ok K B g σ H G n) (r : Gr H G H' G') : Ok K B g σ H' G' n := o.grow r.h r.g r.sub r.new
theorem Gr.alloc {H G : Hp} {p : Addr} {u : HO} (s : Same G H) (h : H p = none) : Gr H G (upd H p u) (upd G p u) := by
  have hg : G p = none := by
    cases e : G p with
    | none => rfl
    | some z => rw [s _ _ e] at h; cases h
  refine ⟨same_upd h, same_upd hg, fun a z e => ?_, fun a e q => ?_⟩
  · unfold upd at e ⊢
    split at e
    · rename_i ha; rw [if_pos ha]; exact e
    · rename_i ha; rw [if_neg ha]; exact s _ _ e
  · have : a ≠ p := by rintro rfl; exact e h
    rw [upd_ne this]; exact q
theorem Gr.trans {H G H1 G1 H2 G2 : Hp} (a : Gr H G H1 G1) (b : Gr H1 G1 H2 G2) : Gr H G H2 G2 :=
  ⟨a.h.trans b.h, a.g.trans b.g, b.sub, fun x e q => b.new x (by
    cases h : H x with
    | none => exact absurd h e
    | some o => rw [a.h _ _ h]; simp) (a.new x e q)⟩

/-- operations on data behind operations on values -/
def RD (K : PySem.W.Frag) (r : R2) (f : D → D → Option D) : Prop := ∀ (x y : V) (dx dy z : D) (H G : Hp) (Q : VK), Da K G x dx → Da K G y dy → Same G H → f dx dy = some z → (∀ v H' G', Gr H G H' G' → Da K G' v z → Q v H') → r x y H Q
def RU1 (K : PySem.W.Frag) (r : V → Hp → VK → Prop) (f : D → Option D) : Prop := ∀ (x : V) (dx z : D) (H G : Hp) (Q : VK), Da K G x dx → Same G H → f dx = some z → (∀ v H' G', Gr H G H' G' → Da K G' v z → Q v H') → r x H Q
def RC1 (K : PySem.W.Frag) (r : List V → Hp → VK → Prop) (f : D → Option D) : Prop := ∀ (x : V) (dx z : D) (H G : Hp) (Q : VK), Da K G x dx → Same G H → f dx = some z → (∀ v H' G', Gr H G H' G' → Da K G' v z → Q v H') → r [x] H Q
def RC2 (K : PySem.W.Frag) (r : List V → Hp → VK → Prop) (f : D → D → Option D) : Prop := ∀ (x y : V) (dx dy z : D) (H G : Hp) (Q : VK), Da K G x dx → Da K G y dy → Same G H → f dx dy = some z → (∀ v H' G', Gr H G H' G' → Da K G' v z → Q v H') → r [x, y] H Q

section
variable {m : Type → Type} [Mo m] {X : Cx} {EX : XK} {g : List Sl}

/-! ### names, constants -/
theorem ej_var (i : Nat) {x : Str} {pos : Pos} {d : D} (hs : g[i]? = some (Sl.val d) := by rfl) (hN : X.N[i]? = some x := by rfl) (hv : Vis X.env.scope x := by first | exact Or.inl rfl | exact Or.inr (Or.inl rfl) | exact Or.inr (Or.inr rfl)) (hd : (x == ("__debug__" : Str)) = false := by decide)
    (hcd : (x == ("__classdict__" : Str)) = false := by decide) : EJ (m := m) X EX (.Name x pos) g (pure d) :=
  (pe_var hN hv hd hcd).weak fun σ H Q ⟨B, G, n, φ, ξ, o, s, q, _⟩ => by
    obtain ⟨v, h1, h2⟩ := o.val i d hs
    exact ⟨v, h1, q v H G d n o (Same.refl _) h2 (Mo.sat_pure s)⟩
theorem ej_c {e : Expr} {v : V} {d : D} (h : PE X e (tC v)) (hd : ∀ K G, Da K G v d) : EJ (m := m) X EX e g (pure d) :=
  h.weak fun σ H Q ⟨B, G, n, φ, ξ, o, s, q, _⟩ => q v H G d n o (Same.refl _) (hd _ _) (Mo.sat_pure s)
theorem ej_int {i : Int} {j pos} : EJ (m := m) X EX (.Constant (.int i) j pos) g (pure (.int i)) := ej_c pe_int fun _ _ => .int i
theorem ej_bl {b : Bool} {j pos} : EJ (m := m) X EX (.Constant (.bool b) j pos) g (pure (.bool b)) := ej_c pe_bl fun _ _ => .bl b
theorem ej_non {j pos} : EJ (m := m) X EX (.Constant .none j pos) g (pure .none) := ej_c pe_non fun _ _ => .non
theorem ej_str {x : Str} {j pos} : EJ (m := m) X EX (.Constant (.str x) j pos) g (pure (.str x)) := ej_c pe_str fun _ _ => .str x
theorem ej_gint {x : Str} {i : Int} {t : Tok} {pos : Pos} (hm : X.mg x = some (.int i t)) (hg : Gl X x := by rfl) (hd : (x == ("__debug__" : Str)) = false := by decide) : EJ (m := m) X EX (.Name x pos) g (pure (.int i)) :=
  ej_c (pe_glob (v := .int i) hg hm ⟨t, rfl⟩ hd) fun _ _ => .int i
theorem ej_gstr {x : Str} {i : Str} {t : Tok} {pos : Pos} (hm : X.mg x = some (.str i t)) (hg : Gl X x := by rfl) (hd : (x == ("__debug__" : Str)) = false := by decide) : EJ (m := m) X EX (.Name x pos) g (pure (.str i)) :=
  ej_c (pe_glob (v := .str i) hg hm ⟨t, rfl⟩ hd) fun _ _ => .str i

/-! ### one and two operands -/
theorem te_one {α : Type} {x : m D} {f : D → m α} {n : Nat} {φ : α → Nat → Prop} {ξ : Exn → Nat → Prop} {B : Bs} {σ : L2.St} {H G : Hp} {Q : VK} (o : Ok X.K B g σ H G n) (s : Mo.sat (x >>= f) n φ ξ)
    (q : ∀ v H' G' d n', Ok X.K B g σ H' G' n' → Same G G' → Da X.K G' v d → Mo.sat (f d) n' φ ξ → Q v H') (xw : Xw X B EX ξ) : teJ X EX g x σ H Q :=
  ⟨B, G, n, _, ξ, o, Mo.sat_bind s, q, xw⟩
theorem ej_bin {a b : Expr} {op : Operator} {pos : Pos} {r : R2} {f : D → D → Option D} {x y : m D} (ho : OpR X (binaryOp op) r) (hr : RD X.K r f) (ha : EJ X EX a g x) (hb : EJ X EX b g y) :
    EJ X EX (.BinOp a op b pos) g (x >>= fun dx => y >>= fun dy => Mo.lift (f dx dy)) :=
  (pe_op ho ha hb).weak fun σ H Q ⟨B, G, n, φ, ξ, o, s, q, xw⟩ => te_one o s (fun v H1 G1 d n1 o1 g1 d1 s1 => te_one o1 s1 (fun w H2 G2 e n2 o2 g2 d2 s2 => by
    obtain ⟨z, ez, pz⟩ := Mo.sat_lift s2
    exact hr v w d e z H2 G2 Q (d1.mono g2) d2 o2.fm.sub ez fun u H3 G3 gr du => q u H3 G3 z n2 (o2.gr gr) ((g1.trans g2).trans gr.g) du pz) xw) xw
theorem ej_cmp {a b : Expr} {op : CmpOp} {pos : Pos} {r : R2} {f : D → D → Option D} {x y : m D} (ho : OpR X (compareOp op) r) (hr : RD X.K r f) (ha : EJ X EX a g x) (hb : EJ X EX b g y) (hn : behindInMarks op b = false := by first | exact nobehind _ (by decide) (by decide) | rfl) :
    EJ X EX (.Compare a [op] [b] pos) g (x >>= fun dx => y >>= fun dy => Mo.lift (f dx dy)) :=
  (pe_cmpR ho ha hb hn).weak fun σ H Q ⟨B, G, n, φ, ξ, o, s, q, xw⟩ => te_one o s (fun v H1 G1 d n1 o1 g1 d1 s1 => te_one o1 s1 (fun w H2 G2 e n2 o2 g2 d2 s2 => by
    obtain ⟨z, ez, pz⟩ := Mo.sat_lift s2
    exact hr v w d e z H2 G2 Q (d1.mono g2) d2 o2.fm.sub ez fun u H3 G3 gr du => q u H3 G3 z n2 (o2.gr gr) ((g1.trans g2).trans gr.g) du pz) xw) xw
theorem ej_ix {a b : Expr} {pos : Pos} {r : R2} {f : D → D → Option D} {x y : m D} (ho : IxR X r) (hr : RD X.K r f) (ha : EJ X EX a g x) (hb : EJ X EX b g y) (hs : PlainIx b) :
    EJ X EX (.Subscript a b pos) g (x >>= fun dx => y >>= fun dy => Mo.lift (f dx dy)) :=
  (pe_ix ho ha hb hs).weak fun σ H Q ⟨B, G, n, φ, ξ, o, s, q, xw⟩ => te_one o s (fun v H1 G1 d n1 o1 g1 d1 s1 => te_one o1 s1 (fun w H2 G2 e n2 o2 g2 d2 s2 => by
    obtain ⟨z, ez, pz⟩ := Mo.sat_lift s2
    exact hr v w d e z H2 G2 Q (d1.mono g2) d2 o2.fm.sub ez fun u H3 G3 gr du => q u H3 G3 z n2 (o2.gr gr) ((g1.trans g2).trans gr.g) du pz) xw) xw
theorem ej_un {a : Expr} {op : UnaryOp} {pos : Pos} {r : V → Hp → VK → Prop} {f : D → Option D} {x : m D} (ho : UnR X (unaryOp op) r) (hr : RU1 X.K r f) (ha : EJ X EX a g x) :
    EJ X EX (.UnaryOp op a pos) g (x >>= fun dx => Mo.lift (f dx)) :=
  (pe_un ho ha).weak fun σ H Q ⟨B, G, n, φ, ξ, o, s, q, xw⟩ => te_one o s (fun v H1 G1 d n1 o1 g1 d1 s1 => by
    obtain ⟨z, ez, pz⟩ := Mo.sat_lift s1
    exact hr v d z H1 G1 Q d1 o1.fm.sub ez fun u H3 G3 gr du => q u H3 G3 z n1 (o1.gr gr) (g1.trans gr.g) du pz) xw
theorem ej_call1 {fx : Str} {p pos : Pos} {a : Expr} {id : String} {r : List V → Hp → VK → Prop} {f : D → Option D} {x : m D} (hc : CallR X (.builtin id) r) (hr : RC1 X.K r f) (hm : X.mg fx = none) (ha : EJ X EX a g x) (hv : bootBuiltins fx = some (.builtin id) := by decide +kernel) (hg : Gl X fx := by rfl)
    (hn : fx ≠ "__name__" := by decide) (hdb : (fx == ("__debug__" : Str)) = false := by decide) (hs : starEach [a] X.env = (false, eval a X.env) :: starEach [] X.env := by rfl) :
    EJ X EX (.Call (.Name fx p) [a] [] pos) g (x >>= fun d => Mo.lift (f d)) :=
  (pe_callB hc hg hm hv (pa_cons ha pa_nil hs) hn hdb hs rfl).weak fun σ H Q ⟨B, G, n, φ, ξ, o, s, q, xw⟩ => te_one o s (fun v H1 G1 d n1 o1 g1 d1 s1 => by
    obtain ⟨z, ez, pz⟩ := Mo.sat_lift s1
    exact hr v d z H1 G1 Q d1 o1.fm.sub ez fun u H3 G3 gr du => q u H3 G3 z n1 (o1.gr gr) (g1.trans gr.g) du pz) xw
theorem ej_callT {fx : Str} {p pos : Pos} {a : Expr} {T : String} {r : List V → Hp → VK → Prop} {f : D → Option D} {x : m D} (hc : CallR X (.type T) r) (hr : RC1 X.K r f) (hm : X.mg fx = none) (ha : EJ X EX a g x) (hv : bootBuiltins fx = some (.type T) := by decide +kernel) (hg : Gl X fx := by rfl)
    (hn : fx ≠ "__name__" := by decide) (hdb : (fx == ("__debug__" : Str)) = false := by decide) (hs : starEach [a] X.env = (false, eval a X.env) :: starEach [] X.env := by rfl) :
    EJ X EX (.Call (.Name fx p) [a] [] pos) g (x >>= fun d => Mo.lift (f d)) :=
  (pe_callTy hc hg hm hv (pa_cons ha pa_nil hs) hn hdb hs rfl).weak fun σ H Q ⟨B, G, n, φ, ξ, o, s, q, xw⟩ => te_one o s (fun v H1 G1 d n1 o1 g1 d1 s1 => by
    obtain ⟨z, ez, pz⟩ := Mo.sat_lift s1
    exact hr v d z H1 G1 Q d1 o1.fm.sub ez fun u H3 G3 gr du => q u H3 G3 z n1 (o1.gr gr) (g1.trans gr.g) du pz) xw
theorem ej_call2 {fx : Str} {p pos : Pos} {a b : Expr} {id : String} {r : List V → Hp → VK → Prop} {f : D → D → Option D} {x y : m D} (hc : CallR X (.builtin id) r) (hr : RC2 X.K r f) (hm : X.mg fx = none) (ha : EJ X EX a g x) (hb : EJ X EX b g y) (hv : bootBuiltins fx = some (.builtin id) := by decide +kernel) (hg : Gl X fx := by rfl)
    (hn : fx ≠ "__name__" := by decide) (hdb : (fx == ("__debug__" : Str)) = false := by decide) (hs : starEach [a, b] X.env = (false, eval a X.env) :: starEach [b] X.env := by rfl) (hs2 : starEach [b] X.env = (false, eval b X.env) :: starEach [] X.env := by rfl) :
    EJ X EX (.Call (.Name fx p) [a, b] [] pos) g (x >>= fun d => y >>= fun e => Mo.lift (f d e)) :=
  (pe_callB hc hg hm hv (pa_cons ha (pa_cons hb pa_nil hs2) hs) hn hdb hs (by rw [hs2]; rfl)).weak fun σ H Q ⟨B, G, n, φ, ξ, o, s, q, xw⟩ => te_one o s (fun v H1 G1 d n1 o1 g1 d1 s1 => te_one o1 s1 (fun w H2 G2 e n2 o2 g2 d2 s2 => by
    obtain ⟨z, ez, pz⟩ := Mo.sat_lift s2
    exact hr v w d e z H2 G2 Q (d1.mono g2) d2 o2.fm.sub ez fun u H3 G3 gr du => q u H3 G3 z n2 (o2.gr gr) ((g1.trans g2).trans gr.g) du pz) xw) xw

/-! ### arguments, displays -/
theorem ArgsOk.mono {K : PySem.W.Frag} {B : Bs} {G G' : Hp} (s : Same G G') : ∀ {vs : List V} {as : List Sl}, ArgsOk K B G vs as → ArgsOk K B G' vs as
  | _, _, .nil => .nil
  | _, _, .cons (a := .val d) h r => .cons (show Da _ _ _ _ from Da.mono s h) (ArgsOk.mono s r)
  | _, _, .cons (a := .deck) h r => .cons h (ArgsOk.mono s r)
  | _, _, .cons (a := .own _) h _ => h.elim
  | _, _, .cons (a := .any) h _ => h.elim
theorem aj_nil : AJ (m := m) X EX [] g (pure []) := pa_nil.weak fun σ H Q ⟨B, G, n, φ, ξ, o, s, q, _⟩ => q [] H G [] n o (Same.refl _) .nil (Mo.sat_pure s)
theorem aj_cons {e : Expr} {es : List Expr} {x : m D} {y : m (List Sl)} (he : EJ X EX e g x) (hr : AJ X EX es g y) (hs : starEach (e :: es) X.env = (false, eval e X.env) :: starEach es X.env := by rfl) : AJ X EX (e :: es) g (x >>= fun d => y >>= fun as => pure (.val d :: as)) :=
  (pa_cons he hr hs).weak fun σ H Q ⟨B, G, n, φ, ξ, o, s, q, xw⟩ => te_one o s (fun v H1 G1 d n1 o1 g1 d1 s1 => ⟨B, G1, n1, _, ξ, o1, Mo.sat_bind s1, fun vs H2 G2 as n2 o2 g2 a2 s2 =>
    q (v :: vs) H2 G2 (.val d :: as) n2 o2 (g1.trans g2) (.cons (show Da _ _ _ _ from d1.mono g2) a2) (Mo.sat_pure s2), xw⟩) xw
theorem aj_deck (i : Nat) {x : Str} {pos : Pos} {es : List Expr} {y : m (List Sl)} (hr : AJ X EX es g y) (hg : g[i]? = some Sl.deck := by rfl) (hN : X.N[i]? = some x := by rfl) (hv : Vis X.env.scope x := by first | exact Or.inl rfl | exact Or.inr (Or.inl rfl) | exact Or.inr (Or.inr rfl))
    (hd : (x == ("__debug__" : Str)) = false := by decide) (hcd : (x == ("__classdict__" : Str)) = false := by decide) (hs : starEach (.Name x pos :: es) X.env = (false, eval (.Name x pos) X.env) :: starEach es X.env := by rfl) : AJ X EX (.Name x pos :: es) g (y >>= fun as => pure (.deck :: as)) :=
  (pa_cons (pe_var hN hv hd hcd) hr hs).weak fun σ H Q ⟨B, G, n, φ, ξ, o, s, q, xw⟩ => by
    obtain ⟨a, b, e1, e2⟩ := o.dck i hg
    exact ⟨.ref a, e2, B, G, n, _, ξ, o, Mo.sat_bind s, fun vs H2 G2 as n2 o2 g2 a2 s2 => q _ H2 G2 (.deck :: as) n2 o2 g2 (.cons ⟨a, b, e1, rfl⟩ a2) (Mo.sat_pure s2), xw⟩
end
end DD
namespace DD
open PySem PySem.Spec PyProof.Rows L2

def boolD : D → Option Bool
  | .bool b => some b
  | _ => none
section
variable {m : Type → Type} [Mo m] {X : Cx} {EX : XK} {g : List Sl}
theorem Da.bool {K : PySem.W.Frag} {G : Hp} {v : V} {d : D} {b : Bool} (h : Da K G v d) (e : boolD d = some b) : v = .bl b := by
  cases h <;> simp [boolD] at e
  rw [e]

/-! ### tests -/
theorem tt_one {α : Type} {x : m Bool} {f : Bool → m α} {n : Nat} {φ : α → Nat → Prop} {ξ : Exn → Nat → Prop} {B : Bs} {σ : L2.St} {H G : Hp} {Q : Bool → Hp → Prop} (o : Ok X.K B g σ H G n) (s : Mo.sat (x >>= f) n φ ξ)
    (q : ∀ b H' G' n', Ok X.K B g σ H' G' n' → Same G G' → Mo.sat (f b) n' φ ξ → Q b H') (xw : Xw X B EX ξ) : ttJ X EX g x σ H Q :=
  ⟨B, G, n, _, ξ, o, Mo.sat_bind s, q, xw⟩
theorem tj_val {e : Expr} {x : m D} (h : EJ X EX e g x) (he : ∀ whole, isTrue e X.env whole = (do let v ← whole; standAt e.pos; holding [v] (truthy v)) := by intro _; rfl) : TJ X EX e g (x >>= fun d => Mo.lift (boolD d)) :=
  (pt_val h he).weak fun σ H Q ⟨B, G, n, φ, ξ, o, s, q, xw⟩ => te_one o s (fun v H1 G1 d n1 o1 g1 d1 s1 => by
    obtain ⟨b, eb, pb⟩ := Mo.sat_lift s1
    exact ⟨b, d1.bool eb, q b H1 G1 n1 o1 g1 pb⟩) xw
theorem tj_cmp {a b : Expr} {op : CmpOp} {pos : Pos} {r : R2} {f : D → D → Option D} {x y : m D} (ho : OpR X (compareOp op) r) (hr : RD X.K r f) (ha : EJ X EX a g x) (hb : EJ X EX b g y) (hn : behindInMarks op b = false := by first | exact nobehind _ (by decide) (by decide) | rfl) :
    TJ X EX (.Compare a [op] [b] pos) g (x >>= fun dx => y >>= fun dy => Mo.lift ((f dx dy).bind boolD)) :=
  (pt_cmpR ho ha hb hn).weak fun σ H Q ⟨B, G, n, φ, ξ, o, s, q, xw⟩ => te_one o s (fun v H1 G1 d n1 o1 g1 d1 s1 => te_one o1 s1 (fun w H2 G2 e n2 o2 g2 d2 s2 => by
    obtain ⟨b, eb, pb⟩ := Mo.sat_lift s2
    obtain ⟨z, ez, eb⟩ := Option.bind_eq_some_iff.mp eb
    exact hr v w d e z H2 G2 _ (d1.mono g2) d2 o2.fm.sub ez fun u H3 G3 gr du => ⟨b, du.bool eb, q b H3 G3 n2 (o2.gr gr) ((g1.trans g2).trans gr.g) pb⟩) xw) xw
/-- a < b < c: the second comparison's answer as it is -/
theorem te_chain {op op' : CmpOp} {a b c : Expr} {pos : Pos} {r r' : R2} {f f' : D → D → Option D} {x y z : m D} (ho : OpR X (compareOp op) r) (hr : RD X.K r f) (ho' : OpR X (compareOp op') r') (hr' : RD X.K r' f') (ha : EJ X EX a g x) (hb : EJ X EX b g y) (hc : EJ X EX c g z) {Q : VK} {σ : L2.St} {H : Hp}
    (h : teJ X EX g (x >>= fun dx => y >>= fun dy => Mo.lift ((f dx dy).bind boolD) >>= fun k => if k = true then (z >>= fun dz => Mo.lift (f' dy dz)) else pure (.bool false)) σ H Q) : tChain r r' (teJ X EX g x) (teJ X EX g y) (teJ X EX g z) σ H Q := by
  obtain ⟨B, G, n, φ, ξ, o, s, q, xw⟩ := h
  refine te_one o s (fun v H1 G1 d n1 o1 g1 d1 s1 => te_one o1 s1 (fun w H2 G2 e n2 o2 g2 d2 s2 => ?_) xw) xw
  obtain ⟨k, ek, s3⟩ := Mo.sat_lift (Mo.sat_bind s2)
  obtain ⟨u, eu, ek⟩ := Option.bind_eq_some_iff.mp ek
  refine hr v w d e u H2 G2 _ (d1.mono g2) d2 o2.fm.sub eu fun u' H3 G3 gr du => ⟨k, du.bool ek, ?_⟩
  cases k with
  | true =>
    rw [if_pos rfl] at s3 ⊢
    refine te_one (o2.gr gr) s3 (fun v' H4 G4 d' n4 o4 g4 d4 s4 => ?_) xw
    obtain ⟨z', ez, pz⟩ := Mo.sat_lift s4
    exact hr' w v' e d' z' H4 G4 Q ((d2.mono gr.g).mono g4) d4 o4.fm.sub ez fun u2 H5 G5 gr5 du5 => q u2 H5 G5 z' n4 (o4.gr gr5) ((((g1.trans g2).trans gr.g).trans g4).trans gr5.g) du5 pz
  | false =>
    rw [if_neg Bool.false_ne_true] at s3 ⊢
    exact q _ H3 G3 _ n2 (o2.gr gr) ((g1.trans g2).trans gr.g) (.bl false) (Mo.sat_pure s3)
theorem ej_chain {op op' : CmpOp} {a b c : Expr} {pos : Pos} {r r' : R2} {f f' : D → D → Option D} {x y z : m D} (ho : OpR X (compareOp op) r) (hr : RD X.K r f) (ho' : OpR X (compareOp op') r') (hr' : RD X.K r' f') (ha : EJ X EX a g x) (hb : EJ X EX b g y) (hc : EJ X EX c g z)
    (hm : lastMarks [op, op'] [b, c] = false := by with_unfolding_all rfl) :
    EJ X EX (.Compare a [op, op'] [b, c] pos) g (x >>= fun dx => y >>= fun dy => Mo.lift ((f dx dy).bind boolD) >>= fun k => if k = true then (z >>= fun dz => Mo.lift (f' dy dz)) else pure (.bool false)) :=
  (pe_chain ho ho' ha hb hc hm).weak fun σ H Q h => te_chain (op := op) (op' := op') (pos := pos) ho hr ho' hr' ha hb hc h
theorem tj_chain {op op' : CmpOp} {a b c : Expr} {pos : Pos} {r r' : R2} {f f' : D → D → Option D} {x y z : m D} (ho : OpR X (compareOp op) r) (hr : RD X.K r f) (ho' : OpR X (compareOp op') r') (hr' : RD X.K r' f') (ha : EJ X EX a g x) (hb : EJ X EX b g y) (hc : EJ X EX c g z)
    (hm : lastMarks [op, op'] [b, c] = false := by with_unfolding_all rfl) :
    TJ X EX (.Compare a [op, op'] [b, c] pos) g ((x >>= fun dx => y >>= fun dy => Mo.lift ((f dx dy).bind boolD) >>= fun k => if k = true then (z >>= fun dz => Mo.lift (f' dy dz)) else pure (.bool false)) >>= fun d => Mo.lift (boolD d)) :=
  (pt_chain ho ho' ha hb hc hm).weak fun σ H Q ⟨B, G, n, φ, ξ, o, s, q, xw⟩ => te_chain (op := op) (op' := op') (pos := pos) ho hr ho' hr' ha hb hc (te_one o s (fun v H1 G1 d n1 o1 g1 d1 s1 => by
    obtain ⟨b, eb, pb⟩ := Mo.sat_lift s1
    exact ⟨b, d1.bool eb, q b H1 G1 n1 o1 g1 pb⟩) xw)
theorem tj_not {a : Expr} {pos : Pos} {x : m Bool} (ha : TJ X EX a g x) : TJ X EX (.UnaryOp .Not a pos) g (x >>= fun b => pure (!b)) :=
  (pt_not ha).weak fun σ H Q ⟨B, G, n, φ, ξ, o, s, q, xw⟩ => tt_one o s (fun b H1 G1 n1 o1 g1 s1 => q _ H1 G1 n1 o1 g1 (Mo.sat_pure s1)) xw
/-- and, or: the rest is a test of its own -/
def WJ (X : Cx) (EX : XK) (e : Expr) (g : List Sl) (x : m Bool) : Prop := PW X e (ttJ X EX g x)
theorem _root_.L2.PW.weak {X : Cx} {e : Expr} {t t' : TT} (h : PW X e t) (w : ∀ σ H Q, t' σ H Q → t σ H Q) : PW X e t' := ⟨fun wh pins s σ H Q I q => h.run wh pins s σ H Q I (w _ _ _ q)⟩
theorem tj_w {e : Expr} {x : m Bool} (h : WJ X EX e g x) : TJ X EX e g x := PW.pt h
theorem wj_and1 {a : Expr} {pos : Pos} {x : m Bool} (ha : TJ X EX a g x) : WJ X EX (.BoolOp .And [a] pos) g x := pw_and1 ha
theorem wj_or1 {a : Expr} {pos : Pos} {x : m Bool} (ha : TJ X EX a g x) : WJ X EX (.BoolOp .Or [a] pos) g x := pw_or1 ha
theorem wj_and {a b : Expr} {rest : List Expr} {pos : Pos} {x y : m Bool} (ha : TJ X EX a g x) (hb : WJ X EX (.BoolOp .And (b :: rest) pos) g y) : WJ X EX (.BoolOp .And (a :: b :: rest) pos) g (x >>= fun k => if k = true then y else pure false) :=
  (pw_and ha hb).weak fun σ H Q ⟨B, G, n, φ, ξ, o, s, q, xw⟩ => tt_one o s (fun b H1 G1 n1 o1 g1 s1 => by
    cases b with
    | true =>
      rw [if_pos rfl] at s1 ⊢
      exact ⟨B, G1, n1, φ, ξ, o1, s1, fun b H2 G2 n2 o2 g2 p2 => q b H2 G2 n2 o2 (g1.trans g2) p2, xw⟩
    | false =>
      rw [if_neg Bool.false_ne_true] at s1 ⊢
      exact q false H1 G1 n1 o1 g1 (Mo.sat_pure s1)) xw
theorem wj_or {a b : Expr} {rest : List Expr} {pos : Pos} {x y : m Bool} (ha : TJ X EX a g x) (hb : WJ X EX (.BoolOp .Or (b :: rest) pos) g y) : WJ X EX (.BoolOp .Or (a :: b :: rest) pos) g (x >>= fun k => if k = true then pure true else y) :=
  (pw_or ha hb).weak fun σ H Q ⟨B, G, n, φ, ξ, o, s, q, xw⟩ => tt_one o s (fun b H1 G1 n1 o1 g1 s1 => by
    cases b with
    | true =>
      rw [if_pos rfl] at s1 ⊢
      exact q true H1 G1 n1 o1 g1 (Mo.sat_pure s1)
    | false =>
      rw [if_neg Bool.false_ne_true] at s1 ⊢
      exact ⟨B, G1, n1, φ, ξ, o1, s1, fun b H2 G2 n2 o2 g2 p2 => q b H2 G2 n2 o2 (g1.trans g2) p2, xw⟩) xw
/-- .. as values -/
theorem ej_one {op} {a : Expr} {pos : Pos} {x : m D} (h : EJ X EX a g x) : EJ X EX (.BoolOp op [a] pos) g x := pe_one h
theorem ej_and {a b : Expr} {rest : List Expr} {pos : Pos} {x y : m D} (ha : EJ X EX a g x) (hb : EJ X EX (.BoolOp .And (b :: rest) pos) g y) : EJ X EX (.BoolOp .And (a :: b :: rest) pos) g (x >>= fun d => Mo.lift (boolD d) >>= fun k => if k = true then y else pure (.bool false)) :=
  (pe_and ha hb).weak fun σ H Q ⟨B, G, n, φ, ξ, o, s, q, xw⟩ => te_one o s (fun v H1 G1 d n1 o1 g1 d1 s1 => by
    obtain ⟨b, eb, s2⟩ := Mo.sat_lift (Mo.sat_bind s1)
    refine ⟨b, d1.bool eb, ?_⟩
    cases b with
    | true =>
      rw [if_pos rfl] at s2 ⊢
      exact ⟨B, G1, n1, φ, ξ, o1, s2, fun v H2 G2 e n2 o2 g2 d2 p2 => q v H2 G2 e n2 o2 (g1.trans g2) d2 p2, xw⟩
    | false =>
      rw [if_neg Bool.false_ne_true] at s2 ⊢
      exact q _ H1 G1 _ n1 o1 g1 (.bl false) (Mo.sat_pure s2)) xw
theorem ej_or {a b : Expr} {rest : List Expr} {pos : Pos} {x y : m D} (ha : EJ X EX a g x) (hb : EJ X EX (.BoolOp .Or (b :: rest) pos) g y) : EJ X EX (.BoolOp .Or (a :: b :: rest) pos) g (x >>= fun d => Mo.lift (boolD d) >>= fun k => if k = true then pure (.bool true) else y) :=
  (pe_or ha hb).weak fun σ H Q ⟨B, G, n, φ, ξ, o, s, q, xw⟩ => te_one o s (fun v H1 G1 d n1 o1 g1 d1 s1 => by
    obtain ⟨b, eb, s2⟩ := Mo.sat_lift (Mo.sat_bind s1)
    refine ⟨b, d1.bool eb, ?_⟩
    cases b with
    | true =>
      rw [if_pos rfl] at s2 ⊢
      exact q _ H1 G1 _ n1 o1 g1 (.bl true) (Mo.sat_pure s2)
    | false =>
      rw [if_neg Bool.false_ne_true] at s2 ⊢
      exact ⟨B, G1, n1, φ, ξ, o1, s2, fun v H2 G2 e n2 o2 g2 d2 p2 => q v H2 G2 e n2 o2 (g1.trans g2) d2 p2, xw⟩) xw
def notD : D → Option D
  | .bool b => some (.bool (!b))
  | _ => none
theorem ej_not {a : Expr} {pos : Pos} {x : m D} (ha : EJ X EX a g x) : EJ X EX (.UnaryOp .Not a pos) g (x >>= fun d => Mo.lift (notD d)) :=
  (pe_not ha).weak fun σ H Q ⟨B, G, n, φ, ξ, o, s, q, xw⟩ => te_one o s (fun v H1 G1 d n1 o1 g1 d1 s1 => by
    obtain ⟨z, ez, pz⟩ := Mo.sat_lift s1
    cases d with
    | bool b =>
      cases d1
      cases ez
      exact ⟨b, rfl, q _ H1 G1 _ n1 o1 g1 (.bl _) pz⟩
    | _ => cases ez) xw
theorem ej_if {c a b : Expr} {pos : Pos} {t : m Bool} {x y : m D} (hc : TJ X EX c g t) (ha : EJ X EX a g x) (hb : EJ X EX b g y) : EJ X EX (.IfExp c a b pos) g (t >>= fun k => if k = true then x else y) :=
  (pe_ifExp hc ha hb).weak fun σ H Q ⟨B, G, n, φ, ξ, o, s, q, xw⟩ => tt_one o s (fun b H1 G1 n1 o1 g1 s1 => by
    cases b with
    | true =>
      rw [if_pos rfl] at s1 ⊢
      exact ⟨B, G1, n1, φ, ξ, o1, s1, fun v H2 G2 e n2 o2 g2 d2 p2 => q v H2 G2 e n2 o2 (g1.trans g2) d2 p2, xw⟩
    | false =>
      rw [if_neg Bool.false_ne_true] at s1 ⊢
      exact ⟨B, G1, n1, φ, ξ, o1, s1, fun v H2 G2 e n2 o2 g2 d2 p2 => q v H2 G2 e n2 o2 (g1.trans g2) d2 p2, xw⟩) xw

/-! ### displays -/
def itemsD : D → Option (List D)
  | .list ds => some ds
  | .tuple ds => some ds
  | _ => none
theorem Da.seq {K : PySem.W.Frag} {G : Hp} {v : V} {d : D} {ds : List D} (h : Da K G v d) (e : itemsD d = some ds) : ∃ a xs, v = .ref a ∧ (SqT K G a xs ∨ SqL K G a xs) ∧ DaAll K G xs ds := by
  cases h with
  | lst h1 h2 => cases e; exact ⟨_, _, rfl, .inr (SqL.of h1), h2⟩
  | tup h1 h2 => cases e; exact ⟨_, _, rfl, .inl h1, h2⟩
  | _ => cases e
/-- written items: data alone; L their number, where no star stands among them -/
def tdJ (X : Cx) (EX : XK) (g : List Sl) (x : m (List D)) (L : Option Nat) : TA := fun σ H Q => ∃ B G n φ ξ, Ok X.K B g σ H G n ∧ Mo.sat x n φ ξ ∧ (∀ vs H' G' ds n', Ok X.K B g σ H' G' n' → Same G G' → DaAll X.K G' vs ds → (∀ k, L = some k → vs.length = k) → φ ds n' → Q vs H') ∧ Xw X B EX ξ
def DJ (X : Cx) (EX : XK) (es : List Expr) (g : List Sl) (x : m (List D)) (L : Option Nat) : Prop := PA X es (tdJ X EX g x L)
theorem dj_nil : DJ (m := m) X EX [] g (pure []) (some 0) := pa_nil.weak fun σ H Q ⟨B, G, n, φ, ξ, o, s, q, _⟩ => q [] H G [] n o (Same.refl _) .nil (fun k e => by cases e; rfl) (Mo.sat_pure s)
theorem dj_cons {e : Expr} {es : List Expr} {x : m D} {y : m (List D)} {L : Option Nat} (he : EJ X EX e g x) (hr : DJ X EX es g y L) (hs : starEach (e :: es) X.env = (false, eval e X.env) :: starEach es X.env := by rfl) : DJ X EX (e :: es) g (x >>= fun d => y >>= fun ds => pure (d :: ds)) (L.map (· + 1)) :=
  (pa_cons he hr hs).weak fun σ H Q ⟨B, G, n, φ, ξ, o, s, q, xw⟩ => te_one o s (fun v H1 G1 d n1 o1 g1 d1 s1 => ⟨B, G1, n1, _, ξ, o1, Mo.sat_bind s1, fun vs H2 G2 ds n2 o2 g2 a2 l2 s2 =>
    q (v :: vs) H2 G2 (d :: ds) n2 o2 (g1.trans g2) (.cons (d1.mono g2) a2) (fun k e => by
      obtain ⟨j, e1, rfl⟩ := Option.map_eq_some_iff.mp e
      rw [List.length_cons, l2 j e1]) (Mo.sat_pure s2), xw⟩) xw
theorem dj_star {e : Expr} {es : List Expr} {p : Pos} {x : m D} {y : m (List D)} {L : Option Nat} (he : EJ X EX e g x) (hr : DJ X EX es g y L) (hs : starEach (.Starred e p :: es) X.env = (true, eval e X.env) :: starEach es X.env := by rfl) : DJ X EX (.Starred e p :: es) g (x >>= fun d => Mo.lift (itemsD d) >>= fun as => y >>= fun ds => pure (as ++ ds)) none :=
  (StX.pa_star he hr hs).weak fun σ H Q ⟨B, G, n, φ, ξ, o, s, q, xw⟩ => te_one o s (fun v H1 G1 d n1 o1 g1 d1 s1 => by
    obtain ⟨as, ea, s2⟩ := Mo.sat_lift (Mo.sat_bind s1)
    obtain ⟨a, xs, ev, sq, da⟩ := d1.seq ea
    have sq' : SqT X.K H1 a xs ∨ SqL X.K H1 a xs := sq.elim (fun h => .inl (sameT o1.fm.sub h)) fun h => .inr (o1.fm.sub.seq h)
    exact ⟨a, xs, ev, sq', B, G1, n1, _, ξ, o1, Mo.sat_bind s2, fun vs H2 G2 ds n2 o2 g2 a2 _ s3 =>
      q (xs ++ vs) H2 G2 (as ++ ds) n2 o2 (g1.trans g2) ((da.mono g2).append a2) (fun k e => by cases e) (Mo.sat_pure s3), xw⟩) xw
/-- no display is longer than this -/
def small (ds : List D) : Option (List D) := if ds.length ≤ 1000000 then some ds else none
theorem small_eq {ds es : List D} (h : small ds = some es) : es = ds ∧ ds.length ≤ 1000000 := by
  unfold small at h
  split at h
  · rename_i hl; cases h; exact ⟨rfl, hl⟩
  · cases h
theorem le_line {k : Nat} (h : k ≤ 1000000) : k ≤ sizeLine := Nat.le_trans h (by decide)
theorem ej_tup {es : List Expr} {k : Nat} {pos : Pos} {j} {x : m (List D)} (h : DJ X EX es g x (some k)) (hk : k ≤ 1000000 := by decide) : EJ X EX (.Tuple es j pos) g (x >>= fun ds => pure (.tuple ds)) :=
  (pe_tup h).weak fun σ H Q ⟨B, G, n, φ, ξ, o, s, q, xw⟩ => ⟨B, G, n, _, ξ, o, Mo.sat_bind s, fun vs H1 G1 ds n1 o1 g1 a1 l1 s1 => ⟨by rw [l1 k rfl]; exact le_line hk, fun p hp => by
    obtain ⟨o2, g2⟩ := o1.alloc (u := .tup vs) hp
    exact q _ _ _ _ n1 o2 (g1.trans g2) (.tup (.inl (.inl upd_same)) (a1.mono g2)) (Mo.sat_pure s1)⟩, xw⟩
theorem ej_tupS {es : List Expr} {L : Option Nat} {pos : Pos} {j} {x : m (List D)} (h : DJ X EX es g x L) : EJ X EX (.Tuple es j pos) g (x >>= fun ds => Mo.lift (small ds) >>= fun ds => pure (.tuple ds)) :=
  (pe_tup h).weak fun σ H Q ⟨B, G, n, φ, ξ, o, s, q, xw⟩ => ⟨B, G, n, _, ξ, o, Mo.sat_bind s, fun vs H1 G1 ds n1 o1 g1 a1 l1 s1 => by
    obtain ⟨es', ee, s2⟩ := Mo.sat_lift (Mo.sat_bind s1)
    obtain ⟨rfl, hl⟩ := small_eq ee
    refine ⟨by rw [a1.length]; exact le_line hl, fun p hp => ?_⟩
    obtain ⟨o2, g2⟩ := o1.alloc (u := .tup vs) hp
    exact q _ _ _ _ n1 o2 (g1.trans g2) (.tup (.inl (.inl upd_same)) (a1.mono g2)) (Mo.sat_pure s2), xw⟩
/-- what stood in the heap is not new -/
theorem Ok.fresh {K : PySem.W.Frag} {B : Bs} {σ : L2.St} {H G : Hp} {n : Nat} {p : Addr} (o : Ok K B g σ H G n) (h : H p = none) : B.H p = none ∧ ∀ (i : Nat) (es : List D) (f : Addr), g[i]? = some (Sl.own es) → σ[i]? = some (some (V.ref f)) → f ≠ p := by
  constructor
  · cases e : B.H p with
    | none => rfl
    | some u =>
      by_cases hp : B.fp p
      · obtain ⟨x, y, ed, hxy⟩ := hp
        obtain ⟨⟨cs, c, h1, h2, _⟩, _⟩ := o.fm.deck x y ed
        rcases hxy with rfl | rfl
        · rw [h1] at h; cases h
        · rw [h2] at h; cases h
      · rw [o.fm.keep p u e hp] at h; cases h
  · rintro i es f e1 e2 rfl
    obtain ⟨fn, _, q⟩ := o.own
    obtain ⟨a, _, _, xs, b, _⟩ := q i es e1
    rw [a] at e2
    cases e2
    rw [b] at h; cases h
theorem lj_lst {es : List Expr} {k : Nat} {pos : Pos} {x : m (List D)} (h : DJ X EX es g x (some k)) (hk : k ≤ 1000000 := by decide) : LJ X EX (.List es pos) g x :=
  (pe_lst h).weak fun σ H Q ⟨B, G, n, φ, ξ, o, s, q, xw⟩ => ⟨B, G, n, _, ξ, o, s, fun vs H1 G1 ds n1 o1 g1 a1 l1 s1 => ⟨by rw [l1 k rfl]; exact le_line hk, fun p hp => by
    obtain ⟨f1, f2⟩ := o1.fresh hp
    exact q p vs _ G1 ds n1 (o1.raw hp) g1 f1 (o1.free hp) upd_same f2 a1 s1⟩, xw⟩
theorem lj_lstS {es : List Expr} {L : Option Nat} {pos : Pos} {x : m (List D)} (h : DJ X EX es g x L) : LJ X EX (.List es pos) g (x >>= fun ds => Mo.lift (small ds)) :=
  (pe_lst h).weak fun σ H Q ⟨B, G, n, φ, ξ, o, s, q, xw⟩ => ⟨B, G, n, _, ξ, o, Mo.sat_bind s, fun vs H1 G1 ds n1 o1 g1 a1 l1 s1 => by
    obtain ⟨es', ee, s2⟩ := Mo.sat_lift s1
    obtain ⟨rfl, hl⟩ := small_eq ee
    refine ⟨by rw [a1.length]; exact le_line hl, fun p hp => ?_⟩
    obtain ⟨f1, f2⟩ := o1.fresh hp
    exact q p vs _ G1 _ n1 (o1.raw hp) g1 f1 (o1.free hp) upd_same f2 a1 s2, xw⟩
/-- a new list becomes data -/
theorem Ok.freeze {K : PySem.W.Frag} {B : Bs} {σ : L2.St} {H G : Hp} {n : Nat} {p : Addr} {u : HO} (o : Ok K B g σ H G n) (hb : B.H p = none) (hg : G p = none) (hh : H p = some u) (hf : ∀ (i : Nat) (es : List D) (f : Addr), g[i]? = some (Sl.own es) → σ[i]? = some (some (V.ref f)) → f ≠ p) :
    Ok K B g σ H (upd G p u) n ∧ Same G (upd G p u) := by
  refine ⟨⟨⟨o.fm.keep, fun a z e => ?_, o.fm.old.trans (same_upd hg), fun a e q => ?_, o.fm.deck⟩, o.len, fun i d e => ?_, ?_, o.dck⟩, same_upd hg⟩
  · unfold upd at e
    split at e
    · rename_i ha; subst ha; cases e; exact hh
    · exact o.fm.sub _ _ e
  · have : a ≠ p := by rintro rfl; exact e hb
    rw [upd_ne this]; exact o.fm.new a e q
  · obtain ⟨v, h1, h2⟩ := o.val i d e
    exact ⟨v, h1, h2.mono (same_upd hg)⟩
  · obtain ⟨f, h1, h2⟩ := o.own
    refine ⟨f, h1, fun i ds e => ?_⟩
    obtain ⟨a, b, c, xs, d, da⟩ := h2 i ds e
    exact ⟨a, by rw [upd_ne (hf i ds _ e a)]; exact b, c, xs, d, da.mono (same_upd hg)⟩
theorem ej_l {e : Expr} {x : m (List D)} (h : LJ X EX e g x) : EJ X EX e g (x >>= fun ds => pure (.list ds)) :=
  PE.weak h fun σ H Q ⟨B, G, n, φ, ξ, o, s, q, xw⟩ => ⟨B, G, n, _, ξ, o, Mo.sat_bind s, fun p xs H1 G1 ds n1 o1 g1 hb hg hh hf a1 s1 => by
    obtain ⟨o2, g2⟩ := o1.freeze hb hg hh hf
    exact q _ H1 _ _ n1 o2 (g1.trans g2) (.lst upd_same (a1.mono g2)) (Mo.sat_pure s1), xw⟩
end
end DD
namespace DD
open PySem PySem.Spec PyProof.Rows L2

/-! ### what is walked -/
structure WalkD (K : PySem.W.Frag) (G : Hp) (J : It) (ds : List D) : Prop where
  goes : ∀ i H, i < ds.length → Same G H → J.go i H
  stops : ∀ H, Same G H → J.stop ds.length H
  yields : ∀ i H G1 x H', i < ds.length → Same G G1 → Same G1 H → J.yld i H x H' → ∃ d G', ds[i]? = some d ∧ Gr H G1 H' G' ∧ Da K G' x d
theorem walkD_list {K : PySem.W.Frag} {G : Hp} {a : Addr} {xs : List V} {ds : List D} (h : SqL K G a xs) (da : DaAll K G xs ds) : WalkD K G (Itl K a) ds where
  goes := fun i H hi s => by
    rw [← da.length] at hi
    exact ⟨xs, xs[i], s.seq h, by simp [hi]⟩
  stops := fun H s => ⟨xs, s.seq h, by rw [da.length]; exact Nat.le_refl _⟩
  yields := fun i H G1 x H' hi s s1 y => by
    obtain ⟨e, y⟩ := y
    subst e
    obtain ⟨d, e1, e2⟩ := da.getV (y xs ((s.trans s1).seq h))
    exact ⟨d, G1, e1, Gr.refl s1, e2.mono s⟩
theorem walkD_tup {K : PySem.W.Frag} {G : Hp} {a : Addr} {xs : List V} {ds : List D} (h : SqT K G a xs) (da : DaAll K G xs ds) : WalkD K G (Itt K a) ds where
  goes := fun i H hi s => by
    rw [← da.length] at hi
    exact ⟨xs, xs[i], sameT s h, by simp [hi]⟩
  stops := fun H s => ⟨xs, sameT s h, by rw [da.length]; exact Nat.le_refl _⟩
  yields := fun i H G1 x H' hi s s1 y => by
    obtain ⟨e, y⟩ := y
    subst e
    obtain ⟨d, e1, e2⟩ := da.getV (y xs (sameT (s.trans s1) h))
    exact ⟨d, G1, e1, Gr.refl s1, e2.mono s⟩
def rangeL (lo : Int) (n : Nat) : List D := (List.range n).map fun i => .int (lo + (i : Nat))
theorem walkD_range {K : PySem.W.Frag} {G : Hp} {lo : Int} {n : Nat} : WalkD K G (Itr lo n) (rangeL lo n) where
  goes := fun i H hi _ => by
    show i < n
    simpa [rangeL] using hi
  stops := fun H _ => by show n ≤ (rangeL lo n).length; simp [rangeL]
  yields := fun i H G1 x H' hi s s1 y => by
    obtain ⟨e, y⟩ := y
    subst e y
    have hi' : i < n := by simpa [rangeL] using hi
    exact ⟨.int (lo + (i : Nat)), G1, by simp [rangeL, hi'], Gr.refl s1, .int _⟩

section
variable {m : Type → Type} [Mo m]
def tiJ (X : Cx) (EX : XK) (g : List Sl) (x : m (List D)) : TI := fun σ H R => ∃ B G n φ ξ, Ok X.K B g σ H G n ∧ Mo.sat x n φ ξ ∧ (∀ J H' G' ds n', Ok X.K B g σ H' G' n' → Same G G' → WalkD X.K G' J ds → φ ds n' → R J H') ∧ Xw X B EX ξ
def IJ (X : Cx) (EX : XK) (tg iter : Expr) (g : List Sl) (x : m (List D)) : Prop := PI X tg iter (tiJ X EX g x)
end
theorem _root_.L2.PI.weak {X : Cx} {tg e : Expr} {t t' : TI} (h : PI X tg e t) (w : ∀ σ H R, t' σ H R → t σ H R) : PI X tg e t' := ⟨fun pins s σ H R I q => h.run pins s σ H R I (w _ _ _ q)⟩

/-- a list or a tuple, whichever has come -/
def iSeq (K : PySem.W.Frag) (tl : TE) : TI := fun σ H R => tl σ H fun x H1 => ∃ a, x = .ref a ∧ (((∃ xs, SqL K H1 a xs) ∧ R (Itl K a) H1) ∨ ((∃ xs, SqT K H1 a xs) ∧ R (Itt K a) H1))
theorem pi_seq {X : Cx} {tg l : Expr} {tl : TE} (hl : PE X l tl) : PI X tg l (iSeq X.K tl) := by
  refine ⟨fun pins s σ H R I h => thn (hl.run pins s σ H _ I h) fun v s1 ⟨x, H1, I1, r1, a, e, q⟩ => ?_⟩
  subst e
  cases r1
  rcases q with ⟨⟨xs, hq⟩, q⟩ | ⟨⟨xs, hq⟩, q⟩
  · obtain ⟨its, rv, p, hz⟩ := I1.list hq
    exact wpAny_pyIter_list p.isList ⟨_, [s1.heap.objs.size], _, _, H1, rfl, I1.kept (t' := s1.toks) (fun b o e => Heap.get?_push_of_some _ e), turn_list a _, ⟨_, Heap.get?_push_size _ rfl, rfl, rfl⟩, (fun b hb => by
      rw [List.mem_singleton.mp hb]; exact I1.fpOk (Nat.le_refl _) (I1.hok.fresh (Nat.le_refl _))), q⟩
  · obtain ⟨its, rv, p, hz⟩ := I1.tuple hq
    exact wpAny_pyIter_tuple (show s1.heap.IsTuple a its.toArray from p) ⟨_, [s1.heap.objs.size], _, _, H1, rfl, I1.kept (t' := s1.toks) (fun b o e => Heap.get?_push_of_some _ e), turn_tuple a _, ⟨_, Heap.get?_push_size _ rfl, rfl, rfl⟩, (fun b hb => by
      rw [List.mem_singleton.mp hb]; exact I1.fpOk (Nat.le_refl _) (I1.hok.fresh (Nat.le_refl _))), q⟩

def rangeD1 : D → Option (List D)
  | .int j => if j.natAbs < 2 ^ 62 then some (rangeL 0 j.toNat) else none
  | _ => none
def rangeD2 : D → D → Option (List D)
  | .int i, .int j => if i.natAbs < 2 ^ 62 ∧ j.natAbs < 2 ^ 62 then some (rangeL i (j - i).toNat) else none
  | _, _ => none
section
variable {m : Type → Type} [Mo m] {X : Cx} {EX : XK} {g : List Sl} {tg : Expr}
theorem ij_seq {e : Expr} {x : m D} (h : EJ X EX e g x) : IJ X EX tg e g (x >>= fun d => Mo.lift (itemsD d)) :=
  (pi_seq h).weak fun σ H R ⟨B, G, n, φ, ξ, o, s, q, xw⟩ => te_one o s (fun v H1 G1 d n1 o1 g1 d1 s1 => by
    obtain ⟨ds, ed, pd⟩ := Mo.sat_lift s1
    obtain ⟨a, xs, ev, sq, da⟩ := d1.seq ed
    refine ⟨a, ev, ?_⟩
    rcases sq with sq | sq
    · exact .inr ⟨⟨xs, sameT o1.fm.sub sq⟩, q _ H1 G1 ds n1 o1 g1 (walkD_tup sq da) pd⟩
    · exact .inl ⟨⟨xs, o1.fm.sub.seq sq⟩, q _ H1 G1 ds n1 o1 g1 (walkD_list sq da) pd⟩) xw
/-- a list of one's own, walked while it stands -/
theorem ij_range1 {a : Expr} {p pos : Pos} {x : m D} (hm : X.mg "range" = none) (h : EJ X EX a g x) (hg : Gl X "range" := by rfl) (hs : starEach [a] X.env = [(false, eval a X.env)] := by rfl) (hs' : starEach [a] X.env = (false, eval a X.env) :: starEach [] X.env := by rfl) :
    IJ X EX tg (.Call (.Name "range" p) [a] [] pos) g (x >>= fun d => Mo.lift (rangeD1 d)) :=
  (pi_range1 hg hm (pa_cons h pa_nil hs') hs).weak fun σ H R ⟨B, G, n, φ, ξ, o, s, q, xw⟩ => te_one o s (fun v H1 G1 d n1 o1 g1 d1 s1 => by
    obtain ⟨ds, ed, pd⟩ := Mo.sat_lift s1
    cases d with
    | int j =>
      cases d1
      unfold rangeD1 at ed
      dsimp only at ed
      split at ed
      · rename_i hj
        cases ed
        exact ⟨j, rfl, by omega, by omega, q _ H1 G1 _ n1 o1 g1 walkD_range pd⟩
      · cases ed
    | _ => cases ed) xw
theorem ij_range2 {a b : Expr} {p pos : Pos} {x y : m D} (hm : X.mg "range" = none) (h : EJ X EX a g x) (h2 : EJ X EX b g y) (hg : Gl X "range" := by rfl) (hs : starEach [a, b] X.env = [(false, eval a X.env), (false, eval b X.env)] := by rfl) (hs2 : starEach [b] X.env = [(false, eval b X.env)] := by rfl)
    (hs' : starEach [a, b] X.env = (false, eval a X.env) :: starEach [b] X.env := by rfl) (hs2' : starEach [b] X.env = (false, eval b X.env) :: starEach [] X.env := by rfl) :
    IJ X EX tg (.Call (.Name "range" p) [a, b] [] pos) g (x >>= fun d => y >>= fun e => Mo.lift (rangeD2 d e)) :=
  (pi_range2 hg hm (pa_cons h (pa_cons h2 pa_nil hs2') hs') hs hs2).weak fun σ H R ⟨B, G, n, φ, ξ, o, s, q, xw⟩ => te_one o s (fun v H1 G1 d n1 o1 g1 d1 s1 => te_one o1 s1 (fun w H2 G2 e n2 o2 g2 d2 s2 => by
    obtain ⟨ds, ed, pd⟩ := Mo.sat_lift s2
    cases d with
    | int i =>
      cases e with
      | int j =>
        cases d1
        cases d2
        unfold rangeD2 at ed
        dsimp only at ed
        split at ed
        · rename_i hj
          cases ed
          exact ⟨i, j, rfl, ⟨by omega, by omega, by omega, by omega⟩, q _ H2 G2 _ n2 o2 (g1.trans g2) walkD_range pd⟩
        · cases ed
      | _ => cases ed
    | _ => cases ed) xw) xw
end

/-! ### slots -/
def wipeG (g : List Sl) (vs : List Nat) : List Sl := g.mapIdx fun i s => if vs.contains i then .any else s
def noOwn : List Sl → List Nat → Bool
  | g, vs => vs.all fun i => match g[i]? with
    | some (.own _) => false
    | _ => true
section
variable {K : PySem.W.Frag} {B : Bs} {g : List Sl} {σ : L2.St} {H G H' G' : Hp} {n n' : Nat} {vs : List Nat}
theorem wipeG_some {i : Nat} {s : Sl} (h : (wipeG g vs)[i]? = some s) (ne : s ≠ .any) : g[i]? = some s ∧ i ∉ vs := by
  unfold wipeG at h
  rw [List.getElem?_mapIdx] at h
  cases e : g[i]? with
  | none => rw [e] at h; cases h
  | some t =>
    rw [e] at h
    simp only [Option.map_some, Option.some.injEq] at h
    split at h
    · exact absurd h.symm ne
    · rename_i hc
      subst h
      exact ⟨rfl, by simpa using hc⟩
theorem wipeG_out {i : Nat} (h : i ∉ vs) : (wipeG g vs)[i]? = g[i]? := by
  unfold wipeG
  rw [List.getElem?_mapIdx]
  have : vs.contains i = false := by simpa using h
  cases g[i]? with
  | none => rfl
  | some t => simp [this, h]
theorem wipeG_length : (wipeG g vs).length = g.length := by simp [wipeG]
theorem wipe_length' : (wipe σ vs).length = σ.length := wipe_length σ vs
/-- the block's own slots are forgotten -/
theorem Ok.wipe (o : Ok K B g σ H G n) : Ok K B (wipeG g vs) (L2.wipe σ vs) H G n where
  fm := o.fm
  len := by rw [wipeG_length, wipe_length', o.len]
  val := fun i d e => by
    obtain ⟨e1, e2⟩ := wipeG_some e (by simp)
    obtain ⟨v, h1, h2⟩ := o.val i d e1
    exact ⟨v, by rw [wipe_out e2]; exact h1, h2⟩
  own := by
    obtain ⟨f, h1, h2⟩ := o.own
    refine ⟨f, fun i j ds es a b => h1 i j ds es (wipeG_some a (by simp)).1 (wipeG_some b (by simp)).1, fun i ds e => ?_⟩
    obtain ⟨e1, e2⟩ := wipeG_some e (by simp)
    obtain ⟨a, r⟩ := h2 i ds e1
    exact ⟨by rw [wipe_out e2]; exact a, r⟩
  dck := fun i e => by
    obtain ⟨e1, e2⟩ := wipeG_some e (by simp)
    obtain ⟨a, b, h1, h2⟩ := o.dck i e1
    exact ⟨a, b, h1, by rw [wipe_out e2]; exact h2⟩
theorem Ok.unwipe (o : Ok K B g σ H G n) (o' : Ok K B (wipeG g vs) (L2.wipe σ vs) H' G' n') (s : Same G G') (ho : noOwn g vs = true) : Ok K B g σ H' G' n' where
  fm := o'.fm
  len := o.len
  val := fun i d e => by
    obtain ⟨v, h1, h2⟩ := o.val i d e
    exact ⟨v, h1, h2.mono s⟩
  own := by
    obtain ⟨f, h1, h2⟩ := o'.own
    have out : ∀ (i : Nat) (ds : List D), g[i]? = some (Sl.own ds) → i ∉ vs := fun i ds e hm => by
      have := List.all_eq_true.mp ho i hm
      rw [e] at this
      cases this
    refine ⟨f, fun i j ds es a b => h1 i j ds es (by rw [wipeG_out (out i ds a)]; exact a) (by rw [wipeG_out (out j es b)]; exact b), fun i ds e => ?_⟩
    obtain ⟨a, r⟩ := h2 i ds (by rw [wipeG_out (out i ds e)]; exact e)
    exact ⟨by rw [wipe_out (out i ds e)] at a; exact a, r⟩
  dck := o.dck
/-- a slot is given data -/
theorem Ok.setV (o : Ok K B g σ H G n) {i : Nat} {v : V} {d : D} (h : Da K G v d) : Ok K B (g.set i (.val d)) (σ.set i (some v)) H G n where
  fm := o.fm
  len := by rw [List.length_set, List.length_set, o.len]
  val := fun j e he => by
    by_cases hj : j = i
    · subst hj
      by_cases hl : j < g.length
      · rw [List.getElem?_set_self hl] at he
        cases he
        exact ⟨v, by rw [List.getElem?_set_self (by rw [← o.len]; exact hl)], h⟩
      · rw [List.getElem?_eq_none (by rw [List.length_set]; omega)] at he
        cases he
    · rw [List.getElem?_set_ne (Ne.symm hj)] at he ⊢
      exact o.val j e he
  own := by
    obtain ⟨f, h1, h2⟩ := o.own
    have out : ∀ (j : Nat) (ds : List D), (g.set i (.val d))[j]? = some (Sl.own ds) → i ≠ j ∧ g[j]? = some (Sl.own ds) := fun j ds e => by
      by_cases hj : i = j
      · subst hj
        by_cases hl : i < g.length
        · rw [List.getElem?_set_self hl] at e
          cases e
        · rw [List.getElem?_eq_none (by rw [List.length_set]; omega)] at e
          cases e
      · rw [List.getElem?_set_ne hj] at e
        exact ⟨hj, e⟩
    refine ⟨f, fun j k ds es a b => h1 j k ds es (out j ds a).2 (out k es b).2, fun j ds e => ?_⟩
    obtain ⟨hj, e⟩ := out j ds e
    rw [List.getElem?_set_ne hj]
    exact h2 j ds e
  dck := fun j e => by
    by_cases hj : i = j
    · subst hj
      by_cases hl : i < g.length
      · rw [List.getElem?_set_self hl] at e
        cases e
      · rw [List.getElem?_eq_none (by rw [List.length_set]; omega)] at e
        cases e
    · rw [List.getElem?_set_ne hj] at e ⊢
      exact o.dck j e
/-- slots are forgotten -/
theorem Ok.sub {g' : List Sl} (o : Ok K B g σ H G n) (hl : g'.length = g.length) (h : ∀ (i : Nat) (s : Sl), g'[i]? = some s → s = .any ∨ g[i]? = some s) : Ok K B g' σ H G n where
  fm := o.fm
  len := hl.trans o.len
  val := fun i d e => by
    rcases h i _ e with z | z
    · cases z
    · exact o.val i d z
  own := by
    obtain ⟨f, h1, h2⟩ := o.own
    have out : ∀ (j : Nat) (ds : List D), g'[j]? = some (Sl.own ds) → g[j]? = some (Sl.own ds) := fun j ds e => by
      rcases h j _ e with z | z
      · cases z
      · exact z
    exact ⟨f, fun i j ds es a b => h1 i j ds es (out i ds a) (out j es b), fun i ds e => h2 i ds (out i ds e)⟩
  dck := fun i e => by
    rcases h i _ e with z | z
    · cases z
    · exact o.dck i z
theorem wipe_wipe : L2.wipe (L2.wipe σ vs) vs = L2.wipe σ vs := by
  apply List.ext_getElem?
  intro i
  by_cases h : i ∈ vs
  · have key : ∀ (τ : L2.St), (L2.wipe τ vs)[i]? = some none ∨ (L2.wipe τ vs)[i]? = none := fun τ => by
      cases e : (L2.wipe τ vs)[i]? with
      | none => exact .inr rfl
      | some x =>
        cases x with
        | none => exact .inl rfl
        | some v => exact absurd h (wipe_some e).2
    have l1 : (L2.wipe (L2.wipe σ vs) vs).length = (L2.wipe σ vs).length := wipe_length _ _
    rcases key (L2.wipe σ vs) with a | a <;> rcases key σ with b | b
    · rw [a, b]
    · rw [List.getElem?_eq_none_iff] at b
      have : (L2.wipe (L2.wipe σ vs) vs)[i]? = none := List.getElem?_eq_none (by omega)
      rw [this] at a; cases a
    · rw [List.getElem?_eq_none_iff] at a
      have : (L2.wipe σ vs)[i]? = none := List.getElem?_eq_none (by omega)
      rw [this] at b; cases b
    · rw [a, b]
  · rw [wipe_out h]
theorem wipe_set {i : Nat} {x : Option V} (h : i ∈ vs) : L2.wipe (σ.set i x) vs = L2.wipe σ vs := by
  apply List.ext_getElem?
  intro j
  by_cases hj : j ∈ vs
  · have key : ∀ (τ : L2.St), τ.length = σ.length → (L2.wipe τ vs)[j]? = if j < σ.length then some none else none := fun τ hl => by
      have l := wipe_length τ vs
      cases e : (L2.wipe τ vs)[j]? with
      | none =>
        rw [List.getElem?_eq_none_iff] at e
        rw [if_neg (by omega)]
      | some x =>
        obtain ⟨hlt, _⟩ := List.getElem?_eq_some_iff.mp e
        rw [if_pos (by omega)]
        cases x with
        | none => rfl
        | some v => exact absurd hj (wipe_some e).2
    rw [key _ (by simp), key _ rfl]
  · rw [wipe_out hj, wipe_out hj, List.getElem?_set_ne (by rintro rfl; exact hj h)]
theorem wipeG_set {i : Nat} {x : Sl} (h : i ∈ vs) : wipeG (g.set i x) vs = wipeG g vs := by
  apply List.ext_getElem?
  intro j
  unfold wipeG
  rw [List.getElem?_mapIdx, List.getElem?_mapIdx]
  by_cases hj : i = j
  · subst hj
    have : vs.contains i = true := by simpa using h
    by_cases hl : i < g.length
    · rw [List.getElem?_set_self hl, List.getElem?_eq_getElem hl]; simp [this, h]
    · rw [List.getElem?_eq_none (by rw [List.length_set]; omega), List.getElem?_eq_none (by omega)]
  · rw [List.getElem?_set_ne hj]
theorem wipeG_wipeG : wipeG (wipeG g vs) vs = wipeG g vs := by
  apply List.ext_getElem?
  intro j
  unfold wipeG
  rw [List.getElem?_mapIdx, List.getElem?_mapIdx]
  cases g[j]? with
  | none => rfl
  | some t =>
    simp only [Option.map_some]
    split <;> rfl
/-- an object of ours that is neither data nor any slot's -/
structure Side (B : Bs) (g : List Sl) (σ : L2.St) (G : Hp) (p : Addr) : Prop where
  b : B.H p = none
  bg : B.G p = none
  no : G p = none
  f : ∀ (i : Nat) (es : List D) (f : Addr), g[i]? = some (Sl.own es) → σ[i]? = some (some (V.ref f)) → f ≠ p
abbrev Bs.pin (B : Bs) (p : Addr) (u : HO) : Bs := { B with H := upd B.H p u }
theorem Fm.side {p : Addr} (o : Fm B H G n) (b : B.H p = none) : ¬ B.fp p := by
  rintro ⟨x, y, ed, hxy⟩
  obtain ⟨_, h1, h2, _⟩ := o.deck x y ed
  rcases hxy with rfl | rfl
  · exact h1 b
  · exact h2 b
theorem Ok.pin {p : Addr} {u : HO} (o : Ok K B g σ H G n) (s : Side B g σ G p) (h : H p = some u) : Ok K (B.pin p u) g σ H G n where
  fm := {
    keep := fun a x e q => by
      by_cases ha : a = p
      · subst ha
        rw [show (B.pin a u).H a = some u from upd_same] at e
        cases e; exact h
      · rw [show (B.pin p u).H a = B.H a from upd_ne ha] at e
        exact o.fm.keep a x e q
    sub := o.fm.sub
    old := o.fm.old
    new := fun a e q => by
      by_cases ha : a = p
      · subst ha; exact s.no
      · rw [show (B.pin p u).H a = B.H a from upd_ne ha] at e
        exact o.fm.new a e q
    deck := fun a b e => by
      obtain ⟨d, h1, h2, h3⟩ := o.fm.deck a b e
      refine ⟨d, ?_, ?_, h3⟩
      · show upd B.H p u a ≠ none
        rw [upd_ne (by rintro rfl; exact h1 s.b)]; exact h1
      · show upd B.H p u b ≠ none
        rw [upd_ne (by rintro rfl; exact h2 s.b)]; exact h2 }
  len := o.len
  val := o.val
  own := by
    obtain ⟨f, h1, h2⟩ := o.own
    refine ⟨f, h1, fun i ds e => ?_⟩
    obtain ⟨a, b, c, r⟩ := h2 i ds e
    refine ⟨a, b, ?_, r⟩
    show upd B.H p u (f i) = none
    rw [upd_ne (s.f i ds _ e a)]; exact c
  dck := o.dck
theorem Fm.unpin {H0 G0 : Hp} {n0 : Nat} {p : Addr} {u : HO} (o : Fm (B.pin p u) H G n) (o0 : Fm B H0 G0 n0) (b : B.H p = none) : Fm B H G n where
  keep := fun a x e q => o.keep a x (by
    show upd B.H p u a = some x
    rw [upd_ne (by rintro rfl; rw [b] at e; cases e)]; exact e) q
  sub := o.sub
  old := o.old
  new := fun a e q => o.new a (by
    show upd B.H p u a ≠ none
    rw [upd_ne (by rintro rfl; exact e b)]; exact e) q
  deck := fun x y e => ⟨(o.deck x y e).1, (o0.deck x y e).2⟩
theorem Ok.unpin {H0 G0 : Hp} {n0 : Nat} {p : Addr} {u : HO} (o : Ok K (B.pin p u) g σ H G n) (o0 : Fm B H0 G0 n0) (b : B.H p = none) : Ok K B g σ H G n where
  fm := o.fm.unpin o0 b
  len := o.len
  val := o.val
  own := by
    obtain ⟨f, h1, h2⟩ := o.own
    refine ⟨f, h1, fun i ds e => ?_⟩
    obtain ⟨a, c, d, r⟩ := h2 i ds e
    refine ⟨a, c, ?_, r⟩
    have d' : upd B.H p u (f i) = none := d
    by_cases ha : f i = p
    · rw [ha, upd_same] at d'; cases d'
    · rw [upd_ne ha] at d'; exact d'
  dck := o.dck
/-- such an object may be changed -/
theorem Ok.poke {p : Addr} {u : HO} (o : Ok K B g σ H G n) (s : Side B g σ G p) : Ok K B g σ (upd H p u) G n where
  fm := {
    keep := fun a x e q => by
      rw [upd_ne (by rintro rfl; rw [s.b] at e; cases e)]
      exact o.fm.keep a x e q
    sub := fun a x e => by
      rw [upd_ne (by rintro rfl; rw [s.no] at e; cases e)]
      exact o.fm.sub a x e
    old := o.fm.old
    new := o.fm.new
    deck := fun a b e => by
      obtain ⟨⟨cs, c, e1, e2, r⟩, h1, h2, h3⟩ := o.fm.deck a b e
      exact ⟨⟨cs, c, by rw [upd_ne (by rintro rfl; exact h1 s.b)]; exact e1, by rw [upd_ne (by rintro rfl; exact h2 s.b)]; exact e2, r⟩, h1, h2, h3⟩ }
  len := o.len
  val := o.val
  own := by
    obtain ⟨f, h1, h2⟩ := o.own
    refine ⟨f, h1, fun i ds e => ?_⟩
    obtain ⟨a, c, d, xs, hx, da⟩ := h2 i ds e
    exact ⟨a, c, d, xs, by rw [upd_ne (s.f i ds _ e a)]; exact hx, da⟩
  dck := o.dck
theorem Side.grow {p : Addr} {u : HO} (s : Side B g σ G p) (o : Ok K (B.pin p u) g σ H G' n) : Side B g σ G' p :=
  ⟨s.b, s.bg, o.fm.new p (by show upd B.H p u p ≠ none; rw [upd_same]; simp) s.bg, s.f⟩
theorem Ok.side {p : Addr} (o : Ok K B g σ H G n) (h : H p = none) : Side B g σ G p := by
  obtain ⟨h1, h2⟩ := o.fresh h
  refine ⟨h1, ?_, o.free h, h2⟩
  cases e : B.G p with
  | none => rfl
  | some z => rw [o.fm.sub _ _ (o.fm.old _ _ e)] at h; cases h

/-! ### comprehensions -/
end
section
variable {m : Type → Type} [Mo m]
def lcA (f : D → m (Option D)) : List D → List D → m (List D)
  | [], acc => pure acc
  | d :: r, acc => f d >>= fun o => lcA f r (acc ++ o.toList)
/-- one turn of a block: target, tests, element -/
def CSem (K : PySem.W.Frag) (g : List Sl) (vs : List Nat) (f : D → m (Option D)) (gT : TG) (tt : TT) (te : TE) : Prop :=
  ∀ (B : Bs) (σ : L2.St) (H G : Hp) (n : Nat) (d : D) (v : V) (φ : Option D → Nat → Prop) (Qy : VK) (Qn : Hp → Prop), Ok K B (wipeG g vs) (L2.wipe σ vs) H G n → Da K G v d → Mo.sat (f d) n φ (fun _ _ => False) →
    (∀ H' G' n' y yv, Ok K B (wipeG g vs) (L2.wipe σ vs) H' G' n' → Same G G' → Da K G' yv y → φ (some y) n' → Qy yv H') →
    (∀ H' G' n', Ok K B (wipeG g vs) (L2.wipe σ vs) H' G' n' → Same G G' → φ none n' → Qn H') →
    gT v (L2.wipe σ vs) H fun σ2 H2 => L2.wipe σ2 vs = L2.wipe σ vs ∧ tt σ2 H2 fun b H3 => if b = true then te σ2 H3 Qy else Qn H3
variable [Calm m] {X : Cx} {EX : XK} {g : List Sl}
theorem tlc_of {gT : TG} {tt : TT} {te : TE} {x : m (List D)} {f : D → m (Option D)} {vs : List Nat} (hsem : CSem X.K g vs f gT tt te) (how : noOwn g vs = true) {σ : L2.St} {H : Hp} {Q : VK}
    (h : tlJ X EX g (x >>= fun ds => Mo.lift (small ds) >>= fun ds => lcA f ds []) σ H Q) : tLc (tiJ X EX g x) gT tt te vs σ H Q := by
  obtain ⟨B, G, n, φ, ξ, o, s, q, xw⟩ := h
  refine ⟨B, G, n, _, ξ, o, Mo.sat_bind s, fun J H1 G1 ds n1 o1 g1 wk s1 => ?_, xw⟩
  obtain ⟨es, ee, s1'⟩ := Mo.sat_lift (Mo.sat_bind s1)
  obtain ⟨rfl, hlen⟩ := small_eq ee
  intro D hD
  have sd := o1.side hD
  refine ⟨fun i k H' => k = es.length - i ∧ i ≤ es.length ∧ ∃ G' n' acc ac, Ok X.K B g σ H' G' n' ∧ Same G1 G' ∧ Side B g σ G' D ∧ H' D = some (.lst acc) ∧ DaAll X.K G' acc ac ∧ acc.length ≤ i ∧ Mo.sat (lcA f (es.drop i) ac) n' φ ξ, ⟨es.length, by omega, Nat.zero_le _, G1, n1, [], [], o1.raw hD, Same.refl _, sd, upd_same, .nil, Nat.zero_le _, s1'⟩, ?_⟩
  rintro i k H' ⟨rfl, hi, G', n', acc, ac, o', g', sd', hD', da, hal, s'⟩
  by_cases hlt : i < es.length
  · refine .inr ⟨wk.goes i H' hlt (g'.trans o'.fm.sub), fun H2 => ∃ G2 n2 acc2 ac2, Ok X.K B g σ H2 G2 n2 ∧ Same G1 G2 ∧ Side B g σ G2 D ∧ H2 D = some (.lst acc2) ∧ DaAll X.K G2 acc2 ac2 ∧ acc2.length ≤ i + 1 ∧ Mo.sat (lcA f (es.drop (i + 1)) ac2) n2 φ ξ,
      fun H2 ⟨G2, n2, acc2, ac2, r⟩ => ⟨es.length - (i + 1), by omega, rfl, hlt, G2, n2, acc2, ac2, r⟩, fun v H2 hy => ?_⟩
    obtain ⟨d, G2, ed, gr, dv⟩ := wk.yields i H' G' v H2 hlt g' o'.fm.sub hy
    have o2 := o'.gr gr
    have sd2 : Side B g σ G2 D := ⟨sd'.b, sd'.bg, gr.new D (by rw [hD']; simp) sd'.no, sd'.f⟩
    have hD2 : H2 D = some (.lst acc) := gr.h _ _ hD'
    have e0 : es.drop i = d :: es.drop (i + 1) := by
      rw [List.drop_eq_getElem_cons hlt]
      congr 1
      rw [List.getElem?_eq_getElem hlt] at ed
      exact Option.some.inj ed
    rw [e0] at s'
    have s2 := Calm.calm (ξ' := fun _ _ => False) (Mo.sat_bind s')
    have sdw : Side B (wipeG g vs) (L2.wipe σ vs) G2 D := ⟨sd2.b, sd2.bg, sd2.no, fun j es2 f2 e1 e2 => sd2.f j es2 f2 (wipeG_some e1 (by simp)).1 (wipe_some e2).1⟩
    refine hsem (B.pin D (.lst acc)) σ H2 G2 n' d v _ _ _ (o2.wipe.pin sdw hD2) dv s2 (fun H3 G3 n3 y yv o3 g3 dy s3 => ?_) (fun H3 G3 n3 o3 g3 s3 => ?_)
    · have o3' := o2.unwipe (o3.unpin o2.fm sd2.b) g3 how
      have sd3 : Side B g σ G3 D := ⟨sd2.b, sd2.bg, (sdw.grow o3).no, sd2.f⟩
      have h3 : H3 D = some (.lst acc) := o3.fm.keep D _ upd_same (o2.fm.side sd2.b)
      refine ⟨acc, h3, Nat.lt_of_le_of_lt hal (Nat.lt_of_lt_of_le hlt (le_line hlen)), G3, n3, _, ac ++ [y], o3'.poke sd3, (g'.trans gr.g).trans g3, sd3, upd_same, ((da.mono gr.g).mono g3).append (.one dy), ?_, s3⟩
      rw [List.length_append, List.length_singleton]
      omega
    · have o3' := o2.unwipe (o3.unpin o2.fm sd2.b) g3 how
      have sd3 : Side B g σ G3 D := ⟨sd2.b, sd2.bg, (sdw.grow o3).no, sd2.f⟩
      have h3 : H3 D = some (.lst acc) := o3.fm.keep D _ upd_same (o2.fm.side sd2.b)
      refine ⟨G3, n3, acc, ac, o3', (g'.trans gr.g).trans g3, sd3, h3, (da.mono gr.g).mono g3, by omega, ?_⟩
      have e9 : ac ++ (none : Option PyData).toList = ac := by simp
      have s4 : Mo.sat (lcA f (es.drop (i + 1)) (ac ++ (none : Option PyData).toList)) n3 φ ξ := s3
      rw [e9] at s4
      exact s4
  · have e : i = es.length := by omega
    subst e
    rw [List.drop_length] at s'
    have p := Mo.sat_pure s'
    exact .inl ⟨wk.stops H' (g'.trans o'.fm.sub), q D acc H' G' ac n' o' (g1.trans g') sd'.b sd'.no hD' sd'.f da p⟩
/-- a comprehension as a value, and as what a name is given on one line -/
structure LcP (X : Cx) (EX : XK) (e : Expr) (g : List Sl) (x : m (List D)) : Prop where
  expr : LJ X EX e g x
  stmt : ∀ {i : Nat} {y : Str} {py spos : Pos}, X.N.Nodup → X.N[i]? = some y → X.env.scope.names.lookup y = some .local → swapsWith e (some (.Name y py)) spos.line X.env = pure true → PS X (.Assign [.Name y py] e spos) (tAsg (tlJ X EX g x) (gName i))
theorem lj_lc {elt tg iter : Expr} {ifs : List Expr} {scope : Scope} {own : List (Str × Nat)} {pos : Pos} {gT : TG} {tt : TT} {te : TE} {x : m (List D)} {f : D → m (Option D)} (hc : X.calm = true) (hN : X.N.Nodup) (hi : IJ X EX tg iter g x) (ok : BlkOk X.N X.env.scope scope own)
    (hg : ∀ (s : Shared) (H : Hp) (C : Addr) (cl : List (Str × Addr)) (fp : List Addr), PG (X.blk s H scope (compEnvC scope cl C X.env) fp) tg gT) (ht : ∀ (s : Shared) (H : Hp) (C : Addr) (cl : List (Str × Addr)) (fp : List Addr), PTs (X.blk s H scope (compEnvC scope cl C X.env) fp) ifs tt)
    (he : ∀ (s : Shared) (H : Hp) (C : Addr) (cl : List (Str × Addr)) (fp : List Addr), PE (X.blk s H scope (compEnvC scope cl C X.env) fp) elt te) (hsem : CSem X.K g (own.map (·.2)) f gT tt te) (how : noOwn g (own.map (·.2)) = true) (hs : ∀ x, foldedSetIterable iter X.env x = pure x := by intro _; rfl) :
    LcP X EX (.ListComp elt [⟨tg, iter, ifs, 0⟩] scope pos) g (x >>= fun ds => Mo.lift (small ds) >>= fun ds => lcA f ds []) :=
  ⟨(pe_lc hc hN hi ok hg ht he hs).weak fun σ H Q h => tlc_of hsem how h, fun nd hy hl hsw => (ps_setLc hc nd hy hl hsw hi ok hg ht he hs).weak fun De σ H h => tlc_of hsem how h⟩
end
end DD
namespace DD
open PySem PySem.Spec PyProof.Rows L2

theorem pe_u {ι : Type} {X : Cx} {e : Expr} {F : ι → TE} (h : ∀ i, PE X e (F i)) : PE X e (fun σ H Q => ∃ i, F i σ H Q) := ⟨fun pins s σ H Q I ⟨i, q⟩ => (h i).run pins s σ H Q I q⟩
theorem pt_u {ι : Type} {X : Cx} {e : Expr} {F : ι → TT} (h : ∀ i, PT X e (F i)) : PT X e (fun σ H Q => ∃ i, F i σ H Q) := ⟨fun pins s σ H Q I ⟨i, q⟩ => (h i).run pins s σ H Q I q⟩

section
variable {K : PySem.W.Frag} {B : Bs} {g : List Sl} {σ : L2.St} {H G H' G' : Hp} {n n' : Nat} {vs : List Nat}
theorem Ok.rewipe {g' : List Sl} {σ' : L2.St} (o : Ok K B g' σ' H G n) (eg : wipeG g' vs = wipeG g vs) (es : L2.wipe σ' vs = L2.wipe σ vs) : Ok K B (wipeG g vs) (L2.wipe σ vs) H G n := by
  have := o.wipe (vs := vs)
  rw [eg, es] at this
  exact this
end
section
variable {m : Type → Type} [Mo m] [Calm m] {X : Cx} {EX : XK} {g : List Sl}
/-- the element alone -/
def someM (x : m D) : m (Option D) := x >>= fun y => pure (some y)
def ifM (t : m Bool) (x : m D) : m (Option D) := t >>= fun k => if k = true then someM x else pure none
theorem csem_end {vs : List Nat} {g' : List Sl} {σ σ' : L2.St} {B : Bs} {H G : Hp} {n : Nat} {x : m D} {φ : Option D → Nat → Prop} {Qy : VK} (eg : wipeG g' vs = wipeG g vs) (es : L2.wipe σ' vs = L2.wipe σ vs) (o : Ok X.K B g' σ' H G n) (s : Mo.sat (someM x) n φ (fun _ _ => False))
    (hy : ∀ H' G' n' y yv, Ok X.K B (wipeG g vs) (L2.wipe σ vs) H' G' n' → Same G G' → Da X.K G' yv y → φ (some y) n' → Qy yv H') : teJ X E0 g' x σ' H Qy :=
  ⟨B, G, n, _, _, o, Mo.sat_bind s, fun v H' G' d n' o' g' dv s' => hy H' G' n' d v (o'.rewipe eg es) g' dv (Mo.sat_pure s'), fun _ _ _ _ _ _ z => z.elim⟩
theorem csem1 {i : Nat} {vs : List Nat} {f : D → m D} (hin : i ∈ vs) : CSem X.K g vs (fun d => someM (f d)) (gName i) tYes (fun σ H Q => ∃ d : D, teJ X E0 ((wipeG g vs).set i (.val d)) (f d) σ H Q) := by
  intro B σ H G n d v φ Qy Qn o dv s hy hn
  have es : L2.wipe ((L2.wipe σ vs).set i (some v)) vs = L2.wipe σ vs := by rw [wipe_set hin, wipe_wipe]
  refine ⟨es, ?_⟩
  unfold tYes; dsimp only
  rw [if_pos rfl]
  exact ⟨d, csem_end (by rw [wipeG_set hin, wipeG_wipeG]) es (o.setV dv) s hy⟩
theorem csem1i {i : Nat} {vs : List Nat} {f : D → m D} {t : D → m Bool} (hin : i ∈ vs) : CSem X.K g vs (fun d => ifM (t d) (f d)) (gName i) (fun σ H Q => ∃ d : D, ttJ X E0 ((wipeG g vs).set i (.val d)) (t d) σ H Q) (fun σ H Q => ∃ d : D, teJ X E0 ((wipeG g vs).set i (.val d)) (f d) σ H Q) := by
  intro B σ H G n d v φ Qy Qn o dv s hy hn
  have es : L2.wipe ((L2.wipe σ vs).set i (some v)) vs = L2.wipe σ vs := by rw [wipe_set hin, wipe_wipe]
  have eg : wipeG ((wipeG g vs).set i (.val d)) vs = wipeG g vs := by rw [wipeG_set hin, wipeG_wipeG]
  refine ⟨es, d, tt_one (EX := E0) (o.setV dv) s (fun b H1 G1 n1 o1 g1 s1 => ?_) fun _ _ _ _ _ _ z => z.elim⟩
  cases b with
  | true =>
    rw [if_pos rfl] at s1 ⊢
    exact ⟨d, csem_end eg es o1 s1 fun H' G' n' y yv o' g' => hy H' G' n' y yv o' (g1.trans g')⟩
  | false =>
    rw [if_neg Bool.false_ne_true] at s1 ⊢
    exact hn H1 G1 n1 (o1.rewipe eg es) g1 (Mo.sat_pure s1)
/-- two names -/
def pairM {α : Type} (d : D) (f : D → D → m α) : m α := match d with
  | .tuple [a, b] => f a b
  | _ => Mo.lift none
theorem pair_set {vs : List Nat} {i j : Nat} {φ : Option D → Nat → Prop} {B : Bs} {σ : L2.St} {H G : Hp} {n : Nat} {d : D} {v : V} {f : D → D → m (Option D)} {Q : L2.St → Hp → Prop} (hi : i ∈ vs) (hj : j ∈ vs) (o : Ok X.K B (wipeG g vs) (L2.wipe σ vs) H G n) (dv : Da X.K G v d) (s : Mo.sat (pairM d f) n φ (fun _ _ => False))
    (q : ∀ a b u w, L2.wipe (((L2.wipe σ vs).set i (some u)).set j (some w)) vs = L2.wipe σ vs → wipeG (((wipeG g vs).set i (.val a)).set j (.val b)) vs = wipeG g vs → Ok X.K B (((wipeG g vs).set i (.val a)).set j (.val b)) (((L2.wipe σ vs).set i (some u)).set j (some w)) H G n → Mo.sat (f a b) n φ (fun _ _ => False) → Q (((L2.wipe σ vs).set i (some u)).set j (some w)) H) :
    gTup X.K 2 (gCons (gName i) (gCons (gName j) gNil)) v (L2.wipe σ vs) H Q := by
  unfold pairM at s
  split at s
  · rename_i a b
    cases dv with
    | tup h da =>
      cases da with
      | cons d1 r =>
        cases r with
        | cons d2 r =>
          cases r
          refine ⟨_, _, rfl, sameT o.fm.sub h, rfl, _, _, rfl, _, _, rfl, rfl, q a b _ _ ?_ ?_ ((o.setV d1).setV d2) s⟩
          · rw [wipe_set hj, wipe_set hi, wipe_wipe]
          · rw [wipeG_set hj, wipeG_set hi, wipeG_wipeG]
  · obtain ⟨_, e, _⟩ := Mo.sat_lift s
    cases e
theorem csem2 {i j : Nat} {vs : List Nat} {f : D → D → m D} (hi : i ∈ vs) (hj : j ∈ vs) : CSem X.K g vs (fun d => pairM d fun a b => someM (f a b)) (gTup X.K 2 (gCons (gName i) (gCons (gName j) gNil))) tYes
    (fun σ H Q => ∃ d : D × D, teJ X E0 (((wipeG g vs).set i (.val d.1)).set j (.val d.2)) (f d.1 d.2) σ H Q) := by
  intro B σ H G n d v φ Qy Qn o dv s hy hn
  refine pair_set hi hj o dv s fun a b u w es eg o' s' => ⟨es, ?_⟩
  unfold tYes; dsimp only
  rw [if_pos rfl]
  exact ⟨(a, b), csem_end eg es o' s' hy⟩
theorem csem2i {i j : Nat} {vs : List Nat} {f : D → D → m D} {t : D → D → m Bool} (hi : i ∈ vs) (hj : j ∈ vs) : CSem X.K g vs (fun d => pairM d fun a b => ifM (t a b) (f a b)) (gTup X.K 2 (gCons (gName i) (gCons (gName j) gNil)))
    (fun σ H Q => ∃ d : D × D, ttJ X E0 (((wipeG g vs).set i (.val d.1)).set j (.val d.2)) (t d.1 d.2) σ H Q) (fun σ H Q => ∃ d : D × D, teJ X E0 (((wipeG g vs).set i (.val d.1)).set j (.val d.2)) (f d.1 d.2) σ H Q) := by
  intro B σ H G n d v φ Qy Qn o dv s hy hn
  refine pair_set hi hj o dv s fun a b u w es eg o' s' => ⟨es, (a, b), tt_one (EX := E0) o' s' (fun k H1 G1 n1 o1 g1 s1 => ?_) fun _ _ _ _ _ _ z => z.elim⟩
  cases k with
  | true =>
    rw [if_pos rfl] at s1 ⊢
    exact ⟨(a, b), csem_end eg es o1 s1 fun H' G' n' y yv o' g' => hy H' G' n' y yv o' (g1.trans g')⟩
  | false =>
    rw [if_neg Bool.false_ne_true] at s1 ⊢
    exact hn H1 G1 n1 (o1.rewipe eg es) g1 (Mo.sat_pure s1)

theorem ej_blk {s : Shared} {H : Hp} {scope : Scope} {env : Env} {fp : List Addr} {e : Expr} {x : m D} (h : EJ (X.blk s H scope env fp) E0 e g x) : PE (X.blk s H scope env fp) e (teJ X E0 g x) := h
theorem tj_blk {s : Shared} {H : Hp} {scope : Scope} {env : Env} {fp : List Addr} {e : Expr} {x : m Bool} (h : TJ (X.blk s H scope env fp) E0 e g x) : PT (X.blk s H scope env fp) e (ttJ X E0 g x) := h
/-- [e for x in it] -/
theorem lj_lc1 (own : List (Str × Nat)) (i : Nat) {elt tg iter : Expr} {scope : Scope} {pos : Pos} {x : m (List D)} {f : D → m D} (hN : X.N.Nodup) (hi : IJ X EX tg iter g x) (ok : BlkOk X.N X.env.scope scope own)
    (hg : ∀ (s : Shared) (H : Hp) (C : Addr) (cl : List (Str × Addr)) (fp : List Addr), PG (X.blk s H scope (compEnvC scope cl C X.env) fp) tg (gName i))
    (he : ∀ (s : Shared) (H : Hp) (C : Addr) (cl : List (Str × Addr)) (fp : List Addr) (d : D), EJ (X.blk s H scope (compEnvC scope cl C X.env) fp) E0 elt ((wipeG g (own.map (·.2))).set i (.val d)) (f d))
    (hin : i ∈ own.map (·.2) := by decide) (how : noOwn g (own.map (·.2)) = true := by rfl) (hc : X.calm = true := by rfl) (hs : ∀ x, foldedSetIterable iter X.env x = pure x := by intro _; rfl) :
    LcP X EX (.ListComp elt [⟨tg, iter, [], 0⟩] scope pos) g (x >>= fun ds => Mo.lift (small ds) >>= fun ds => lcA (fun d => someM (f d)) ds []) :=
  lj_lc hc hN hi ok hg (fun _ _ _ _ _ => pts_nil) (fun s H C cl fp => pe_u fun d => ej_blk (he s H C cl fp d)) (csem1 hin) how hs
/-- [e for x in it if t] -/
theorem lj_lc1i (own : List (Str × Nat)) (i : Nat) {elt tg iter c : Expr} {scope : Scope} {pos : Pos} {x : m (List D)} {f : D → m D} {t : D → m Bool} (hN : X.N.Nodup) (hi : IJ X EX tg iter g x) (ok : BlkOk X.N X.env.scope scope own)
    (hg : ∀ (s : Shared) (H : Hp) (C : Addr) (cl : List (Str × Addr)) (fp : List Addr), PG (X.blk s H scope (compEnvC scope cl C X.env) fp) tg (gName i))
    (ht : ∀ (s : Shared) (H : Hp) (C : Addr) (cl : List (Str × Addr)) (fp : List Addr) (d : D), TJ (X.blk s H scope (compEnvC scope cl C X.env) fp) E0 c ((wipeG g (own.map (·.2))).set i (.val d)) (t d))
    (he : ∀ (s : Shared) (H : Hp) (C : Addr) (cl : List (Str × Addr)) (fp : List Addr) (d : D), EJ (X.blk s H scope (compEnvC scope cl C X.env) fp) E0 elt ((wipeG g (own.map (·.2))).set i (.val d)) (f d))
    (hin : i ∈ own.map (·.2) := by decide) (how : noOwn g (own.map (·.2)) = true := by rfl) (hc : X.calm = true := by rfl) (hs : ∀ x, foldedSetIterable iter X.env x = pure x := by intro _; rfl) :
    LcP X EX (.ListComp elt [⟨tg, iter, [c], 0⟩] scope pos) g (x >>= fun ds => Mo.lift (small ds) >>= fun ds => lcA (fun d => ifM (t d) (f d)) ds []) :=
  lj_lc hc hN hi ok hg (fun s H C cl fp => pts_one (pt_u fun d => tj_blk (ht s H C cl fp d))) (fun s H C cl fp => pe_u fun d => ej_blk (he s H C cl fp d)) (csem1i hin) how hs
/-- [e for x, y in it] -/
theorem lj_lc2 (own : List (Str × Nat)) (i j : Nat) {elt tg iter : Expr} {scope : Scope} {pos : Pos} {x : m (List D)} {f : D → D → m D} (hN : X.N.Nodup) (hi : IJ X EX tg iter g x) (ok : BlkOk X.N X.env.scope scope own)
    (hg : ∀ (s : Shared) (H : Hp) (C : Addr) (cl : List (Str × Addr)) (fp : List Addr), PG (X.blk s H scope (compEnvC scope cl C X.env) fp) tg (gTup X.K 2 (gCons (gName i) (gCons (gName j) gNil))))
    (he : ∀ (s : Shared) (H : Hp) (C : Addr) (cl : List (Str × Addr)) (fp : List Addr) (a b : D), EJ (X.blk s H scope (compEnvC scope cl C X.env) fp) E0 elt (((wipeG g (own.map (·.2))).set i (.val a)).set j (.val b)) (f a b))
    (hin : i ∈ own.map (·.2) := by decide) (hjn : j ∈ own.map (·.2) := by decide) (how : noOwn g (own.map (·.2)) = true := by rfl) (hc : X.calm = true := by rfl) (hs : ∀ x, foldedSetIterable iter X.env x = pure x := by intro _; rfl) :
    LcP X EX (.ListComp elt [⟨tg, iter, [], 0⟩] scope pos) g (x >>= fun ds => Mo.lift (small ds) >>= fun ds => lcA (fun d => pairM d fun a b => someM (f a b)) ds []) :=
  lj_lc hc hN hi ok hg (fun _ _ _ _ _ => pts_nil) (fun s H C cl fp => pe_u fun d => ej_blk (he s H C cl fp d.1 d.2)) (csem2 hin hjn) how hs
/-- [e for x, y in it if t] -/
theorem lj_lc2i (own : List (Str × Nat)) (i j : Nat) {elt tg iter c : Expr} {scope : Scope} {pos : Pos} {x : m (List D)} {f : D → D → m D} {t : D → D → m Bool} (hN : X.N.Nodup) (hi : IJ X EX tg iter g x) (ok : BlkOk X.N X.env.scope scope own)
    (hg : ∀ (s : Shared) (H : Hp) (C : Addr) (cl : List (Str × Addr)) (fp : List Addr), PG (X.blk s H scope (compEnvC scope cl C X.env) fp) tg (gTup X.K 2 (gCons (gName i) (gCons (gName j) gNil))))
    (ht : ∀ (s : Shared) (H : Hp) (C : Addr) (cl : List (Str × Addr)) (fp : List Addr) (a b : D), TJ (X.blk s H scope (compEnvC scope cl C X.env) fp) E0 c (((wipeG g (own.map (·.2))).set i (.val a)).set j (.val b)) (t a b))
    (he : ∀ (s : Shared) (H : Hp) (C : Addr) (cl : List (Str × Addr)) (fp : List Addr) (a b : D), EJ (X.blk s H scope (compEnvC scope cl C X.env) fp) E0 elt (((wipeG g (own.map (·.2))).set i (.val a)).set j (.val b)) (f a b))
    (hin : i ∈ own.map (·.2) := by decide) (hjn : j ∈ own.map (·.2) := by decide) (how : noOwn g (own.map (·.2)) = true := by rfl) (hc : X.calm = true := by rfl) (hs : ∀ x, foldedSetIterable iter X.env x = pure x := by intro _; rfl) :
    LcP X EX (.ListComp elt [⟨tg, iter, [c], 0⟩] scope pos) g (x >>= fun ds => Mo.lift (small ds) >>= fun ds => lcA (fun d => pairM d fun a b => ifM (t a b) (f a b)) ds []) :=
  lj_lc hc hN hi ok hg (fun s H C cl fp => pts_one (pt_u fun d => tj_blk (ht s H C cl fp d.1 d.2))) (fun s H C cl fp => pe_u fun d => ej_blk (he s H C cl fp d.1 d.2)) (csem2i hin hjn) how hs
end
end DD
namespace DD
open PySem PySem.Spec PyProof.Rows L2

/-! ### statements -/
inductive Fl (A : Type) where
  | nx (a : A) | rt (d : D)
section
variable {m : Type → Type} [Mo m] {A A' : Type}
def tsJ (X : Cx) (EX : XK) (g : List Sl) (x : m A) (P : A → List Sl) : TS := fun De σ H => ∃ B G n φ ξ, Ok X.K B g σ H G n ∧ Mo.sat x n φ ξ ∧ (∀ a σ' H' G' n', Ok X.K B (P a) σ' H' G' n' → Same G G' → φ a n' → De.nx σ' H') ∧ Xw X B EX ξ
/-- a plain statement: no return within -/
def SJ (X : Cx) (EX : XK) (s : Stmt) (g : List Sl) (x : m A) (P : A → List Sl) : Prop := PS X s (tsJ X EX g x P)
def tbJ (X : Cx) (EX : XK) (g : List Sl) (x : m (Fl A)) (P : A → List Sl) : TS := fun De σ H => ∃ B G n φ ξ, Ok X.K B g σ H G n ∧ Mo.sat x n φ ξ ∧ (∀ a σ' H' G' n', Ok X.K B (P a) σ' H' G' n' → Same G G' → φ (.nx a) n' → De.nx σ' H') ∧
  (∀ v H' G' d n', Fm B H' G' n' → Da X.K G' v d → φ (.rt d) n' → De.rt v H') ∧ Xw X B EX ξ
/-- a block that may end or return -/
def BJ (X : Cx) (EX : XK) (ss : List Stmt) (g : List Sl) (x : m (Fl A)) (P : A → List Sl) : Prop := PSs X ss (tbJ X EX g x P)
def tfJ (X : Cx) (EX : XK) (fall : Bool) (g : List Sl) (x : m D) : TS := fun De σ H => ∃ B G n φ ξ, Ok X.K B g σ H G n ∧ Mo.sat x n φ ξ ∧ (∀ v H' G' d n', Fm B H' G' n' → Da X.K G' v d → φ d n' → De.rt v H') ∧
  (fall = true → ∀ σ' H' G' n', Fm B H' G' n' → φ .none n' → De.nx σ' H') ∧ Xw X B EX ξ
/-- the rest of a def's body (fall: it may come to its end, which hands back None) -/
def FJ (X : Cx) (EX : XK) (fall : Bool) (ss : List Stmt) (g : List Sl) (x : m D) : Prop := PSs X ss (tfJ X EX fall g x)
end
section
variable {m : Type → Type} [Mo m] {A A' : Type} {X : Cx} {EX : XK} {g : List Sl} {fall : Bool}
theorem fj_seq {s : Stmt} {rest : List Stmt} {x : m A} {P : A → List Sl} {y : A → m D} (h : SJ X EX s g x P) (hr : ∀ a, FJ X EX fall rest (P a) (y a)) : FJ X EX fall (s :: rest) g (x >>= y) :=
  (pss_cons h (u := fun De σ H => ∃ a, tfJ X EX fall (P a) (y a) De σ H) ⟨fun pins s σ H De I ⟨a, q⟩ => (hr a).run pins s σ H De I q⟩).weak fun De σ H ⟨B, G, n, φ, ξ, o, s, q1, q2, xw⟩ =>
    ⟨B, G, n, _, ξ, o, Mo.sat_bind s, fun a σ' H' G' n' o' g' s' => ⟨a, B, G', n', φ, ξ, o', s', q1, q2, xw⟩, xw⟩
theorem bj_seq {s : Stmt} {rest : List Stmt} {x : m A} {P : A → List Sl} {y : A → m (Fl A')} {P' : A' → List Sl} (h : SJ X EX s g x P) (hr : ∀ a, BJ X EX rest (P a) (y a) P') : BJ X EX (s :: rest) g (x >>= y) P' :=
  (pss_cons h (u := fun De σ H => ∃ a, tbJ X EX (P a) (y a) P' De σ H) ⟨fun pins s σ H De I ⟨a, q⟩ => (hr a).run pins s σ H De I q⟩).weak fun De σ H ⟨B, G, n, φ, ξ, o, s, q1, q2, xw⟩ =>
    ⟨B, G, n, _, ξ, o, Mo.sat_bind s, fun a σ' H' G' n' o' g' s' => ⟨a, B, G', n', φ, ξ, o', s', fun c τ K' L' k oc gc pc => q1 c τ K' L' k oc (g'.trans gc) pc, q2, xw⟩, xw⟩
/-- what a later block need not know is forgotten -/
def Sub : List Sl → List Sl → Prop
  | [], [] => True
  | s :: g, t :: h => (t = .any ∨ t = s) ∧ Sub g h
  | _, _ => False
theorem Sub.len : ∀ {g h : List Sl}, Sub g h → h.length = g.length
  | [], [], _ => rfl
  | _ :: _, _ :: _, q => by simp [Sub.len q.2]
  | [], _ :: _, q => q.elim
  | _ :: _, [], q => q.elim
theorem Sub.get : ∀ {g h : List Sl}, Sub g h → ∀ (i : Nat) (s : Sl), h[i]? = some s → s = .any ∨ g[i]? = some s
  | [], [], _, i, s, e => by simp at e
  | a :: g, b :: h, q, 0, s, e => by
    simp at e
    subst e
    rcases q.1 with z | z
    · exact .inl z
    · exact .inr (by simp [z])
  | a :: g, b :: h, q, i + 1, s, e => by
    simp only [List.getElem?_cons_succ] at e ⊢
    exact Sub.get q.2 i s e
  | [], _ :: _, q, _, _, _ => q.elim
  | _ :: _, [], q, _, _, _ => q.elim
theorem Ok.forget {K : PySem.W.Frag} {B : Bs} {σ : L2.St} {H G : Hp} {n : Nat} {g' : List Sl} (o : Ok K B g σ H G n) (h : Sub g g') : Ok K B g' σ H G n := o.sub h.len h.get
theorem fj_nil : FJ (m := m) X EX true [] g (pure .none) := pss_nil.weak fun De σ H ⟨B, G, n, φ, ξ, o, s, q1, q2, xw⟩ => q2 rfl σ H G n o.fm (Mo.sat_pure s)
theorem bj_nil {a : A} {P : A → List Sl} (h : Sub g (P a)) : BJ (m := m) X EX [] g (pure (.nx a)) P := pss_nil.weak fun De σ H ⟨B, G, n, φ, ξ, o, s, q1, q2, xw⟩ => q1 a σ H G n (o.forget h) (Same.refl _) (Mo.sat_pure s)
theorem pss_ret {e : Expr} {rest : List Stmt} {pos : Pos} {te : TE} (h : PE X e te) : PSs X (.Return (some e) pos :: rest) (fun De σ H => te σ H De.rt) := (pss_cons (ps_ret h) (u := tNever) ⟨fun _ _ _ _ _ _ h => h.elim⟩)
theorem fj_ret {e : Expr} {rest : List Stmt} {pos : Pos} {x : m D} (h : EJ X EX e g x) : FJ X EX fall (.Return (some e) pos :: rest) g x :=
  (pss_ret h).weak fun De σ H ⟨B, G, n, φ, ξ, o, s, q1, q2, xw⟩ => ⟨B, G, n, φ, ξ, o, s, fun v H' G' d n' o' g' d' p => q1 v H' G' d n' o'.fm d' p, xw⟩
theorem bj_ret {e : Expr} {rest : List Stmt} {pos : Pos} {x : m D} {P : A → List Sl} (h : EJ X EX e g x) : BJ X EX (.Return (some e) pos :: rest) g (x >>= fun d => pure (.rt d)) P :=
  (pss_ret h).weak fun De σ H ⟨B, G, n, φ, ξ, o, s, q1, q2, xw⟩ => ⟨B, G, n, _, ξ, o, Mo.sat_bind s, fun v H' G' d n' o' g' d' p => q2 v H' G' d n' o'.fm d' (Mo.sat_pure p), xw⟩

/-! ### if -/
/-- if c: .. (it returns) -/
theorem fj_ifr {c : Expr} {thn rest : List Stmt} {pos : Pos} {t : m Bool} {x y : m D} (hc : TJ X EX c g t) (h1 : FJ X EX false thn g x) (h2 : FJ X EX fall rest g y) : FJ X EX fall (.If c thn [] pos :: rest) g (t >>= fun k => if k = true then x else y) :=
  (pss_cons (ps_if hc h1 pss_nil) h2).weak fun De σ H ⟨B, G, n, φ, ξ, o, s, q1, q2, xw⟩ => tt_one o s (fun b H1 G1 n1 o1 g1 s1 => by
    cases b with
    | true =>
      rw [if_pos rfl] at s1 ⊢
      exact ⟨B, G1, n1, φ, ξ, o1, s1, q1, (fun z => by cases z), xw⟩
    | false =>
      rw [if_neg Bool.false_ne_true] at s1 ⊢
      exact ⟨B, G1, n1, φ, ξ, o1, s1, q1, q2, xw⟩) xw
theorem bj_ifr {c : Expr} {thn rest : List Stmt} {pos : Pos} {t : m Bool} {x : m D} {y : m (Fl A)} {P : A → List Sl} (hc : TJ X EX c g t) (h1 : FJ X EX false thn g x) (h2 : BJ X EX rest g y P) : BJ X EX (.If c thn [] pos :: rest) g (t >>= fun k => if k = true then (x >>= fun d => pure (.rt d)) else y) P :=
  (pss_cons (ps_if hc h1 pss_nil) h2).weak fun De σ H ⟨B, G, n, φ, ξ, o, s, q1, q2, xw⟩ => tt_one o s (fun b H1 G1 n1 o1 g1 s1 => by
    cases b with
    | true =>
      rw [if_pos rfl] at s1 ⊢
      exact ⟨B, G1, n1, _, ξ, o1, Mo.sat_bind s1, (fun v H' G' d n' f' d' p => q2 v H' G' d n' f' d' (Mo.sat_pure p)), (fun z => by cases z), xw⟩
    | false =>
      rw [if_neg Bool.false_ne_true] at s1 ⊢
      exact ⟨B, G1, n1, φ, ξ, o1, s1, fun c τ K' L' k oc gc pc => q1 c τ K' L' k oc (g1.trans gc) pc, q2, xw⟩) xw
def thenM (f : Fl A) (y : A → m D) : m D := match f with
  | .nx a => y a
  | .rt d => pure d
def thenB (f : Fl A) (y : A → m (Fl A')) : m (Fl A') := match f with
  | .nx a => y a
  | .rt d => pure (.rt d)
theorem pss_any {ι : Type} {ss : List Stmt} {F : ι → TS} (h : ∀ i, PSs X ss (F i)) : PSs X ss (fun De σ H => ∃ i, F i De σ H) := ⟨fun pins s σ H De I ⟨i, q⟩ => (h i).run pins s σ H De I q⟩
/-- if c: .. else: .., both may go on -/
theorem fj_if {c : Expr} {thn els rest : List Stmt} {pos : Pos} {t : m Bool} {x1 x2 : m (Fl A)} {P : A → List Sl} {y : A → m D} (hc : TJ X EX c g t) (h1 : BJ X EX thn g x1 P) (h2 : BJ X EX els g x2 P) (hr : ∀ a, FJ X EX fall rest (P a) (y a)) :
    FJ X EX fall (.If c thn els pos :: rest) g (t >>= fun k => (if k = true then x1 else x2) >>= fun f => thenM f y) :=
  (pss_cons (ps_if hc h1 h2) (pss_any hr)).weak fun De σ H ⟨B, G, n, φ, ξ, o, s, q1, q2, xw⟩ => tt_one o s (fun b H1 G1 n1 o1 g1 s1 => by
    cases b with
    | true =>
      rw [if_pos rfl] at s1 ⊢
      exact ⟨B, G1, n1, _, ξ, o1, Mo.sat_bind s1, (fun a σ' H' G' n' o' g' s' => ⟨a, B, G', n', φ, ξ, o', s', q1, q2, xw⟩), (fun v H' G' d n' f' d' p => q1 v H' G' d n' f' d' (Mo.sat_pure p)), xw⟩
    | false =>
      rw [if_neg Bool.false_ne_true] at s1 ⊢
      exact ⟨B, G1, n1, _, ξ, o1, Mo.sat_bind s1, (fun a σ' H' G' n' o' g' s' => ⟨a, B, G', n', φ, ξ, o', s', q1, q2, xw⟩), (fun v H' G' d n' f' d' p => q1 v H' G' d n' f' d' (Mo.sat_pure p)), xw⟩) xw
theorem bj_if {c : Expr} {thn els rest : List Stmt} {pos : Pos} {t : m Bool} {x1 x2 : m (Fl A)} {P : A → List Sl} {y : A → m (Fl A')} {P' : A' → List Sl} (hc : TJ X EX c g t) (h1 : BJ X EX thn g x1 P) (h2 : BJ X EX els g x2 P) (hr : ∀ a, BJ X EX rest (P a) (y a) P') :
    BJ X EX (.If c thn els pos :: rest) g (t >>= fun k => (if k = true then x1 else x2) >>= fun f => thenB f y) P' :=
  (pss_cons (ps_if hc h1 h2) (pss_any hr)).weak fun De σ H ⟨B, G, n, φ, ξ, o, s, q1, q2, xw⟩ => tt_one o s (fun b H1 G1 n1 o1 g1 s1 => by
    cases b with
    | true =>
      rw [if_pos rfl] at s1 ⊢
      exact ⟨B, G1, n1, _, ξ, o1, Mo.sat_bind s1, (fun a σ' H' G' n' o' g' s' => ⟨a, B, G', n', φ, ξ, o', s', fun c τ K' L' k oc gc pc => q1 c τ K' L' k oc ((g1.trans g').trans gc) pc, q2, xw⟩), (fun v H' G' d n' f' d' p => q2 v H' G' d n' f' d' (Mo.sat_pure p)), xw⟩
    | false =>
      rw [if_neg Bool.false_ne_true] at s1 ⊢
      exact ⟨B, G1, n1, _, ξ, o1, Mo.sat_bind s1, (fun a σ' H' G' n' o' g' s' => ⟨a, B, G', n', φ, ξ, o', s', fun c τ K' L' k oc gc pc => q1 c τ K' L' k oc ((g1.trans g').trans gc) pc, q2, xw⟩), (fun v H' G' d n' f' d' p => q2 v H' G' d n' f' d' (Mo.sat_pure p)), xw⟩) xw

/-! ### for -/
def loopM (f : D → A → m (Fl A)) : List D → A → m (Fl A)
  | [], a => pure (.nx a)
  | d :: r, a => f d a >>= fun z => match z with
    | .nx a' => loopM f r a'
    | .rt v => pure (.rt v)
/-- the target's store at a turn: from the loop's slots P a and the item d to what the body finds -/
def GSem (K : PySem.W.Frag) (gT : TG) (P : A → List Sl) (b : D → A → m (Fl A)) (f : D → A → List Sl → m (Fl A) → Prop) : Prop :=
  ∀ (B : Bs) (σ : L2.St) (H G : Hp) (n : Nat) (d : D) (a : A) (v : V) (φ : Fl A → Nat → Prop) (ξ : Exn → Nat → Prop) (Q : L2.St → Hp → Prop), Ok K B (P a) σ H G n → Da K G v d → Mo.sat (b d a) n φ ξ → (∀ g' y σ', f d a g' y → Ok K B g' σ' H G n → Mo.sat y n φ ξ → Q σ' H) → gT v σ H Q
theorem for_core {tg iter : Expr} {body : List Stmt} {pos : Pos} {xi : m (List D)} {gT : TG} {P : A → List Sl} {a0 : A} {b : D → A → m (Fl A)} {F : D → A → List Sl → m (Fl A) → Prop} (hp : PassesOwn (model X.prog X.w) X.A X.env X.xe) (hc : X.calm = true) (hi : IJ X EX tg iter g xi) (hg : PG X tg gT)
    (hb : ∀ d a g' y, F d a g' y → BJ X EX body g' y P) (hsem : GSem X.K gT P b F) (h0 : Sub g (P a0)) (hs : ∀ x, foldedSetIterable iter X.env x = pure x := by intro _; rfl) :
    PS X (.For tg iter body [] pos) (tbJ X EX g (xi >>= fun ds => loopM b ds a0) P) := by
  have hbody : PSs X body (fun De σ H => ∃ t : { t : D × A × List Sl × m (Fl A) // F t.1 t.2.1 t.2.2.1 t.2.2.2 }, tbJ X EX t.1.2.2.1 t.1.2.2.2 P De σ H) := pss_any fun t => hb _ _ _ _ t.2
  refine (ps_for hp hc hi hg hbody hs).weak fun De σ H ⟨B, G, n, φ, ξ, o, s, q1, q2, xw⟩ => ⟨B, G, n, _, ξ, o, Mo.sat_bind s, fun J H1 G1 ds n1 o1 g1 wk s1 => ?_, xw⟩
  refine ⟨fun i k σ' H' => k = ds.length - i ∧ i ≤ ds.length ∧ ∃ G' n' a, Ok X.K B (P a) σ' H' G' n' ∧ Same G1 G' ∧ Mo.sat (loopM b (ds.drop i) a) n' φ ξ, ⟨ds.length, by omega, Nat.zero_le _, G1, n1, a0, o1.forget h0, Same.refl _, s1⟩, ?_⟩
  rintro i k σ' H' ⟨rfl, hi, G', n', a, o', g', s'⟩
  by_cases hlt : i < ds.length
  · refine .inr ⟨wk.goes i H' hlt (g'.trans o'.fm.sub), fun σ2 H2 => ∃ G2 n2 a2, Ok X.K B (P a2) σ2 H2 G2 n2 ∧ Same G1 G2 ∧ Mo.sat (loopM b (ds.drop (i + 1)) a2) n2 φ ξ, fun σ2 H2 ⟨G2, n2, a2, r⟩ => ⟨ds.length - (i + 1), by omega, rfl, hlt, G2, n2, a2, r⟩, fun v H2 hy => ?_⟩
    obtain ⟨d, G2, ed, gr, dv⟩ := wk.yields i H' G' v H2 hlt g' o'.fm.sub hy
    have e0 : ds.drop i = d :: ds.drop (i + 1) := by
      rw [List.drop_eq_getElem_cons hlt]
      congr 1
      rw [List.getElem?_eq_getElem hlt] at ed
      exact Option.some.inj ed
    rw [e0] at s'
    refine hsem B σ' H2 G2 n' d a v _ ξ _ (o'.gr gr) dv (Mo.sat_bind s') fun g2 y σ2 hF o2 s2 => ?_
    refine ⟨⟨(d, a, g2, y), hF⟩, B, G2, n', _, ξ, o2, s2, fun a3 σ3 H3 G3 n3 o3 g3 s3 => ⟨G3, n3, a3, o3, (g'.trans gr.g).trans g3, s3⟩, fun w H3 G3 e n3 f3 d3 s3 => q2 w H3 G3 e n3 f3 d3 (Mo.sat_pure s3), xw⟩
  · have e : i = ds.length := by omega
    subst e
    rw [List.drop_length] at s'
    exact .inl ⟨wk.stops H' (g'.trans o'.fm.sub), q1 a σ' H' G' n' o' (g1.trans g') (Mo.sat_pure s')⟩
end
end DD
namespace DD
open PySem PySem.Spec PyProof.Rows L2

section
variable {m : Type → Type} [Mo m] {A A' : Type} {X : Cx} {EX : XK} {g : List Sl} {fall : Bool}
/-! ### for, by its target -/
theorem gsem1 {i : Nat} {P : A → List Sl} {b : D → A → m (Fl A)} : GSem X.K (gName i) P b (fun d a g' y => g' = (P a).set i (.val d) ∧ y = b d a) := by
  intro B σ H G n d a v φ ξ Q o dv s q
  exact q _ _ _ ⟨rfl, rfl⟩ (o.setV dv) s
theorem gsem2 {i j : Nat} {P : A → List Sl} {b : D → D → A → m (Fl A)} : GSem X.K (gTup X.K 2 (gCons (gName i) (gCons (gName j) gNil))) P (fun d a => pairM d fun u w => b u w a) (fun d a g' y => ∃ u w, g' = ((P a).set i (.val u)).set j (.val w) ∧ y = b u w a) := by
  intro B σ H G n d a v φ ξ Q o dv s q
  unfold pairM at s
  dsimp only at s
  split at s
  · rename_i u w
    cases dv with
    | tup h da =>
      cases da with
      | cons d1 r =>
        cases r with
        | cons d2 r =>
          cases r
          exact ⟨_, _, rfl, sameT o.fm.sub h, rfl, _, _, rfl, _, _, rfl, rfl, q _ _ _ ⟨u, w, rfl, rfl⟩ ((o.setV d1).setV d2) s⟩
  · obtain ⟨_, e, _⟩ := Mo.sat_lift s
    cases e
theorem fj_of_for {s : Stmt} {rest : List Stmt} {x : m (Fl A)} {P : A → List Sl} {y : A → m D} (h : PS X s (tbJ X EX g x P)) (hr : ∀ a, FJ X EX fall rest (P a) (y a)) : FJ X EX fall (s :: rest) g (x >>= fun f => thenM f y) :=
  (pss_cons h (pss_any hr)).weak fun De σ H ⟨B, G, n, φ, ξ, o, s, q1, q2, xw⟩ =>
    ⟨B, G, n, _, ξ, o, Mo.sat_bind s, fun a σ' H' G' n' o' g' s' => ⟨a, B, G', n', φ, ξ, o', s', q1, q2, xw⟩, fun v H' G' d n' f' d' p => q1 v H' G' d n' f' d' (Mo.sat_pure p), xw⟩
theorem bj_of_for {s : Stmt} {rest : List Stmt} {x : m (Fl A)} {P : A → List Sl} {y : A → m (Fl A')} {P' : A' → List Sl} (h : PS X s (tbJ X EX g x P)) (hr : ∀ a, BJ X EX rest (P a) (y a) P') : BJ X EX (s :: rest) g (x >>= fun f => thenB f y) P' :=
  (pss_cons h (pss_any hr)).weak fun De σ H ⟨B, G, n, φ, ξ, o, s, q1, q2, xw⟩ =>
    ⟨B, G, n, _, ξ, o, Mo.sat_bind s, fun a σ' H' G' n' o' g' s' => ⟨a, B, G', n', φ, ξ, o', s', fun c τ K' L' k oc gc pc => q1 c τ K' L' k oc (g'.trans gc) pc, q2, xw⟩, fun v H' G' d n' f' d' p => q2 v H' G' d n' f' d' (Mo.sat_pure p), xw⟩
theorem for1 (i : Nat) {tg iter : Expr} {body : List Stmt} {pos : Pos} {xi : m (List D)} {P : A → List Sl} {a0 : A} {b : D → A → m (Fl A)} (hp : PassesOwn (model X.prog X.w) X.A X.env X.xe) (hi : IJ X EX tg iter g xi) (hg : PG X tg (gName i))
    (hb : ∀ d a, BJ X EX body ((P a).set i (.val d)) (b d a) P) (h0 : Sub g (P a0)) (hc : X.calm = true := by rfl) (hs : ∀ x, foldedSetIterable iter X.env x = pure x := by intro _; rfl) :
    PS X (.For tg iter body [] pos) (tbJ X EX g (xi >>= fun ds => loopM b ds a0) P) :=
  for_core hp hc hi hg (fun d a g' y ⟨e1, e2⟩ => by subst e1 e2; exact hb d a) gsem1 h0 hs
theorem for2 (i j : Nat) {tg iter : Expr} {body : List Stmt} {pos : Pos} {xi : m (List D)} {P : A → List Sl} {a0 : A} {b : D → D → A → m (Fl A)} (hp : PassesOwn (model X.prog X.w) X.A X.env X.xe) (hi : IJ X EX tg iter g xi) (hg : PG X tg (gTup X.K 2 (gCons (gName i) (gCons (gName j) gNil))))
    (hb : ∀ u w a, BJ X EX body (((P a).set i (.val u)).set j (.val w)) (b u w a) P) (h0 : Sub g (P a0)) (hc : X.calm = true := by rfl) (hs : ∀ x, foldedSetIterable iter X.env x = pure x := by intro _; rfl) :
    PS X (.For tg iter body [] pos) (tbJ X EX g (xi >>= fun ds => loopM (fun d a => pairM d fun u w => b u w a) ds a0) P) :=
  for_core hp hc hi hg (fun d a g' y ⟨u, w, e1, e2⟩ => by subst e1 e2; exact hb u w a) gsem2 h0 hs

/-! ### plain statements -/
theorem sj_set (i : Nat) {y : Str} {py pos : Pos} {e : Expr} {x : m D} (hN : X.N.Nodup) (h : EJ X EX e g x) (hi : X.N[i]? = some y := by rfl) (hx : Loc X.env.scope y := by first | exact Or.inl rfl | exact Or.inr rfl) (hs : swapsWith e (some (.Name y py)) pos.line X.env = pure false := by kernel_rfl)
    (hf : X.fn y = true ∨ X.env.scope.names.lookup y = some .local := by first | exact .inl rfl | exact .inr rfl) : SJ X EX (.Assign [.Name y py] e pos) g x (fun d => g.set i (.val d)) :=
  (ps_set hN hi hx h hs hf).weak fun De σ H ⟨B, G, n, φ, ξ, o, s, q, xw⟩ => ⟨B, G, n, φ, ξ, o, s, fun v H' G' d n' o' g' dv p => q d _ H' G' n' (o'.setV dv) g' p, xw⟩
theorem sj_expr {e : Expr} {pos : Pos} {x : m D} (h : EJ X EX e g x) (hs : swapsWith e none pos.line X.env = pure false := by kernel_rfl) : SJ X EX (.Expr e pos) g x (fun _ => g) :=
  (ps_expr h hs).weak fun De σ H ⟨B, G, n, φ, ξ, o, s, q, xw⟩ => ⟨B, G, n, φ, ξ, o, s, fun v H' G' d n' o' g' dv p => q d _ H' G' n' o' g' p, xw⟩
/-- a slot is given a list of its own -/
theorem Ok.setO {K : PySem.W.Frag} {B : Bs} {σ : L2.St} {H G : Hp} {n : Nat} {p : Addr} {xs : List V} {ds : List D} {i : Nat} (o : Ok K B g σ H G n) (hb : B.H p = none) (hg : G p = none) (hh : H p = some (.lst xs))
    (hf : ∀ (i : Nat) (es : List D) (f : Addr), g[i]? = some (Sl.own es) → σ[i]? = some (some (V.ref f)) → f ≠ p) (da : DaAll K G xs ds) : Ok K B (g.set i (.own ds)) (σ.set i (some (.ref p))) H G n where
  fm := o.fm
  len := by rw [List.length_set, List.length_set, o.len]
  val := fun j e he => by
    by_cases hj : i = j
    · subst hj
      by_cases hl : i < g.length
      · rw [List.getElem?_set_self hl] at he; cases he
      · rw [List.getElem?_eq_none (by rw [List.length_set]; omega)] at he; cases he
    · rw [List.getElem?_set_ne hj] at he ⊢
      exact o.val j e he
  own := by
    obtain ⟨f, h1, h2⟩ := o.own
    have out : ∀ (j : Nat) (es : List D), i ≠ j → (g.set i (.own ds))[j]? = some (Sl.own es) → g[j]? = some (Sl.own es) := fun j es hj e => by
      rw [List.getElem?_set_ne hj] at e; exact e
    refine ⟨fun j => if j = i then p else f j, fun j k es es' a b e => ?_, fun j es e => ?_⟩
    · dsimp only at e
      by_cases hj : j = i <;> by_cases hk : k = i
      · rw [hj, hk]
      · rw [if_pos hj, if_neg hk] at e
        have b' := out k es' (Ne.symm hk) b
        obtain ⟨q, _⟩ := h2 k es' b'
        exact absurd e.symm (hf k es' _ b' q)
      · rw [if_neg hj, if_pos hk] at e
        have a' := out j es (Ne.symm hj) a
        obtain ⟨q, _⟩ := h2 j es a'
        exact absurd e (hf j es _ a' q)
      · rw [if_neg hj, if_neg hk] at e
        exact h1 j k es es' (out j es (Ne.symm hj) a) (out k es' (Ne.symm hk) b) e
    · dsimp only
      by_cases hj : j = i
      · subst hj
        by_cases hl : j < g.length
        · rw [List.getElem?_set_self hl] at e
          cases e
          rw [if_pos rfl, List.getElem?_set_self (by rw [← o.len]; exact hl)]
          exact ⟨rfl, hg, hb, xs, hh, da⟩
        · rw [List.getElem?_eq_none (by rw [List.length_set]; omega)] at e; cases e
      · rw [if_neg hj, List.getElem?_set_ne (Ne.symm hj)]
        exact h2 j es (out j es (Ne.symm hj) e)
  dck := fun j e => by
    by_cases hj : i = j
    · subst hj
      by_cases hl : i < g.length
      · rw [List.getElem?_set_self hl] at e; cases e
      · rw [List.getElem?_eq_none (by rw [List.length_set]; omega)] at e; cases e
    · rw [List.getElem?_set_ne hj] at e ⊢
      exact o.dck j e
theorem sj_setO (i : Nat) {y : Str} {py pos : Pos} {e : Expr} {x : m (List D)} (hN : X.N.Nodup) (h : LJ X EX e g x) (hi : X.N[i]? = some y := by rfl) (hx : Loc X.env.scope y := by first | exact Or.inl rfl | exact Or.inr rfl) (hs : swapsWith e (some (.Name y py)) pos.line X.env = pure false := by kernel_rfl)
    (hf : X.fn y = true ∨ X.env.scope.names.lookup y = some .local := by first | exact .inl rfl | exact .inr rfl) : SJ X EX (.Assign [.Name y py] e pos) g x (fun ds => g.set i (.own ds)) :=
  (ps_set hN hi hx h hs hf).weak fun De σ H ⟨B, G, n, φ, ξ, o, s, q, xw⟩ => ⟨B, G, n, φ, ξ, o, s, fun p xs H' G' ds n' o' g' hb hg hh hf da pd => q ds _ H' G' n' (o'.setO hb hg hh hf da) g' pd, xw⟩
/-- y = [..] on one line, y a local -/
theorem sj_lcV (i : Nat) {y : Str} {py pos : Pos} {e : Expr} {x : m (List D)} (hN : X.N.Nodup) (h : LcP X EX e g x) (hw : swapsWith e (some (.Name y py)) pos.line X.env = pure true) (hi : X.N[i]? = some y := by rfl) (hl : X.env.scope.names.lookup y = some .local := by rfl) :
    SJ X EX (.Assign [.Name y py] e pos) g x (fun ds => g.set i (.val (.list ds))) :=
  (h.stmt hN hi hl hw).weak fun De σ H ⟨B, G, n, φ, ξ, o, s, q, xw⟩ => ⟨B, G, n, φ, ξ, o, s, fun p xs H' G' ds n' o' g' hb hg hh hf da pd => by
    obtain ⟨o2, g2⟩ := o'.freeze hb hg hh hf
    exact q ds _ H' _ n' (o2.setV (.lst upd_same (da.mono g2))) (g'.trans g2) pd, xw⟩
theorem sj_lcO (i : Nat) {y : Str} {py pos : Pos} {e : Expr} {x : m (List D)} (hN : X.N.Nodup) (h : LcP X EX e g x) (hw : swapsWith e (some (.Name y py)) pos.line X.env = pure true) (hi : X.N[i]? = some y := by rfl) (hl : X.env.scope.names.lookup y = some .local := by rfl) :
    SJ X EX (.Assign [.Name y py] e pos) g x (fun ds => g.set i (.own ds)) :=
  (h.stmt hN hi hl hw).weak fun De σ H ⟨B, G, n, φ, ξ, o, s, q, xw⟩ => ⟨B, G, n, φ, ξ, o, s, fun p xs H' G' ds n' o' g' hb hg hh hf da pd => q ds _ H' G' n' (o'.setO hb hg hh hf da) g' pd, xw⟩
/-- the list in slot i is changed -/
theorem Ok.write {K : PySem.W.Frag} {B : Bs} {σ : L2.St} {H G : Hp} {n : Nat} {a : Addr} {xs : List V} {ds es : List D} {i : Nat} (o : Ok K B g σ H G n) (hi : g[i]? = some (Sl.own es)) (ha : σ[i]? = some (some (V.ref a))) (da : DaAll K G xs ds) : Ok K B (g.set i (.own ds)) σ (upd H a (.lst xs)) G n := by
  obtain ⟨f, h1, h2⟩ := id o.own
  obtain ⟨e1, e2, e3, ys, e4, e5⟩ := h2 i es hi
  rw [ha] at e1
  obtain rfl : a = f i := by cases e1; rfl
  have hl : i < g.length := (List.getElem?_eq_some_iff.mp hi).1
  have sd : Side B (g.set i .any) σ G (f i) := by
    refine ⟨e3, ?_, e2, fun j es' q z y => ?_⟩
    · cases e : B.G (f i) with
      | none => rfl
      | some z => rw [o.fm.old _ _ e] at e2; cases e2
    · by_cases hj : i = j
      · subst hj
        rw [List.getElem?_set_self hl] at z; cases z
      · rw [List.getElem?_set_ne hj] at z
        rintro rfl
        obtain ⟨q1, _⟩ := h2 j es' z
        rw [q1] at y
        exact hj (h1 i j es es' hi z (V.ref.inj (Option.some.inj (Option.some.inj y))).symm)
  have o1 : Ok K B (g.set i .any) σ H G n := o.sub (by simp) fun j s e => by
    by_cases hj : i = j
    · subst hj
      rw [List.getElem?_set_self hl] at e
      cases e
      exact .inl rfl
    · rw [List.getElem?_set_ne hj] at e
      exact .inr e
  have o2 := (o1.poke (u := .lst xs) sd).setO (i := i) (p := f i) sd.b sd.no upd_same sd.f da
  rw [List.set_set] at o2
  have : σ.set i (some (V.ref (f i))) = σ := by
    apply List.ext_getElem?
    intro j
    by_cases hj : i = j
    · subst hj
      rw [List.getElem?_set_self (by rw [← o.len]; exact hl), ha]
    · rw [List.getElem?_set_ne hj]
  rw [this] at o2
  exact o2
end
end DD
namespace DD
open PySem PySem.Spec PyProof.Rows L2

section
variable {m : Type → Type} [Mo m] {A A' : Type} {X : Cx} {EX : XK} {g : List Sl} {fall : Bool}
theorem own_at {K : PySem.W.Frag} {B : Bs} {σ : L2.St} {H G : Hp} {n : Nat} {i : Nat} {ds : List D} (o : Ok K B g σ H G n) (hi : g[i]? = some (Sl.own ds)) : ∃ a xs, σ[i]? = some (some (V.ref a)) ∧ H a = some (.lst xs) ∧ DaAll K G xs ds := by
  obtain ⟨f, _, h2⟩ := o.own
  obtain ⟨e1, _, _, xs, e4, e5⟩ := h2 i ds hi
  exact ⟨f i, xs, e1, e4, e5⟩
def fits (k : Nat) : Option Unit := if k < 1000000 then some () else none
theorem fits_lt {k : Nat} {u : Unit} (h : fits k = some u) : k < sizeLine := by
  unfold fits at h
  split at h
  · rename_i hl; exact Nat.lt_trans hl (by decide)
  · cases h
/-- x.append(e), x a list of one's own -/
theorem sj_append (i : Nat) {ds : List D} {y : Str} {py apos cpos pos : Pos} {e : Expr} {x : m D} (h : EJ X EX e g x) (hg : g[i]? = some (Sl.own ds) := by rfl) (hN : X.N[i]? = some y := by rfl) (hv : Vis X.env.scope y := by first | exact Or.inl rfl | exact Or.inr (Or.inl rfl) | exact Or.inr (Or.inr rfl))
    (hd : (y == ("__debug__" : Str)) = false := by decide) (hcd : (y == ("__classdict__" : Str)) = false := by decide)
    (hbase : attributeBase (.Name y py) "append" X.env (eval (.Name y py) X.env) = eval (.Name y py) X.env := by rfl)
    (hfew : ((backTo cpos (starEach [e] X.env)).all (fun x => !x.1) && (backToKw cpos (keywordEach [] X.env)).all (fun x => x.1.isSome) && decide ([e].length + ([] : List Keyword).length + (if ([] : List Keyword).isEmpty then 0 else 1) < 30)) = true := by rfl)
    (hline : (apos.endLine == cpos.line) = true := by rfl) (hs : starEach [e] X.env = (false, eval e X.env) :: starEach [] X.env := by rfl) (hpl : (backTo cpos (starEach [] X.env)).any (·.1) = false := by rfl)
    (hw : swapsWith (.Call (.Attribute (.Name y py) "append" apos) [e] [] cpos) none pos.line X.env = pure false := by rfl) :
    SJ X EX (.Expr (.Call (.Attribute (.Name y py) "append" apos) [e] [] cpos) pos) g (x >>= fun d => Mo.lift (fits ds.length) >>= fun _ => pure d) (fun d => g.set i (.own (ds ++ [d]))) :=
  (ps_expr (pe_bm PySem.F.plainAttrs_list PySem.F.slot_list_append PySem.F.type_list_append mt_append (pe_var hN hv hd hcd) (pa_cons h pa_nil hs) hbase hfew hline hs hpl) hw).weak fun De σ H ⟨B, G, n, φ, ξ, o, s, q, xw⟩ => by
    obtain ⟨a, xs, e1, e2, e3⟩ := own_at o hg
    refine ⟨.ref a, e1, .inl ⟨rfl, xs, .inl (.inl e2)⟩, te_one o s (fun v H1 G1 d n1 o1 g1 d1 s1 => ?_) xw⟩
    obtain ⟨u, eu, s2⟩ := Mo.sat_lift (Mo.sat_bind s1)
    obtain ⟨a', xs', e1', e2', e3'⟩ := own_at o1 hg
    rw [e1] at e1'
    cases e1'
    refine ⟨a, xs', v, rfl, rfl, e2', by rw [e3'.length]; exact fits_lt eu, q d _ _ G1 n1 (o1.write hg e1 (e3'.append (.one d1))) g1 (Mo.sat_pure s2)⟩
def putD (ds : List D) (k : D) (d : D) : Option (List D) := match k with
  | .int j => (ixN ds.length j).map fun i => ds.set i d
  | _ => none
/-- x[k] = e, x a list of one's own -/
theorem sj_put (i : Nat) {ds : List D} {y : Str} {py p2 pos : Pos} {k e : Expr} {x z : m D} (h : EJ X EX e g x) (hk : EJ X EX k g z) (hg : g[i]? = some (Sl.own ds) := by rfl) (hN : X.N[i]? = some y := by rfl) (hv : Vis X.env.scope y := by first | exact Or.inl rfl | exact Or.inr (Or.inl rfl) | exact Or.inr (Or.inr rfl))
    (hd : (y == ("__debug__" : Str)) = false := by decide) (hcd : (y == ("__classdict__" : Str)) = false := by decide)
    (ha : ∀ v, assign (.Subscript (.Name y py) k p2) X.env v = (do
      let ov ← holding [v] (eval (.Name y py) X.env)
      let iv ← holding [v, ov] (eval k X.env)
      standAt p2
      holding [v, ov, iv] (setItem ov iv v)
      release [v, ov, iv] []) := by intro _; rfl)
    (hs : swapsWithSole [.Subscript (.Name y py) k p2] e pos.line X.env = pure false := by kernel_rfl) (hw : swappedStores [.Subscript (.Name y py) k p2] e X.env = pure none := by kernel_rfl)
    (h1 : (assignEach [.Subscript (.Name y py) k p2] X.env).map (·.2) = [assign (.Subscript (.Name y py) k p2) X.env] := by rfl) :
    SJ X EX (.Assign [.Subscript (.Name y py) k p2] e pos) g (x >>= fun d => z >>= fun j => Mo.lift (putD ds j d)) (fun es => g.set i (.own es)) :=
  (ps_asg h (pg_sub (pe_var hN hv hd hcd) hk set_list ha) hs hw h1).weak fun De σ H ⟨B, G, n, φ, ξ, o, s, q, xw⟩ => te_one o s (fun v H1 G1 d n1 o1 g1 d1 s1 => by
    obtain ⟨a, xs, e1, e2, e3⟩ := own_at o1 hg
    refine ⟨.ref a, e1, te_one o1 s1 (fun w H2 G2 j n2 o2 g2 d2 s2 => ?_) xw⟩
    obtain ⟨es, ee, pe⟩ := Mo.sat_lift s2
    obtain ⟨a', xs', e1', e2', e3'⟩ := own_at o2 hg
    rw [e1] at e1'
    cases e1'
    unfold putD at ee
    cases j with
    | int j =>
      obtain ⟨t, et, rfl⟩ := Option.map_eq_some_iff.mp ee
      cases d2
      exact ⟨a, xs', j, t, rfl, rfl, e2', by rw [e3'.length]; exact et, q _ _ _ G2 n2 (o2.write hg e1 (e3'.set (d1.mono g2) t)) (g1.trans g2) pe⟩
    | _ => cases ee) xw
/-- x.extend(new list) -/
theorem sj_extend (i : Nat) {ds : List D} {y : Str} {py apos cpos pos : Pos} {e : Expr} {x : m (List D)} (h : LJ X EX e g x) (hg : g[i]? = some (Sl.own ds) := by rfl) (hN : X.N[i]? = some y := by rfl) (hv : Vis X.env.scope y := by first | exact Or.inl rfl | exact Or.inr (Or.inl rfl) | exact Or.inr (Or.inr rfl))
    (hd : (y == ("__debug__" : Str)) = false := by decide) (hcd : (y == ("__classdict__" : Str)) = false := by decide)
    (hbase : attributeBase (.Name y py) "extend" X.env (eval (.Name y py) X.env) = eval (.Name y py) X.env := by rfl)
    (hfew : ((backTo cpos (starEach [e] X.env)).all (fun x => !x.1) && (backToKw cpos (keywordEach [] X.env)).all (fun x => x.1.isSome) && decide ([e].length + ([] : List Keyword).length + (if ([] : List Keyword).isEmpty then 0 else 1) < 30)) = true := by rfl)
    (hline : (apos.endLine == cpos.line) = true := by rfl) (hs : starEach [e] X.env = (false, eval e X.env) :: starEach [] X.env := by rfl) (hpl : (backTo cpos (starEach [] X.env)).any (·.1) = false := by rfl)
    (hw : swapsWith (.Call (.Attribute (.Name y py) "extend" apos) [e] [] cpos) none pos.line X.env = pure false := by rfl) :
    SJ X EX (.Expr (.Call (.Attribute (.Name y py) "extend" apos) [e] [] cpos) pos) g (x >>= fun es => Mo.lift (small (ds ++ es))) (fun es => g.set i (.own es)) :=
  (ps_expr (pe_bm PySem.F.plainAttrs_list PySem.F.slot_list_extend PySem.F.type_list_extend mt_extend (pe_var hN hv hd hcd) (pa_cons h pa_nil hs) hbase hfew hline hs hpl) hw).weak fun De σ H ⟨B, G, n, φ, ξ, o, s, q, xw⟩ => by
    obtain ⟨a, xs, e1, e2, e3⟩ := own_at o hg
    refine ⟨.ref a, e1, .inl ⟨rfl, xs, .inl (.inl e2)⟩, B, G, n, _, ξ, o, Mo.sat_bind s, fun p zs H1 G1 es n1 o1 g1 hb hg' hh hf da s1 => ?_, xw⟩
    obtain ⟨es', ee, pe⟩ := Mo.sat_lift s1
    obtain ⟨rfl, hl⟩ := small_eq ee
    obtain ⟨a', xs', e1', e2', e3'⟩ := own_at o1 hg
    rw [e1] at e1'
    cases e1'
    refine ⟨a, p, xs', zs, rfl, rfl, e2', hh, ?_, q _ _ _ G1 n1 (o1.write hg e1 (e3'.append da)) g1 pe⟩
    rw [List.length_append] at hl
    rw [e3'.length, da.length]
    exact le_line hl
/-- x op= e -/
theorem sj_aug (i : Nat) {d0 : D} {y : Str} {py pos : Pos} {op : Operator} {e : Expr} {x : m D} {r : R2} {f : D → D → Option D} (hn : X.N.Nodup) (ho : OpR X (inplaceOp op) r) (hr : RD X.K r f) (h : EJ X EX e g x) (hg : g[i]? = some (Sl.val d0) := by rfl) (hi : X.N[i]? = some y := by rfl) (hx : Loc X.env.scope y := by first | exact Or.inl rfl | exact Or.inr rfl)
    (hf : X.fn y = true ∨ X.env.scope.names.lookup y = some .local := by first | exact .inl rfl | exact .inr rfl) : SJ X EX (.AugAssign (.Name y py) op e pos) g (x >>= fun d => Mo.lift (f d0 d)) (fun d => g.set i (.val d)) :=
  (ps_aug hn hi hx h ho hf).weak fun De σ H ⟨B, G, n, φ, ξ, o, s, q, xw⟩ => by
    obtain ⟨v, h1, h2⟩ := o.val i d0 hg
    refine ⟨v, h1, te_one o s (fun w H1 G1 d n1 o1 g1 d1 s1 => ?_) xw⟩
    obtain ⟨z, ez, pz⟩ := Mo.sat_lift s1
    exact hr v w d0 d z H1 G1 _ (h2.mono g1) d1 o1.fm.sub ez fun u H3 G3 gr du => q z _ H3 G3 n1 ((o1.gr gr).setV du) (g1.trans gr.g) pz
/-- a, b = e1, e2 -/
theorem sj_par (i j : Nat) {y z : Str} {a b : Expr} {px py pt pos : Pos} {kt k2 pt2} {x1 x2 : m D} (hN : X.N.Nodup) (ha : EJ X EX a g x1) (hb : EJ X EX b g x2) (hij : i ≠ j := by decide) (hi : X.N[i]? = some y := by rfl) (hj : X.N[j]? = some z := by rfl) (hc : X.calm = true := by rfl)
    (hx : X.env.scope.names.lookup y = some .local := by rfl) (hy : X.env.scope.names.lookup z = some .local := by rfl)
    (hw : swappedStores [.Tuple [.Name y px, .Name z py] kt pt] (.Tuple [a, b] k2 pt2) X.env = pure (some [y, z]) := by kernel_rfl) (hs : swapsWithSole [.Tuple [.Name y px, .Name z py] kt pt] (.Tuple [a, b] k2 pt2) pos.line X.env = pure false := by kernel_rfl)
    (hs1 : starEach [a, b] X.env = (false, eval a X.env) :: starEach [b] X.env := by rfl) (hs2 : starEach [b] X.env = (false, eval b X.env) :: starEach [] X.env := by rfl) :
    SJ X EX (.Assign [.Tuple [.Name y px, .Name z py] kt pt] (.Tuple [a, b] k2 pt2) pos) g (x1 >>= fun d => x2 >>= fun e => pure (d, e)) (fun de => (g.set i (.val de.1)).set j (.val de.2)) :=
  (ps_par hc hN hi hj hij hx hy (pa_cons ha (pa_cons hb pa_nil hs2) hs1) hw hs).weak fun De σ H ⟨B, G, n, φ, ξ, o, s, q, xw⟩ => te_one o s (fun v H1 G1 d n1 o1 g1 d1 s1 => te_one o1 s1 (fun w H2 G2 e n2 o2 g2 d2 s2 =>
    ⟨v, w, rfl, q (d, e) _ H2 G2 n2 ((o2.setV (d1.mono g2)).setV d2) (g1.trans g2) (Mo.sat_pure s2)⟩) xw) xw
/-- .. b a list of its own -/
theorem sj_parO (i j : Nat) {y z : Str} {a b : Expr} {px py pt pos : Pos} {kt k2 pt2} {x1 : m D} {x2 : m (List D)} (hN : X.N.Nodup) (ha : EJ X EX a g x1) (hb : LJ X EX b g x2) (hij : i ≠ j := by decide) (hi : X.N[i]? = some y := by rfl) (hj : X.N[j]? = some z := by rfl) (hc : X.calm = true := by rfl)
    (hx : X.env.scope.names.lookup y = some .local := by rfl) (hy : X.env.scope.names.lookup z = some .local := by rfl) (hno : noOwn g [i] = true := by rfl)
    (hw : swappedStores [.Tuple [.Name y px, .Name z py] kt pt] (.Tuple [a, b] k2 pt2) X.env = pure (some [y, z]) := by kernel_rfl) (hs : swapsWithSole [.Tuple [.Name y px, .Name z py] kt pt] (.Tuple [a, b] k2 pt2) pos.line X.env = pure false := by kernel_rfl)
    (hs1 : starEach [a, b] X.env = (false, eval a X.env) :: starEach [b] X.env := by rfl) (hs2 : starEach [b] X.env = (false, eval b X.env) :: starEach [] X.env := by rfl) :
    SJ X EX (.Assign [.Tuple [.Name y px, .Name z py] kt pt] (.Tuple [a, b] k2 pt2) pos) g (x1 >>= fun d => x2 >>= fun e => pure (d, e)) (fun de => (g.set i (.val de.1)).set j (.own de.2)) :=
  (ps_par hc hN hi hj hij hx hy (pa_cons ha (pa_cons hb pa_nil hs2) hs1) hw hs).weak fun De σ H ⟨B, G, n, φ, ξ, o, s, q, xw⟩ => te_one o s (fun v H1 G1 d n1 o1 g1 d1 s1 => ⟨B, G1, n1, _, ξ, o1, Mo.sat_bind s1, fun p xs H2 G2 es n2 o2 g2 hb' hg' hh hf da s2 =>
    ⟨v, .ref p, rfl, q (d, es) _ H2 G2 n2 ((o2.setV (d1.mono g2)).setO hb' hg' hh (fun k es' f e1 e2 => by
      by_cases hk : i = k
      · subst hk
        by_cases hl : i < g.length
        · rw [List.getElem?_set_self hl] at e1; cases e1
        · rw [List.getElem?_eq_none (by rw [List.length_set]; omega)] at e1; cases e1
      · rw [List.getElem?_set_ne hk] at e1 e2
        exact hf k es' f e1 e2) da) (g1.trans g2) (Mo.sat_pure s2)⟩, xw⟩) xw

/-! ### a list of one's own, read -/
theorem Ok.freezeS {K : PySem.W.Frag} {B : Bs} {σ : L2.St} {H G : Hp} {n : Nat} {i : Nat} {ds : List D} (o : Ok K B g σ H G n) (hi : g[i]? = some (Sl.own ds)) : ∃ G', Ok K B (g.set i (.val (.list ds))) σ H G' n ∧ Same G G' := by
  obtain ⟨f, h1, h2⟩ := id o.own
  obtain ⟨e1, e2, e3, ys, e4, e5⟩ := h2 i ds hi
  have hl : i < g.length := (List.getElem?_eq_some_iff.mp hi).1
  have o1 : Ok K B (g.set i .any) σ H G n := o.sub (by simp) fun j s e => by
    by_cases hj : i = j
    · subst hj
      rw [List.getElem?_set_self hl] at e
      cases e
      exact .inl rfl
    · rw [List.getElem?_set_ne hj] at e
      exact .inr e
  obtain ⟨o2, g2⟩ := o1.freeze e3 e2 e4 fun j es' q z y => by
    by_cases hj : i = j
    · subst hj
      rw [List.getElem?_set_self hl] at z; cases z
    · rw [List.getElem?_set_ne hj] at z
      rintro rfl
      obtain ⟨q1, _⟩ := h2 j es' z
      rw [q1] at y
      exact hj (h1 i j ds es' hi z (V.ref.inj (Option.some.inj (Option.some.inj y))).symm)
  refine ⟨_, ?_, g2⟩
  have o3 := o2.setV (i := i) (v := .ref (f i)) (d := .list ds) (.lst upd_same (e5.mono g2))
  rw [List.set_set] at o3
  have : σ.set i (some (V.ref (f i))) = σ := by
    apply List.ext_getElem?
    intro j
    by_cases hj : i = j
    · subst hj
      rw [List.getElem?_set_self (by rw [← o.len]; exact hl), e1]
    · rw [List.getElem?_set_ne hj]
  rw [this] at o3
  exact o3
/-- from here on the list in slot i is data -/
theorem fj_fr (i : Nat) {ds : List D} {ss : List Stmt} {x : m D} (h : FJ X EX fall ss (g.set i (.val (.list ds))) x) (hi : g[i]? = some (Sl.own ds) := by rfl) : FJ X EX fall ss g x :=
  PSs.weak h fun De σ H ⟨B, G, n, φ, ξ, o, s, q1, q2, xw⟩ => by
    obtain ⟨G', o', g'⟩ := o.freezeS hi
    exact ⟨B, G', n, φ, ξ, o', s, q1, q2, xw⟩
theorem bj_fr (i : Nat) {ds : List D} {ss : List Stmt} {x : m (Fl A)} {P : A → List Sl} (h : BJ X EX ss (g.set i (.val (.list ds))) x P) (hi : g[i]? = some (Sl.own ds) := by rfl) : BJ X EX ss g x P :=
  PSs.weak h fun De σ H ⟨B, G, n, φ, ξ, o, s, q1, q2, xw⟩ => by
    obtain ⟨G', o', g'⟩ := o.freezeS hi
    exact ⟨B, G', n, φ, ξ, o', s, fun c τ K' L' k oc gc pc => q1 c τ K' L' k oc (g'.trans gc) pc, q2, xw⟩
/-- x in slot i as it stands, for one operation that only reads it (no slot of the list's is handed on): its value, by a rule for values -/
def OwnR (X : Cx) (g : List Sl) (i : Nat) (ds : List D) (t : (V → Hp → VK → Prop)) (f : List D → Option D) : Prop :=
  ∀ (B : Bs) (σ : L2.St) (H G : Hp) (n : Nat) (a : Addr) (xs : List V) (z : D) (Q : VK), Ok X.K B g σ H G n → H a = some (.lst xs) → DaAll X.K G xs ds → f ds = some z → (∀ v H' G', Gr H G H' G' → Da X.K G' v z → Q v H') → t (.ref a) H Q
theorem ej_own (i : Nat) {ds : List D} {y : Str} {py : Pos} {e : Expr} {t : V → Hp → VK → Prop} {f : List D → Option D} (h : PE X e (fun σ H Q => tVar i σ H fun x H1 => t x H1 Q)) (hr : OwnR X g i ds t f) (hg : g[i]? = some (Sl.own ds) := by rfl) : EJ (m := m) X EX e g (Mo.lift (f ds)) :=
  h.weak fun σ H Q ⟨B, G, n, φ, ξ, o, s, q, xw⟩ => by
    obtain ⟨a, xs, e1, e2, e3⟩ := own_at o hg
    obtain ⟨z, ez, pz⟩ := Mo.sat_lift s
    exact ⟨.ref a, e1, hr B σ H G n a xs z Q o e2 e3 ez fun v H' G' gr dv => q v H' G' z n (o.gr gr) gr.g dv pz⟩
end
end DD
namespace DD
open PySem PySem.Spec PyProof.Rows L2

/-! ### defs: as FnOk, where no repr runs around the call -/
structure FnG (P : Program) (w : World) (K : PySem.W.Frag) (mg : Str → Option Value) (base : Heap) (k : Nat) (f : Addr) (fd : FuncData) (ps : List Str) (sp : Sp) : Prop where
  len : ∀ vs H Q E, sp vs H Q E → vs.length = ps.length
  run : ∀ (A : Around) (outer : List Env) (s : Shared) (H : Hp) (args : Args) (us : List Value) (vs : List V) (Q : VK) (E : XK), Room k A → A.guards = some [] → Env0 P w K mg base A outer s H → BindsTo s fd args (ps.zip us) → Vals vs us → sp vs H Q E →
    codeAny (model P w) A (.call (.ref f) args) (CR CX0 outer P w H s Q E) s
theorem FnG.mono {P : Program} {w : World} {K : PySem.W.Frag} {mg : Str → Option Value} {base : Heap} {j k : Nat} {f : Addr} {fd : FuncData} {ps : List Str} {sp : Sp} (F : FnG P w K mg base j f fd ps sp) (h : j ≤ k) : FnG P w K mg base k f fd ps sp :=
  ⟨F.len, fun A outer s H args us vs Q E hr => F.run A outer s H args us vs Q E (hr.mono h)⟩
theorem fng_of {P : Program} {w : World} {K : PySem.W.Frag} {mg : Str → Option Value} {base : Heap} {k : Nat} {x qual : Str} {st : Stmt} {f : Addr} {fd : FuncData} {N ps : List Str} {sp : Sp} (F : Fun K x qual st f fd) (S : FnScope N ps (defScope st)) (len : ∀ vs H Q E, sp vs H Q E → vs.length = ps.length)
    (hb : ∀ (cdv : Value) (A : Around) (outer : List Env) (s : Shared) (H : Hp) (vs : List V) (Q : VK) (E : XK), Room k (A.deeper (envOfC qual (defScope st) s.heap.objs.size f cdv)) → A.guards = some [] → sp vs H Q E →
      ∃ t, PSs (cxOf CX0 P w K mg base N qual (defScope st) f cdv A outer s H E).nox (defBody st) t ∧ t { nx := fun _ H' => Q .non H', rt := Q } (start N vs) H) : FnG P w K mg base (k + 1) f fd ps sp := by
  obtain ⟨oc, od, kV, doc, pm, an, cdv, ct, osl, rfl, lk, hcd⟩ := F.ex
  refine ⟨len, fun A outer s H args us vs Q E room gu e0 bi rv hsp => ?_⟩
  have KH : K.In s.heap := e0.mod.kin.keeps fun b o z => (e0.bs b o z).1
  have kinds : ∀ y ∈ ps.zip us, (defScope st).names.lookup y.1 = some .local ∨ ((defScope st).names.lookup y.1 = some .cell ∧ ((cellsFrom (s.heap.objs.size + 1) (defScope st).names []).lookup y.1).isSome = true) := by
    rintro ⟨nm, _⟩ hy
    exact (S.par nm (List.of_mem_zip hy).1).imp id fun z => ⟨z, PySem.W.cellsFrom_some _ _ _ (.inl z)⟩
  refine codeAny_call_function room.depth (KH _ _ lk) rfl S.co S.gen rfl (PySem.W.codeRec_of KH hcd) (bi _ _ _ _ (wpAny_newFunctionEnv_cells S.kind kinds fun env he s1 nw => ?_))
  subst he
  refine ⟨(e0.mod.nolimit.keeps fun b o z => (e0.bs b o z).1).keeps nw.toInCall.keep, codeAny_func ?_⟩
  obtain ⟨t, ht, hq⟩ := hb cdv A outer s H vs Q E (room.deeper _) gu hsp
  refine wpAny_mono (ht.nox.run [] s1 (start N vs) H _ (inv_start S room.hd e0 (len _ _ _ _ hsp) rv nw) hq) (fun fl s' h => ?_) fun _ _ z => z
  cases fl with
  | ret u =>
    obtain ⟨v, _, H', J, r', q⟩ := h
    exact ⟨v, H', J.os, J.bare, J.base, J.hok, r', q⟩
  | next =>
    obtain ⟨_, H', J, q⟩ := h
    exact ⟨.non, H', J.os, J.bare, J.base, J.hok, rfl, q⟩
  | brk => obtain ⟨_, _, _, q⟩ := h; exact q.elim
  | cont => obtain ⟨_, _, _, q⟩ := h; exact q.elim

/-! ### promises by mirrors -/
section
variable {m : Type → Type} [Mo m]
def spJ (K : PySem.W.Frag) (F : List Sl → m D) : Sp := fun vs H Q _ => ∃ G n dk as φ, ArgsOk K ⟨H, G, dk⟩ G vs as ∧ Fm ⟨H, G, dk⟩ H G n ∧ Mo.sat (F as) n φ (fun _ _ => False) ∧
  ∀ v H' G' d n', Fm ⟨H, G, dk⟩ H' G' n' → Da K G' v d → φ d n' → Q v H'
theorem ArgsOk.length {K : PySem.W.Frag} {B : Bs} {G : Hp} : ∀ {vs : List V} {as : List Sl}, ArgsOk K B G vs as → vs.length = as.length
  | _, _, .nil => rfl
  | _, _, .cons _ r => by simp [ArgsOk.length r]
theorem ArgsOk.get {K : PySem.W.Frag} {B : Bs} {G : Hp} : ∀ {vs : List V} {as : List Sl}, ArgsOk K B G vs as → ∀ (i : Nat) (a : Sl), as[i]? = some a → ∃ v, vs[i]? = some v ∧ ArgOk K B G v a
  | _, _, .nil, _, _, e => by simp at e
  | _, _, .cons h _, 0, a, e => by simp at e; subst e; exact ⟨_, rfl, h⟩
  | _, _, .cons _ r, i + 1, a, e => by
    obtain ⟨v, h1, h2⟩ := r.get i a (by simpa using e)
    exact ⟨v, by simpa using h1, h2⟩
theorem ok_start {K : PySem.W.Frag} {B : Bs} {H G : Hp} {n : Nat} {N : List Str} {vs : List V} {as : List Sl} (a : ArgsOk K B G vs as) (f : Fm B H G n) : Ok K B (as ++ List.replicate (N.length - as.length) .any) (start N vs) H G n := by
  have hl := a.length
  have pick : ∀ (i : Nat) (s : Sl), (as ++ List.replicate (N.length - as.length) Sl.any)[i]? = some s → s ≠ .any → ∃ v, (start N vs)[i]? = some (some v) ∧ ArgOk K B G v s := fun i s e ne => by
    by_cases hi : i < as.length
    · rw [List.getElem?_append_left hi] at e
      obtain ⟨v, h1, h2⟩ := a.get i s e
      refine ⟨v, ?_, h2⟩
      unfold L2.start
      rw [List.getElem?_append_left (by rw [List.length_map]; omega), List.getElem?_map, h1]
      rfl
    · rw [List.getElem?_append_right (by omega), List.getElem?_replicate] at e
      split at e
      · cases e; exact absurd rfl ne
      · cases e
  refine ⟨f, ?_, fun i d e => ?_, ⟨fun _ => 0, fun i j ds es e => ?_, fun i ds e => ?_⟩, fun i e => ?_⟩
  · unfold L2.start
    simp only [List.length_append, List.length_map, List.length_replicate]
    omega
  · obtain ⟨v, h1, h2⟩ := pick i _ e (by simp)
    exact ⟨v, h1, h2⟩
  · obtain ⟨v, _, h2⟩ := pick i _ e (by simp)
    exact h2.elim
  · obtain ⟨v, _, h2⟩ := pick i _ e (by simp)
    exact h2.elim
  · obtain ⟨v, h1, a, b, h2, rfl⟩ := pick i _ e (by simp)
    exact ⟨a, b, h2, h1⟩
/-- a def keeps its mirror's promise, by its body -/
theorem fn_j {P : Program} {w : World} {K : PySem.W.Frag} {mg : Str → Option Value} {base : Heap} {k : Nat} {x qual : Str} {st : Stmt} {f : Addr} {fd : FuncData} {N ps : List Str} {F : List Sl → m D} (Fu : Fun K x qual st f fd) (S : FnScope N ps (defScope st))
    (hb : ∀ (as : List Sl) (n : Nat) (φ : D → Nat → Prop), Mo.sat (F as) n φ (fun _ _ => False) → as.length = ps.length ∧ ∀ (cdv : Value) (A : Around) (outer : List Env) (s : Shared) (H : Hp) (E : XK), Room k (A.deeper (envOfC qual (defScope st) s.heap.objs.size f cdv)) → A.guards = some [] →
      FJ (cxOf CX0 P w K mg base N qual (defScope st) f cdv A outer s H E).nox E0 true (defBody st) (as ++ List.replicate (N.length - as.length) .any) (F as)) : FnG P w K mg base (k + 1) f fd ps (spJ K F) := by
  refine fng_of Fu S (fun vs H Q E ⟨G, n, dk, as, φ, a, _, s, _⟩ => a.length.trans (hb as n φ s).1) fun cdv A outer s H vs Q E hr gu ⟨G, n, dk, as, φ, a, fm, st, q⟩ => ⟨_, (hb as n φ st).2 cdv A outer s H E hr gu, ⟨H, G, dk⟩, G, n, φ, fun _ _ => False, ok_start a fm, st, q, fun _ σ' H' G' n' f' p => q .non H' G' .none n' f' .non p, fun _ _ _ _ _ _ z => z.elim⟩

/-! ### calls of such defs -/
variable {X : Cx} {EX : XK} {g : List Sl} {k : Nat} {f : Addr} {fd : FuncData} {ps : List Str}
theorem call_g {pins : List (Addr × Obj)} {σ : L2.St} {H : Hp} {s : Shared} {Q : VK} {us : List Value} {vs : List V} {sp : Sp} (F : FnG X.prog X.w X.K X.mg X.base k f fd ps sp) (hr : Room k X.A) (gu : X.A.guards = some []) (hb : Binds X.K fd ps [])
    (I : Inv X pins σ H s) (r : Vals vs us) (h : sp vs H Q E0) : wpAny (model X.prog X.w) X.A (call (.ref f) us) (EP X pins σ Q) X.xe s := by
  have hl : us.length = ps.length := by rw [← r.length]; exact F.len _ _ _ _ h
  have hb' := hb s us I.kIn (by rw [List.append_nil]; exact hl)
  rw [List.append_nil] at hb'
  refine wpAny_call (codeAny_mono (F.run X.A X.stack s H ⟨us, []⟩ us vs Q E0 hr gu I.env0 hb' r h) fun z s' hq => ?_)
  cases z with
  | error e => exact False.elim hq
  | ok fl =>
    cases fl with
    | ret u => exact I.after hq
    | next => exact False.elim hq
    | brk => exact False.elim hq
    | cont => exact False.elim hq
theorem pe_g {x : Str} {p pos : Pos} {e : Expr} {es : List Expr} {t : TA} {sp : Sp} (F : FnG X.prog X.w X.K X.mg X.base k f fd ps sp) (hr : Room k X.A) (gu : X.A.guards = some []) (hg : Gl X x) (hm : X.mg x = some (.ref f)) (hk : PySem.W.keepIn X.K (.ref f) = true) (hb : Binds X.K fd ps [])
    (ha : PA X (e :: es) t) (hd : (x == ("__debug__" : Str)) = false) (he : starEach (e :: es) X.env = (false, eval e X.env) :: starEach es X.env) (hpl : (backTo pos (starEach es X.env)).any (·.1) = false) : PE X (.Call (.Name x p) (e :: es) [] pos) (fun σ H Q => t σ H fun vs H1 => sp vs H1 Q E0) :=
  ⟨fun pins s σ H Q I h => wpAny_Call_Name_kw (ld_glob I hg hm (PySem.W.callWith_K (h₀ := X.base) I.ok.mod.kin hk (thn (ha.run pos pins s σ H _ I h) fun us s1 ⟨vs, H1, I1, r, q⟩ => ⟨I1.kIn, call_g F hr gu hb I1 r q⟩) he hpl) hd)⟩
/-- a deck that the callee does not see stays -/
theorem Fm.back {K : PySem.W.Frag} {B : Bs} {H G H' G' : Hp} {n n' : Nat} {dk : Option (Addr × Addr)} {σ : L2.St} (o : Ok K B g σ H G n) (hd : dk = none ∧ n' = n ∨ dk = B.dk) (f : Fm ⟨H, G, dk⟩ H' G' n') : Ok K B g σ H' G' n' ∧ Same G G' := by
  have hfp : ∀ a, (⟨H, G, dk⟩ : Bs).fp a → B.fp a := fun a ⟨x, y, e, r⟩ => by
    rcases hd with ⟨hd, _⟩ | hd
    · have e' : dk = some (x, y) := e
      rw [hd] at e'; cases e'
    · have e' : dk = some (x, y) := e
      exact ⟨x, y, hd.symm.trans e', r⟩
  have old : Same G G' := f.old
  have nfp : ∀ a, B.H a = none → ¬ (⟨H, G, dk⟩ : Bs).fp a := fun a ha hp => o.fm.side ha (hfp a hp)
  refine ⟨⟨⟨fun a z e q => f.keep a z (o.fm.keep a z e q) fun hp => q (hfp a hp), f.sub, o.fm.old.trans old, fun a e q => ?_, fun a b e => ?_⟩, o.len, fun i d e => ?_, ?_, o.dck⟩, old⟩
  · have hG : G a = none := o.fm.new a e q
    by_cases hp : B.fp a
    · obtain ⟨x, y, ed, hxy⟩ := id hp
      obtain ⟨⟨cs, c, h1, h2, _⟩, _⟩ := o.fm.deck x y ed
      refine f.new a ?_ hG
      show H a ≠ none
      rcases hxy with rfl | rfl
      · rw [h1]; simp
      · rw [h2]; simp
    · cases hb : B.H a with
      | none => exact absurd hb e
      | some z => exact f.new a (by show H a ≠ none; rw [o.fm.keep a z hb hp]; simp) hG
  · obtain ⟨d1, r⟩ := o.fm.deck a b e
    rcases hd with ⟨hd, hn⟩ | hd
    · obtain ⟨cs, c, h1, h2, h3⟩ := d1
      subst hn
      have nf : ∀ z, ¬ (⟨H, G, dk⟩ : Bs).fp z := fun z ⟨x, y, e2, _⟩ => by
        have e' : dk = some (x, y) := e2
        rw [hd] at e'; cases e'
      exact ⟨⟨cs, c, f.keep a _ h1 (nf a), f.keep b _ h2 (nf b), h3⟩, r⟩
    · exact ⟨(f.deck a b (by show dk = some (a, b); rw [hd]; exact e)).1, r⟩
  · obtain ⟨v, h1, h2⟩ := o.val i d e
    exact ⟨v, h1, h2.mono old⟩
  · obtain ⟨fn, h1, h2⟩ := o.own
    refine ⟨fn, h1, fun i ds e => ?_⟩
    obtain ⟨a, b, c, xs, d, da⟩ := h2 i ds e
    exact ⟨a, f.new _ (by show H (fn i) ≠ none; rw [d]; simp) b, c, xs, f.keep _ _ d (nfp _ c), da.mono old⟩
def noDeck : List Sl → Bool
  | [] => true
  | .deck :: _ => false
  | _ :: r => noDeck r
theorem ArgsOk.base {K : PySem.W.Frag} {B B' : Bs} {G : Hp} (h : B'.dk = B.dk) : ∀ {vs : List V} {as : List Sl}, ArgsOk K B G vs as → ArgsOk K B' G vs as
  | _, _, .nil => .nil
  | _, _, .cons (a := .val d) q r => .cons (show Da _ _ _ _ from q) (r.base h)
  | _, _, .cons (a := .deck) ⟨a, b, e, ev⟩ r => .cons ⟨a, b, h.trans e, ev⟩ (r.base h)
  | _, _, .cons (a := .own _) q _ => q.elim
  | _, _, .cons (a := .any) q _ => q.elim
theorem Fm.at_call {B : Bs} {H G : Hp} {n : Nat} (f : Fm B H G n) : Fm ⟨H, G, B.dk⟩ H G n where
  keep := fun a o e _ => e
  sub := f.sub
  old := Same.refl _
  new := fun a _ q => q
  deck := fun a b e => by
    obtain ⟨d, h1, h2, h3, h4⟩ := f.deck a b e
    obtain ⟨cs, c, e1, e2, r⟩ := id d
    exact ⟨d, by show H a ≠ none; rw [e1]; simp, by show H b ≠ none; rw [e2]; simp, f.new a h1 h3, f.new b h2 h4⟩
/-- f(..) by its mirror -/
theorem ej_call {x : Str} {p pos : Pos} {e : Expr} {es : List Expr} {F : List Sl → m D} {y : m (List Sl)} [Calm m] (Fn : FnG X.prog X.w X.K X.mg X.base k f fd ps (spJ X.K F)) (hr : Room k X.A) (gu : X.A.guards = some []) (hm : X.mg x = some (.ref f)) (hk : PySem.W.keepIn X.K (.ref f) = true) (hb : Binds X.K fd ps [])
    (ha : AJ X EX (e :: es) g y) (hg : Gl X x := by rfl) (hd : (x == ("__debug__" : Str)) = false := by decide) (he : starEach (e :: es) X.env = (false, eval e X.env) :: starEach es X.env := by rfl) (hpl : (backTo pos (starEach es X.env)).any (·.1) = false := by rfl) :
    EJ X EX (.Call (.Name x p) (e :: es) [] pos) g (y >>= F) :=
  (pe_g Fn hr gu hg hm hk hb ha hd he hpl).weak fun σ H Q ⟨B, G, n, φ, ξ, o, s, q, xw⟩ => ⟨B, G, n, _, ξ, o, Mo.sat_bind s, fun vs H1 G1 as n1 o1 g1 a1 s1 =>
    ⟨G1, n1, B.dk, as, φ, ArgsOk.base (B := B) (B' := ⟨H1, G1, B.dk⟩) rfl a1, o1.fm.at_call, Calm.calm s1, fun v H' G' d n' f' dv p => by
      obtain ⟨o2, g2⟩ := Fm.back o1 (.inr rfl) f'
      exact q v H' G' d n' o2 (g1.trans g2) dv p⟩, xw⟩
/-- .. a mirror without the deck, lifted -/
class Up (m' m : Type → Type) [Mo m'] [Mo m] where
  up : {α : Type} → m' α → m α
  sat_up : ∀ {α : Type} {x : m' α} {n : Nat} {φ : α → Nat → Prop} {ξ : Exn → Nat → Prop}, Mo.sat (up x) n φ ξ → Mo.sat x n φ ξ
instance {m : Type → Type} [Mo m] : Up Option m where
  up := Mo.lift
  sat_up := Mo.sat_lift
theorem ej_callU {m' : Type → Type} [Mo m'] [Calm m'] [Up m' m] {x : Str} {p pos : Pos} {e : Expr} {es : List Expr} {F : List Sl → m' D} {y : m (List Sl)} (Fn : FnG X.prog X.w X.K X.mg X.base k f fd ps (spJ X.K F)) (hr : Room k X.A) (gu : X.A.guards = some []) (hm : X.mg x = some (.ref f)) (hk : PySem.W.keepIn X.K (.ref f) = true) (hb : Binds X.K fd ps [])
    (ha : AJ X EX (e :: es) g y) (hg : Gl X x := by rfl) (hd : (x == ("__debug__" : Str)) = false := by decide) (he : starEach (e :: es) X.env = (false, eval e X.env) :: starEach es X.env := by rfl) (hpl : (backTo pos (starEach es X.env)).any (·.1) = false := by rfl) :
    EJ X EX (.Call (.Name x p) (e :: es) [] pos) g (y >>= fun as => Up.up (m' := m') (F as)) :=
  (pe_g Fn hr gu hg hm hk hb ha hd he hpl).weak fun σ H Q ⟨B, G, n, φ, ξ, o, s, q, xw⟩ => ⟨B, G, n, _, ξ, o, Mo.sat_bind s, fun vs H1 G1 as n1 o1 g1 a1 s1 =>
    ⟨G1, n1, B.dk, as, φ, ArgsOk.base (B := B) (B' := ⟨H1, G1, B.dk⟩) rfl a1, o1.fm.at_call, Calm.calm (Up.sat_up s1), fun v H' G' d n' f' dv p => by
      obtain ⟨o2, g2⟩ := Fm.back o1 (.inr rfl) f'
      exact q v H' G' d n' o2 (g1.trans g2) dv p⟩, xw⟩
end
end DD
namespace DD
open PySem PySem.Spec PyProof.Rows L2

def orR (r q : R2) : R2 := fun x y H Q => r x y H Q ∨ q x y H Q
theorem op_or {X : Cx} {f : Value → Value → Sem Value} {r q : R2} (a : OpR X f r) (b : OpR X f q) : OpR X f (orR r q) := by
  intro pins s σ H x y v u Q I rx ry h
  rcases h with h | h
  · exact a pins s σ H x y v u Q I rx ry h
  · exact b pins s σ H x y v u Q I rx ry h
section
variable {X : Cx} {K : PySem.W.Frag}
theorem Da.toI {G : Hp} {v : V} {i : Int} (h : Da K G v (.int i)) : v = .int i := by cases h; rfl
theorem Da.toB {G : Hp} {v : V} {i : Bool} (h : Da K G v (.bool i)) : v = .bl i := by cases h; rfl
theorem Da.toS {G : Hp} {v : V} {i : Str} (h : Da K G v (.str i)) : v = .str i := by cases h; rfl
theorem Da.toT {G : Hp} {v : V} {ds : List D} (h : Da K G v (.tuple ds)) : ∃ a xs, v = .ref a ∧ SqT K G a xs ∧ DaAll K G xs ds := by cases h with | tup a b => exact ⟨_, _, rfl, a, b⟩
theorem Da.toL {G : Hp} {v : V} {ds : List D} (h : Da K G v (.list ds)) : ∃ a xs, v = .ref a ∧ G a = some (.lst xs) ∧ DaAll K G xs ds := by cases h with | lst a b => exact ⟨_, _, rfl, a, b⟩

/-! ### + -/
def addD : D → D → Option D
  | .int i, .int j => some (.int (i + j))
  | .tuple a, .tuple b => (small (a ++ b)).map .tuple
  | .list a, .list b => (small (a ++ b)).map .list
  | .str a, .str b => if a.length + b.length ≤ 1000000 then some (.str (a ++ b)) else none
  | _, _ => none
abbrev rAddD (K : PySem.W.Frag) : R2 := orR (rI0 fun i j => .int (i + j)) (orR (rCatA K) (orR rCat (fun x y H Q => ∃ a b, x = .str a ∧ y = .str b ∧ a.length + b.length ≤ sizeLine ∧ Q (.str (a ++ b)) H)))
theorem op_addD : OpR X (binaryOp .Add) (rAddD X.K) := op_or op_add (op_or op_catA (op_or op_cat op_add_str))
theorem rd_add : RD K (rAddD K) addD := by
  intro x y dx dy z H G Q hx hy hs e q
  unfold addD at e
  split at e
  · cases e
    exact .inl ⟨_, _, hx.toI, hy.toI, q _ H G (Gr.refl hs) (.int _)⟩
  · rename_i as bs
    obtain ⟨es, ee, rfl⟩ := Option.map_eq_some_iff.mp e
    obtain ⟨rfl, hl⟩ := small_eq ee
    obtain ⟨a, xs, rfl, ha, da⟩ := hx.toT
    obtain ⟨b, ys, rfl, hb, db⟩ := hy.toT
    rw [List.length_append] at hl
    refine .inr (.inl ⟨a, b, xs, ys, rfl, rfl, sameT hs ha, sameT hs hb, by rw [da.length, db.length]; exact le_line hl, fun e => ?_, fun n e => ?_, fun n k p hp => ?_⟩)
    · subst e
      cases da
      exact q _ H G (Gr.refl hs) (.tup hb db)
    · subst e
      cases db
      rw [List.append_nil] at q
      exact q _ H G (Gr.refl hs) (.tup ha da)
    · have gr := Gr.alloc (u := .tup (xs ++ ys)) hs hp
      exact q _ _ _ gr (.tup (.inl (.inl upd_same)) ((da.append db).mono gr.g))
  · rename_i as bs
    obtain ⟨es, ee, rfl⟩ := Option.map_eq_some_iff.mp e
    obtain ⟨rfl, hl⟩ := small_eq ee
    obtain ⟨a, xs, rfl, ha, da⟩ := hx.toL
    obtain ⟨b, ys, rfl, hb, db⟩ := hy.toL
    rw [List.length_append] at hl
    refine .inr (.inr (.inl ⟨a, b, xs, ys, rfl, rfl, hs _ _ ha, hs _ _ hb, by rw [da.length, db.length]; exact le_line hl, fun p hp => ?_⟩))
    have gr := Gr.alloc (u := .lst (xs ++ ys)) hs hp
    exact q _ _ _ gr (.lst upd_same ((da.append db).mono gr.g))
  · split at e
    · rename_i hl
      cases e
      exact .inr (.inr (.inr ⟨_, _, hx.toS, hy.toS, le_line hl, q _ H G (Gr.refl hs) (.str _)⟩))
    · cases e
  · cases e
/-! ### ints -/
def intD2 (f : Int → Int → Option D) : D → D → Option D
  | .int i, .int j => f i j
  | _, _ => none
theorem rd_int {C : Int → Int → Prop} {h : Int → Int → V} {f : Int → Int → Option D} (hf : ∀ i j z, f i j = some z → C i j ∧ ∀ K G, Da K G (h i j) z) : RD K (rI C h) (intD2 f) := by
  intro x y dx dy z H G Q hx hy hs e q
  unfold intD2 at e
  split at e
  · obtain ⟨c, d⟩ := hf _ _ _ e
    exact ⟨_, _, hx.toI, hy.toI, c, q _ H G (Gr.refl hs) (d _ _)⟩
  · cases e
theorem rd_int0 {h : Int → Int → V} {f : Int → Int → Option D} (hf : ∀ i j z, f i j = some z → ∀ K G, Da K G (h i j) z) : RD K (rI0 h) (intD2 f) := by
  intro x y dx dy z H G Q hx hy hs e q
  unfold intD2 at e
  split at e
  · exact ⟨_, _, hx.toI, hy.toI, q _ H G (Gr.refl hs) (hf _ _ _ e _ _)⟩
  · cases e
def subD : D → D → Option D := intD2 fun i j => some (.int (i - j))
theorem rd_sub : RD K (rI0 fun i j => .int (i - j)) subD := rd_int0 fun i j z e _ _ => by cases e; exact .int _
def divD : D → D → Option D := intD2 fun i j => if 0 < j ∧ j.natAbs < 1073741824 then some (.int (i / j)) else none
theorem rd_div : RD K (rI CDiv fun i j => .int (i / j)) divD := rd_int fun i j z e => by
  split at e
  · rename_i h; cases e; exact ⟨⟨h.1, by omega⟩, fun _ _ => .int _⟩
  · cases e
def modD : D → D → Option D := intD2 fun i j => if 0 < j then some (.int (i % j)) else none
theorem rd_mod : RD K (rI (fun _ j => 0 < j) fun i j => .int (i % j)) modD := rd_int fun i j z e => by
  split at e
  · rename_i h; cases e; exact ⟨h, fun _ _ => .int _⟩
  · cases e
def powD : D → D → Option D := intD2 fun i j => if 0 ≤ j ∧ j ≤ 1000000 ∧ i.natAbs < 2 ^ 64 then some (.int (i ^ j.toNat)) else none
theorem rd_pow : RD K (rI CPow fun i j => .int (i ^ j.toNat)) powD := rd_int fun i j z e => by
  split at e
  · rename_i h; cases e; exact ⟨h, fun _ _ => .int _⟩
  · cases e
def shlD : D → D → Option D := intD2 fun i j => if 0 ≤ j ∧ j ≤ 1000000 ∧ i.natAbs < 2 ^ 64 then some (.int (i * 2 ^ j.toNat)) else none
theorem rd_shl : RD K (rI CPow fun i j => .int (i * 2 ^ j.toNat)) shlD := rd_int fun i j z e => by
  split at e
  · rename_i h; cases e; exact ⟨h, fun _ _ => .int _⟩
  · cases e
def shrD : D → D → Option D := intD2 fun i j => if 0 ≤ j then some (.int (i / 2 ^ j.toNat)) else none
theorem rd_shr : RD K (rI (fun _ j => 0 ≤ j) fun i j => .int (i / 2 ^ j.toNat)) shrD := rd_int fun i j z e => by
  split at e
  · rename_i h; cases e; exact ⟨h, fun _ _ => .int _⟩
  · cases e
def ltD : D → D → Option D := intD2 fun i j => some (.bool (decide (i < j)))
def leD : D → D → Option D := intD2 fun i j => some (.bool (decide (i ≤ j)))
def gtD : D → D → Option D := intD2 fun i j => some (.bool (decide (j < i)))
def geD : D → D → Option D := intD2 fun i j => some (.bool (decide (j ≤ i)))
theorem rd_lt : RD K (rI0 fun i j => .bl (decide (i < j))) ltD := rd_int0 fun i j z e _ _ => by cases e; exact .bl _
theorem rd_le : RD K (rI0 fun i j => .bl (decide (i ≤ j))) leD := rd_int0 fun i j z e _ _ => by cases e; exact .bl _
theorem rd_gt : RD K (rI0 fun i j => .bl (decide (j < i))) gtD := rd_int0 fun i j z e _ _ => by cases e; exact .bl _
theorem rd_ge : RD K (rI0 fun i j => .bl (decide (j ≤ i))) geD := rd_int0 fun i j z e _ _ => by cases e; exact .bl _
def negD : D → Option D
  | .int i => some (.int (-i))
  | _ => none
theorem ru_neg : RU1 K (rU fun i => .int (-i)) negD := by
  intro x dx z H G Q hx hs e q
  unfold negD at e
  split at e
  · cases e; exact ⟨_, hx.toI, q _ H G (Gr.refl hs) (.int _)⟩
  · cases e
/-! ### == != of data -/
/-- == of what is told apart (or alike) without a look at the items: lists of unlike lengths, a tuple and the empty one -/
def lensD : D → D → Option Bool
  | .list xs, .list ys => if xs.length = ys.length then none else some false
  | .tuple xs, .tuple ys => if xs.length = 0 ∨ ys.length = 0 then some (decide (xs.length = ys.length)) else none
  | _, _ => none
def eqD : D → D → Option D
  | .str a, .str b => some (.bool (decide (a = b)))
  | a, b => if SeqAt.shaped a = true ∧ SeqAt.shaped b = true then some (.bool (PyData.eqv a b)) else (lensD a b).map fun k => .bool k
def neD : D → D → Option D
  | .str a, .str b => some (.bool (!decide (a = b)))
  | a, b => if SeqAt.shaped a = true ∧ SeqAt.shaped b = true then some (.bool (!PyData.eqv a b)) else (lensD a b).map fun k => .bool (!k)
def rEqS (K : PySem.W.Frag) : R2 := fun x y H Q => ∃ d e, Da K H x d ∧ Da K H y e ∧ SeqAt.shaped d = true ∧ SeqAt.shaped e = true ∧ Q (.bl (PyData.eqv d e)) H
def rNeS (K : PySem.W.Frag) : R2 := fun x y H Q => ∃ d e, Da K H x d ∧ Da K H y e ∧ SeqAt.shaped d = true ∧ SeqAt.shaped e = true ∧ Q (.bl (!PyData.eqv d e)) H
def rEqL (K : PySem.W.Frag) : R2 := fun x y H Q => ∃ d e k, Da K H x d ∧ Da K H y e ∧ lensD d e = some k ∧ Q (.bl k) H
def rNeL (K : PySem.W.Frag) : R2 := fun x y H Q => ∃ d e k, Da K H x d ∧ Da K H y e ∧ lensD d e = some k ∧ Q (.bl (!k)) H
abbrev rEqA (K : PySem.W.Frag) : R2 := orR (rEqS K) (orR (rEqL K) rEq)
abbrev rNeA (K : PySem.W.Frag) : R2 := orR (rNeS K) (orR (rNeL K) rNe)
theorem op_eqS (hy : Sys X) (hu : X.A.units + 64 < cLine) : OpR X (compareOp .Eq) (rEqS X.K) := by
  intro pins s σ H x y v u Q I rx ry ⟨d, e, hd, he, sd, se, q⟩
  obtain ⟨as, r1, _⟩ := Da.reads hy I d x v hd rx
  obtain ⟨bs, r2, _⟩ := Da.reads hy I e y u he ry
  exact SeqAt.compareEq_shaped r1 r2 sd se hu ⟨.bl _, H, I, rfl, q⟩
theorem op_neS (hy : Sys X) (hu : X.A.units + 64 < cLine) : OpR X (compareOp .NotEq) (rNeS X.K) := by
  intro pins s σ H x y v u Q I rx ry ⟨d, e, hd, he, sd, se, q⟩
  obtain ⟨as, r1, _⟩ := Da.reads hy I d x v hd rx
  obtain ⟨bs, r2, _⟩ := Da.reads hy I e y u he ry
  exact SeqAt.compareNe_shaped r1 r2 sd se hu ⟨.bl _, H, I, rfl, q⟩
theorem lens_at {s : Shared} {A : Around} {d e : D} {k : Bool} {v u : Value} {as bs : List Addr} (r1 : Reads s.heap v d as) (r2 : Reads s.heap u e bs) (hk : lensD d e = some k) (hu : A.units < cLine) : SeqAt.RcAt A s v u k ∧ SeqAt.RcNeAt A s v u (!k) := by
  unfold lensD at hk
  split at hk
  · split at hk
    · cases hk
    · rename_i hne
      cases hk
      cases r1 with
      | list h1 h2 h3 h4 =>
        cases r2 with
        | list k1 k2 k3 k4 =>
          have n1 := SeqAt.ReadsAll.length _ _ _ h4
          have n2 := SeqAt.ReadsAll.length _ _ _ k4
          exact ⟨SeqAt.RcAt.lists_lengths ⟨_, h1, h2, _, h3⟩ ⟨_, k1, k2, _, k3⟩ (by simp at n1 n2 ⊢; omega) hu, SeqAt.RcNeAt.lists_lengths ⟨_, h1, h2, _, h3⟩ ⟨_, k1, k2, _, k3⟩ (by simp at n1 n2 ⊢; omega) hu⟩
  · split at hk
    · rename_i xs ys hz
      cases hk
      cases r1 with
      | @tuple l o vs n _ as1 h1 h2 h3 h4 =>
        cases r2 with
        | @tuple l' o' vs' n' _ bs1 k1 k2 k3 k4 =>
          have n1 : vs.size = xs.length := by simpa using SeqAt.ReadsAll.length _ _ _ h4
          have n2 : vs'.size = ys.length := by simpa using SeqAt.ReadsAll.length _ _ _ k4
          have e0 : ((List.range (min vs.size vs'.size)).all (fun _ => true) && vs.size == vs'.size) = decide (xs.length = ys.length) := by
            rw [n1, n2]
            rw [Bool.eq_iff_iff]; simp
          have q1 := SeqAt.RcAt.tuples (A := A) (e := fun _ => true) (s := s) (l := l) (b := l') (items := vs) (items2 := vs') ⟨_, h1, h2, _, h3⟩ ⟨_, k1, k2, _, k3⟩ hu (fun j j1 j2 => by omega)
          have q2 := SeqAt.RcNeAt.tuples (A := A) (e := fun _ => true) (s := s) (l := l) (b := l') (items := vs) (items2 := vs') ⟨_, h1, h2, _, h3⟩ ⟨_, k1, k2, _, k3⟩ hu (fun j j1 j2 => by omega)
          rw [e0] at q1 q2
          exact ⟨q1, q2⟩
    · cases hk
  · cases hk
theorem op_eqL (hy : Sys X) (hu : X.A.units + 64 < cLine) : OpR X (compareOp .Eq) (rEqL X.K) := by
  intro pins s σ H x y v u Q I rx ry ⟨d, e, k, hd, he, hk, q⟩
  obtain ⟨as, r1, _⟩ := Da.reads hy I d x v hd rx
  obtain ⟨bs, r2, _⟩ := Da.reads hy I e y u he ry
  exact (lens_at r1 r2 hk (by omega)).1 X.prog X.w X.xe _ ⟨.bl _, H, I, rfl, q⟩
theorem op_neL (hy : Sys X) (hu : X.A.units + 64 < cLine) : OpR X (compareOp .NotEq) (rNeL X.K) := by
  intro pins s σ H x y v u Q I rx ry ⟨d, e, k, hd, he, hk, q⟩
  obtain ⟨as, r1, _⟩ := Da.reads hy I d x v hd rx
  obtain ⟨bs, r2, _⟩ := Da.reads hy I e y u he ry
  exact (lens_at r1 r2 hk (by omega)).2 X.prog X.w X.xe _ ⟨.bl _, H, I, rfl, q⟩
theorem op_eqA (hy : Sys X) (hu : X.A.units + 64 < cLine) : OpR X (compareOp .Eq) (rEqA X.K) := op_or (op_eqS hy hu) (op_or (op_eqL hy hu) op_eq)
theorem op_neA (hy : Sys X) (hu : X.A.units + 64 < cLine) : OpR X (compareOp .NotEq) (rNeA X.K) := op_or (op_neS hy hu) (op_or (op_neL hy hu) op_ne)
theorem str_eqV (a b : Str) : decide (V.str a = V.str b) = decide (a = b) := by
  by_cases h : a = b
  · rw [decide_eq_true h, decide_eq_true (by rw [h])]
  · rw [decide_eq_false h, decide_eq_false (fun e => h (V.str.inj e))]
theorem rd_eq : RD K (rEqA K) eqD := by
  intro x y dx dy z H G Q hx hy hs e q
  unfold eqD at e
  split at e
  · rename_i a b
    cases e
    cases hx
    cases hy
    exact .inr (.inr ⟨rfl, by rw [str_eqV]; exact q _ H G (Gr.refl hs) (.bl _)⟩)
  · split at e
    · rename_i h
      cases e
      exact .inl ⟨dx, dy, hx.mono hs, hy.mono hs, h.1, h.2, q _ H G (Gr.refl hs) (.bl _)⟩
    · obtain ⟨k, hk, rfl⟩ := Option.map_eq_some_iff.mp e
      exact .inr (.inl ⟨dx, dy, k, hx.mono hs, hy.mono hs, hk, q _ H G (Gr.refl hs) (.bl _)⟩)
theorem rd_ne : RD K (rNeA K) neD := by
  intro x y dx dy z H G Q hx hy hs e q
  unfold neD at e
  split at e
  · rename_i a b
    cases e
    cases hx
    cases hy
    exact .inr (.inr ⟨rfl, by rw [str_eqV]; exact q _ H G (Gr.refl hs) (.bl _)⟩)
  · split at e
    · rename_i h
      cases e
      exact .inl ⟨dx, dy, hx.mono hs, hy.mono hs, h.1, h.2, q _ H G (Gr.refl hs) (.bl _)⟩
    · obtain ⟨k, hk, rfl⟩ := Option.map_eq_some_iff.mp e
      exact .inr (.inl ⟨dx, dy, k, hx.mono hs, hy.mono hs, hk, q _ H G (Gr.refl hs) (.bl _)⟩)
/-! ### is None -/
def isNone : D → Bool
  | .none => true
  | _ => false
def isD (a b : D) : Option D := if isNone b then some (.bool (isNone a)) else none
def isnD (a b : D) : Option D := if isNone b then some (.bool (!isNone a)) else none
theorem Da.isN {G : Hp} {v : V} {d : D} (h : Da K G v d) : decide (v = .non) = isNone d := by
  cases h <;> simp [isNone]
theorem Da.eqN {G : Hp} {v : V} {d : D} (h : Da K G v d) (e : isNone d = true) : v = .non := by
  rw [← h.isN] at e
  exact of_decide_eq_true e
theorem rd_is : RD K (fun x y H Q => y = .non ∧ Q (.bl (decide (x = .non))) H) isD := by
  intro x y dx dy z H G Q hx hy hs e q
  unfold isD at e
  split at e
  · rename_i h
    cases e
    refine ⟨hy.eqN h, ?_⟩
    rw [hx.isN]
    exact q _ H G (Gr.refl hs) (.bl _)
  · cases e
theorem rd_isn : RD K (fun x y H Q => y = .non ∧ Q (.bl (!decide (x = .non))) H) isnD := by
  intro x y dx dy z H G Q hx hy hs e q
  unfold isnD at e
  split at e
  · rename_i h
    cases e
    refine ⟨hy.eqN h, ?_⟩
    rw [hx.isN]
    exact q _ H G (Gr.refl hs) (.bl _)
  · cases e
/-! ### subscripts -/
theorem DaAll.atI {G : Hp} {vs : List V} {ds : List D} {i : Int} {d : D} (h : DaAll K G vs ds) (e : L2.atI ds i = some d) : ∃ v, L2.atI vs i = some v ∧ Da K G v d := by
  unfold L2.atI at e ⊢
  rw [h.length]
  cases hk : ixN ds.length i with
  | none => rw [hk] at e; cases e
  | some j =>
    rw [hk] at e
    obtain ⟨v, h1, h2⟩ := h.get (i := j) (d := d) e
    exact ⟨v, h1, h2⟩
def getD : D → D → Option D
  | .list ds, .int i => L2.atI ds i
  | .tuple ds, .int i => L2.atI ds i
  | .str z, .int i => if z.length ≤ 1000000 then (L2.atI z.cps.toList i).map fun c => .str ⟨#[c]⟩ else none
  | _, _ => none
theorem rd_ix : RD K (rIx K) getD := by
  intro x y dx dy z H G Q hx hy hs e q
  unfold getD at e
  split at e
  · obtain ⟨a, xs, rfl, ha, da⟩ := hx.toL
    obtain ⟨v, h1, h2⟩ := da.atI e
    exact .inl ⟨a, xs, _, v, rfl, hy.toI, .of (hs _ _ ha), h1, q v H G (Gr.refl hs) h2⟩
  · obtain ⟨a, xs, rfl, ha, da⟩ := hx.toT
    obtain ⟨v, h1, h2⟩ := da.atI e
    exact .inr (.inl ⟨a, xs, _, v, rfl, hy.toI, sameT hs ha, h1, q v H G (Gr.refl hs) h2⟩)
  · split at e
    · rename_i hl
      obtain ⟨c, hc, rfl⟩ := Option.map_eq_some_iff.mp e
      exact .inr (.inr ⟨_, _, c, hx.toS, hy.toI, le_line hl, hc, q _ H G (Gr.refl hs) (.str _)⟩)
    · cases e
  · cases e
end
end DD
namespace DD
open PySem PySem.Spec PyProof.Rows L2
/-! ### * -/
theorem tuple_mul1 (l : Addr) (items : Array Value) (n : Nat) (dd : Option Addr) (sl : Array (Option Value)) (u : Tok) :
    Meets (Builtin.«tuple.__mul__» ⟨[.ref l, .int 1 u], []⟩) (fun _ R s => s.heap.get? l = some { cls := .type "tuple", dict := dd, data := .seq items n, slots := sl } ∧ R (.ok (.ret (Value.ref l))) s) :=
  .of_wp fun prog w A R s h => by
    obtain ⟨hp, g, d, tk, os⟩ := s
    obtain ⟨hl, h⟩ := h
    have f1 := AutoSeq1.idx_int
    have c1 : (items.isEmpty || (1 : Int) == 1) = true := by simp
    wp_walk using wpAny_loadPart' hl
    exact ⟨_, rfl, h⟩
def rMul1 (K : PySem.W.Frag) : R2 := fun x y H Q => ∃ l xs, x = .ref l ∧ y = .int 1 ∧ SqT K H l xs ∧ Q (.ref l) H
section
variable {X : Cx} {K : PySem.W.Frag}
theorem op_mul1 : OpR X (binaryOp .Mult) (rMul1 X.K) := by
  intro pins s σ H x y v u Q I rx ry ⟨l, xs, ex, ey, hT, q⟩
  subst ex ey
  cases rx
  obtain ⟨t, rfl⟩ := ry
  obtain ⟨its, r, ⟨⟨cls, dd, data, sl⟩, ho, hc, n, hd⟩, hs⟩ := I.tuple hT
  simp only at hc hd
  subst hc hd
  exact wpAny_binaryOp_repeat_ref (T := "tuple") (U := "int") (by decide) ⟨_, ho, rfl⟩ (fun s' => typeIs_int s' 1 t) noFill_tuple_mul F.fills_int_mul F.slot_int_rmul repeat_tuple F.slot_int_index.lookup
    (call_meets F.slot_int_rmul (typeIs_int s 1 t) F.entry_int_rmul (F.args_int_rmul_2 _ _) (int_rmul_tuple 1 t l its.toArray n dd sl)
      ⟨ho, rfl, ⟨_, ho, rfl⟩, call_meets F.slot_tuple_mul ⟨_, ho, rfl⟩ F.entry_tuple_mul (F.args_tuple_mul_2 _ _) (tuple_mul1 l its.toArray n dd sl t) ⟨ho, ⟨.ref l, H, I, rfl, q⟩⟩⟩)
theorem tuple_mul0 (l : Addr) (items : Array Value) (n : Nat) (dd : Option Addr) (sl : Array (Option Value)) (u : Tok) (c1 : (items.isEmpty || (0 : Int) == 1) = false) :
    Meets (Builtin.«tuple.__mul__» ⟨[.ref l, .int 0 u], []⟩) (fun _ R s => s.heap.get? l = some { cls := .type "tuple", dict := dd, data := .seq items n, slots := sl } ∧ R (.ok (.ret (Value.ref s.heap.objs.size))) { s with heap := s.heap.push { cls := Value.type "tuple", data := Data.seq #[] }, toks := s.toks }) :=
  .of_wp fun prog w A R s h => by
    obtain ⟨hp, g, d, tk, os⟩ := s
    obtain ⟨hl, h⟩ := h
    have f1 := AutoSeq1.idx_int
    wp_walk using wpAny_loadPart' hl
    refine wpAny_ite_false (decide_eq_false (by rw [c1]; exact Bool.false_ne_true)) ?_
    wp_walk using wpAny_loadPart' hl
    exact ⟨_, rfl, h⟩
def rMul0 (K : PySem.W.Frag) : R2 := fun x y H Q => ∃ l xs, x = .ref l ∧ y = .int 0 ∧ SqT K H l xs ∧ xs ≠ [] ∧ ∀ p, H p = none → Q (.ref p) (upd H p (.tup []))
theorem op_mul0 : OpR X (binaryOp .Mult) (rMul0 X.K) := by
  intro pins s σ H x y v u Q I rx ry ⟨l, xs, ex, ey, hT, hne, q⟩
  subst ex ey
  cases rx
  obtain ⟨t, rfl⟩ := ry
  obtain ⟨its, r, ⟨⟨cls, dd, data, sl⟩, ho, hc, n, hd⟩, hs⟩ := I.tuple hT
  simp only at hc hd
  subst hc hd
  have c1 : (its.toArray.isEmpty || (0 : Int) == 1) = false := by
    cases its with
    | nil => cases r; exact absurd rfl hne
    | cons a b => rfl
  exact wpAny_binaryOp_repeat_ref (T := "tuple") (U := "int") (by decide) ⟨_, ho, rfl⟩ (fun s' => typeIs_int s' 0 t) noFill_tuple_mul F.fills_int_mul F.slot_int_rmul repeat_tuple F.slot_int_index.lookup
    (call_meets F.slot_int_rmul (typeIs_int s 0 t) F.entry_int_rmul (F.args_int_rmul_2 _ _) (int_rmul_tuple 0 t l its.toArray n dd sl)
      ⟨ho, rfl, ⟨_, ho, rfl⟩, call_meets F.slot_tuple_mul ⟨_, ho, rfl⟩ F.entry_tuple_mul (F.args_tuple_mul_2 _ _) (tuple_mul0 l its.toArray n dd sl t c1) ⟨ho, ⟨.ref _, _, I.laid (t' := s.toks) (o := .tup []) (fun b ob q => Heap.get?_push_of_some _ q) (Nat.le_refl _) ⟨Nat.zero_le _, [], .nil, IsTup.new _ _⟩, rfl, q _ (I.hok.fresh (Nat.le_refl _))⟩⟩⟩)
abbrev rMulD (K : PySem.W.Frag) : R2 := orR (rI CMul fun i j => .int (i * j)) (orR (rRepT K) (orR (rMul1 K) (orR (rMul0 K) rRep)))
theorem op_mulD : OpR X (binaryOp .Mult) (rMulD X.K) := op_or op_mul (op_or op_repT (op_or op_mul1 (op_or op_mul0 op_rep)))
def mulD : D → D → Option D
  | .int i, .int j => if i.natAbs < 2 ^ 64 ∨ j.natAbs < 2 ^ 64 then some (.int (i * j)) else none
  | .tuple a, .int k => if k = 1 then some (.tuple a) else if a ≠ [] ∧ 2 ≤ k ∧ k ≤ 1000 ∧ a.length ≤ 1000 then some (.tuple (List.replicate k.toNat a).flatten) else if a ≠ [] ∧ k = 0 then some (.tuple []) else none
  | .list a, .int k => if 0 ≤ k ∧ k ≤ 1000 ∧ a.length ≤ 1000 then some (.list (List.replicate k.toNat a).flatten) else none
  | _, _ => none
theorem rd_mul : RD K (rMulD K) mulD := by
  intro x y dx dy z H G Q hx hy hs e q
  unfold mulD at e
  split at e
  · split at e
    · rename_i h
      cases e
      exact .inl ⟨_, _, hx.toI, hy.toI, (show (-(2 ^ 64) < _ ∧ _ < 2 ^ 64) ∨ (-(2 ^ 64) < _ ∧ _ < 2 ^ 64) by omega), q _ H G (Gr.refl hs) (.int _)⟩
    · cases e
  · obtain ⟨a, xs, rfl, ha, da⟩ := hx.toT
    rename_i as k
    split at e
    · rename_i h
      subst h
      cases e
      exact .inr (.inr (.inl ⟨a, xs, rfl, hy.toI, sameT hs ha, q _ H G (Gr.refl hs) (.tup ha da)⟩))
    · split at e
      · rename_i h
        cases e
        refine .inr (.inl ⟨a, _, xs, rfl, hy.toI, sameT hs ha, fun z => h.1 (by subst z; cases da; rfl), h.2.1, h.2.2.1, by rw [da.length]; exact h.2.2.2, fun p hp => ?_⟩)
        have gr := Gr.alloc (u := .tup (List.replicate k.toNat xs).flatten) hs hp
        exact q _ _ _ gr (.tup (.inl (.inl upd_same)) ((da.flatReplicate _).mono gr.g))
      · split at e
        · rename_i h
          obtain ⟨h1, h2⟩ := h
          subst h2
          cases e
          refine .inr (.inr (.inr (.inl ⟨a, xs, rfl, hy.toI, sameT hs ha, fun z => h1 (by subst z; cases da; rfl), fun p hp => ?_⟩)))
          have gr := Gr.alloc (u := .tup []) hs hp
          exact q _ _ _ gr (.tup (.inl (.inl upd_same)) .nil)
        · cases e
  · obtain ⟨a, xs, rfl, ha, da⟩ := hx.toL
    rename_i as k
    split at e
    · rename_i h
      cases e
      refine .inr (.inr (.inr (.inr ⟨a, _, xs, rfl, hy.toI, hs _ _ ha, by omega, by omega, ?_, fun p hp => ?_⟩)))
      · have h1 : xs.length * k.toNat ≤ 1000 * 1000 := Nat.mul_le_mul (by rw [da.length]; exact h.2.2) (by omega)
        exact le_line h1
      · have gr := Gr.alloc (u := .lst (List.replicate k.toNat xs).flatten) hs hp
        exact q _ _ _ gr (.lst upd_same ((da.flatReplicate _).mono gr.g))
    · cases e
  · cases e

/-! ### built-ins -/
theorem rc1 {r : List V → Hp → VK → Prop} {f : D → Option D} (h : RC1 K r f) : RC1 K r f := h
def callOr (r q : List V → Hp → VK → Prop) : List V → Hp → VK → Prop := fun xs H Q => r xs H Q ∨ q xs H Q
theorem call_or {f : Value} {r q : List V → Hp → VK → Prop} (a : CallR X f r) (b : CallR X f q) : CallR X f (callOr r q) := by
  intro pins s σ H xs us Q I rx h
  rcases h with h | h
  · exact a pins s σ H xs us Q I rx h
  · exact b pins s σ H xs us Q I rx h
def lenD : D → Option D
  | .list ds => some (.int ds.length)
  | .tuple ds => some (.int ds.length)
  | .str z => if z.length ≤ 1000000 then some (.int z.length) else none
  | _ => none
abbrev rLenD (K : PySem.W.Frag) := callOr (fun xs H Q => ∃ p ys, xs = [V.ref p] ∧ (SqL K H p ys ∨ SqT K H p ys) ∧ Q (.int ys.length) H) (fun xs H Q => ∃ z : Str, xs = [V.str z] ∧ z.length ≤ sizeLine ∧ Q (.int z.length) H)
theorem call_lenD' : CallR X (.builtin "len") (rLenD X.K) := call_or call_len_seq call_len_str
theorem rc_len : RC1 K (rLenD K) lenD := by
  intro x dx z H G Q hx hs e q
  unfold lenD at e
  split at e
  · cases e
    obtain ⟨a, xs, rfl, ha, da⟩ := hx.toL
    rw [← da.length] at q
    exact .inl ⟨a, xs, rfl, .inl (.of (hs _ _ ha)), q _ H G (Gr.refl hs) (.int _)⟩
  · cases e
    obtain ⟨a, xs, rfl, ha, da⟩ := hx.toT
    rw [← da.length] at q
    exact .inl ⟨a, xs, rfl, .inr (sameT hs ha), q _ H G (Gr.refl hs) (.int _)⟩
  · split at e
    · rename_i h
      cases e
      cases hx
      exact .inr ⟨_, rfl, le_line h, q _ H G (Gr.refl hs) (.int _)⟩
    · cases e
  · cases e
def absD : D → Option D
  | .int i => some (.int (if i < 0 then -i else i))
  | _ => none
theorem rc_abs : RC1 K (fun xs H Q => ∃ i, xs = [V.int i] ∧ Q (.int (if i < 0 then -i else i)) H) absD := by
  intro x dx z H G Q hx hs e q
  unfold absD at e
  split at e
  · cases e
    cases hx
    exact ⟨_, rfl, q _ H G (Gr.refl hs) (.int _)⟩
  · cases e
def intD : D → Option D
  | .int i => some (.int i)
  | .bool b => some (.int (if b then 1 else 0))
  | _ => none
theorem rc_int : RC1 K (fun xs H Q => (∃ i, xs = [V.int i] ∧ Q (.int i) H) ∨ ∃ k, xs = [V.bl k] ∧ Q (.int (if k then 1 else 0)) H) intD := by
  intro x dx z H G Q hx hs e q
  unfold intD at e
  split at e
  · cases e; cases hx; exact .inl ⟨_, rfl, q _ H G (Gr.refl hs) (.int _)⟩
  · cases e; cases hx; exact .inr ⟨_, rfl, q _ H G (Gr.refl hs) (.int _)⟩
  · cases e
def tupleD : D → Option D
  | .list ds => some (.tuple ds)
  | .tuple ds => some (.tuple ds)
  | _ => none
theorem rc_tuple : RC1 K (fun xs H Q => ∃ p ys, xs = [V.ref p] ∧ ((SqL K H p ys ∧ ∀ l, H l = none → Q (.ref l) (upd H l (.tup ys))) ∨ (SqT K H p ys ∧ Q (.ref p) H))) tupleD := by
  intro x dx z H G Q hx hs e q
  unfold tupleD at e
  split at e
  · cases e
    obtain ⟨a, xs, rfl, ha, da⟩ := hx.toL
    refine ⟨a, xs, rfl, .inl ⟨.of (hs _ _ ha), fun l hl => ?_⟩⟩
    have gr := Gr.alloc (u := .tup xs) hs hl
    exact q _ _ _ gr (.tup (.inl (.inl upd_same)) (da.mono gr.g))
  · cases e
    obtain ⟨a, xs, rfl, ha, da⟩ := hx.toT
    exact ⟨a, xs, rfl, .inr ⟨sameT hs ha, q _ H G (Gr.refl hs) (.tup ha da)⟩⟩
  · cases e
def listD : D → Option D
  | .list ds => some (.list ds)
  | .tuple ds => some (.list ds)
  | _ => none
theorem rc_list : RC1 K (fun xs H Q => ∃ p ys, xs = [V.ref p] ∧ (SqL K H p ys ∨ SqT K H p ys) ∧ ∀ l, H l = none → Q (.ref l) (upd H l (.lst ys))) listD := by
  intro x dx z H G Q hx hs e q
  unfold listD at e
  split at e
  · cases e
    obtain ⟨a, xs, rfl, ha, da⟩ := hx.toL
    refine ⟨a, xs, rfl, .inl (.of (hs _ _ ha)), fun l hl => ?_⟩
    have gr := Gr.alloc (u := .lst xs) hs hl
    exact q _ _ _ gr (.lst upd_same (da.mono gr.g))
  · cases e
    obtain ⟨a, xs, rfl, ha, da⟩ := hx.toT
    refine ⟨a, xs, rfl, .inr (sameT hs ha), fun l hl => ?_⟩
    have gr := Gr.alloc (u := .lst xs) hs hl
    exact q _ _ _ gr (.lst upd_same (da.mono gr.g))
  · cases e
def bools : List D → Option (List Bool)
  | [] => some []
  | .bool b :: r => (bools r).map (b :: ·)
  | _ :: _ => none
theorem DaAll.bools {G : Hp} : ∀ {ds : List D} {vs : List V} {bs : List Bool}, DaAll K G vs ds → bools ds = some bs → vs = bs.map V.bl
  | [], _, _, .nil, e => by cases e; rfl
  | .bool b :: r, _, _, .cons h t, e => by
    obtain ⟨cs, ec, rfl⟩ := Option.map_eq_some_iff.mp e
    cases h
    rw [t.bools ec]
    rfl
  | .none :: _, _, _, _, e => by cases e
  | .int _ :: _, _, _, _, e => by cases e
  | .str _ :: _, _, _, _, e => by cases e
  | .list _ :: _, _, _, _, e => by cases e
  | .tuple _ :: _, _, _, _, e => by cases e
  | .dict _ :: _, _, _, _, e => by cases e
def allD : D → Option D
  | .list ds => (bools ds).map fun bs => .bool (bs.all id)
  | _ => none
def anyD : D → Option D
  | .list ds => (bools ds).map fun bs => .bool (bs.any id)
  | _ => none
theorem rc_all : RC1 K (rAll K) allD := by
  intro x dx z H G Q hx hs e q
  unfold allD at e
  split at e
  · obtain ⟨bs, eb, rfl⟩ := Option.map_eq_some_iff.mp e
    obtain ⟨a, xs, rfl, ha, da⟩ := hx.toL
    have := da.bools eb
    subst this
    exact ⟨a, bs, rfl, .of (hs _ _ ha), q _ H G (Gr.refl hs) (.bl _)⟩
  · cases e
theorem rc_any : RC1 K (rAny K) anyD := by
  intro x dx z H G Q hx hs e q
  unfold anyD at e
  split at e
  · obtain ⟨bs, eb, rfl⟩ := Option.map_eq_some_iff.mp e
    obtain ⟨a, xs, rfl, ha, da⟩ := hx.toL
    have := da.bools eb
    subst this
    exact ⟨a, bs, rfl, .of (hs _ _ ha), q _ H G (Gr.refl hs) (.bl _)⟩
  · cases e
def intsD : List D → Option (List Int)
  | [] => some []
  | .int b :: r => (intsD r).map (b :: ·)
  | _ :: _ => none
theorem ints_map : ∀ {ds : List D} {ns : List Int}, intsD ds = some ns → ds = ns.map .int
  | [], _, e => by cases e; rfl
  | .int b :: r, _, e => by
    obtain ⟨cs, ec, rfl⟩ := Option.map_eq_some_iff.mp e
    rw [ints_map ec]
    rfl
  | .none :: _, _, e => by cases e
  | .bool _ :: _, _, e => by cases e
  | .str _ :: _, _, e => by cases e
  | .list _ :: _, _, e => by cases e
  | .tuple _ :: _, _, e => by cases e
  | .dict _ :: _, _, e => by cases e

/-! ### sum, max, min of lists and tuples of ints -/
section
variable {prog : Program} {w : World} {A : Around} {E : Value → Shared → Prop} {s : Shared} {l : Addr} {its : List Value} {ns : List Int} {Q : Value → Shared → Prop}
theorem iter_tup {items : Array Value} (hl : s.heap.IsTuple l items)
    (h : ∀ s2 : Shared, s2 = { s with heap := s.heap.push { cls := .type "tuple_iterator", data := .fields #[.ref l, .int 0 0] } } → (s2.heap.IsTupleIter s.heap.objs.size l 0 ∧ s2.heap.IsTuple l items) → (∀ b ∈ [s.heap.objs.size, l], b < s2.heap.objs.size) → l ≠ s.heap.objs.size → Q (.ref s.heap.objs.size) s2) :
    wpAny (model prog w) A (pyIter (.ref l)) Q E s := by
  have hlt : l < s.heap.objs.size := by obtain ⟨_, e, _⟩ := hl; exact Heap.lt_size e
  refine wpAny_pyIter_tuple hl (h _ rfl ⟨⟨_, Heap.get?_push_size _ rfl, rfl, rfl⟩, hl.push _⟩ (fun b hb => ?_) (Nat.ne_of_lt hlt))
  show b < (s.heap.push _).objs.size
  rw [Heap.size_push]
  have hb' : b = s.heap.objs.size ∨ b = l := by simpa using hb
  rcases hb' with rfl | rfl
  · exact Nat.lt_succ_self _
  · exact Nat.lt_succ_of_lt hlt
theorem kept_tup {h' : Heap} (hk : ∀ b o, b ∉ [s.heap.objs.size] → (s.heap.push { cls := .type "tuple_iterator", data := .fields #[.ref l, .int 0 0] }).get? b = some o → h'.get? b = some o) : ∀ b o, s.heap.get? b = some o → h'.get? b = some o := fun b o e =>
  hk b o (fun hm => by rw [List.mem_singleton.mp hm] at e; exact absurd (Heap.lt_size e) (Nat.lt_irrefl _)) (Heap.get?_push_of_some _ e)
theorem sum_tup (hh : A.handled = none) (hl : s.heap.IsTuple l its.toArray) (hi : IntsAre its ns)
    (h : ∀ h' tk t', (∀ b o, s.heap.get? b = some o → h'.get? b = some o) → Q (.int ns.sum t') { s with heap := h', toks := tk }) : wpAny (model prog w) A (call (.builtin "sum") [.ref l]) Q E s := by
  obtain ⟨xs, e⟩ := hi.allInts.items
  have hn : numsOf (intItems xs).toList = ns := by rw [← e]; exact hi.numsOf
  rw [nums_intItems] at hn
  rw [e] at hl
  refine call_sum_walkG (iter_tup hl fun s2 e2 st hfp hne => ?_)
  subst e2
  refine ⟨_, _, _, _, _, _, numAt xs, rfl, Walks.tuple (A := A.in1) hh _ l hne (intItems xs), st, hfp, (fun _ _ => intItems_at), fun h' tk t' hk => ?_⟩
  have q := h h' tk t' (kept_tup hk)
  rw [preSum_eq, List.take_of_length_le (by simp [intItems]), hn]
  exact q
theorem max_tup (hh : A.handled = none) (hl : s.heap.IsTuple l its.toArray) (hi : IntsAre its ns) (hne : 0 < ns.length)
    (h : ∀ h' tk M t', (∀ b o, s.heap.get? b = some o → h'.get? b = some o) → M ∈ ns → (∀ a, a ∈ ns → a ≤ M) → Q (.int M t') { s with heap := h', toks := tk }) : wpAny (model prog w) A (call (.builtin "max") [.ref l]) Q E s := by
  obtain ⟨xs, e⟩ := hi.allInts.items
  have hn : numsOf (intItems xs).toList = ns := by rw [← e]; exact hi.numsOf
  rw [nums_intItems] at hn
  subst hn
  rw [e] at hl
  have hsz : 0 < xs.size := by simpa using hne
  refine call_max_walk (iter_tup hl fun s2 e2 st hfp hn2 => ?_)
  subst e2
  refine ⟨_, _, _, _, _, _, _, rfl, Walks.tuple (A := A.in1) hh _ l hn2 (intItems xs), st, hfp, by simpa [intItems] using hsz, CmpOf.ints_gt (numAt xs) (fun _ _ => intItems_at), fun v h' tk hP hk => ?_⟩
  have hP' : (intItems xs)[argBest (fun i j => decide (numAt xs i > numAt xs j)) (xs.size - 1)]? = some v := by simpa [intItems] using hP
  obtain ⟨t, rfl⟩ := intItems_at hP'
  obtain ⟨h1, h2⟩ := argBest_gt (numAt xs) (xs.size - 1)
  refine h h' tk _ t (kept_tup hk) ?_ fun a ha => ?_
  · rw [numAt_eq]; exact PySem.getD_mem (by rw [List.length_map, Array.length_toList]; omega)
  · obtain ⟨j, hj, rfl⟩ := mem_getD ha
    rw [List.length_map, Array.length_toList] at hj
    rw [← numAt_eq]; exact h2 j (by omega)
theorem min_tup (hh : A.handled = none) (hl : s.heap.IsTuple l its.toArray) (hi : IntsAre its ns) (hne : 0 < ns.length)
    (h : ∀ h' tk M t', (∀ b o, s.heap.get? b = some o → h'.get? b = some o) → M ∈ ns → (∀ a, a ∈ ns → M ≤ a) → Q (.int M t') { s with heap := h', toks := tk }) : wpAny (model prog w) A (call (.builtin "min") [.ref l]) Q E s := by
  obtain ⟨xs, e⟩ := hi.allInts.items
  have hn : numsOf (intItems xs).toList = ns := by rw [← e]; exact hi.numsOf
  rw [nums_intItems] at hn
  subst hn
  rw [e] at hl
  have hsz : 0 < xs.size := by simpa using hne
  refine call_min_walk (iter_tup hl fun s2 e2 st hfp hn2 => ?_)
  subst e2
  refine ⟨_, _, _, _, _, _, _, rfl, Walks.tuple (A := A.in1) hh _ l hn2 (intItems xs), st, hfp, by simpa [intItems] using hsz, CmpOf.ints_lt (numAt xs) (fun _ _ => intItems_at), fun v h' tk hP hk => ?_⟩
  have hP' : (intItems xs)[argBest (fun i j => decide (numAt xs i < numAt xs j)) (xs.size - 1)]? = some v := by simpa [intItems] using hP
  obtain ⟨t, rfl⟩ := intItems_at hP'
  obtain ⟨h1, h2⟩ := argBest_lt (numAt xs) (xs.size - 1)
  refine h h' tk _ t (kept_tup hk) ?_ fun a ha => ?_
  · rw [numAt_eq]; exact PySem.getD_mem (by rw [List.length_map, Array.length_toList]; omega)
  · obtain ⟨j, hj, rfl⟩ := mem_getD ha
    rw [List.length_map, Array.length_toList] at hj
    rw [← numAt_eq]; exact h2 j (by omega)
end
end
end DD
namespace DD
open PySem PySem.Spec PyProof.Rows L2
section
variable {X : Cx} {K : PySem.W.Frag}
def rSumT (K : PySem.W.Frag) : List V → Hp → VK → Prop := fun vs H Q => ∃ (a : Addr) (ns : List Int), vs = [V.ref a] ∧ SqT K H a (ns.map V.int) ∧ Q (.int ns.sum) H
def rMaxT (K : PySem.W.Frag) : List V → Hp → VK → Prop := fun vs H Q => ∃ (a : Addr) (ns : List Int), vs = [V.ref a] ∧ SqT K H a (ns.map V.int) ∧ 0 < ns.length ∧ ∀ m, m ∈ ns → (∀ y, y ∈ ns → y ≤ m) → Q (.int m) H
def rMinT (K : PySem.W.Frag) : List V → Hp → VK → Prop := fun vs H Q => ∃ (a : Addr) (ns : List Int), vs = [V.ref a] ∧ SqT K H a (ns.map V.int) ∧ 0 < ns.length ∧ ∀ m, m ∈ ns → (∀ y, y ∈ ns → m ≤ y) → Q (.int m) H
theorem cr_sumT (hc : X.calm = true) : CallR X (.builtin "sum") (rSumT X.K) := by
  intro pins s σ H vs us Q I r ⟨a, ns, e, hs, q⟩
  subst e
  obtain ⟨its, rv, hl, _⟩ := I.tuple hs
  rw [Vals.ref1 r]
  exact sum_tup (I.ok.hd hc) hl rv.ints fun h' tk t' hk => ⟨.int _, H, I.kept hk, ⟨_, rfl⟩, q⟩
theorem cr_maxT (hc : X.calm = true) : CallR X (.builtin "max") (rMaxT X.K) := by
  intro pins s σ H vs us Q I r ⟨a, ns, e, hs, hne, q⟩
  subst e
  obtain ⟨its, rv, hl, _⟩ := I.tuple hs
  rw [Vals.ref1 r]
  exact max_tup (I.ok.hd hc) hl rv.ints hne fun h' tk m t' hk h1 h2 => ⟨.int _, H, I.kept hk, ⟨_, rfl⟩, q m h1 h2⟩
theorem cr_minT (hc : X.calm = true) : CallR X (.builtin "min") (rMinT X.K) := by
  intro pins s σ H vs us Q I r ⟨a, ns, e, hs, hne, q⟩
  subst e
  obtain ⟨its, rv, hl, _⟩ := I.tuple hs
  rw [Vals.ref1 r]
  exact min_tup (I.ok.hd hc) hl rv.ints hne fun h' tk m t' hk h1 h2 => ⟨.int _, H, I.kept hk, ⟨_, rfl⟩, q m h1 h2⟩
def sumD : D → Option D
  | .list ds => (intsD ds).map fun ns => .int ns.sum
  | .tuple ds => (intsD ds).map fun ns => .int ns.sum
  | _ => none
def maxD : D → Option D
  | .list ds => (intsD ds).bind fun ns => ns.max?.map .int
  | .tuple ds => (intsD ds).bind fun ns => ns.max?.map .int
  | _ => none
def minD : D → Option D
  | .list ds => (intsD ds).bind fun ns => ns.min?.map .int
  | .tuple ds => (intsD ds).bind fun ns => ns.min?.map .int
  | _ => none
abbrev rSumD (K : PySem.W.Frag) := callOr (rSum K) (rSumT K)
abbrev rMaxD (K : PySem.W.Frag) := callOr (rMax K) (rMaxT K)
abbrev rMinD (K : PySem.W.Frag) := callOr (rMin K) (rMinT K)
theorem call_sumD (hc : X.calm = true) : CallR X (.builtin "sum") (rSumD X.K) := call_or (cr_sum hc) (cr_sumT hc)
theorem call_maxD (hc : X.calm = true) : CallR X (.builtin "max") (rMaxD X.K) := call_or (cr_max hc) (cr_maxT hc)
theorem call_minD (hc : X.calm = true) : CallR X (.builtin "min") (rMinD X.K) := call_or (cr_min hc) (cr_minT hc)
theorem rc_sum : RC1 K (rSumD K) sumD := by
  intro x dx z H G Q hx hs e q
  unfold sumD at e
  split at e
  · obtain ⟨ns, en, rfl⟩ := Option.map_eq_some_iff.mp e
    have := ints_map en
    subst this
    obtain ⟨a, xs, rfl, ha, da⟩ := hx.toL
    have := da.ints
    subst this
    exact .inl ⟨a, ns, rfl, .of (hs _ _ ha), q _ H G (Gr.refl hs) (.int _)⟩
  · obtain ⟨ns, en, rfl⟩ := Option.map_eq_some_iff.mp e
    have := ints_map en
    subst this
    obtain ⟨a, xs, rfl, ha, da⟩ := hx.toT
    have := da.ints
    subst this
    exact .inr ⟨a, ns, rfl, sameT hs ha, q _ H G (Gr.refl hs) (.int _)⟩
  · cases e
theorem max_is {ns : List Int} {m k : Int} (h1 : m ∈ ns) (h2 : ∀ y, y ∈ ns → y ≤ m) (e : ns.max? = some k) : m = k := by
  obtain ⟨a, b⟩ := List.max?_eq_some_iff.mp e
  have := b m h1
  have := h2 k a
  omega
theorem min_is {ns : List Int} {m k : Int} (h1 : m ∈ ns) (h2 : ∀ y, y ∈ ns → m ≤ y) (e : ns.min? = some k) : m = k := by
  obtain ⟨a, b⟩ := List.min?_eq_some_iff.mp e
  have := b m h1
  have := h2 k a
  omega
theorem max_ne {ns : List Int} {k : Int} (e : ns.max? = some k) : 0 < ns.length := by
  cases ns with
  | nil => cases e
  | cons a b => simp
theorem min_ne {ns : List Int} {k : Int} (e : ns.min? = some k) : 0 < ns.length := by
  cases ns with
  | nil => cases e
  | cons a b => simp
theorem rc_max : RC1 K (rMaxD K) maxD := by
  intro x dx z H G Q hx hs e q
  unfold maxD at e
  split at e
  · obtain ⟨ns, en, e⟩ := Option.bind_eq_some_iff.mp e
    obtain ⟨k, ek, rfl⟩ := Option.map_eq_some_iff.mp e
    have := ints_map en
    subst this
    obtain ⟨a, xs, rfl, ha, da⟩ := hx.toL
    have := da.ints
    subst this
    exact .inl ⟨a, ns, rfl, .of (hs _ _ ha), max_ne ek, fun m h1 h2 => by rw [max_is h1 h2 ek]; exact q _ H G (Gr.refl hs) (.int _)⟩
  · obtain ⟨ns, en, e⟩ := Option.bind_eq_some_iff.mp e
    obtain ⟨k, ek, rfl⟩ := Option.map_eq_some_iff.mp e
    have := ints_map en
    subst this
    obtain ⟨a, xs, rfl, ha, da⟩ := hx.toT
    have := da.ints
    subst this
    exact .inr ⟨a, ns, rfl, sameT hs ha, max_ne ek, fun m h1 h2 => by rw [max_is h1 h2 ek]; exact q _ H G (Gr.refl hs) (.int _)⟩
  · cases e
theorem rc_min : RC1 K (rMinD K) minD := by
  intro x dx z H G Q hx hs e q
  unfold minD at e
  split at e
  · obtain ⟨ns, en, e⟩ := Option.bind_eq_some_iff.mp e
    obtain ⟨k, ek, rfl⟩ := Option.map_eq_some_iff.mp e
    have := ints_map en
    subst this
    obtain ⟨a, xs, rfl, ha, da⟩ := hx.toL
    have := da.ints
    subst this
    exact .inl ⟨a, ns, rfl, .of (hs _ _ ha), min_ne ek, fun m h1 h2 => by rw [min_is h1 h2 ek]; exact q _ H G (Gr.refl hs) (.int _)⟩
  · obtain ⟨ns, en, e⟩ := Option.bind_eq_some_iff.mp e
    obtain ⟨k, ek, rfl⟩ := Option.map_eq_some_iff.mp e
    have := ints_map en
    subst this
    obtain ⟨a, xs, rfl, ha, da⟩ := hx.toT
    have := da.ints
    subst this
    exact .inr ⟨a, ns, rfl, sameT hs ha, min_ne ek, fun m h1 h2 => by rw [min_is h1 h2 ek]; exact q _ H G (Gr.refl hs) (.int _)⟩
  · cases e
def max2D : D → D → Option D := intD2 fun i j => some (.int (if j > i then j else i))
def min2D : D → D → Option D := intD2 fun i j => some (.int (if j < i then j else i))
theorem rc_max2 : RC2 K (fun xs H Q => ∃ i j, xs = [V.int i, V.int j] ∧ Q (.int (if j > i then j else i)) H) max2D := by
  intro x y dx dy z H G Q hx hy hs e q
  unfold max2D intD2 at e
  split at e
  · cases e; cases hx; cases hy; exact ⟨_, _, rfl, q _ H G (Gr.refl hs) (.int _)⟩
  · cases e
theorem rc_min2 : RC2 K (fun xs H Q => ∃ i j, xs = [V.int i, V.int j] ∧ Q (.int (if j < i then j else i)) H) min2D := by
  intro x y dx dy z H G Q hx hy hs e q
  unfold min2D intD2 at e
  split at e
  · cases e; cases hx; cases hy; exact ⟨_, _, rfl, q _ H G (Gr.refl hs) (.int _)⟩
  · cases e

/-! ### repr -/
def reprD (d : D) : Option D := if d.showable = true ∧ d.shown.length ≤ 1000000 ∧ d.depth ≤ 50 then some (.str d.shown) else none
def rRepr (K : PySem.W.Frag) : List V → Hp → VK → Prop := fun xs H Q => ∃ v d, xs = [v] ∧ Da K H v d ∧ d.showable = true ∧ d.shown.length ≤ sizeLine ∧ d.depth ≤ 50 ∧ Q (.str d.shown) H
theorem call_repr (hy : Sys X) (hu : X.A.units + 64 < cLine) (gu : X.A.guards = some []) : CallR X (.builtin "repr") (rRepr X.K) := by
  intro pins s σ H xs us Q I r ⟨v, d, e, hd, h1, h2, h3, q⟩
  subst e
  obtain ⟨u, rfl, rv⟩ := r.one
  obtain ⟨as, hr, hn⟩ := Da.reads hy I d v u hd rv
  have fin : ∀ (h' : Heap) (t : Tok) (tk : Nat), (∀ b o, s.heap.get? b = some o → h'.get? b = some o) → EP X pins σ Q (.str d.shown t) { s with heap := h', toks := tk } := fun h' t tk hk => ⟨.str _, H, I.kept hk, ⟨t, rfl⟩, q⟩
  have same : ∀ (t : Tok) (tk : Nat), EP X pins σ Q (.str d.shown t) { s with toks := tk } := fun t tk => ⟨.str _, H, I.tok tk, ⟨t, rfl⟩, q⟩
  cases u with
  | none =>
    cases hr
    have := same s.toks (s.toks + 1)
    simp only [PyData.shown] at this
    exact P.repr_of_none this
  | bool b =>
    cases hr
    have := same s.toks (s.toks + 1)
    simp only [PyData.shown] at this
    exact P.repr_of_bool this
  | int i t =>
    cases hr
    have := same s.toks (s.toks + 1)
    simp only [PyData.shown] at this
    exact P.repr_of_int (by simpa [PyData.showable] using h1) this
  | str x t =>
    cases hr
    have := same s.toks (s.toks + 1)
    simp only [PyData.shown] at this h2
    exact P.repr_of_str this h2
  | ref a => exact repr_of_reads' hr h1 (fun _ => hn) gu (by omega) (fun _ _ e => e) (fun h' u tk hk => fin h' u tk hk) h2
  | _ => cases hr
theorem rc_repr : RC1 K (rRepr K) reprD := by
  intro x dx z H G Q hx hs e q
  unfold reprD at e
  split at e
  · rename_i h
    cases e
    exact ⟨x, dx, rfl, hx.mono hs, h.1, le_line h.2.1, h.2.2, q _ H G (Gr.refl hs) (.str _)⟩
  · cases e

/-! ### isinstance of a built-in class -/
def typeN : D → String
  | .none => "NoneType"
  | .bool _ => "bool"
  | .int _ => "int"
  | .str _ => "str"
  | .list _ => "list"
  | .tuple _ => "tuple"
  | .dict _ => "dict"
def isiB (T : String) (d : D) : Bool := typeN d == T || (typeN d == "bool" && T == "int")
theorem typeN_mem (d : D) : typeN d ∈ ["NoneType", "bool", "int", "str", "list", "tuple", "dict"] := by cases d <;> simp [typeN]
theorem Da.ty {H : Hp} {v : V} {d : D} (h : Da K H v d) : TyX K H v (.type (typeN d)) := by
  cases h with
  | non => exact .base .non
  | bl b => exact .base (.bl b)
  | int i => exact .base (.int i)
  | str x => exact .base (.str x)
  | lst e _ => exact .base (.lst e)
  | tup e _ =>
    rcases e with (e | ⟨o, e⟩) | ⟨o, its, n, hk, hc, _⟩
    · exact .base (.tup e)
    · exact .fTuple e
    · exact .kTuple hk hc
  | dct e _ => exact .base (.dK e)
variable {m : Type → Type} [Mo m] {EX : XK} {g : List Sl}
theorem ej_isi (T : String) {tn : Str} {a : Expr} {p p2 pos : Pos} {x : m D} (ha : EJ X EX a g x) (hm : X.mg "isinstance" = none) (hmt : X.mg tn = none) (hT : (["NoneType", "bool", "int", "str", "list", "tuple", "dict"].all fun t => kitB t T == some (t == T || (t == "bool" && T == "int"))) = true := by decide +kernel)
    (hvt : bootBuiltins tn = some (.type T) := by decide +kernel) (hgt : Gl X tn := by rfl) (hg : Gl X "isinstance" := by rfl) (hnt : tn ≠ "__name__" := by decide) (hdt : (tn == ("__debug__" : Str)) = false := by decide)
    (hs : starEach [a, .Name tn p2] X.env = (false, eval a X.env) :: starEach [.Name tn p2] X.env := by rfl) (hs2 : starEach [.Name tn p2] X.env = (false, eval (.Name tn p2) X.env) :: starEach [] X.env := by rfl) :
    EJ X EX (.Call (.Name "isinstance" p) [a, .Name tn p2] [] pos) g (x >>= fun d => pure (.bool (isiB T d))) :=
  (pe_callB call_isi hg hm (by decide +kernel) (pa_cons ha (pa_cons (pe_bltn (v := .ty T) hgt hmt hvt rfl hnt hdt) pa_nil hs2) hs) (by decide) (by decide) hs (by rw [hs2]; rfl)).weak fun σ H Q ⟨B, G, n, φ, ξ, o, s, q, xw⟩ => te_one o s (fun v H1 G1 d n1 o1 g1 d1 s1 =>
    ⟨v, .ty T, .type (typeN d), .type T, isiB T d, rfl, .ty T, (d1.mono o1.fm.sub).ty, kit_ty (by
      have := List.all_eq_true.mp hT _ (typeN_mem d)
      exact eq_of_beq this), q _ H1 G1 _ n1 o1 g1 (.bl _) (Mo.sat_pure s1)⟩) xw

/-! ### slices -/
def cutD (ds : List D) (lo hi : Option Int) : List D := (ds.drop (HT.sIx ds.length 0 lo)).take (HT.sIx ds.length ds.length hi - HT.sIx ds.length 0 lo)
theorem DaAll.cut {G : Hp} {vs : List V} {ds : List D} (h : DaAll K G vs ds) (lo hi : Option Int) : DaAll K G (cutV vs lo hi) (cutD ds lo hi) := by
  unfold cutV cutD
  rw [h.length]
  exact (h.drop _).take _
def sliceD (d : D) (lo hi : Option Int) : Option D := match d with
  | .list ds => some (.list (cutD ds lo hi))
  | .tuple ds => some (.tuple (cutD ds lo hi))
  | _ => none
def oint : D → Option (Option Int)
  | .int i => some (some i)
  | _ => none
theorem sl_or {r q : V → Option Int → Option Int → Hp → VK → Prop} (a : SlR X r) (b : SlR X q) : SlR X (fun x l u H Q => r x l u H Q ∨ q x l u H Q) := by
  intro pins s σ H x v vl vu l u sl Q I rx hs pl pu h
  rcases h with h | h
  · exact a pins s σ H x v vl vu l u sl Q I rx hs pl pu h
  · exact b pins s σ H x v vl vu l u sl Q I rx hs pl pu h
theorem whole_cut {α : Type} {xs : List α} {lo hi : Option Int} (h : HT.sIx xs.length 0 lo = 0 ∧ HT.sIx xs.length xs.length hi = xs.length) : (xs.drop (HT.sIx xs.length 0 lo)).take (HT.sIx xs.length xs.length hi - HT.sIx xs.length 0 lo) = xs := by
  rw [h.1, h.2]
  simp
theorem sl_data {x : V} {d z : D} {H G : Hp} {lo hi : Option Int} {Q : VK} (hx : Da K G x d) (hs : Same G H) (e : sliceD d lo hi = some z) (q : ∀ v H' G', Gr H G H' G' → Da K G' v z → Q v H') : rSlL K x lo hi H Q ∨ rSlA K x lo hi H Q := by
  unfold sliceD at e
  split at e
  · cases e
    obtain ⟨a, xs, rfl, ha, da⟩ := hx.toL
    refine .inl ⟨a, xs, rfl, .of (hs _ _ ha), fun p hp => ?_⟩
    have gr := Gr.alloc (u := .lst (cutV xs lo hi)) hs hp
    exact q _ _ _ gr (.lst upd_same ((da.cut lo hi).mono gr.g))
  · cases e
    obtain ⟨a, xs, rfl, ha, da⟩ := hx.toT
    refine .inr ⟨a, xs, rfl, sameT hs ha, fun hw => ?_, fun hw p hp => ?_⟩
    · rw [da.length] at hw
      have : cutD _ lo hi = _ := whole_cut hw
      rw [this] at q
      exact q _ H G (Gr.refl hs) (.tup ha da)
    · have gr := Gr.alloc (u := .tup (cutV xs lo hi)) hs hp
      exact q _ _ _ gr (.tup (.inl (.inl upd_same)) ((da.cut lo hi).mono gr.g))
  · cases e
def toJ (X : Cx) (EX : XK) (g : List Sl) (x : m (Option Int)) : TO := fun σ H Q => ∃ B G n φ ξ, Ok X.K B g σ H G n ∧ Mo.sat x n φ ξ ∧ (∀ d H' G' n', Ok X.K B g σ H' G' n' → Same G G' → φ d n' → Q d H') ∧ Xw X B EX ξ
/-- a part of a slice -/
def OJ (X : Cx) (EX : XK) (e : Option Expr) (g : List Sl) (x : m (Option Int)) : Prop := PO X e (toJ X EX g x)
theorem _root_.L2.PO.weak {X : Cx} {e : Option Expr} {t t' : TO} (h : PO X e t) (w : ∀ σ H Q, t' σ H Q → t σ H Q) : PO X e t' := ⟨fun pins s σ H Q I q => h.run pins s σ H Q I (w _ _ _ q)⟩
theorem oj_none : OJ (m := m) X EX none g (pure none) := po_none.weak fun σ H Q ⟨B, G, n, φ, ξ, o, s, q, _⟩ => q none H G n o (Same.refl _) (Mo.sat_pure s)
theorem oj_some {e : Expr} {x : m D} (h : EJ X EX e g x) : OJ X EX (some e) g (x >>= fun d => Mo.lift (oint d)) :=
  (po_some h).weak fun σ H Q ⟨B, G, n, φ, ξ, o, s, q, xw⟩ => te_one o s (fun v H1 G1 d n1 o1 g1 d1 s1 => by
    obtain ⟨w, ew, pw⟩ := Mo.sat_lift s1
    cases d with
    | int i => cases ew; exact ⟨i, d1.toI, q _ H1 G1 n1 o1 g1 pw⟩
    | _ => cases ew) xw
theorem ej_slice {a : Expr} {lo hi : Option Expr} {pos p2 : Pos} {x : m D} {y z : m (Option Int)} (ha : EJ X EX a g x) (hb : OJ X EX lo g y) (hc : OJ X EX hi g z) : EJ X EX (.Subscript a (.Slice lo hi none p2) pos) g (x >>= fun d => y >>= fun l => z >>= fun h => Mo.lift (sliceD d l h)) :=
  (pe_slice (sl_or sl_list sl_tupA) ha hb hc).weak fun σ H Q ⟨B, G, n, φ, ξ, o, s, q, xw⟩ => te_one o s (fun v H1 G1 d n1 o1 g1 d1 s1 => ⟨B, G1, n1, _, ξ, o1, Mo.sat_bind s1, fun l H2 G2 n2 o2 g2 s2 => ⟨B, G2, n2, _, ξ, o2, Mo.sat_bind s2, fun h H3 G3 n3 o3 g3 s3 => by
    obtain ⟨w, ew, pw⟩ := Mo.sat_lift s3
    exact sl_data ((d1.mono g2).mono g3) o3.fm.sub ew fun u H4 G4 gr du => q u H4 G4 w n3 (o3.gr gr) (((g1.trans g2).trans g3).trans gr.g) du pw, xw⟩, xw⟩) xw
end
end DD
namespace DD
open PySem PySem.Spec PyProof.Rows
theorem forIn_wp {α β : Type} {M : Model} {A : Around} {E : Value → Shared → Prop} {Q : β → Shared → Prop} {b : α → β → Sem (ForInStep β)} (P : Nat → β → Shared → Prop) : ∀ (l : List α) (j : Nat) (r : β) (s : Shared), P j r s →
    (∀ i x r s, l[i]? = some x → P (j + i) r s → wpAny M A (b x r) (fun st s' => ∃ r', st = .yield r' ∧ P (j + i + 1) r' s') E s) → (∀ r s, P (j + l.length) r s → Q r s) → wpAny M A (forIn l r b) Q E s
  | [], j, r, s, h, _, hq => by
    simp only [List.forIn_nil]
    exact wpAny_pure (hq r s h)
  | x :: l, j, r, s, h, hs, hq => by
    simp only [List.forIn_cons]
    refine wpAny_bind (wpAny_mono (hs 0 x r s rfl h) (fun st s' ⟨r', e, p⟩ => ?_) fun _ _ z => z)
    subst e
    refine forIn_wp P l (j + 1) r' s' p (fun i y r2 s2 e p2 => ?_) fun r2 s2 p2 => hq r2 s2 (by rw [List.length_cons, show j + (l.length + 1) = j + 1 + l.length by omega]; exact p2)
    have := hs (i + 1) y r2 s2 (by simpa using e) (by rw [show j + (i + 1) = j + 1 + i by omega]; exact p2)
    rw [show j + (i + 1) + 1 = j + 1 + i + 1 by omega] at this
    exact this
/-! a list or a tuple, by its kind -/
def SqOf (k : Bool) (h : Heap) (l : Addr) (items : Array Value) : Prop := if k = true then h.IsList l items else h.IsTuple l items
def SqIter (k : Bool) (h : Heap) (a l : Addr) (i : Nat) : Prop := if k = true then h.IsListIter a l i else h.IsTupleIter a l i
section
variable {k : Bool} {h h' : Heap} {a l b : Addr} {i : Nat} {items : Array Value}
theorem SqOf.at (x : SqOf k h l items) (e : ∀ o, h.get? l = some o → h'.get? l = some o) : SqOf k h' l items := by
  cases k
  · obtain ⟨o, ho, r⟩ := (show h.IsTuple l items from x)
    exact (show h'.IsTuple l items from ⟨o, e o ho, r⟩)
  · obtain ⟨o, ho, r⟩ := (show h.IsList l items from x)
    exact (show h'.IsList l items from ⟨o, e o ho, r⟩)
theorem SqIter.at (x : SqIter k h a l i) (e : ∀ o, h.get? a = some o → h'.get? a = some o) : SqIter k h' a l i := by
  cases k
  · obtain ⟨o, ho, r⟩ := (show h.IsTupleIter a l i from x)
    exact (show h'.IsTupleIter a l i from ⟨o, e o ho, r⟩)
  · obtain ⟨o, ho, r⟩ := (show h.IsListIter a l i from x)
    exact (show h'.IsListIter a l i from ⟨o, e o ho, r⟩)
theorem SqOf.extBut (x : SqOf k h l items) (hs : Heap.ExtBut b h h') (hb : l ≠ b) : SqOf k h' l items := x.at fun o e => hs l o hb e
theorem SqIter.extBut (x : SqIter k h a l i) (hs : Heap.ExtBut b h h') (hb : a ≠ b) : SqIter k h' a l i := x.at fun o e => hs a o hb e
theorem SqIter.ex (x : SqIter k h a l i) : ∃ o, h.get? a = some o ∧ True ∧ o.data = .fields #[.ref l, .int i 0] := by
  cases k
  · obtain ⟨o, ho, _, r⟩ := (show h.IsTupleIter a l i from x)
    exact ⟨o, ho, trivial, r⟩
  · obtain ⟨o, ho, _, r⟩ := (show h.IsListIter a l i from x)
    exact ⟨o, ho, trivial, r⟩
end
section
variable {prog : Program} {w : World} {A : Around} {E : Value → Shared → Prop} {s : Shared} {k : Bool}
theorem sq_item {it l : Addr} {i : Nat} {items} {x : Value} {Q : Value → Shared → Prop} (hit : SqIter k s.heap it l i) (hl : SqOf k s.heap l items) (hx : items[i]? = some x) (hQ : ∀ h', SqIter k h' it l (i + 1) → Heap.SameBut it s.heap h' → Q x { s with heap := h' }) : wpAny (model prog w) A (Builtin.SmallTypes.nextOf (.ref it)) Q E s := by
  cases k
  · exact RZ.nextOf_tuple_item hit hl hx hQ
  · exact wpAny_nextOf_list_item hit hl hx hQ
theorem sq_end {it l : Addr} {i : Nat} {items} {Q : Value → Shared → Prop} (hh : A.handled = none) (hit : SqIter k s.heap it l i) (hl : SqOf k s.heap l items) (hx : items[i]? = none) (hE : ∀ h' e, Heap.ExtBut it s.heap h' → (∃ o, h'.get? e = some o ∧ o.cls = .type "StopIteration") → E (.ref e) { s with heap := h' }) : wpAny (model prog w) A (Builtin.SmallTypes.nextOf (.ref it)) Q E s := by
  cases k
  · exact RZ.nextOf_tuple_end hh hit hl hx hE
  · exact wpAny_nextOf_list_end hh hit hl hx hE
theorem sq_pyIter {l : Addr} {items} {Q : Value → Shared → Prop} (hl : SqOf k s.heap l items) (hQ : ∀ o : Obj, SqIter k (s.heap.push o) s.heap.objs.size l 0 → Q (.ref s.heap.objs.size) { s with heap := s.heap.push o }) : wpAny (model prog w) A (pyIter (.ref l)) Q E s := by
  cases k
  · exact wpAny_pyIter_tuple hl (hQ _ ⟨_, Heap.get?_push_size _ rfl, rfl, rfl⟩)
  · exact wpAny_pyIter_list hl (hQ _ ⟨_, Heap.get?_push_size _ rfl, rfl, rfl⟩)
end
def ZObj (f0 f1 : Value) (TI TO : Addr) : Obj := { cls := .type "zip", dict := none, data := .fields #[f0, f1, .bool false, .ref TI, .ref TO], slots := #[] }
/-- the zip at z, its iterators its over the tuples ls, each at turn i -/
structure ZSt (kd : Nat → Bool) (h : Heap) (z TI TO : Addr) (its ls : List Addr) (i : Nat) : Prop where
  zo : ∃ f0 f1, h.get? z = some (ZObj f0 f1 TI TO) ∧ (f0 = .none ∨ ∃ a : Int, f0 = rawInt a)
  ti : h.get? TI = some { cls := .type "tuple", data := .seq (its.map Value.ref).toArray }
  to : ∃ kept k, h.get? TO = some { cls := .type "tuple", data := .seq kept k } ∧ kept.size = its.length
  it : ∀ (t : Nat) (a l : Addr), its[t]? = some a → ls[t]? = some l → SqIter (kd t) h a l i
structure ZAp (z TI TO : Addr) (its ls : List Addr) : Prop where
  ne : its ≠ []
  len : ls.length = its.length
  few : its.length ≤ 1000
  nd : (z :: TI :: TO :: its).Nodup
  old : ∀ l ∈ ls, l ∉ z :: TI :: TO :: its
section
variable {prog : Program} {w : World} {A : Around} {E : Value → Shared → Prop} {s : Shared} {kd : Nat → Bool}
theorem ZAp.TIz {z TI TO : Addr} {its ls : List Addr} (D : ZAp z TI TO its ls) : TI ≠ z := fun e => by
  have := D.nd; subst e; simp at this
theorem ZAp.TOz {z TI TO : Addr} {its ls : List Addr} (D : ZAp z TI TO its ls) : TO ≠ z := fun e => by
  have := D.nd; subst e; simp at this
theorem ZAp.TITO {z TI TO : Addr} {its ls : List Addr} (D : ZAp z TI TO its ls) : TI ≠ TO := fun e => by
  have := D.nd; subst e; simp at this
theorem ZAp.itz {z TI TO a : Addr} {its ls : List Addr} (D : ZAp z TI TO its ls) (h : a ∈ its) : a ≠ z ∧ a ≠ TI ∧ a ≠ TO := by
  have := D.nd
  refine ⟨?_, ?_, ?_⟩ <;> (rintro rfl; simp_all)
theorem ZAp.inj {z TI TO a : Addr} {its ls : List Addr} {t u : Nat} (D : ZAp z TI TO its ls) (h : its[t]? = some a) (h' : its[u]? = some a) : t = u := by
  have nd : its.Nodup := ((D.nd.sublist (List.sublist_cons_self ..)).sublist (List.sublist_cons_self ..)).sublist (List.sublist_cons_self ..)
  exact L2.nd_ix nd h h'
theorem wpAny_alive {M : Model} {a : Addr} {Q : Option Obj → Shared → Prop} (h : Q (s.heap.get? a) s) : wpAny M A (loadIfAlive a) Q E s := fun Γ p _ => by
  unfold loadIfAlive
  rw [Sem.wp_loadIfAlive]
  exact (wpAny_pure (M := M) (A := A) (E := E) h) Γ p (by assumption)
theorem zipN_free {z TI TO : Addr} {its ls : List Addr} {i : Nat} {f1 : Value} {xs : List Value} {Q : Value → Shared → Prop} (D : ZAp z TI TO its ls) {f0 : Value} (hz : s.heap.get? z = some (ZObj f0 f1 TI TO)) (hf0 : f0 = .none ∨ ∃ a : Int, f0 = rawInt a ∧ s.heap.get? a.toNat = none) (S : ZSt kd s.heap z TI TO its ls i)
    (hl : xs.length = its.length) (hx : ∀ (t : Nat) (l : Addr) (x : Value), ls[t]? = some l → xs[t]? = some x → ∃ items, SqOf (kd t) s.heap l items ∧ items[i]? = some x)
    (hQ : ∀ h', ZSt kd h' z TI TO its ls (i + 1) → (h'.get? z = some (ZObj (rawInt s.heap.objs.size) (.bool false) TI TO)) → h'.get? s.heap.objs.size = some { cls := .type "tuple", data := .seq xs.toArray } → h'.objs.size = s.heap.objs.size + 1 →
      (∀ c o, c ∉ z :: TO :: its → s.heap.get? c = some o → h'.get? c = some o) → Q (.ref s.heap.objs.size) { s with heap := h' }) :
    wpAny (model prog w) A (Builtin.«zip.__next__» ⟨[.ref z], []⟩) (fun fin s' => ∃ v, fin = .done (.ret v) ∧ Q v s') E s := by
  obtain ⟨kept, k0, hTO, hks⟩ := S.to
  have hTI := S.ti
  show wpAny _ _ (field (.ref z) 2 >>= _) _ _ _
  refine wpAny_bind (wpAny_field hz rfl (x := .bool false) rfl ?_)
  show wpAny _ _ (field (.ref z) 3 >>= _) _ _ _
  refine wpAny_bind (wpAny_field hz rfl (x := .ref TI) rfl ?_)
  refine wpAny_bind (wpAny_seqItems hTI rfl ?_)
  have he : (its.map Value.ref).toArray.isEmpty = false := by have := D.ne; cases its <;> simp_all
  simp only [he]
  refine wpAny_bind ?_
  have isfree : ∀ {R : Bool → Shared → Prop}, R true s → wpAny (model prog w) A (Builtin.SmallTypes.ownedTupleIsFree (.ref z)) R E s := fun {R} hR => by
    unfold Builtin.SmallTypes.ownedTupleIsFree
    refine wpAny_bind (wpAny_field hz rfl (x := f0) rfl ?_)
    rcases hf0 with rfl | ⟨a, rfl, ha⟩
    · exact wpAny_pure hR
    · refine wpAny_bind (wpAny_alive ?_)
      rw [ha]
      exact wpAny_pure hR
  refine isfree ?_
  simp only [if_true]
  refine wpAny_bind (wpAny_rule ?_)
  refine wpAny_bind (wpAny_field hz rfl (x := .ref TO) rfl ?_)
  refine wpAny_bind (wpAny_setField_rec hz (by simp) fun h₁ hz₁ hs₁ => ?_)
  replace hz₁ : h₁.get? z = some (ZObj .ellipsis f1 TI TO) := hz₁
  have up1 : ∀ c o, c ≠ z → s.heap.get? c = some o → h₁.get? c = some o := fun c o hc e => (hs₁.2 c hc).trans e
  refine wpAny_bind (forIn_wp (fun j r s' => r = (none, ()) ∧ ∃ h kj kk, s' = { s with heap := h } ∧ h.get? z = some (ZObj .ellipsis f1 TI TO) ∧ h.get? TO = some { cls := .type "tuple", data := .seq kj kk } ∧ kj.size = its.length ∧ (∀ t : Nat, t < j → kj[t]? = xs[t]?) ∧
      (∀ (t : Nat) (a l : Addr), its[t]? = some a → ls[t]? = some l → SqIter (kd t) h a l (if t < j then i + 1 else i)) ∧ h.objs.size = s.heap.objs.size ∧ (∀ c o, c ∉ z :: TO :: its → s.heap.get? c = some o → h.get? c = some o)) _ 0 _ _
    ⟨rfl, h₁, kept, k0, rfl, hz₁, up1 _ _ D.TOz hTO, hks, fun t ht => absurd ht (Nat.not_lt_zero _), fun t a l e1 e2 => (S.it t a l e1 e2).extBut hs₁.extBut (D.itz (List.mem_of_getElem? e1)).1, hs₁.1, fun c o hc e => up1 c o (fun z => hc (by simp [z])) e⟩ (fun j p r s' e hp => ?_) fun r s' hp => ?_)
  · obtain ⟨rfl, h, kj, kk, rfl, hz2, hTO2, hk2, hpre, hit, hsz, hold⟩ := hp
    rw [Nat.zero_add] at *
    obtain ⟨a, ea⟩ : ∃ a, its[j]? = some a ∧ p = (Value.ref a, j) := by
      rw [List.getElem?_zipIdx, List.getElem?_map] at e
      cases hj : its[j]? with
      | none => rw [hj] at e; cases e
      | some a => rw [hj] at e; cases e; exact ⟨a, rfl, by simp⟩
    obtain ⟨ea, rfl⟩ := ea
    have hjl : j < its.length := (List.getElem?_eq_some_iff.mp ea).1
    obtain ⟨l, el⟩ : ∃ l, ls[j]? = some l := ⟨ls[j]'(by rw [D.len]; exact hjl), by simp [D.len, hjl]⟩
    obtain ⟨x, ex⟩ : ∃ x, xs[j]? = some x := ⟨xs[j]'(by rw [hl]; exact hjl), by simp [hl, hjl]⟩
    obtain ⟨items, ht, hix⟩ := hx j l x el ex
    have hlo : l ∉ z :: TI :: TO :: its := D.old l (List.mem_of_getElem? el)
    have ht2 : SqOf (kd j) h l items := ht.at fun o e => hold l o (fun hm => hlo (by
      simp only [List.mem_cons] at hm ⊢
      rcases hm with h | h | h
      · exact .inl h
      · exact .inr (.inr (.inl h))
      · exact .inr (.inr (.inr h)))) e
    have hi2 := hit j a l ea el
    rw [if_neg (Nat.lt_irrefl _)] at hi2
    have am := D.itz (List.mem_of_getElem? ea)
    refine wpAny_bind (wpAny_onRaise ?_)
    show wpAny _ _ (Builtin.SmallTypes.nextOf (.ref a) >>= _) _ _ _
    refine wpAny_bind (sq_item hi2 ht2 hix fun h₂ hi3 hs₂ => wpAny_pure ?_)
    have hTO3 : h₂.get? TO = some { cls := .type "tuple", data := .seq kj kk } := (hs₂.2 TO (Ne.symm am.2.2)).trans hTO2
    refine wpAny_bind (wpAny_seqItems hTO3 rfl ?_)
    have hfew := D.few
    have line : (1000 : Nat) ≤ sizeLine := by decide
    refine wpAny_bind (wpAny_updateSeq hTO3 rfl ?_ (by rw [hk2]; omega) (by rw [Array.size_setIfInBounds, hk2]; omega))
    refine wpAny_bind (wpAny_letGo (wpAny_pure ⟨_, rfl, rfl, _, _, _, rfl, ?_, Heap.get?_update_self _ hTO3 rfl, ?_, ?_, ?_, ?_, ?_⟩))
    · rw [Heap.get?_update_other _ _ D.TOz, hs₂.2 z am.1.symm]; exact hz2
    · simp [hk2]
    · intro t ht
      show (kj.setIfInBounds j x)[t]? = _
      by_cases htj : t = j
      · subst htj
        rw [Array.getElem?_setIfInBounds_self_of_lt (by rw [hk2]; exact hjl)]
        exact ex.symm
      · rw [Array.getElem?_setIfInBounds_ne (Ne.symm htj)]
        exact hpre t (by omega)
    · intro t a' l' e1 e2
      have am' := D.itz (List.mem_of_getElem? e1)
      by_cases htj : t = j
      · subst htj
        rw [ea] at e1; cases e1
        rw [el] at e2; cases e2
        rw [if_pos (Nat.lt_succ_self _)]
        exact hi3.at fun o e => (Heap.get?_update_other _ _ am'.2.2.symm).trans e
      · have hne : a' ≠ a := fun z => htj (D.inj e1 (z ▸ ea))
        have := hit t a' l' e1 e2
        have ei : (if t < j + 1 then i + 1 else i) = (if t < j then i + 1 else i) := by split <;> split <;> omega
        rw [ei]
        exact this.at fun o e => (Heap.get?_update_other _ _ am'.2.2.symm).trans ((hs₂.2 a' hne).trans e)
    · rw [show ∀ hh : Heap, (hh.update TO (Obj.mapSeq fun b => b.setIfInBounds j x)).objs.size = hh.objs.size from fun _ => by simp [Heap.update], hs₂.1]; exact hsz
    · intro c o hc e
      have h1 : c ≠ TO := fun z => hc (by simp [z])
      have h2 : c ≠ a := fun z => hc (by subst z; exact List.mem_cons_of_mem _ (List.mem_cons_of_mem _ (List.mem_of_getElem? ea)))
      exact (Heap.get?_update_other _ _ h1.symm).trans ((hs₂.2 c h2).trans (hold c o hc e))
  · obtain ⟨rfl, h, kj, kk, rfl, hz2, hTO2, hk2, hpre, hit, hsz, hold⟩ := hp
    rw [Nat.zero_add, List.length_zipIdx, List.length_map] at hpre
    have hkx : kj = xs.toArray := by
      apply Array.ext_getElem?
      intro t
      by_cases ht : t < its.length
      · rw [hpre t ht]; simp
      · rw [Array.getElem?_eq_none (by omega), Array.getElem?_eq_none (by simp; omega)]
    subst hkx
    refine wpAny_bind (wpAny_seqItems hTO2 rfl ?_)
    refine wpAny_bind (wpAny_newTuple ?_ (by have := D.few; have line : (1000 : Nat) ≤ sizeLine := (by decide); simp at hk2 ⊢; omega))
    have hit' : ∀ (t : Nat) (a l : Addr), its[t]? = some a → ls[t]? = some l → SqIter (kd t) h a l (i + 1) := fun t a l e1 e2 => by
      have := hit t a l e1 e2
      rw [if_pos (by rw [Nat.zero_add, List.length_zipIdx, List.length_map]; exact (List.getElem?_eq_some_iff.mp e1).1)] at this
      exact this
    have zlt : z < h.objs.size := Heap.lt_size hz2
    refine wpAny_bind ?_
    unfold Builtin.SmallTypes.ownedTupleHandOut
    have hz3 : (h.push { cls := .type "tuple", data := .seq xs.toArray }).get? z = some (ZObj .ellipsis f1 TI TO) := Heap.get?_push_of_some _ hz2
    refine wpAny_bind (wpAny_setField_rec hz3 (by simp) fun h₇ hz₇ hs₇ => ?_)
    replace hz₇ : h₇.get? z = some (ZObj (rawInt h.objs.size) f1 TI TO) := hz₇
    refine wpAny_setField_rec hz₇ (by simp) fun h₈ hz₈ hs₈ => ?_
    replace hz₈ : h₈.get? z = some (ZObj (rawInt h.objs.size) (.bool false) TI TO) := hz₈
    have up : ∀ c o, c ≠ z → h.get? c = some o → h₈.get? c = some o := fun c o c1 e => (hs₈.2 c c1).trans ((hs₇.2 c c1).trans (Heap.get?_push_of_some _ e))
    have hT : h₈.get? h.objs.size = some { cls := .type "tuple", data := .seq xs.toArray } := (hs₈.2 _ (Nat.ne_of_gt zlt)).trans ((hs₇.2 _ (Nat.ne_of_gt zlt)).trans (Heap.get?_push_size _ rfl))
    have hz8 : h₈.objs.size = h.objs.size + 1 := by rw [hs₈.1, hs₇.1, Heap.size_push]
    have hTI2 : h.get? TI = _ := hold TI _ (fun hm => by
      rcases List.mem_cons.mp hm with q | hm
      · exact D.TIz q
      rcases List.mem_cons.mp hm with q | hm
      · exact D.TITO q
      · exact (D.itz hm).2.1 rfl) hTI
    have st : ZSt kd h₈ z TI TO its ls (i + 1) := ⟨⟨_, _, hz₈, .inr ⟨_, rfl⟩⟩, up _ _ D.TIz hTI2, ⟨_, _, up _ _ D.TOz hTO2, hk2⟩, fun t a l e1 e2 => (hit' t a l e1 e2).at fun o e => up _ o (D.itz (List.mem_of_getElem? e1)).1 e⟩
    rw [hsz] at hz₈ hT hz8
    refine wpAny_pure ⟨_, rfl, ?_⟩
    show Q (.ref h.objs.size) _
    rw [hsz]
    exact hQ h₈ st hz₈ hT hz8 fun c o hc e => up c o (fun q => hc (by simp [q])) (hold c o hc e)
theorem zipN_busy {z TI TO : Addr} {its ls : List Addr} {i : Nat} {a0 : Int} {f1 : Value} {xs : List Value} {Q : Value → Shared → Prop} (D : ZAp z TI TO its ls) (hz : s.heap.get? z = some (ZObj (rawInt a0) f1 TI TO)) {oa : Obj} (ha : s.heap.get? a0.toNat = some oa) (S : ZSt kd s.heap z TI TO its ls i)
    (hl : xs.length = its.length) (hx : ∀ (t : Nat) (l : Addr) (x : Value), ls[t]? = some l → xs[t]? = some x → ∃ items, SqOf (kd t) s.heap l items ∧ items[i]? = some x)
    (hQ : ∀ h', ZSt kd h' z TI TO its ls (i + 1) → h'.get? s.heap.objs.size = some { cls := .type "tuple", data := .seq xs.toArray } → h'.objs.size = s.heap.objs.size + 1 →
      (∀ c o, c ∉ z :: TO :: its → s.heap.get? c = some o → h'.get? c = some o) → Q (.ref s.heap.objs.size) { s with heap := h' }) :
    wpAny (model prog w) A (Builtin.«zip.__next__» ⟨[.ref z], []⟩) (fun fin s' => ∃ v, fin = .done (.ret v) ∧ Q v s') E s := by
  obtain ⟨kept, k0, hTO, hks⟩ := S.to
  have hTI := S.ti
  show wpAny _ _ (field (.ref z) 2 >>= _) _ _ _
  refine wpAny_bind (wpAny_field hz rfl (x := .bool false) rfl ?_)
  show wpAny _ _ (field (.ref z) 3 >>= _) _ _ _
  refine wpAny_bind (wpAny_field hz rfl (x := .ref TI) rfl ?_)
  refine wpAny_bind (wpAny_seqItems hTI rfl ?_)
  have he : (its.map Value.ref).toArray.isEmpty = false := by have := D.ne; cases its <;> simp_all
  simp only [he]
  refine wpAny_bind ?_
  have isbusy : ∀ {R : Bool → Shared → Prop}, (∀ h f1', h.get? z = some (ZObj (rawInt a0) f1' TI TO) → Heap.SameBut z s.heap h → R false { s with heap := h }) → wpAny (model prog w) A (Builtin.SmallTypes.ownedTupleIsFree (.ref z)) R E s := fun {R} hR => by
    unfold Builtin.SmallTypes.ownedTupleIsFree
    refine wpAny_bind (wpAny_field hz rfl (x := rawInt a0) rfl ?_)
    refine wpAny_bind (wpAny_alive ?_)
    rw [ha]
    refine wpAny_bind (wpAny_field hz rfl (x := f1) rfl ?_)
    by_cases hf : (f1 != Value.bool true) = true
    · simp only [hf, if_true]
      exact wpAny_bind (wpAny_setField_rec hz (by simp) fun h1 hz1 hs1 => wpAny_pure (hR h1 _ hz1 hs1))
    · simp only [hf]
      exact wpAny_pure (hR s.heap f1 hz (Heap.SameBut.refl _ _))
  refine isbusy fun h₁ f2 hz₁ hs₁ => ?_
  simp only [Bool.false_eq_true, if_false, List.forIn_toArray]
  have up1 : ∀ c o, c ≠ z → s.heap.get? c = some o → h₁.get? c = some o := fun c o hc e => (hs₁.2 c hc).trans e
  refine wpAny_bind (forIn_wp (fun j r s' => r = (none, (xs.take j).toArray) ∧ ∃ h, s' = { s with heap := h } ∧ h.get? z = some (ZObj (rawInt a0) f2 TI TO) ∧
      (∀ (t : Nat) (a l : Addr), its[t]? = some a → ls[t]? = some l → SqIter (kd t) h a l (if t < j then i + 1 else i)) ∧ h.objs.size = s.heap.objs.size ∧ (∀ c o, c ∉ z :: its → s.heap.get? c = some o → h.get? c = some o)) _ 0 _ _
    ⟨by simp, h₁, rfl, hz₁, fun t a l e1 e2 => (S.it t a l e1 e2).extBut hs₁.extBut (D.itz (List.mem_of_getElem? e1)).1, hs₁.1, fun c o hc e => up1 c o (fun z => hc (by simp [z])) e⟩ (fun j p r s' e hp => ?_) fun r s' hp => ?_)
  · obtain ⟨rfl, h, rfl, hz2, hit, hsz, hold⟩ := hp
    rw [Nat.zero_add] at *
    obtain ⟨a, ea, rfl⟩ : ∃ a, its[j]? = some a ∧ p = Value.ref a := by
      rw [List.getElem?_map] at e
      cases hj : its[j]? with
      | none => rw [hj] at e; cases e
      | some a => rw [hj] at e; cases e; exact ⟨a, rfl, rfl⟩
    have hjl : j < its.length := (List.getElem?_eq_some_iff.mp ea).1
    obtain ⟨l, el⟩ : ∃ l, ls[j]? = some l := ⟨ls[j]'(by rw [D.len]; exact hjl), by simp [D.len, hjl]⟩
    obtain ⟨x, ex⟩ : ∃ x, xs[j]? = some x := ⟨xs[j]'(by rw [hl]; exact hjl), by simp [hl, hjl]⟩
    obtain ⟨items, ht, hix⟩ := hx j l x el ex
    have hlo : l ∉ z :: TI :: TO :: its := D.old l (List.mem_of_getElem? el)
    have ht2 : SqOf (kd j) h l items := ht.at fun o e => hold l o (fun hm => hlo (by
      simp only [List.mem_cons] at hm ⊢
      rcases hm with h | h
      · exact .inl h
      · exact .inr (.inr (.inr h)))) e
    have hi2 := hit j a l ea el
    rw [if_neg (Nat.lt_irrefl _)] at hi2
    refine wpAny_bind (wpAny_holding ?_)
    show wpAny _ _ (Builtin.SmallTypes.nextOf (.ref a) >>= _) _ _ _
    refine wpAny_bind (sq_item hi2 ht2 hix fun h₂ hi3 hs₂ => wpAny_pure ?_)
    refine wpAny_pure ⟨_, rfl, ?_, h₂, rfl, ?_, ?_, ?_, ?_⟩
    · show (none, (xs.take j).toArray.push x) = _
      rw [List.take_add_one, ex]
      simp
    · rw [hs₂.2 z (D.itz (List.mem_of_getElem? ea)).1.symm]; exact hz2
    · intro t a' l' e1 e2
      by_cases htj : t = j
      · subst htj
        rw [ea] at e1; cases e1
        rw [el] at e2; cases e2
        rw [if_pos (Nat.lt_succ_self _)]
        exact hi3
      · have hne : a' ≠ a := fun z => htj (D.inj e1 (z ▸ ea))
        have := hit t a' l' e1 e2
        have ei : (if t < j + 1 then i + 1 else i) = (if t < j then i + 1 else i) := by split <;> split <;> omega
        rw [ei]
        exact this.at fun o e => (hs₂.2 a' hne).trans e
    · rw [hs₂.1]; exact hsz
    · intro c o hc e
      exact (hs₂.2 c (fun z => hc (by subst z; exact List.mem_cons_of_mem _ (List.mem_of_getElem? ea)))).trans (hold c o hc e)
  · obtain ⟨rfl, h, rfl, hz2, hit, hsz, hold⟩ := hp
    have hlen : 0 + (its.map Value.ref).length = xs.length := by rw [Nat.zero_add, List.length_map, hl]
    rw [hlen, List.take_length]
    have few := D.few
    have line : (1000 : Nat) ≤ sizeLine := by decide
    refine wpAny_bind (wpAny_newTuple ?_ (by simp; omega))
    have hit' : ∀ (t : Nat) (a l : Addr), its[t]? = some a → ls[t]? = some l → SqIter (kd t) h a l (i + 1) := fun t a l e1 e2 => by
      have := hit t a l e1 e2
      rw [if_pos (by rw [hlen, hl]; exact (List.getElem?_eq_some_iff.mp e1).1)] at this
      exact this
    have notin : ∀ c, (c = TI ∨ c = TO) → c ∉ z :: its := fun c hc hm => by
      rcases List.mem_cons.mp hm with q | hm
      · rcases hc with rfl | rfl
        · exact D.TIz q
        · exact D.TOz q
      · rcases hc with rfl | rfl
        · exact (D.itz hm).2.1 rfl
        · exact (D.itz hm).2.2 rfl
    have st : ZSt kd (h.push { cls := .type "tuple", data := .seq xs.toArray }) z TI TO its ls (i + 1) := ⟨⟨_, _, Heap.get?_push_of_some _ hz2, .inr ⟨_, rfl⟩⟩, Heap.get?_push_of_some _ (hold _ _ (notin TI (.inl rfl)) hTI), ⟨_, _, Heap.get?_push_of_some _ (hold _ _ (notin TO (.inr rfl)) hTO), hks⟩,
      fun t a l e1 e2 => (hit' t a l e1 e2).at fun o e => Heap.get?_push_of_some _ e⟩
    refine wpAny_pure ⟨_, rfl, ?_⟩
    show Q (.ref h.objs.size) _
    have hT := Heap.get?_push_size h (o := { cls := .type "tuple", data := .seq xs.toArray }) rfl
    have hz8 : (h.push { cls := .type "tuple", data := .seq xs.toArray }).objs.size = h.objs.size + 1 := Heap.size_push ..
    rw [hsz] at hT hz8 ⊢
    exact hQ _ st hT hz8 fun c o hc e => Heap.get?_push_of_some _ (hold c o (fun hm => hc (by
      rcases List.mem_cons.mp hm with q | hm
      · simp [q]
      · exact List.mem_cons_of_mem _ (List.mem_cons_of_mem _ hm))) e)
/-- one item more: the tuple of the i-th items -/
theorem zipN_item {z TI TO : Addr} {its ls : List Addr} {i : Nat} {xs : List Value} {Q : Option Value → Shared → Prop} (D : ZAp z TI TO its ls) (S : ZSt kd s.heap z TI TO its ls i)
    (hl : xs.length = its.length) (hx : ∀ (t : Nat) (l : Addr) (x : Value), ls[t]? = some l → xs[t]? = some x → ∃ items, SqOf (kd t) s.heap l items ∧ items[i]? = some x)
    (hQ : ∀ h', ZSt kd h' z TI TO its ls (i + 1) → h'.get? s.heap.objs.size = some { cls := .type "tuple", data := .seq xs.toArray } → h'.objs.size = s.heap.objs.size + 1 →
      (∀ c o, c ∉ z :: TO :: its → s.heap.get? c = some o → h'.get? c = some o) → Q (some (.ref s.heap.objs.size)) { s with heap := h' }) :
    wpAny (model prog w) A (pyNext (.ref z)) Q E s := by
  obtain ⟨f0, f1, hz, hf⟩ := id S.zo
  have hT : s.TypeIs (.ref z) "zip" := ⟨_, hz, rfl⟩
  unfold pyNext
  refine wpAny_bind (wpAny_attempt (wpAny_callSpecial?_slot (name := Str.ofString "__next__") hT F.slot_zip_next (wpAny_call_entry F.slot_zip_next hT F.entry_zip_next ?_ (F.args_zip_next_1 _))))
  rcases hf with rfl | ⟨a, rfl⟩
  · exact zipN_free D hz (.inl rfl) S hl hx fun h' a1 _ a3 a4 a5 => wpAny_pure (hQ h' a1 a3 a4 a5)
  · cases ea : s.heap.get? a.toNat with
    | none => exact zipN_free D hz (.inr ⟨a, rfl, ea⟩) S hl hx fun h' a1 _ a3 a4 a5 => wpAny_pure (hQ h' a1 a3 a4 a5)
    | some oa => exact zipN_busy D hz ea S hl hx fun h' a1 a3 a4 a5 => wpAny_pure (hQ h' a1 a3 a4 a5)
/-- a turn of the walk over the parts that ends in an error -/
theorem forIn_stop {α β : Type} {M : Model} {Q : β → Shared → Prop} {b : α → β → Sem (ForInStep β)} (P : Nat → β → Shared → Prop) : ∀ (t : Nat) (l : List α) (j : Nat) (r : β) (s : Shared) (x : α), l[t]? = some x → P j r s →
    (∀ i x r s, i < t → l[i]? = some x → P (j + i) r s → wpAny M A (b x r) (fun st s' => ∃ r', st = .yield r' ∧ P (j + i + 1) r' s') E s) → (∀ r s, P (j + t) r s → wpAny M A (b x r) (fun _ _ => False) E s) → wpAny M A (forIn l r b) Q E s
  | _, [], j, r, s, x, hx, _, _, _ => by simp at hx
  | 0, y :: l, j, r, s, x, hx, h, _, hq => by
    simp only [List.forIn_cons]
    obtain rfl : y = x := by simpa using hx
    exact wpAny_bind (wpAny_mono (hq r s h) (fun _ _ z => z.elim) fun _ _ z => z)
  | t + 1, y :: l, j, r, s, x, hx, h, hs, hq => by
    simp only [List.forIn_cons]
    refine wpAny_bind (wpAny_mono (hs 0 y r s (Nat.succ_pos _) rfl h) (fun st s' ⟨r', e, p⟩ => ?_) fun _ _ z => z)
    subst e
    refine forIn_stop P t l (j + 1) r' s' x (by simpa using hx) p (fun i y r2 s2 hi e p2 => ?_) fun r2 s2 p2 => hq r2 s2 (by rw [show j + (t + 1) = j + 1 + t by omega]; exact p2)
    have := hs (i + 1) y r2 s2 (by omega) (by simpa using e) (by rw [show j + (i + 1) = j + 1 + i by omega]; exact p2)
    rw [show j + (i + 1) + 1 = j + 1 + i + 1 by omega] at this
    exact this
/-- the part at place t is at its end, the ones ahead are not -/
theorem zipN_stop {z TI TO a l : Addr} {its ls : List Addr} {i t : Nat} {items : Array Value} {Q : Fin → Shared → Prop} (hh : A.handled = none) (D : ZAp z TI TO its ls) (S : ZSt kd s.heap z TI TO its ls i) (hta : its[t]? = some a) (htl : ls[t]? = some l) (ht : SqOf (kd t) s.heap l items) (hend : items[i]? = none)
    (hx : ∀ (u : Nat) (l : Addr), u < t → ls[u]? = some l → ∃ items x, SqOf (kd u) s.heap l items ∧ items[i]? = some x)
    (hE : ∀ h' e, (∀ c o, c ∉ z :: TO :: its → s.heap.get? c = some o → h'.get? c = some o) → (∃ o, h'.get? e = some o ∧ o.cls = .type "StopIteration") → E (.ref e) { s with heap := h' }) :
    wpAny (model prog w) A (Builtin.«zip.__next__» ⟨[.ref z], []⟩) Q E s := by
  obtain ⟨kept, k0, hTO, hks⟩ := S.to
  obtain ⟨f0, f1, hz, hf⟩ := id S.zo
  have hTI := S.ti
  have am := D.itz (List.mem_of_getElem? hta)
  have notin : ∀ {u : Nat} {l : Addr}, ls[u]? = some l → l ∉ z :: TO :: its := fun {u l} el hm => D.old l (List.mem_of_getElem? el) (by
    simp only [List.mem_cons] at hm ⊢
    rcases hm with h | h | h
    · exact .inl h
    · exact .inr (.inr (.inl h))
    · exact .inr (.inr (.inr h)))
  show wpAny _ _ (field (.ref z) 2 >>= _) _ _ _
  refine wpAny_bind (wpAny_field hz rfl (x := .bool false) rfl ?_)
  show wpAny _ _ (field (.ref z) 3 >>= _) _ _ _
  refine wpAny_bind (wpAny_field hz rfl (x := .ref TI) rfl ?_)
  refine wpAny_bind (wpAny_seqItems hTI rfl ?_)
  have he : (its.map Value.ref).toArray.isEmpty = false := by have := D.ne; cases its <;> simp_all
  simp only [he]
  refine wpAny_bind ?_
  have freeGo : wpAny (model prog w) A (Builtin.SmallTypes.ownedTupleIsFree (.ref z)) (fun b s' => s' = s ∧ b = true ∨ b = false ∧ ∃ h, s' = { s with heap := h } ∧ Heap.SameBut z s.heap h) E s := by
    unfold Builtin.SmallTypes.ownedTupleIsFree
    refine wpAny_bind (wpAny_field hz rfl (x := f0) rfl ?_)
    rcases hf with rfl | ⟨a9, rfl⟩
    · exact wpAny_pure (.inl ⟨rfl, rfl⟩)
    · refine wpAny_bind (wpAny_alive ?_)
      cases ea : s.heap.get? a9.toNat with
      | none => exact wpAny_pure (.inl ⟨rfl, rfl⟩)
      | some oa =>
        refine wpAny_bind (wpAny_field hz rfl (x := f1) rfl ?_)
        by_cases hf : (f1 != Value.bool true) = true
        · simp only [hf, if_true]
          exact wpAny_bind (wpAny_setField_rec hz (by simp) fun h1 hz1 hs1 => wpAny_pure (.inr ⟨rfl, h1, rfl, hs1⟩))
        · simp only [hf]
          exact wpAny_pure (.inr ⟨rfl, s.heap, rfl, Heap.SameBut.refl _ _⟩)
  refine wpAny_mono freeGo (fun b s' hb => ?_) fun _ _ z => z
  have itAt : ∀ {u : Nat} {p : Value × Nat}, (its.map Value.ref).zipIdx[u]? = some p → ∃ a, its[u]? = some a ∧ p = (Value.ref a, u) := fun {u p} e => by
    rw [List.getElem?_zipIdx, List.getElem?_map] at e
    cases hj : its[u]? with
    | none => rw [hj] at e; cases e
    | some a => rw [hj] at e; cases e; exact ⟨a, rfl, by simp⟩
  rcases hb with ⟨rfl, rfl⟩ | ⟨rfl, h₁, rfl, hs₁⟩
  · simp only [if_true]
    refine wpAny_bind (wpAny_rule ?_)
    refine wpAny_bind (wpAny_field hz rfl (x := .ref TO) rfl ?_)
    refine wpAny_bind (wpAny_setField_rec hz (by simp) fun h₁ hz₁ hs₁ => ?_)
    replace hz₁ : h₁.get? z = some (ZObj .ellipsis f1 TI TO) := hz₁
    have up1 : ∀ c o, c ≠ z → s'.heap.get? c = some o → h₁.get? c = some o := fun c o hc e => (hs₁.2 c hc).trans e
    refine wpAny_bind (forIn_stop (fun j r s2 => r = (none, ()) ∧ ∃ h kj kk, s2 = { s' with heap := h } ∧ h.get? z = some (ZObj .ellipsis f1 TI TO) ∧ h.get? TO = some { cls := .type "tuple", data := .seq kj kk } ∧ kj.size = its.length ∧
        (∀ (u : Nat) (a l : Addr), its[u]? = some a → ls[u]? = some l → SqIter (kd u) h a l (if u < j then i + 1 else i)) ∧ (∀ c o, c ∉ z :: TO :: its → s'.heap.get? c = some o → h.get? c = some o)) t _ 0 _ _ (Value.ref a, t)
      (by rw [List.getElem?_zipIdx, List.getElem?_map, hta]; simp) ⟨rfl, h₁, kept, k0, rfl, hz₁, up1 _ _ D.TOz hTO, hks, fun u a l e1 e2 => (S.it u a l e1 e2).extBut hs₁.extBut (D.itz (List.mem_of_getElem? e1)).1, fun c o hc e => up1 c o (fun z => hc (by simp [z])) e⟩ (fun j p r s2 hj e hp => ?_) fun r s2 hp => ?_)
    · obtain ⟨rfl, h, kj, kk, rfl, hz2, hTO2, hk2, hit, hold⟩ := hp
      rw [Nat.zero_add] at *
      obtain ⟨a, ea, rfl⟩ := itAt e
      have hjl : j < its.length := (List.getElem?_eq_some_iff.mp ea).1
      obtain ⟨l, el⟩ : ∃ l, ls[j]? = some l := ⟨ls[j]'(by rw [D.len]; exact hjl), by simp [D.len, hjl]⟩
      obtain ⟨items, x, ht, hix⟩ := hx j l hj el
      have ht2 : SqOf (kd j) h l items := ht.at fun o e => hold l o (notin el) e
      have hi2 := hit j a l ea el
      rw [if_neg (Nat.lt_irrefl _)] at hi2
      have am := D.itz (List.mem_of_getElem? ea)
      refine wpAny_bind (wpAny_onRaise ?_)
      show wpAny _ _ (Builtin.SmallTypes.nextOf (.ref a) >>= _) _ _ _
      refine wpAny_bind (sq_item hi2 ht2 hix fun h₂ hi3 hs₂ => wpAny_pure ?_)
      have hTO3 : h₂.get? TO = some { cls := .type "tuple", data := .seq kj kk } := (hs₂.2 TO (Ne.symm am.2.2)).trans hTO2
      refine wpAny_bind (wpAny_seqItems hTO3 rfl ?_)
      have hfew := D.few
      have line : (1000 : Nat) ≤ sizeLine := by decide
      refine wpAny_bind (wpAny_updateSeq hTO3 rfl ?_ (by rw [hk2]; omega) (by rw [Array.size_setIfInBounds, hk2]; omega))
      refine wpAny_bind (wpAny_letGo (wpAny_pure ⟨_, rfl, rfl, _, _, _, rfl, ?_, Heap.get?_update_self _ hTO3 rfl, ?_, ?_, ?_⟩))
      · rw [Heap.get?_update_other _ _ D.TOz, hs₂.2 z am.1.symm]; exact hz2
      · simp [hk2]
      · intro u a' l' e1 e2
        have am' := D.itz (List.mem_of_getElem? e1)
        by_cases htj : u = j
        · subst htj
          rw [ea] at e1; cases e1
          rw [el] at e2; cases e2
          rw [if_pos (Nat.lt_succ_self _)]
          exact hi3.at fun o e => (Heap.get?_update_other _ _ am'.2.2.symm).trans e
        · have hne : a' ≠ a := fun z => htj (D.inj e1 (z ▸ ea))
          have := hit u a' l' e1 e2
          have ei : (if u < j + 1 then i + 1 else i) = (if u < j then i + 1 else i) := by split <;> split <;> omega
          rw [ei]
          exact this.at fun o e => (Heap.get?_update_other _ _ am'.2.2.symm).trans ((hs₂.2 a' hne).trans e)
      · intro c o hc e
        have h1 : c ≠ TO := fun z => hc (by simp [z])
        have h2 : c ≠ a := fun z => hc (by subst z; exact List.mem_cons_of_mem _ (List.mem_cons_of_mem _ (List.mem_of_getElem? ea)))
        exact (Heap.get?_update_other _ _ h1.symm).trans ((hs₂.2 c h2).trans (hold c o hc e))
    · obtain ⟨rfl, h, kj, kk, rfl, hz2, hTO2, hk2, hit, hold⟩ := hp
      rw [Nat.zero_add] at *
      have hi2 := hit t a l hta htl
      rw [if_neg (Nat.lt_irrefl _)] at hi2
      refine wpAny_bind (wpAny_onRaise ?_)
      show wpAny _ _ (Builtin.SmallTypes.nextOf (.ref a) >>= _) _ _ _
      refine wpAny_bind (sq_end hh hi2 (ht.at fun o e => hold l o (notin htl) e) hend fun h₂ e hs₂ he => ?_)
      obtain ⟨oe, hoe, hce⟩ := he
      have hz₂ : h₂.get? z = some (ZObj .ellipsis f1 TI TO) := hs₂ _ _ am.1.symm hz2
      have hez : e ≠ z := fun x => by subst x; rw [hz₂] at hoe; cases hoe; simp [ZObj] at hce
      refine wpAny_setField_rec hz₂ (by simp) fun h₃ _ hs₃ => hE h₃ e (fun c o hc x => hs₃.extBut _ _ (fun q => hc (by simp [q])) (hs₂ _ _ (fun q => hc (by subst q; exact List.mem_cons_of_mem _ (List.mem_cons_of_mem _ (List.mem_of_getElem? hta)))) (hold c o hc x))) ⟨oe, hs₃.extBut _ _ hez hoe, hce⟩
  · simp only [Bool.false_eq_true, if_false, List.forIn_toArray]
    have up1 : ∀ c o, c ≠ z → s.heap.get? c = some o → h₁.get? c = some o := fun c o hc e => (hs₁.2 c hc).trans e
    refine wpAny_bind (forIn_stop (fun j r s2 => r.1 = none ∧ ∃ h, s2 = { s with heap := h } ∧
        (∀ (u : Nat) (a l : Addr), its[u]? = some a → ls[u]? = some l → SqIter (kd u) h a l (if u < j then i + 1 else i)) ∧ (∀ c o, c ∉ z :: TO :: its → s.heap.get? c = some o → h.get? c = some o)) t _ 0 _ _ (Value.ref a)
      (by rw [List.getElem?_map, hta]; rfl) ⟨rfl, h₁, rfl, fun u a l e1 e2 => (S.it u a l e1 e2).extBut hs₁.extBut (D.itz (List.mem_of_getElem? e1)).1, fun c o hc e => up1 c o (fun z => hc (by simp [z])) e⟩ (fun j p r s2 hj e hp => ?_) fun r s2 hp => ?_)
    · obtain ⟨r1, r2⟩ := r
      obtain ⟨rfl, h, rfl, hit, hold⟩ := hp
      rw [Nat.zero_add] at *
      obtain ⟨a, ea, rfl⟩ : ∃ a, its[j]? = some a ∧ p = Value.ref a := by
        rw [List.getElem?_map] at e
        cases hj : its[j]? with
        | none => rw [hj] at e; cases e
        | some a => rw [hj] at e; cases e; exact ⟨a, rfl, rfl⟩
      have hjl : j < its.length := (List.getElem?_eq_some_iff.mp ea).1
      obtain ⟨l, el⟩ : ∃ l, ls[j]? = some l := ⟨ls[j]'(by rw [D.len]; exact hjl), by simp [D.len, hjl]⟩
      obtain ⟨items, x, ht, hix⟩ := hx j l hj el
      have ht2 : SqOf (kd j) h l items := ht.at fun o e => hold l o (notin el) e
      have hi2 := hit j a l ea el
      rw [if_neg (Nat.lt_irrefl _)] at hi2
      refine wpAny_bind (wpAny_holding ?_)
      show wpAny _ _ (Builtin.SmallTypes.nextOf (.ref a) >>= _) _ _ _
      refine wpAny_bind (sq_item hi2 ht2 hix fun h₂ hi3 hs₂ => wpAny_pure ?_)
      refine wpAny_pure ⟨_, rfl, rfl, h₂, rfl, ?_, ?_⟩
      · intro u a' l' e1 e2
        by_cases htj : u = j
        · subst htj
          rw [ea] at e1; cases e1
          rw [el] at e2; cases e2
          rw [if_pos (Nat.lt_succ_self _)]
          exact hi3
        · have hne : a' ≠ a := fun z => htj (D.inj e1 (z ▸ ea))
          have := hit u a' l' e1 e2
          have ei : (if u < j + 1 then i + 1 else i) = (if u < j then i + 1 else i) := by split <;> split <;> omega
          rw [ei]
          exact this.at fun o e => (hs₂.2 a' hne).trans e
      · intro c o hc e
        exact (hs₂.2 c (fun z => hc (by subst z; exact List.mem_cons_of_mem _ (List.mem_cons_of_mem _ (List.mem_of_getElem? ea))))).trans (hold c o hc e)
    · obtain ⟨r1, r2⟩ := r
      obtain ⟨rfl, h, rfl, hit, hold⟩ := hp
      rw [Nat.zero_add] at *
      have hi2 := hit t a l hta htl
      rw [if_neg (Nat.lt_irrefl _)] at hi2
      refine wpAny_bind (wpAny_holding ?_)
      show wpAny _ _ (Builtin.SmallTypes.nextOf (.ref a) >>= _) _ _ _
      refine wpAny_bind (sq_end hh hi2 (ht.at fun o e => hold l o (notin htl) e) hend fun h₂ e hs₂ he => ?_)
      exact hE h₂ e (fun c o hc x => hs₂ _ _ (fun q => hc (by subst q; exact List.mem_cons_of_mem _ (List.mem_cons_of_mem _ (List.mem_of_getElem? hta)))) (hold c o hc x)) he
theorem zipN_end {z TI TO a l : Addr} {its ls : List Addr} {i t : Nat} {items : Array Value} {Q : Option Value → Shared → Prop} (hh : A.handled = none) (D : ZAp z TI TO its ls) (S : ZSt kd s.heap z TI TO its ls i) (hta : its[t]? = some a) (htl : ls[t]? = some l) (ht : SqOf (kd t) s.heap l items) (hend : items[i]? = none)
    (hx : ∀ (u : Nat) (l : Addr), u < t → ls[u]? = some l → ∃ items x, SqOf (kd u) s.heap l items ∧ items[i]? = some x)
    (hQ : ∀ h', (∀ c o, c ∉ z :: TO :: its → s.heap.get? c = some o → h'.get? c = some o) → Q none { s with heap := h' }) : wpAny (model prog w) A (pyNext (.ref z)) Q E s := by
  obtain ⟨f0, f1, hz, hf⟩ := id S.zo
  have hT : s.TypeIs (.ref z) "zip" := ⟨_, hz, rfl⟩
  unfold pyNext
  refine wpAny_bind (wpAny_attempt (wpAny_callSpecial?_slot (name := Str.ofString "__next__") hT F.slot_zip_next (wpAny_call_entry F.slot_zip_next hT F.entry_zip_next (zipN_stop hh D S hta htl ht hend hx fun h' e hk he => ?_) (F.args_zip_next_1 _))))
  obtain ⟨o, ho, hc⟩ := he
  exact wpAny_bind (wpAny_isInstance (T := "StopIteration") (b := true) ⟨o, ho, hc⟩ isSubtype_stop (wpAny_pure (hQ _ hk)))
theorem zip_self {z TI TO : Addr} {f0 f1 : Value} {Q : Value → Shared → Prop} (hz : s.heap.get? z = some (ZObj f0 f1 TI TO)) (h : Q (.ref z) s) : wpAny (model prog w) A (pyIter (.ref z)) Q E s := by
  have hT : s.TypeIs (.ref z) "zip" := ⟨_, hz, rfl⟩
  refine wpAny_pyIter_slot hT F.slot_zip_iter (wpAny_call_entry F.slot_zip_iter hT F.entry_zip_iter ?_ (F.args_zip_iter_1 _))
  show wpAny _ _ (ret (.ref z)) _ _ s
  exact wpAny_pure ⟨_, rfl, "zip", _, hT, F.slot_zip_next.lookup, h⟩
/-- zip(..) of tuples -/
theorem meets_zipN (ls : List Addr) (hl : ls.length ≤ 1000) : Meets (Builtin.«zip.__new__» ⟨.type "zip" :: ls.map Value.ref, []⟩) (fun _ R s => (∀ (t : Nat) (l : Addr), ls[t]? = some l → ∃ items, SqOf (kd t) s.heap l items) ∧
    ∀ h' its, ZSt kd h' (s.heap.objs.size + ls.length + 2) (s.heap.objs.size + ls.length) (s.heap.objs.size + ls.length + 1) its ls 0 → its = (List.range ls.length).map (s.heap.objs.size + ·) → (∀ c o, s.heap.get? c = some o → h'.get? c = some o) → R (.ok (.ret (.ref (s.heap.objs.size + ls.length + 2)))) { s with heap := h' }) :=
  .of_wp fun prog w A R s ⟨ht, h⟩ => by
    have hsub := sub_zip
    obtain ⟨hp, g, d, tk, os⟩ := s
    wp_walk
    show wpAny (model prog w) A.in1 (forIn (ls.map Value.ref) (#[] : Array Value) (fun x its => do let v ← holding its.toList (pyIter x); pure (ForInStep.yield (its.push v)))) _ _ _
    refine forIn_wp (fun j r s' => r = ((List.range j).map fun t => Value.ref (hp.objs.size + t)).toArray ∧ ∃ hh, s' = ⟨hh, g, d, tk, os⟩ ∧ hh.objs.size = hp.objs.size + j ∧ (∀ (t : Nat) (l : Addr), t < j → ls[t]? = some l → SqIter (kd t) hh (hp.objs.size + t) l 0) ∧ ∀ c o, hp.get? c = some o → hh.get? c = some o) _ 0 _ _
      ⟨rfl, hp, rfl, rfl, fun t l ht => absurd ht (Nat.not_lt_zero _), fun _ _ e => e⟩ (fun j x r s' e hq => ?_) fun r s' hq => ?_
    · obtain ⟨rfl, hh, rfl, hsz, hit, hold⟩ := hq
      rw [Nat.zero_add] at *
      obtain ⟨l, el, rfl⟩ : ∃ l, ls[j]? = some l ∧ x = Value.ref l := by
        rw [List.getElem?_map] at e
        cases hj : ls[j]? with
        | none => rw [hj] at e; cases e
        | some a => rw [hj] at e; cases e; exact ⟨a, rfl, rfl⟩
      obtain ⟨items, htl⟩ := ht j l el
      have htl' : SqOf (kd j) hp l items := htl
      refine wpAny_bind (wpAny_holding (sq_pyIter (s := ⟨hh, g, d, tk, os⟩) (htl'.at fun o e => hold l o e) fun ob hob => wpAny_pure ⟨_, rfl, ?_, _, rfl, ?_, ?_, ?_⟩))
      · rw [List.range_succ, List.map_append]
        show Array.push _ (Value.ref hh.objs.size) = _
        rw [hsz]
        simp
      · rw [Heap.size_push, hsz]; omega
      · intro t l' ht' el'
        by_cases htj : t = j
        · subst htj
          rw [el] at el'; cases el'
          rw [← hsz]
          exact hob
        · exact (hit t l' (by omega) el').at fun o e => Heap.get?_push_of_some _ e
      · exact fun c o e => Heap.get?_push_of_some _ (hold c o e)
    · obtain ⟨rfl, hh, rfl, hsz, hit, hold⟩ := hq
      rw [Nat.zero_add, List.length_map] at *
      have line : (1000 : Nat) ≤ sizeLine := (by decide)
      refine wpAny_pure ?_
      refine wpAny_bind (wpAny_newTuple ?_ (by simp; omega))
      refine wpAny_bind (wpAny_newTuple ?_ (by simp; omega))
      show wpAny _ _ (newObj (.type "zip") (.fields #[.none, .bool false, .bool false, _, _]) >>= _) _ _ _
      refine wpAny_bind (wpAny_newObj_type ?_)
      have e1 : ((List.range ls.length).map fun t => Value.ref (hp.objs.size + t)).toArray.toList = ((List.range ls.length).map (hp.objs.size + ·)).map Value.ref := by simp
      have s1 : (hh.push { cls := .type "tuple", data := .seq (((List.range ls.length).map fun t => Value.ref (hp.objs.size + t)).toArray.toList).toArray }).objs.size = hp.objs.size + ls.length + 1 := by rw [Heap.size_push, hsz]
      refine wpAny_pure ⟨_, rfl, ?_⟩
      have hgo := h
      simp only at hgo
      rw [e1] at s1 ⊢
      generalize hits : (List.range ls.length).map (hp.objs.size + ·) = its at *
      have lits : its.length = ls.length := by rw [← hits]; simp
      generalize hA : hh.push { cls := .type "tuple", data := .seq (its.map Value.ref).toArray } = h1 at *
      have zA : h1.objs.size = hp.objs.size + ls.length + 1 := s1
      generalize hB : h1.push { cls := .type "tuple", data := .seq ((its.map Value.ref).map fun _ => Value.none).toArray } = h2 at *
      have zB : h2.objs.size = hp.objs.size + ls.length + 2 := by rw [← hB, Heap.size_push, zA]
      have up : ∀ c o, hh.get? c = some o → h2.get? c = some o := fun c o e => by rw [← hB, ← hA]; exact Heap.get?_push_of_some _ (Heap.get?_push_of_some _ e)
      have gI : h2.get? (hp.objs.size + ls.length) = some { cls := .type "tuple", data := .seq (its.map Value.ref).toArray } := by
        rw [← hB]
        refine Heap.get?_push_of_some _ ?_
        rw [← hA, ← hsz]
        exact Heap.get?_push_size _ rfl
      have gO : h2.get? (hp.objs.size + ls.length + 1) = some { cls := .type "tuple", data := .seq ((its.map Value.ref).map fun _ => Value.none).toArray } := by
        rw [← hB, ← zA]
        exact Heap.get?_push_size _ rfl
      show R (.ok (.ret (.ref h2.objs.size))) ⟨h2.push { cls := .type "zip", data := .fields #[.none, .bool false, .bool false, .ref hh.objs.size, .ref h1.objs.size] }, g, d, tk, os⟩
      rw [hsz, zA]
      have gZ := Heap.get?_push_size h2 (o := { cls := .type "zip", data := .fields #[.none, .bool false, .bool false, .ref (hp.objs.size + ls.length), .ref (hp.objs.size + ls.length + 1)] }) rfl
      rw [zB] at gZ ⊢
      refine hgo _ its ⟨⟨_, _, gZ, .inl rfl⟩, Heap.get?_push_of_some _ gI, ⟨_, _, Heap.get?_push_of_some _ gO, by simp⟩, fun t a l e2 e3 => ?_⟩ rfl fun c o e => Heap.get?_push_of_some _ (up c o (hold c o e))
      have ht3 : t < ls.length := (List.getElem?_eq_some_iff.mp e3).1
      have ea : a = hp.objs.size + t := by
        rw [← hits, List.getElem?_map, List.getElem?_range ht3] at e2
        cases e2; rfl
      subst ea
      exact (hit t l ht3 e3).at fun o e => Heap.get?_push_of_some _ (up _ o e)
end
end DD
namespace DD
open PySem PySem.Spec PyProof.Rows L2
theorem typeCall_zip1 (a : Value) : checkTypeCall "zip" ⟨[a], []⟩ = pure () := by kernel_rfl
theorem typeCall_zip3 (a b c : Value) : checkTypeCall "zip" ⟨[a, b, c], []⟩ = pure () := by kernel_rfl
theorem typeCall_zip4 (a b c d : Value) : checkTypeCall "zip" ⟨[a, b, c, d], []⟩ = pure () := by kernel_rfl
theorem newCall_zip1 (a : Value) : checkBuiltinCall "zip.__new__" ⟨[.type "zip", a], []⟩ = pure () := by kernel_rfl
theorem newCall_zip3 (a b c : Value) : checkBuiltinCall "zip.__new__" ⟨[.type "zip", a, b, c], []⟩ = pure () := by kernel_rfl
theorem newCall_zip4 (a b c d : Value) : checkBuiltinCall "zip.__new__" ⟨[.type "zip", a, b, c, d], []⟩ = pure () := by kernel_rfl
theorem initOk4 (a b c d : Value) : argsOk "object.__init__" ⟨[a, b, c, d], []⟩ := by
  unfold argsOk
  rw [signature?_of (id := "object.__init__") (n := ['_', '_', 't', 'i', 'n', 'i', '_', '_']) (o := ['t', 'c', 'e', 'j', 'b', 'o']) (by kernel_rfl) F.owner_object]
  kernel_rfl
theorem initOk5 (a b c d e : Value) : argsOk "object.__init__" ⟨[a, b, c, d, e], []⟩ := by
  unfold argsOk
  rw [signature?_of (id := "object.__init__") (n := ['_', '_', 't', 'i', 'n', 'i', '_', '_']) (o := ['t', 'c', 'e', 'j', 'b', 'o']) (by kernel_rfl) F.owner_object]
  kernel_rfl
section
variable {prog : Program} {w : World} {A : Around} {E : Value → Shared → Prop} {s : Shared} {kd : Nat → Bool}
theorem call_zipN {ls : List Addr} {Q : Value → Shared → Prop} (h0 : ls ≠ []) (h4 : ls.length ≤ 4) (ht : ∀ (t : Nat) (l : Addr), ls[t]? = some l → ∃ items, SqOf (kd t) s.heap l items)
    (h : ∀ h' its, ZSt kd h' (s.heap.objs.size + ls.length + 2) (s.heap.objs.size + ls.length) (s.heap.objs.size + ls.length + 1) its ls 0 → its = (List.range ls.length).map (s.heap.objs.size + ·) → (∀ c o, s.heap.get? c = some o → h'.get? c = some o) → Q (.ref (s.heap.objs.size + ls.length + 2)) { s with heap := h' }) :
    wpAny (model prog w) A (call (.type "zip") (ls.map Value.ref)) Q E s := by
  have hct : checkTypeCall "zip" ⟨ls.map Value.ref, []⟩ = pure () := by
    match ls, h0, h4 with
    | [a], _, _ => exact typeCall_zip1 _
    | [a, b], _, _ => exact F.typeCall_zip_2 _ _
    | [a, b, c], _, _ => exact typeCall_zip3 _ _ _
    | [a, b, c, d], _, _ => exact typeCall_zip4 _ _ _ _
    | _ :: _ :: _ :: _ :: _ :: _, _, h => simp at h
  have hcn : checkBuiltinCall "zip.__new__" ⟨.type "zip" :: ls.map Value.ref, []⟩ = pure () := by
    match ls, h0, h4 with
    | [a], _, _ => exact newCall_zip1 _
    | [a, b], _, _ => exact F.newCall_zip_2 _ _
    | [a, b, c], _, _ => exact newCall_zip3 _ _ _
    | [a, b, c, d], _, _ => exact newCall_zip4 _ _ _ _
    | _ :: _ :: _ :: _ :: _ :: _, _, h => simp at h
  have hok : ∀ obj, argsOk "object.__init__" ⟨obj :: ls.map Value.ref, []⟩ := fun obj => by
    match ls, h0, h4 with
    | [a], _, _ => exact F.args_object_init_2 _ _
    | [a, b], _, _ => exact F.args_object_init_3 _ _ _
    | [a, b, c], _, _ => exact initOk4 _ _ _ _
    | [a, b, c, d], _, _ => exact initOk5 _ _ _ _ _
    | _ :: _ :: _ :: _ :: _ :: _, _, h => simp at h
  have h5 : ls.length ≤ 1000 := by omega
  refine callType_new F.called_zip (by decide) hct hcn hok F.entry_zip_new (meets_zipN (kd := kd) ls h5) ?_
  refine ⟨ht, fun h' its hz he hk => ?_⟩
  obtain ⟨f0, f1, hzo, _⟩ := hz.zo
  exact ⟨⟨_, hzo, rfl⟩, h h' its hz he hk⟩
end
/-- a list or a tuple, by its kind -/
def SqK (k : Bool) (K : PySem.W.Frag) (H : Hp) (a : Addr) (row : List V) : Prop := if k = true then SqL K H a row else SqT K H a row
theorem SqK.mono {k : Bool} {K : PySem.W.Frag} {H H' : Hp} {a : Addr} {row : List V} (e : Same H H') (h : SqK k K H a row) : SqK k K H' a row := by
  cases k
  · exact sameT e h
  · exact e.seq h
theorem sqk_inv {X : Cx} {pins : List (Addr × Obj)} {σ : L2.St} {H : Hp} {s : Shared} (I : Inv X pins σ H s) {k : Bool} {a : Addr} {row : List V} (h : SqK k X.K H a row) : ∃ its : List Value, Vals row its ∧ SqOf k s.heap a its.toArray ∧ row.length ≤ sizeLine := by
  cases k
  · obtain ⟨its, r, p, z⟩ := I.tuple h
    exact ⟨its, r, p, z⟩
  · obtain ⟨its, r, p, z⟩ := I.list h
    exact ⟨its, r, p.isList, z⟩
theorem sqk_inj {X : Cx} {pins : List (Addr × Obj)} {σ : L2.St} {H : Hp} {s : Shared} (I : Inv X pins σ H s) {k : Bool} {a : Addr} {row row' : List V} (h : SqK k X.K H a row) (h' : SqK k X.K H a row') : row = row' := by
  cases k
  · exact I.tuple_inj h h'
  · exact I.list_inj h h'
/-- the sequences at as, turn by turn: new tuples of their items -/
def Itn (K : PySem.W.Frag) (kd : Nat → Bool) (as : List Addr) : It :=
  ⟨fun i H => ∀ (t : Nat) (a : Addr), as[t]? = some a → ∃ row x, SqK (kd t) K H a row ∧ row[i]? = some x,
    fun i H v H' => ∃ T xs, v = .ref T ∧ H T = none ∧ H' = upd H T (.tup xs) ∧ xs.length = as.length ∧ ∀ (t : Nat) (a : Addr) (row : List V), as[t]? = some a → SqK (kd t) K H a row → ∃ x, xs[t]? = some x ∧ row[i]? = some x,
    fun i H => ∃ t a row, as[t]? = some a ∧ SqK (kd t) K H a row ∧ row.length ≤ i ∧ ∀ (u : Nat) (b : Addr), u < t → as[u]? = some b → ∃ row x, SqK (kd u) K H b row ∧ row[i]? = some x⟩
theorem zip_go {prog : Program} {w : World} {A : Around} {E : Value → Shared → Prop} {s : Shared} {tg : Expr} {z TI TO T : Addr} {its as : List Addr} {i : Nat} {kd : Nat → Bool} {R : Unit → Shared → Prop} (D : ZAp z TI TO its as) (st : ZSt kd s.heap z TI TO its as i)
    (hR : ∀ h2, ZSt kd h2 z TI TO its as i → (∀ c o, c ≠ z → s.heap.get? c = some o → h2.get? c = some o) → R () { s with heap := h2 }) : wpAny (model prog w) A (letOwnedTupleGo tg (.ref z) (.ref T)) R E s := by
  have plain : wpAny (model prog w) A (pure ()) R E s := wpAny_pure (hR s.heap st fun _ _ _ e => e)
  obtain ⟨f0, f1, hz, hf0⟩ := id st.zo
  have hit : ∀ {R' : Unit → Shared → Prop}, (∀ s', R () s' → R' () s') → wpAny (model prog w) A (setField (.ref z) 0 .none) R' E s := fun {R'} hw => by
    refine wpAny_setField_rec hz (by simp) fun h2 hz2 hs2 => hw _ (hR h2 ?_ fun c o hc e => (hs2.2 c hc).trans e)
    obtain ⟨kp, k0, hTO, hks⟩ := st.to
    exact ⟨⟨.none, f1, hz2, .inl rfl⟩, (hs2.2 _ D.TIz).trans st.ti, ⟨kp, k0, (hs2.2 _ D.TOz).trans hTO, hks⟩, fun t a l e1 e2 => (st.it t a l e1 e2).at fun o e => (hs2.2 a (D.itz (List.mem_of_getElem? e1)).1).trans e⟩
  unfold letOwnedTupleGo
  split
  · refine wpAny_bind (wpAny_load hz ?_)
    simp only [ZObj]
    split
    · exact wpAny_bind (wpAny_rule (hit fun _ h => h))
    · exact plain
  · refine wpAny_bind (wpAny_load hz ?_)
    simp only [ZObj]
    split
    · exact wpAny_bind (wpAny_rule (hit fun _ h => h))
    · exact plain
  · exact plain
theorem turn_zipN {P : Program} {w : World} {K : PySem.W.Frag} {tg : Expr} {z TI TO : Addr} {its as : List Addr} {kd : Nat → Bool} (D : ZAp z TI TO its as) : Turn P w K tg (Itn K kd as) (z :: TI :: TO :: its) z (fun i h => ZSt kd h z TI TO its as i) where
  mem := by simp
  obj := fun i h st c hc => by
    obtain ⟨f0, f1, hz, _⟩ := st.zo
    obtain ⟨kp, k0, hTO, _⟩ := st.to
    simp only [List.mem_cons] at hc
    rcases hc with rfl | rfl | rfl | hc
    · exact ⟨_, hz, fun v q => nomatch q⟩
    · exact ⟨_, st.ti, fun v q => nomatch q⟩
    · exact ⟨_, hTO, fun v q => nomatch q⟩
    · obtain ⟨t, ht⟩ := List.getElem?_of_mem hc
      have hl : t < as.length := by rw [D.len]; exact (List.getElem?_eq_some_iff.mp ht).1
      obtain ⟨o, ho, _, hd⟩ := (st.it t c as[t] ht (List.getElem?_eq_getElem hl)).ex
      exact ⟨o, ho, fun v q => by rw [hd] at q; cases q⟩
  keep := fun i h h' st k => by
    obtain ⟨f0, f1, hz, hf⟩ := st.zo
    obtain ⟨kp, k0, hTO, hs⟩ := st.to
    exact ⟨⟨f0, f1, k z (by simp) _ hz, hf⟩, k TI (by simp) _ st.ti, ⟨kp, k0, k TO (by simp) _ hTO, hs⟩, fun t a l e1 e2 => (st.it t a l e1 e2).at fun o q => k a (by simp [List.mem_of_getElem? e1]) o q⟩
  item := by
    intro X hP hw hK hc i pins s σ H E I hf st hg
    subst hP hw hK
    have hg' : ∀ (t : Nat) (a : Addr), as[t]? = some a → ∃ row x, SqK (kd t) X.K H a row ∧ row[i]? = some x := hg
    -- the values, one a tuple
    have vals : ∀ (bs : List Addr) (off : Nat), (∀ (t : Nat) (a : Addr), bs[t]? = some a → ∃ row x, SqK (kd (off + t)) X.K H a row ∧ row[i]? = some x) → ∃ (xs : List V) (us : List Value), Vals xs us ∧ xs.length = bs.length ∧ ∀ (t : Nat) (a : Addr), bs[t]? = some a → ∃ x u row items, xs[t]? = some x ∧ us[t]? = some u ∧ SqK (kd (off + t)) X.K H a row ∧ row[i]? = some x ∧ SqOf (kd (off + t)) s.heap a items ∧ items[i]? = some u := by
      intro bs
      induction bs with
      | nil => intro _ _; exact ⟨[], [], .nil, rfl, fun t a e => by simp at e⟩
      | cons b bs ih =>
        intro off hb
        obtain ⟨xs, us, r, hl, q⟩ := ih (off + 1) fun t a e => by
          have := hb (t + 1) a (by simpa using e)
          rwa [show off + (t + 1) = off + 1 + t by omega] at this
        obtain ⟨row, x, sq, hx⟩ := hb 0 b rfl
        obtain ⟨its', rv, p, _⟩ := sqk_inv I sq
        obtain ⟨u, hu, ru⟩ := rv.get hx
        refine ⟨x :: xs, u :: us, .cons ru r, by simp [hl], fun t a e => ?_⟩
        cases t with
        | zero =>
          simp at e
          subst e
          exact ⟨x, u, row, _, rfl, rfl, sq, hx, p, by simpa using hu⟩
        | succ t =>
          have := q t a (by simpa using e)
          rw [show off + 1 + t = off + (t + 1) by omega] at this
          simpa using this
    obtain ⟨xs, us, rv, hlx, q⟩ := vals as 0 fun t a e => by rw [Nat.zero_add]; exact hg' t a e
    simp only [Nat.zero_add] at q
    obtain ⟨f0', f1', hz0, _⟩ := id st.zo
    have hzl : ∀ c ∈ z :: TI :: TO :: its, c < s.heap.objs.size := fun c hc => by
      obtain ⟨kp, k0, hTO, _⟩ := st.to
      simp only [List.mem_cons] at hc
      rcases hc with rfl | rfl | rfl | hc
      · exact Heap.lt_size hz0
      · exact Heap.lt_size st.ti
      · exact Heap.lt_size hTO
      · obtain ⟨t, ht⟩ := List.getElem?_of_mem hc
        have hl : t < as.length := by rw [D.len]; exact (List.getElem?_eq_some_iff.mp ht).1
        obtain ⟨o, ho, _, hd⟩ := (st.it t c as[t] ht (List.getElem?_eq_getElem hl)).ex
        exact Heap.lt_size ho
    have hus : us.length = its.length := by rw [← rv.length, hlx, D.len]
    have hux : ∀ (t : Nat) (l : Addr) (x : Value), as[t]? = some l → us[t]? = some x → ∃ items, SqOf (kd t) s.heap l items ∧ items[i]? = some x := fun t l x e1 e2 => by
      obtain ⟨x', u, row, items, _, e4, _, _, e5, e6⟩ := q t l e1
      rw [e2] at e4
      cases e4
      exact ⟨items, e5, e6⟩
    apply zipN_item D st hus hux
    intro h' st' hT hsz hk
    refine ⟨_, rfl, ?_⟩
    refine zip_go (s := { s with heap := h' }) D st' fun h2 st2 hk2 => ?_
    have hT2 : h2.get? s.heap.objs.size = some { cls := .type "tuple", data := .seq us.toArray } := hk2 _ _ (Nat.ne_of_gt (hzl z (by simp))) hT
    have few := D.few
    have line : (1000 : Nat) ≤ sizeLine := by decide
    have new : ObjOk X.prog X.w (upd H s.heap.objs.size (.tup xs)) h2 s.heap.objs.size (.tup xs) := ⟨by rw [hlx, D.len]; omega, us, rv, ⟨_, hT2, rfl, _, rfl⟩⟩
    have I1 : Inv X pins σ (upd H s.heap.objs.size (.tup xs)) { s with heap := h2 } :=
      I.turnedNew (t' := s.toks) (ch := z :: TI :: TO :: its) (fun c o hb e => hk2 c o (fun q => hb (by simp [q])) (hk c o (fun hm => hb (by
        simp only [List.mem_cons] at hm ⊢
        rcases hm with h | h | h
        · exact .inl h
        · exact .inr (.inr (.inl h))
        · exact .inr (.inr (.inr h)))) e)) hf (Nat.le_refl _) new
    have hy : (Itn X.K kd as).yld i H (.ref s.heap.objs.size) (upd H s.heap.objs.size (.tup xs)) := by
      refine ⟨s.heap.objs.size, xs, rfl, I.hok.fresh (Nat.le_refl _), rfl, hlx, fun t a row e1 e2 => ?_⟩
      obtain ⟨x', u, row', items, h1, _, h3, h4, _⟩ := q t a e1
      rw [sqk_inj I h3 e2] at h4
      exact ⟨x', h1, h4⟩
    have hfree : ∀ b ∈ z :: TI :: TO :: its, (upd H s.heap.objs.size (.tup xs)) b = none := fun c hcm => by
      rw [upd_ne (Nat.ne_of_lt (hzl c hcm))]
      exact (hf c hcm).1
    exact ⟨.ref s.heap.objs.size, upd H s.heap.objs.size (.tup xs), I1, rfl, hy, st2, hfree⟩
  done := by
    intro X hP hw hK hc i pins s σ H E I hf st hg
    subst hP hw hK
    obtain ⟨t, a, row, ha, sq, hlen, hpre⟩ := hg
    obtain ⟨its', rv, p, _⟩ := sqk_inv I sq
    have htl : t < its.length := by rw [← D.len]; exact (List.getElem?_eq_some_iff.mp ha).1
    refine zipN_end (I.ok.hd hc) D st (List.getElem?_eq_getElem htl) ha p (by rw [List.getElem?_toArray, ← List.getElem?_eq_none_iff.mpr (show its'.length ≤ i by rw [← rv.length]; exact hlen)]) (fun u l hu el => by
      obtain ⟨row', x, sq', hx'⟩ := hpre u l hu el
      obtain ⟨its2, rv2, p2, _⟩ := sqk_inv I sq'
      obtain ⟨v, hv, _⟩ := rv2.get hx'
      exact ⟨_, v, p2, by simpa using hv⟩) fun h' hk => ⟨rfl, I.turnedL (t' := s.toks) (ch := z :: TI :: TO :: its) (fun c o hb e => hk c o (fun hm => hb (by
        simp only [List.mem_cons] at hm ⊢
        rcases hm with h | h | h
        · exact .inl h
        · exact .inr (.inr (.inl h))
        · exact .inr (.inr (.inr h)))) e) hf⟩
  self := fun A i s Q E st h => let ⟨_, _, hz, _⟩ := st.zo; zip_self hz h
end DD
namespace DD
open PySem PySem.Spec PyProof.Rows L2
def iZipN (K : PySem.W.Frag) (ta : TA) : TI := fun σ H R => ta σ H fun vs H1 => ∃ (kd : Nat → Bool) (as : List Addr), vs = as.map V.ref ∧ as ≠ [] ∧ as.length ≤ 4 ∧ (∀ (t : Nat) (a : Addr), as[t]? = some a → ∃ row, SqK (kd t) K H1 a row) ∧ R (Itn K kd as) H1
theorem vals_refs : ∀ {as : List Addr} {us : List Value}, Vals (as.map V.ref) us → us = as.map Value.ref
  | [], _, .nil => rfl
  | a :: as, _, .cons r rs => by
    rw [vals_refs rs]
    cases r
    rfl
section
variable {X : Cx} {tg : Expr}
theorem zip_come {pins : List (Addr × Obj)} {s : Shared} {σ : L2.St} {H : Hp} {R : It → Hp → Prop} {as : List Addr} {kd : Nat → Bool} (I : Inv X pins σ H s) (h0 : as ≠ []) (h4 : as.length ≤ 4) (ht : ∀ (t : Nat) (a : Addr), as[t]? = some a → ∃ row, SqK (kd t) X.K H a row) (hR : R (Itn X.K kd as) H) :
    wpAny (model X.prog X.w) X.A (call (.type "zip") (as.map Value.ref)) (fun v s1 => wpAny (model X.prog X.w) X.A (pyIter v) (PIE X pins σ tg R) X.xe s1) X.xe s := by
  have htl : ∀ a : Nat, a ∈ as → a < s.heap.objs.size := fun a ha => by
    obtain ⟨t, hta⟩ := List.getElem?_of_mem ha
    obtain ⟨row, sq⟩ := ht t a hta
    obtain ⟨its, _, p, _⟩ := sqk_inv I sq
    generalize kd t = k at p
    cases k
    · obtain ⟨o, ho, _⟩ := (show s.heap.IsTuple a _ from p)
      exact Heap.lt_size ho
    · obtain ⟨o, ho, _⟩ := (show s.heap.IsList a _ from p)
      exact Heap.lt_size ho
  refine call_zipN (kd := kd) h0 h4 (fun t l hl => by obtain ⟨row, sq⟩ := ht t l hl; obtain ⟨its, _, p, _⟩ := sqk_inv I sq; exact ⟨_, p⟩) fun h' its hz he hk => ?_
  obtain ⟨f0, f1, hzo, _⟩ := id hz.zo
  refine zip_self hzo ?_
  have I2 : Inv X pins σ H { s with heap := h' } := I.kept (t' := s.toks) hk
  have hle : ∀ c : Nat, c ∈ (s.heap.objs.size + as.length + 2) :: (s.heap.objs.size + as.length) :: (s.heap.objs.size + as.length + 1) :: its → s.heap.objs.size ≤ c := fun c hc => by
    simp only [List.mem_cons] at hc
    rcases hc with rfl | rfl | rfl | hc
    · omega
    · omega
    · omega
    · rw [he] at hc
      obtain ⟨t, _, rfl⟩ := List.mem_map.mp hc
      omega
  have D : ZAp (s.heap.objs.size + as.length + 2) (s.heap.objs.size + as.length) (s.heap.objs.size + as.length + 1) its as := by
    have hi : ∀ c : Nat, c ∈ its → c < s.heap.objs.size + as.length := fun c hc => by
      rw [he] at hc
      obtain ⟨t, ht, rfl⟩ := List.mem_map.mp hc
      have := List.mem_range.mp ht
      omega
    refine ⟨?_, by rw [he]; simp, by rw [he]; simp; omega, ?_, fun l hl hm => ?_⟩
    · rw [he]
      intro e
      have : as.length = 0 := by simpa using congrArg List.length e
      exact h0 (List.eq_nil_of_length_eq_zero this)
    · refine List.nodup_cons.mpr ⟨fun hm => ?_, List.nodup_cons.mpr ⟨fun hm => ?_, List.nodup_cons.mpr ⟨fun hm => ?_, ?_⟩⟩⟩
      · simp only [List.mem_cons] at hm
        rcases hm with e | e | e
        · exact absurd (show (_ : Nat) = _ from e) (by omega)
        · exact absurd (show (_ : Nat) = _ from e) (by omega)
        · have := hi _ e; omega
      · simp only [List.mem_cons] at hm
        rcases hm with e | e
        · exact absurd (show (_ : Nat) = _ from e) (by omega)
        · have := hi _ e; omega
      · have := hi _ hm; omega
      · rw [he]
        exact (List.pairwise_map.mpr (List.nodup_range.imp (fun {a b} h e => h (Nat.add_left_cancel e))))
    · have := hle l hm
      have := htl l hl
      omega
  exact ⟨_, _, _, _, H, rfl, I2, turn_zipN D, hz, fun b hb => I.fpOk (hle b hb) (I.hok.fresh (hle b hb)), hR⟩
theorem callWith_typeS {M : Model} {A : Around} {E : Value → Shared → Prop} {s : Shared} {env : Env} {pos p : Pos} {T : String} {e : Expr} {Q : Value → Shared → Prop}
    (h : wpAny M A (eval e env) (fun v s₁ => PySem.W.StarOf M A E v (fun vs s₂ => wpAny M A (call (.type T) vs) Q E s₂) s₁) E s)
    (he : starEach [.Starred e p] env = [(true, eval e env)] := by rfl) :
    wpAny M A (callWith pos (.type T) [] (backTo pos (starEach [.Starred e p] env)) []) Q E s := by
  rw [he]
  refine PySem.W.ks_call (P := fun _ => True) rfl (fun h _ => ⟨.machine, .inr (.inl rfl), PySem.W.Looks.now⟩) (PySem.W.ks_lone (wpAny_mono h (fun v s1 h1 => ?_) fun _ _ x => x))
  unfold PySem.W.StarOf at h1 ⊢
  exact wpAny_mono h1 (fun b s2 h2 => ⟨h2.1, wpAny_mono h2.2 (fun vs s3 h3 => ⟨trivial, h3⟩) fun _ _ x => x⟩) fun _ _ x => x
/-- zip(*e) -/
def iZipS (K : PySem.W.Frag) (te : TE) : TI := fun σ H R => te σ H fun x H1 => ∃ (kd : Nat → Bool) (p : Addr) (as : List Addr), x = V.ref p ∧ (SqT K H1 p (as.map V.ref) ∨ SqL K H1 p (as.map V.ref)) ∧ as ≠ [] ∧ as.length ≤ 4 ∧ (∀ (t : Nat) (a : Addr), as[t]? = some a → ∃ row, SqK (kd t) K H1 a row) ∧ R (Itn K kd as) H1
theorem pi_zipS {e : Expr} {te : TE} {p sp pos : Pos} (hg : Gl X "zip") (hm : X.mg "zip" = none) (he : PE X e te) (hs : starEach [.Starred e sp] X.env = [(true, eval e X.env)] := by rfl) :
    PI X tg (.Call (.Name "zip" p) [.Starred e sp] [] pos) (iZipS X.K te) := by
  refine ⟨fun pins s σ H R I h => ?_⟩
  refine Call_ (ld_blt I hg hm PyProof.Rows.boot_zip (callWith_typeS (thn (he.run pins s σ H _ I h) fun v s1 ⟨x, H1, I1, r1, q1⟩ => ?_) hs))
  obtain ⟨kd, a, as, ex, hx, h0, h4, ht, q⟩ := q1
  subst ex
  obtain rfl : v = Value.ref a := r1
  refine StX.star_any I1 hx fun us s2 I2 rv => ?_
  rw [vals_refs rv]
  exact zip_come I2 h0 h4 ht q
theorem pi_zipN {e : Expr} {es : List Expr} {ta : TA} {p pos : Pos} (hg : Gl X "zip") (hm : X.mg "zip" = none) (ha : PA X (e :: es) ta)
    (hs : starEach (e :: es) X.env = (false, eval e X.env) :: starEach es X.env := by rfl) (hpl : (backTo pos (starEach es X.env)).any (·.1) = false := by rfl) :
    PI X tg (.Call (.Name "zip" p) (e :: es) [] pos) (iZipN X.K ta) := by
  refine ⟨fun pins s σ H R I h => ?_⟩
  refine Call_ (ld_blt I hg hm PyProof.Rows.boot_zip (PyProof.Rows.callWith_type1 (thn (ha.run pos pins s σ H _ I h) fun us s1 ⟨vs, H1, I1, r1, q1⟩ => ?_) hs hpl))
  obtain ⟨kd, as, ex, h0, h4, ht, q⟩ := q1
  subst ex
  rw [vals_refs r1]
  exact zip_come I1 h0 h4 ht q
end
/-- the rows of a table: tuples or lists -/
def rowsD : List D → Option (List (List D))
  | [] => some []
  | .tuple r :: ds => (rowsD ds).map (r :: ·)
  | .list r :: ds => (rowsD ds).map (r :: ·)
  | _ :: _ => none
def kindsD : List D → List Bool
  | [] => []
  | .list _ :: ds => true :: kindsD ds
  | _ :: ds => false :: kindsD ds
/-- the least length -/
def leastL : Nat → List (List D) → Nat
  | n, [] => n
  | n, r :: rs => leastL (min n r.length) rs
theorem leastL_le : ∀ (n : Nat) (rs : List (List D)), leastL n rs ≤ n
  | n, [] => Nat.le_refl _
  | n, r :: rs => Nat.le_trans (leastL_le _ rs) (Nat.min_le_left ..)
theorem leastL_mem : ∀ (n : Nat) (rs : List (List D)) (r : List D), r ∈ rs → leastL n rs ≤ r.length
  | n, r' :: rs, r, h => by
    rcases List.mem_cons.mp h with rfl | h
    · exact Nat.le_trans (leastL_le _ rs) (Nat.min_le_right ..)
    · exact leastL_mem _ rs r h
theorem leastL_eq : ∀ (n : Nat) (rs : List (List D)), (∀ r ∈ rs, n ≤ r.length) → leastL n rs = n
  | n, [], _ => rfl
  | n, r :: rs, h => by
    unfold leastL
    rw [Nat.min_eq_left (h r List.mem_cons_self)]
    exact leastL_eq n rs fun x hx => h x (List.mem_cons_of_mem _ hx)
/-- the first that is that short -/
theorem leastL_at : ∀ (r : List D) (rs : List (List D)), ∃ (t : Nat) (x : List D), (r :: rs)[t]? = some x ∧ x.length = leastL r.length rs ∧ ∀ (u : Nat) (y : List D), u < t → (r :: rs)[u]? = some y → leastL r.length rs < y.length := by
  intro r rs
  have ex : ∃ (t : Nat) (x : List D), (r :: rs)[t]? = some x ∧ x.length = leastL r.length rs := by
    have gen : ∀ (n : Nat) (rs : List (List D)), leastL n rs = n ∨ ∃ x ∈ rs, x.length = leastL n rs := by
      intro n rs
      induction rs generalizing n with
      | nil => exact .inl rfl
      | cons a rs ih =>
        unfold leastL
        rcases ih (min n a.length) with h | ⟨x, hx, e⟩
        · rcases Nat.le_total n a.length with h2 | h2
          · left; rw [h, Nat.min_eq_left h2]
          · right; exact ⟨a, List.mem_cons_self, by rw [h, Nat.min_eq_right h2]⟩
        · exact .inr ⟨x, List.mem_cons_of_mem _ hx, e⟩
    rcases gen r.length rs with h | ⟨x, hx, e⟩
    · exact ⟨0, r, rfl, h.symm⟩
    · obtain ⟨t, ht⟩ := List.getElem?_of_mem hx
      exact ⟨t + 1, x, by simpa using ht, e⟩
  obtain ⟨t, x, h1, h2⟩ := ex
  induction t using Nat.strongRecOn generalizing x with
  | ind t ih =>
    by_cases hc : ∃ (u : Nat) (y : List D), u < t ∧ (r :: rs)[u]? = some y ∧ y.length = leastL r.length rs
    · obtain ⟨u, y, hu, e1, e2⟩ := hc
      exact ih u hu y e1 e2
    · refine ⟨t, x, h1, h2, fun u y hu e => ?_⟩
      have hle : leastL r.length rs ≤ y.length := by
        cases u with
        | zero => simp at e; subst e; exact leastL_le _ _
        | succ u => exact leastL_mem _ _ _ (List.mem_of_getElem? (by simpa using e))
      rcases Nat.lt_or_eq_of_le hle with h | h
      · exact h
      · exact absurd ⟨u, y, hu, e, h.symm⟩ hc
def zipD (ds : List D) : Option (List D) :=
  match rowsD ds with
  | some (r :: rs) => if rs.length ≤ 3 then some ((List.range (leastL r.length rs)).map fun i => .tuple ((r :: rs).map fun x => x.getD i .none)) else none
  | _ => none
theorem zipD_old {ds : List D} {r : List D} {rs : List (List D)} (h : rowsD ds = some (r :: rs)) (h3 : rs.length ≤ 3) (hl : ∀ x ∈ rs, r.length ≤ x.length) : zipD ds = some ((List.range r.length).map fun i => .tuple ((r :: rs).map fun x => x.getD i .none)) := by
  unfold zipD
  rw [h]
  simp only
  rw [if_pos h3, leastL_eq _ _ hl]
theorem rows_da {K : PySem.W.Frag} {G : Hp} : ∀ {ds : List D} {rs : List (List D)} {xs : List V}, DaAll K G xs ds → rowsD ds = some rs → ∃ as : List Addr, xs = as.map V.ref ∧ as.length = rs.length ∧ ∀ (t : Nat) (a : Addr), as[t]? = some a → ∃ row r, SqK ((kindsD ds).getD t false) K G a row ∧ rs[t]? = some r ∧ DaAll K G row r
  | [], rs, _, .nil, e => by cases e; exact ⟨[], rfl, rfl, fun t a h => by simp at h⟩
  | .tuple r :: ds, rs, _, .cons h hs, e => by
    unfold rowsD at e
    obtain ⟨rs', e', rfl⟩ := Option.map_eq_some_iff.mp e
    obtain ⟨as, ex, el, q⟩ := rows_da hs e'
    obtain ⟨a, xs, rfl, sq, da⟩ := h.toT
    refine ⟨a :: as, by rw [ex]; rfl, by simp [el], fun t b hb => ?_⟩
    cases t with
    | zero => simp at hb; subst hb; exact ⟨xs, r, sq, rfl, da⟩
    | succ t => exact q t b (by simpa using hb)
  | .list r :: ds, rs, _, .cons h hs, e => by
    unfold rowsD at e
    obtain ⟨rs', e', rfl⟩ := Option.map_eq_some_iff.mp e
    obtain ⟨as, ex, el, q⟩ := rows_da hs e'
    cases h with
    | lst hl da =>
      rename_i a xs
      refine ⟨a :: as, by rw [ex]; rfl, by simp [el], fun t b hb => ?_⟩
      cases t with
      | zero => simp at hb; subst hb; exact ⟨xs, r, SqL.of hl, rfl, da⟩
      | succ t => exact q t b (by simpa using hb)
  | .none :: _, _, _, .cons _ _, e => by cases e
  | .bool _ :: _, _, _, .cons _ _, e => by cases e
  | .int _ :: _, _, _, .cons _ _, e => by cases e
  | .str _ :: _, _, _, .cons _ _, e => by cases e
  | .dict _ :: _, _, _, .cons _ _, e => by cases e
theorem zipD_w {K : PySem.W.Frag} {G : Hp} {ds out : List D} {xs : List V} (da : DaAll K G xs ds) (e : zipD ds = some out) : ∃ (kd : Nat → Bool) (as : List Addr), xs = as.map V.ref ∧ as ≠ [] ∧ as.length ≤ 4 ∧ (∀ (t : Nat) (a : Addr), as[t]? = some a → ∃ row, SqK (kd t) K G a row) ∧ WalkD K G (Itn K kd as) out := by
  unfold zipD at e
  split at e
  · rename_i r rs er
    split at e
    · rename_i h3
      cases e
      obtain ⟨as, rfl, el, q⟩ := rows_da da er
      have hlen : ∀ (t : Nat) (x : List D), (r :: rs)[t]? = some x → leastL r.length rs ≤ x.length := fun t x hx => by
        cases t with
        | zero => simp at hx; subst hx; exact leastL_le _ _
        | succ t => exact leastL_mem _ _ x (List.mem_of_getElem? (by simpa using hx))
      refine ⟨fun t => (kindsD ds).getD t false, as, rfl, fun e => by subst e; simp at el, by simp at el; omega, fun t a ht => ?_, ?_, ?_, ?_⟩
      · obtain ⟨row, _, sq, _⟩ := q t a ht
        exact ⟨row, sq⟩
      · intro i H hi sm t a ht
        obtain ⟨row, x, sq, hx, dr⟩ := q t a ht
        have h1 := hlen t x hx
        have h2 := dr.length
        have h3 : i < row.length := by simp at hi; omega
        exact ⟨row, row[i], sq.mono sm, by simp [h3]⟩
      · intro H sm
        obtain ⟨t, x, hx, hxl, hpre⟩ := leastL_at r rs
        have ht : t < as.length := by rw [el]; exact (List.getElem?_eq_some_iff.mp hx).1
        obtain ⟨row, x', sq, hx', dr⟩ := q t as[t] (List.getElem?_eq_getElem ht)
        rw [hx] at hx'
        cases hx'
        refine ⟨t, as[t], row, List.getElem?_eq_getElem ht, sq.mono sm, by rw [dr.length, hxl]; simp, fun u b hu hb => ?_⟩
        obtain ⟨row', y, sq', hy, dr'⟩ := q u b hb
        have h1 := hpre u y hu hy
        have h2 := dr'.length
        have h3 : leastL r.length rs < row'.length := by omega
        exact ⟨row', row'[leastL r.length rs], sq'.mono sm, by simp [h3]⟩
      · intro i H G1 x H' hi sm s1 y
        obtain ⟨T, ys, rfl, hT, rfl, hyl, hy⟩ := y
        have hi' : i < leastL r.length rs := by simpa using hi
        refine ⟨.tuple ((r :: rs).map fun x => x.getD i .none), upd G1 T (.tup ys), by simp [hi'], Gr.alloc s1 hT, ?_⟩
        have gr := Gr.alloc (u := .tup ys) s1 hT
        refine .tup (.inl (.inl upd_same)) ?_
        have all : ∀ (bs : List Addr) (zs : List V) (rr : List (List D)), zs.length = bs.length → bs.length = rr.length → (∀ (t : Nat) (a : Addr), bs[t]? = some a → ∃ x row r', zs[t]? = some x ∧ row[i]? = some x ∧ rr[t]? = some r' ∧ DaAll K G row r') → DaAll K (upd G1 T (.tup ys)) zs (rr.map fun x => x.getD i .none) := by
          intro bs
          induction bs with
          | nil =>
            intro zs rr e1 e2 _
            obtain rfl := List.eq_nil_of_length_eq_zero (by simpa using e1)
            obtain rfl := List.eq_nil_of_length_eq_zero (by simpa using e2.symm)
            exact .nil
          | cons b bs ih =>
            intro zs rr e1 e2 hq
            cases zs with
            | nil => simp at e1
            | cons z zs =>
              cases rr with
              | nil => simp at e2
              | cons r1 rr =>
                refine .cons ?_ (ih zs rr (by simpa using e1) (by simpa using e2) fun t a ha => by
                  have := hq (t + 1) a (by simpa using ha)
                  simpa using this)
                obtain ⟨x, row, r', z1, z2, z3, z4⟩ := hq 0 b rfl
                simp at z1 z3
                subst z1 z3
                obtain ⟨d, z5, z6⟩ := z4.getV z2
                have : r1.getD i .none = d := by simp [List.getD, z5]
                show Da K _ z (r1.getD i .none)
                rw [this]
                exact z6.mono (sm.trans gr.g)
        refine all as ys (r :: rs) (by omega) el fun t a ha => ?_
        obtain ⟨row, x, sq, hx, dr⟩ := q t a ha
        obtain ⟨z, z1, z2⟩ := hy t a row ha (sq.mono (sm.trans s1))
        exact ⟨z, row, x, z1, z2, hx, dr⟩
    · cases e
  · cases e
section
variable {m : Type → Type} [Mo m] {X : Cx} {EX : XK} {g : List Sl} {tg : Expr}
theorem ij_zipS {e : Expr} {p sp pos : Pos} {x : m D} (hm : X.mg "zip" = none) (h : EJ X EX e g x) (hg : Gl X "zip" := by rfl) (hs : starEach [.Starred e sp] X.env = [(true, eval e X.env)] := by rfl) :
    IJ X EX tg (.Call (.Name "zip" p) [.Starred e sp] [] pos) g (x >>= fun d => Mo.lift ((itemsD d).bind zipD)) :=
  (pi_zipS hg hm h hs).weak fun σ H R ⟨B, G, n, φ, ξ, o, s, q, xw⟩ => te_one o s (fun v H1 G1 d n1 o1 g1 d1 s1 => by
    obtain ⟨out, ed, pd⟩ := Mo.sat_lift s1
    obtain ⟨ds, e1, e2⟩ := Option.bind_eq_some_iff.mp ed
    obtain ⟨a, xs, ev, sq, da⟩ := d1.seq e1
    obtain ⟨kd, as, rfl, h0, h4, ht, wk⟩ := zipD_w da e2
    refine ⟨kd, a, as, ev, ?_, h0, h4, fun t b hb => by obtain ⟨row, z⟩ := ht t b hb; exact ⟨row, z.mono o1.fm.sub⟩, q _ H1 G1 out n1 o1 g1 wk pd⟩
    rcases sq with sq | sq
    · exact .inl (sameT o1.fm.sub sq)
    · exact .inr (o1.fm.sub.seq sq)) xw
/-- zip(a, b), tuples -/
theorem ij_zip2 {a b : Expr} {p pos : Pos} {x y : m D} (hm : X.mg "zip" = none) (h : EJ X EX a g x) (h2 : EJ X EX b g y) (hg : Gl X "zip" := by rfl)
    (hs' : starEach [a, b] X.env = (false, eval a X.env) :: starEach [b] X.env := by rfl) (hs2' : starEach [b] X.env = (false, eval b X.env) :: starEach [] X.env := by rfl) (hpl : (backTo pos (starEach [b] X.env)).any (·.1) = false := by rfl) :
    IJ X EX tg (.Call (.Name "zip" p) [a, b] [] pos) g (x >>= fun d => y >>= fun e => Mo.lift (zipD [d, e])) :=
  (pi_zipN hg hm (pa_cons h (pa_cons h2 pa_nil hs2') hs') hs' hpl).weak fun σ H R ⟨B, G, n, φ, ξ, o, s, q, xw⟩ => te_one o s (fun v H1 G1 d n1 o1 g1 d1 s1 => te_one o1 s1 (fun w H2 G2 e n2 o2 g2 d2 s2 => by
    obtain ⟨out, ed, pd⟩ := Mo.sat_lift s2
    obtain ⟨kd, as, ex, h0, h4, ht, wk⟩ := zipD_w (.cons (d1.mono g2) (.cons d2 .nil)) ed
    exact ⟨kd, as, ex, h0, h4, fun t b hb => by obtain ⟨row, z⟩ := ht t b hb; exact ⟨row, z.mono o2.fm.sub⟩, q _ H2 G2 out n2 o2 (g1.trans g2) wk pd⟩) xw) xw
theorem ij_zip3 {a b c : Expr} {p pos : Pos} {x y z : m D} (hm : X.mg "zip" = none) (h : EJ X EX a g x) (h2 : EJ X EX b g y) (h3 : EJ X EX c g z) (hg : Gl X "zip" := by rfl)
    (hs' : starEach [a, b, c] X.env = (false, eval a X.env) :: starEach [b, c] X.env := by rfl) (hs2' : starEach [b, c] X.env = (false, eval b X.env) :: starEach [c] X.env := by rfl) (hs3' : starEach [c] X.env = (false, eval c X.env) :: starEach [] X.env := by rfl) (hpl : (backTo pos (starEach [b, c] X.env)).any (·.1) = false := by rfl) :
    IJ X EX tg (.Call (.Name "zip" p) [a, b, c] [] pos) g (x >>= fun d => y >>= fun e => z >>= fun f => Mo.lift (zipD [d, e, f])) :=
  (pi_zipN hg hm (pa_cons h (pa_cons h2 (pa_cons h3 pa_nil hs3') hs2') hs') hs' hpl).weak fun σ H R ⟨B, G, n, φ, ξ, o, s, q, xw⟩ => te_one o s (fun v H1 G1 d n1 o1 g1 d1 s1 => te_one o1 s1 (fun w H2 G2 e n2 o2 g2 d2 s2 => te_one o2 s2 (fun w3 H3 G3 f n3 o3 g3 d3 s3 => by
    obtain ⟨out, ed, pd⟩ := Mo.sat_lift s3
    obtain ⟨kd, as, ex, h0, h4, ht, wk⟩ := zipD_w (.cons (d1.mono (g2.trans g3)) (.cons (d2.mono g3) (.cons d3 .nil))) ed
    exact ⟨kd, as, ex, h0, h4, fun t b hb => by obtain ⟨row, z⟩ := ht t b hb; exact ⟨row, z.mono o3.fm.sub⟩, q _ H3 G3 out n3 o3 (g1.trans (g2.trans g3)) wk pd⟩) xw) xw) xw
end
end DD
namespace DD
open PySem PySem.Spec PyProof.Rows L2
/-! ### the law's call, where no repr runs around it -/
abbrev SysAt (h : Heap) : Prop := ∃ o es ep, h.get? sysModules = some o ∧ o.data = .dict es ep
def scrO (vs : List Value) : Obj := { cls := .type "list", data := .seq vs.toArray }
def scrH (K : PySem.W.Frag) (a : Addr) (vs : List Value) (ns : List Int) : Hp := fun b => if b = a ∧ K.lookup a = none then some (.frz (scrO vs) (.lst (ns.map V.int))) else none
theorem scr_at {K : PySem.W.Frag} {a b : Addr} {vs : List Value} {ns : List Int} {u : HO} (h : scrH K a vs ns b = some u) : b = a ∧ K.lookup a = none ∧ u = .frz (scrO vs) (.lst (ns.map V.int)) := by
  unfold scrH at h
  split at h
  · rename_i e
    cases h
    exact ⟨e.1, e.2, rfl⟩
  · cases h
theorem scr_seq {K : PySem.W.Frag} {h : Heap} {a : Addr} {vs : List Value} {ns : List Int} (KX : K.In h) (ha : h.get? a = some (scrO vs)) (hi : IntsAre vs ns) (hl : ns.length ≤ sizeLine) : SqL K (scrH K a vs ns) a (ns.map V.int) := by
  cases hk : K.lookup a with
  | none => exact .inl (.inr ⟨scrO vs, by unfold scrH; rw [if_pos ⟨rfl, hk⟩]⟩)
  | some o =>
    have e := (KX a o hk).symm.trans ha
    cases e
    exact .inr ⟨_, vs.toArray, _, hk, rfl, rfl, rfl, by rw [List.size_toArray, hi.length]; exact hl, by simpa using vals_ints hi⟩
theorem call_lawG {P : Program} {w : World} {K : PySem.W.Frag} {mg mb : Str → Option Value} {k : Nat} {fa a : Addr} {fd : FuncData} {x : Str} {sp : Sp} {s : Shared} {vs : List Value} {ns : List Int}
    (KX : K.In s.heap) (hns : s.heap.Ns mainGlobals mg) (hb : s.heap.Ns builtinsNs mb) (hbb : ∀ y : Str, y ≠ "__name__" → mb y = bootBuiltins y) (hlim : s.heap.NoLimit) (hy : SysAt s.heap) (hg : s.gens = #[])
    (ha : s.heap.get? a = some (scrO vs)) (hi : IntsAre vs ns) (hl : ns.length ≤ sizeLine) (hr : Room k callerA)
    (F : ∀ base : Heap, K.In base → base.Ns mainGlobals mg → SysAt base → FnG P w K mg base k fa fd [x] sp) (hbind : ∀ (s : Shared) (u : Value), BindsTo s fd ⟨[u], []⟩ [(x, u)])
    (hsp : ∀ H : Hp, SqL K H a (ns.map V.int) → sp [.ref a] H (fun v _ => v = .bl true) E0) :
    codeAny (model P w) callerA (.call (.ref fa) ⟨[.ref a], []⟩) (fun r s' => r = .ok (.ret (.bool true)) ∧ OldK s.heap s'.heap ∧ s'.os = s.os ∧ AllBare s'.gens) s := by
  have hok : HOk P w (scrH K a vs ns) s.heap := fun b u z => by
    obtain ⟨rfl, _, rfl⟩ := scr_at z
    exact ⟨ha, by rw [List.length_map]; exact hl, vs, _, vals_ints hi, ha⟩
  have noA : ∀ {b : Addr} {o : Obj} {es : Array DictEntry} {ep : Nat}, s.heap.get? b = some o → o.data = .dict es ep → scrH K a vs ns b = none := fun {b o es ep} e d => by
    cases q : scrH K a vs ns b with
    | none => rfl
    | some u =>
      obtain ⟨rfl, _, _⟩ := scr_at q
      rw [ha] at e
      cases e
      exact absurd (show Data.seq vs.toArray _ = Data.dict es ep from d) (by simp)
  have nsK : ∀ {b : Addr} {m : Str → Option Value}, s.heap.Ns b m → (hidT s.heap (scrH K a vs ns)).Ns b m := fun ⟨o, es, ep, e, d, r⟩ => ⟨o, es, ep, hidT_get e (noA e d), d, r⟩
  have hKb : K.In (hidT s.heap (scrH K a vs ns)) := fun b o e => hidT_get (KX b o e) (by
    cases q : scrH K a vs ns b with
    | none => rfl
    | some u =>
      obtain ⟨rfl, hn, _⟩ := scr_at q
      rw [hn] at e
      cases e)
  have hyb : SysAt (hidT s.heap (scrH K a vs ns)) := let ⟨o, es, ep, e, d⟩ := hy; ⟨o, es, ep, hidT_get e (noA e d), d⟩
  have hM : Mod K mg (hidT s.heap (scrH K a vs ns)) := ⟨hKb, nsK hns, ⟨mb, nsK hb, hbb⟩, let ⟨mc, h1, h2⟩ := hlim; ⟨mc, nsK h1, h2⟩⟩
  have nil : ∀ b : Addr, ¬ b ∈ frs ([] : List Env) := fun b h => by simp [frs] at h
  have e0 : Env0 P w K mg (hidT s.heap (scrH K a vs ns)) callerA [] s (scrH K a vs ns) := ⟨rfl, hM, fun b o e => of_hidT e, Nat.le_of_eq (hidT_size _ _), trivial, fun b h => absurd h (nil b), hok, .of_eq hg⟩
  refine codeAny_mono ((F _ hKb (nsK hns) hyb).run callerA [] s _ ⟨[.ref a], []⟩ [.ref a] [.ref a] _ _ hr rfl e0 (hbind s (.ref a)) (.cons rfl .nil) (hsp _ (scr_seq KX ha hi hl))) fun r s' h => ?_
  match r, h with
  | .error _, h => exact False.elim h
  | .ok (.ret u), ⟨v, H', os, bare, un, hok', r', q⟩ =>
    have q' : v = .bl true := q
    subst q'
    obtain rfl : u = Value.bool true := r'
    refine ⟨rfl, OldK.of_keep fun b o e => ?_, os, bare⟩
    cases q : scrH K a vs ns b with
    | none => exact un.keep b o e q (nil b) (by simp)
    | some z =>
      obtain ⟨rfl, _, rfl⟩ := scr_at q
      rw [ha] at e
      cases e
      exact (hok' _ _ (un.frzs _ _ _ q)).1
theorem walk_g {l : PySem.W.OpenLaw} {n k : Nat} {q : Program} {loose : List Str} {XP : (Str → Option Value) → Heap → Prop} {YP : World → Heap → Prop} {d : DefRec} {K : Params → PySem.W.Frag} {sp : World → Sp} {x : Str}
    (hn : l.most = some n) (hn2 : n ≤ sizeLine) (hdf : d.params.defaults = []) (hr : Room k callerA) (himp : importsNone q = true) (hY : ∀ (w : World) (h : Heap), YP w h → (K w.params).In h)
    (F : ∀ (w : World) (mg : Str → Option Value) (fa : Addr) (h : Heap), (K w.params).In h → h.Ns mainGlobals mg → mg d.name = some (.ref fa) →
      ∃ fd : FuncData, (∀ (s : Shared) (u : Value), BindsTo s fd ⟨[u], []⟩ [(x, u)]) ∧ ∀ base : Heap, (K w.params).In base → base.Ns mainGlobals mg → SysAt base → FnG l.prog w (K w.params) mg base k fa fd [x] (sp w))
    (hsp : ∀ (w : World) (H : Hp) (a : Addr) (ns : List Int), ns.length ≤ n → SqL (K w.params) H a (ns.map V.int) → sp w [.ref a] H (fun v _ => v = .bl true) E0) :
    PySem.W.WalkO q loose XP YP l.row.toRowW d [] (fun f vs => PySem.call f vs) := by
  refine Att.attach_call hn hdf fun w s0 s1 mg mb fa o pm cd doc a vs ns G Y ho hd hcd hmg hobj hints hlen hg => ?_
  obtain ⟨fd, hb, hF⟩ := F w mg fa _ (hY w _ Y) G.T.g hmg
  have hy : SysAt s1.heap := let ⟨_, ⟨o, es, ep, e, d, _⟩, _⟩ := (G.T.seer himp).mods; ⟨o, es, ep, e, d⟩
  exact call_lawG (hY w _ Y) G.T.g G.T.b G.T.builtins G.T.nolimit hy hg hobj hints (Nat.le_trans hlen hn2) hr hF hb fun H hS => hsp w H a ns hlen hS
end DD
namespace DD
open PySem PySem.Spec PyProof.Rows L2
/-! ### the deck: made, drawn from -/
def drawW (as : List Sl) : W D := fun n φ => ∃ many : Int, as = [.deck, .val (.int many)] ∧ 0 < many ∧ many < 1073741824 ∧ n < 2 ^ 40 ∧ ∀ r : Int, 0 ≤ r → r < many → φ (.int r) (n + 1)
def spDraw : Sp := fun vs H Q _ => ∃ (a b : Addr) (n : Nat) (many : Int), vs = [.ref a, .int many] ∧ DeckAt H a b n ∧ 0 < many ∧ many < 1073741824 ∧ n < 2 ^ 40 ∧
  ∀ (r : Int) (H' : Hp), 0 ≤ r → r < many → DeckAt H' a b (n + 1) → (∀ c o, c ≠ a → c ≠ b → H c = some o → H' c = some o) → Q (.int r) H'
def spDeck (K : PySem.W.Frag) : Sp := fun vs H Q _ => ∃ (a : Addr) (ns : List Int), vs = [.ref a] ∧ SqL K H a (ns.map V.int) ∧
  ∀ (x y : Addr) (H' : Hp), Same H H' → DeckAt H' x y 0 → Q (.ref x) H'
def spLaw (K : PySem.W.Frag) : Sp := fun vs H Q _ => ∃ (a : Addr) (ns : List Int), vs = [.ref a] ∧ SqL K H a (ns.map V.int) ∧ ∀ H', Q (.bl true) H'
theorem FnG.weak {P : Program} {w : World} {K : PySem.W.Frag} {mg : Str → Option Value} {base : Heap} {k : Nat} {f : Addr} {fd : FuncData} {ps : List Str} {sp sp' : Sp} (F : FnG P w K mg base k f fd ps sp) (h : ∀ vs H Q E, sp' vs H Q E → sp vs H Q E) : FnG P w K mg base k f fd ps sp' :=
  ⟨fun vs H Q E q => F.len vs H Q E (h _ _ _ _ q), fun A outer s H args us vs Q E r gu e b v q => F.run A outer s H args us vs Q E r gu e b v (h _ _ _ _ q)⟩
theorem drawn {P : Program} {w : World} {K : PySem.W.Frag} {mg : Str → Option Value} {base : Heap} {k : Nat} {f : Addr} {fd : FuncData} {ps : List Str} (F : FnG P w K mg base k f fd ps spDraw) : FnG P w K mg base k f fd ps (spJ K drawW) :=
  F.weak fun vs H Q E ⟨G, n, dk, as, φ, a, fm, st, q⟩ => by
    obtain ⟨many, rfl, h0, h1, h2, hr⟩ := (show drawW as n φ from st)
    cases a with
    | cons x1 r =>
      cases r with
      | cons x2 r =>
        cases r
        obtain ⟨a, b, hd, rfl⟩ := x1
        have hd' : dk = some (a, b) := hd
        subst hd'
        cases (show Da K G _ (.int many) from x2)
        obtain ⟨dkA, n1, n2, g1, g2⟩ := fm.deck a b rfl
        refine ⟨a, b, n, many, rfl, dkA, h0, h1, h2, fun r H' r0 r1 dk' hk => ?_⟩
        have ne : ∀ {c : Addr} {o : HO}, G c = some o → c ≠ a ∧ c ≠ b := fun {c o} e => ⟨fun z => absurd ((z ▸ e).symm.trans (show G a = none from g1)) (by simp), fun z => absurd ((z ▸ e).symm.trans (show G b = none from g2)) (by simp)⟩
        refine q (.int r) H' G (.int r) (n + 1) ⟨fun c o e nf => ?_, fun c o e => ?_, fm.old, fun c e z => fm.new c e z, fun a' b' e => ?_⟩ (.int r) (hr r r0 r1)
        · exact hk c o (fun z => nf ⟨a, b, rfl, .inl z⟩) (fun z => nf ⟨a, b, rfl, .inr z⟩) e
        · exact hk c o (ne e).1 (ne e).2 (fm.sub c o e)
        · cases e
          exact ⟨dk', n1, n2, g1, g2⟩
theorem DeckAt.more {H : Hp} {a b : Addr} {n n' : Nat} (h : DeckAt H a b n) (hn : n ≤ n') : DeckAt H a b n' := by
  obtain ⟨cs, c, h1, h2, h3, h4, h5, h6⟩ := h
  exact ⟨cs, c, h1, h2, h3, h4, by omega, h6⟩
/-- the law: its first statement makes the deck, the rest runs by a mirror -/
theorem law_j {P : Program} {w : World} {K : PySem.W.Frag} {mg : Str → Option Value} {base : Heap} {k : Nat} {x qual y z : Str} {st : Stmt} {f fk : Addr} {fd fkd : FuncData} {N : List Str} {px pn pc ps : Pos} {rest : List Stmt} {dx : Str} {pks : List Str} {M : W D} (Fu : Fun K x qual st f fd) (S : FnScope N [y] (defScope st)) (Fk : FnG P w K mg base k fk fkd pks (spDeck K)) (bk : Binds K fkd pks []) (mk : mg dx = some (.ref fk))
    (hbody : defBody st = .Assign [.Name z px] (.Call (.Name dx pn) [.Name y pc] [] ps) pos :: rest) (hN0 : N[0]? = some y) (hN1 : N[1]? = some z)
    (hset : ∀ (cdv : Value) (A : Around) (outer : List Env) (s : Shared) (H : Hp) (E : XK), Room k (A.deeper (envOfC qual (defScope st) s.heap.objs.size f cdv)) → A.guards = some [] →
      PS (cxOf CX0 P w K mg base N qual (defScope st) f cdv A outer s H E).nox (.Assign [.Name z px] (.Call (.Name dx pn) [.Name y pc] [] ps) pos) (tAsg (fun σ H Q => tCons (tVar 0) tNil σ H fun vs H1 => spDeck K vs H1 Q E0) (gName 1)))
    (hrest : ∀ (cdv : Value) (A : Around) (outer : List Env) (s : Shared) (H : Hp) (E : XK), Room k (A.deeper (envOfC qual (defScope st) s.heap.objs.size f cdv)) → A.guards = some [] →
      FJ (cxOf CX0 P w K mg base N qual (defScope st) f cdv A outer s H E).nox E0 true rest (.any :: .deck :: List.replicate (N.length - 2) .any) M)
    (hM : Mo.sat M 0 (fun d _ => d = .bool true) (fun _ _ => False)) : FnG P w K mg base (k + 1) f fd [y] (spLaw K) := by
  refine fng_of Fu S (fun vs H Q E ⟨a, ns, e, _⟩ => by rw [e]; rfl) fun cdv A outer s H vs Q E hr gu ⟨a, ns, e, hS, hQ⟩ => ?_
  subst e
  rw [hbody]
  refine ⟨_, pss_cons (hset cdv A outer s H E hr gu) (hrest cdv A outer s H E hr gu), ?_⟩
  refine ⟨.ref a, ?_, a, ns, rfl, hS, fun x1 y1 H' sm dk => ?_⟩
  · unfold L2.start
    cases N with
    | nil => cases hN0
    | cons _ _ => rfl
  · have hx : H' x1 ≠ none ∧ H' y1 ≠ none := by
      obtain ⟨cs, c, h1, h2, _⟩ := dk
      exact ⟨by rw [h1]; simp, by rw [h2]; simp⟩
    refine ⟨⟨H', fun _ => none, some (x1, y1)⟩, fun _ => none, 0, _, _, ⟨⟨fun c o e _ => e, fun c o e => (nomatch e), fun c o e => (nomatch e), fun c _ _ => rfl, fun a' b' e => ?_⟩, ?_, fun i d e => ?_, ⟨fun _ => 0, fun i j ds es e => ?_, fun i ds e => ?_⟩, fun i e => ?_⟩, hM, fun v H2 G2 d n2 _ dv p => ?_, fun _ σ2 H2 G2 n2 _ p => ?_, fun _ _ _ _ _ _ z => z.elim⟩
    · cases e
      exact ⟨dk, hx.1, hx.2, rfl, rfl⟩
    · match N, hN1 with
      | n0 :: n1 :: N', _ => simp [L2.start]
    · match i with
      | 0 => cases e
      | 1 => cases e
      | i + 2 =>
        simp only [List.getElem?_cons_succ] at e
        rw [List.getElem?_replicate] at e
        split at e <;> cases e
    · match i with
      | 0 => cases e
      | 1 => cases e
      | i + 2 =>
        simp only [List.getElem?_cons_succ] at e
        rw [List.getElem?_replicate] at e
        split at e <;> cases e
    · match i with
      | 0 => cases e
      | 1 => cases e
      | i + 2 =>
        simp only [List.getElem?_cons_succ] at e
        rw [List.getElem?_replicate] at e
        split at e <;> cases e
    · match i with
      | 0 => cases e
      | 1 =>
        refine ⟨x1, y1, rfl, ?_⟩
        match N, hN1 with
        | n0 :: n1 :: N', _ => simp [L2.start]
      | i + 2 =>
        simp only [List.getElem?_cons_succ] at e
        rw [List.getElem?_replicate] at e
        split at e <;> cases e
    · subst p
      cases dv
      exact hQ H2
    · cases p
end DD
namespace DD
open PySem PySem.Spec PyProof.Rows L2
/-! ### the deck's own code: what it means -/
def rAbs : List V → Hp → VK → Prop := fun xs H Q => ∃ i, xs = [.int i] ∧ Q (.int (if i < 0 then -i else i)) H
def deckT (K : PySem.W.Frag) (c : Int) : TS := tRet (tLst (tCons (tLc (iList K (tSl (rSlL K) (tVar 0) tNoPart (tPart (tC (.int c))))) (gName 1) tYes (tCB rAbs (tCons (tVar 1) tNil)) [1]) (tCons (tC (.int 0)) tNil)))
theorem cut_map (ns : List Int) (lo hi : Option Int) : ∃ ms : List Int, cutV (ns.map V.int) lo hi = ms.map V.int := by
  refine ⟨(ns.drop (HT.sIx (ns.map V.int).length 0 lo)).take (HT.sIx (ns.map V.int).length (ns.map V.int).length hi - HT.sIx (ns.map V.int).length 0 lo), ?_⟩
  unfold cutV
  rw [List.map_take, List.map_drop]
theorem cut63 (xs : List V) {c : Int} (h0 : 0 ≤ c) (h1 : c ≤ 63) : (cutV xs none (some c)).length ≤ 63 := by
  unfold cutV
  rw [List.length_take, List.length_drop]
  have : HT.sIx xs.length xs.length (some c) ≤ 63 := by
    unfold HT.sIx
    simp only
    rw [if_neg (by omega)]
    omega
  omega
theorem same_new {H : Hp} {p : Addr} (h : H p = none) (o : HO) : Same H (upd H p o) := same_upd h
theorem line63 {n : Nat} (h : n ≤ 1000) : n ≤ sizeLine := Nat.le_trans h (by decide)
theorem deck_ok {K : PySem.W.Frag} {c : Int} (h0 : 0 ≤ c) (h1 : c ≤ 63) {De : Ends} {σ : L2.St} {H : Hp} {a : Addr} {ns : List Int} (hl : 1 < σ.length) (hσ : σ[0]? = some (some (.ref a))) (hS : SqL K H a (ns.map V.int))
    (q : ∀ (x y : Addr) (H' : Hp), Same H H' → DeckAt H' x y 0 → De.rt (.ref x) H') : deckT K c De σ H := by
  obtain ⟨ms, hms⟩ := cut_map ns none (some c)
  have hm63 : ms.length ≤ 63 := by
    have := cut63 (ns.map V.int) h0 h1
    rw [hms, List.length_map] at this
    exact this
  refine ⟨.ref a, hσ, c, rfl, a, _, rfl, hS, fun p hp => ⟨p, rfl, ⟨_, SqL.of upd_same⟩, fun A hA => ?_⟩⟩
  rw [hms] at hA ⊢
  have hpA : p ≠ A := fun e => by rw [← e, upd_same] at hA; cases hA
  refine ⟨fun i m H2 => ∃ acc : List Int, acc.length = i ∧ m + i = ms.length ∧ (∀ x ∈ acc, 0 ≤ x) ∧ H2 A = some (.lst (acc.map V.int)) ∧ H2 p = some (.lst (ms.map V.int)) ∧ Same H H2, ⟨ms.length, [], rfl, rfl, by simp, upd_same, by rw [upd_ne hpA, upd_same], (same_new hp _).trans (same_new hA _)⟩, ?_⟩
  rintro i m H2 ⟨acc, e1, e2, e3, e4, e5, e6⟩
  have Hlt : Same H H2 := e6
  by_cases hi : i = ms.length
  · refine .inl ⟨⟨_, SqL.of e5, by rw [List.length_map]; omega⟩, (by show 2 ≤ sizeLine; decide), fun z hz => q z A _ (e6.trans (same_new hz _)) ?_⟩
    have hzA : A ≠ z := fun e => by rw [← e, e4] at hz; cases hz
    exact ⟨acc, 0, upd_same, by rw [upd_ne hzA]; exact e4, hzA.symm, by omega, by omega, e3, by omega⟩
  · have hi' : i < ms.length := by omega
    refine .inr ⟨⟨_, .int ms[i], SqL.of e5, by rw [List.getElem?_map, List.getElem?_eq_getElem hi']; rfl⟩, fun H' => ∃ acc : List Int, acc.length = i + 1 ∧ (m - 1) + (i + 1) = ms.length ∧ (∀ x ∈ acc, 0 ≤ x) ∧ H' A = some (.lst (acc.map V.int)) ∧ H' p = some (.lst (ms.map V.int)) ∧ Same H H', fun H' h => ⟨m - 1, by omega, h⟩, ?_⟩
    rintro x H' ⟨rfl, hy⟩
    have hx := hy _ (SqL.of e5)
    rw [List.getElem?_map, List.getElem?_eq_getElem hi'] at hx
    cases hx
    refine ⟨by simp [wipe], ?_⟩
    refine ⟨.int ms[i], by simp [wipe, hl], ms[i], rfl, acc.map V.int, e4, ?_, acc ++ [if ms[i] < 0 then -ms[i] else ms[i]], by simp [e1], by omega, fun y hy => ?_, ?_, ?_, ?_⟩
    · rw [List.length_map]
      exact Nat.lt_of_lt_of_le (show acc.length < 1000 by omega) (line63 (Nat.le_refl _))
    · rcases List.mem_append.mp hy with hy | hy
      · exact e3 y hy
      · rw [List.mem_singleton.mp hy]
        split <;> omega
    · rw [upd_same, List.map_append]
      rfl
    · rw [upd_ne hpA]
      exact e5
    · intro b o hb
      by_cases hbA : b = A
      · subst hbA
        have h9 : upd H p (HO.lst (ms.map V.int)) b = some o := by rw [upd_ne (fun e => hpA e.symm)]; exact hb
        rw [h9] at hA
        cases hA
      · rw [upd_ne hbA]
        exact e6 b o hb
/-- a comprehension's scope, checked -/
def blkB (N : List Str) (sc scope : Scope) (own : List (Str × Nat)) : Bool :=
  decide (scope.kind = .function) && scope.names.all (fun y => decide (scope.names.lookup y.1 = some y.2)) && own.all (fun p => decide (N[p.2]? = some p.1)) &&
  scope.names.all (fun y => !decide (y.2 = .free) || (decide (sc.names.lookup y.1 = some .cell) || decide (sc.names.lookup y.1 = some .free))) &&
  scope.names.all (fun y => !(decide (y.2 = .local) || decide (y.2 = .cell)) || (decide (y.1 ∈ own.map (·.1)) || !decide (y.1 ∈ N)))
theorem blk_of {N : List Str} {sc scope : Scope} {own : List (Str × Nat)} (h : blkB N sc scope own = true) : BlkOk N sc scope own := by
  unfold blkB at h
  simp only [Bool.and_eq_true, List.all_eq_true, Bool.or_eq_true, Bool.not_eq_true', decide_eq_true_eq, decide_eq_false_iff_not, Bool.or_eq_false_iff] at h
  obtain ⟨⟨⟨⟨h1, h2⟩, h3⟩, h4⟩, h5⟩ := h
  refine ⟨h1, h2, h3, fun y hy e => ?_, fun y hy e => ?_⟩
  · rcases h4 y hy with z | z
    · exact absurd e z
    · exact z
  · rcases h5 y hy with z | z
    · rcases e with e | e
      · exact absurd e z.1
      · exact absurd e z.2
    · exact z
theorem atI_at {α : Type} {xs : List α} {i : Int} {j : Nat} {x : α} (h : i = (j : Int)) (e : xs[j]? = some x) : atI xs i = some x := by
  subst h
  exact atI_nat e
theorem ixN_at {n : Nat} {i : Int} {j : Nat} (h : i = (j : Int)) (e : j < n) : ixN n i = some j := by
  subst h
  unfold ixN
  rw [if_pos (by omega), if_pos (by omega)]
  simp
abbrev rPlus : R2 := rI0 fun i j => .int (i + j)
abbrev rTimes : R2 := rI CMul fun i j => .int (i * j)
abbrev rOver : R2 := rI CDiv fun i j => .int (i / j)
abbrev rMod : R2 := rI (fun _ j => 0 < j) fun i j => .int (i % j)
abbrev rPow : R2 := rI CPow fun i j => .int (i ^ j.toNat)
abbrev rLenQ (K : PySem.W.Frag) : List V → Hp → VK → Prop := fun xs H Q => ∃ p ys, xs = [.ref p] ∧ (SqL K H p ys ∨ SqT K H p ys) ∧ Q (.int ys.length) H
abbrev dIx (K : PySem.W.Frag) (i : Int) : TE := tOp (rIxL K) (tVar 0) (tC (.int i))
/-- the last statements of a draw: a long cell is cut, a short one is mixed (t: the mixing) -/
def drawTail (K : PySem.W.Frag) (t : TE) : TS :=
  tSeq (tIfS (tTest (tOp (rI0 fun i j => .bl (decide (j ≤ i))) (tVar 2) (tOp rPow (tC (.int 10)) (tC (.int 18)))))
    (tSeq (tAsg (tOp rOver (tVar 2) (tVar 1)) (gSub (dIx K 0) (tVar 3) rSetL)) (tRet (tOp rMod (tVar 2) (tVar 1)))) tNext) (tRet t)
def drawMid (K : PySem.W.Frag) : TS := tIfS (tTest (tOp (rI0 fun i j => .bl (decide (j < i))) (tCB (rLenQ K) (tCons (dIx K 0) tNil)) (tC (.int 0))))
  (tSeq (tAsg (tOp rMod (dIx K 1) (tCB (rLenQ K) (tCons (dIx K 0) tNil))) (gName 3)) (tAsg (tOp (rIxL K) (dIx K 0) (tVar 3)) (gName 2))) tNext
def drawInc (K : PySem.W.Frag) : TS := tAsg (tOp rPlus (dIx K 1) (tC (.int 1))) (gSub (tVar 0) (tC (.int 1)) rSetL)
/-- what the mixing must do -/
def Mixes (K : PySem.W.Frag) (t : TE) : Prop := ∀ (a b : Addr) (many cell ix c : Int) (H : Hp) (Q : VK), H a = some (.lst [.ref b, .int c]) → 0 < many → many < 1073741824 → 0 ≤ cell → 0 ≤ c → c < 2 ^ 41 → (∀ r : Int, 0 ≤ r → r < many → Q (.int r) H) → t [some (.ref a), some (.int many), some (.int cell), some (.int ix)] H Q
section
variable {K : PySem.W.Frag} {De : Ends} {H : Hp} {a b : Addr} {n : Nat} {many : Int} {cells : List Int} {c : Int}
theorem tail_ok {t : TE} (hm : Mixes K t) {cell ix : Int} (h1 : H a = some (.lst [.ref b, .int c])) (h2 : H b = some (.lst (cells.map V.int))) (hab : a ≠ b) (c0 : 0 ≤ c) (c1 : c ≤ (n : Int)) (cn : c < 2 ^ 41) (hc : ∀ x ∈ cells, 0 ≤ x) (h63 : cells.length ≤ 63) (m0 : 0 < many) (m1 : many < 1073741824)
    (p0 : 0 ≤ cell) (p1 : (10 : Int) ^ (18 : Int).toNat ≤ cell → ∃ j : Nat, ix = (j : Int) ∧ j < cells.length)
    (q : ∀ (r : Int) (H' : Hp), 0 ≤ r → r < many → DeckAt H' a b n → (∀ z o, z ≠ a → z ≠ b → H z = some o → H' z = some o) → De.rt (.int r) H') : drawTail K t De [some (.ref a), some (.int many), some (.int cell), some (.int ix)] H := by
  have hba : b ≠ a := fun e => hab e.symm
  refine ⟨.int cell, rfl, 10, 18, rfl, rfl, ⟨by decide, by decide, by decide⟩, cell, _, rfl, rfl, _, rfl, ?_⟩
  refine ite2 (fun hge => ?_) (fun _ => ?_)
  · obtain ⟨j, rfl, hj⟩ := p1 (of_decide_eq_true hge)
    refine ⟨.int cell, rfl, .int many, rfl, cell, many, rfl, rfl, ⟨m0, m1⟩, .ref a, rfl, a, _, 0, .ref b, rfl, rfl, SqL.of h1, rfl, .int (j : Int), rfl, b, cells.map V.int, j, j, rfl, rfl, h2, ixN_at rfl (by rw [List.length_map]; exact hj), ?_⟩
    refine ⟨.int cell, rfl, .int many, rfl, cell, many, rfl, rfl, m0, ?_⟩
    refine q _ _ (Int.emod_nonneg _ (by omega)) (Int.emod_lt_of_pos _ m0) ⟨cells.set j (cell / many), c, by rw [upd_ne hab]; exact h1, ?_, hab, c0, c1, fun x hx => ?_, by rw [List.length_set]; exact h63⟩ fun z o _ zb e => by rw [upd_ne zb]; exact e
    · rw [upd_same, List.map_set]
    · rcases List.mem_or_eq_of_mem_set hx with hx | rfl
      · exact hc x hx
      · exact Int.ediv_nonneg p0 (by omega)
  · exact hm a b many cell ix c H _ h1 m0 m1 p0 c0 cn fun r r0 r1 => q r H r0 r1 ⟨cells, c, h1, h2, hab, c0, c1, hc, h63⟩ fun _ _ _ _ e => e
theorem mid_ok {u : TS} (h1 : H a = some (.lst [.ref b, .int c])) (h2 : H b = some (.lst (cells.map V.int))) (c0 : 0 ≤ c) (hc : ∀ x ∈ cells, 0 ≤ x)
    (q : ∀ cell ix : Int, 0 ≤ cell → ((10 : Int) ^ (18 : Int).toNat ≤ cell → ∃ j : Nat, ix = (j : Int) ∧ j < cells.length) → u De [some (.ref a), some (.int many), some (.int cell), some (.int ix)] H) :
    tSeq (drawMid K) u De [some (.ref a), some (.int many), some (.int 0), some (.int (-1))] H := by
  refine ⟨.ref a, rfl, a, _, 0, .ref b, rfl, rfl, SqL.of h1, rfl, b, _, rfl, .inl (SqL.of h2), ((cells.map V.int).length : Int), 0, rfl, rfl, _, rfl, ?_⟩
  refine ite2 (fun hgt => ?_) (fun _ => q 0 (-1) (by omega) fun h => absurd h (by decide))
  have hl : 0 < cells.length := by
    have := of_decide_eq_true hgt
    rw [List.length_map] at this
    omega
  have e0 : 0 ≤ c % ((cells.map V.int).length : Int) := Int.emod_nonneg _ (by rw [List.length_map]; omega)
  have e1 : c % ((cells.map V.int).length : Int) < cells.length := by
    have := Int.emod_lt_of_pos c (show 0 < ((cells.map V.int).length : Int) by rw [List.length_map]; omega)
    rw [List.length_map] at this ⊢
    exact this
  obtain ⟨j, hj⟩ : ∃ j : Nat, c % ((cells.map V.int).length : Int) = (j : Int) := ⟨_, (Int.toNat_of_nonneg e0).symm⟩
  have hj' : j < cells.length := by omega
  refine ⟨.ref a, rfl, a, _, 1, .int c, rfl, rfl, SqL.of h1, rfl, .ref a, rfl, a, _, 0, .ref b, rfl, rfl, SqL.of h1, rfl, b, _, rfl, .inl (SqL.of h2), c, ((cells.map V.int).length : Int), rfl, rfl, by rw [List.length_map]; omega, ?_⟩
  refine ⟨.ref a, rfl, a, _, 0, .ref b, rfl, rfl, SqL.of h1, rfl, .int (c % ((cells.map V.int).length : Int)), rfl, b, cells.map V.int, c % ((cells.map V.int).length : Int), .int cells[j], rfl, rfl, SqL.of h2, atI_at hj (by rw [List.getElem?_map, List.getElem?_eq_getElem hj']; rfl), ?_⟩
  exact q cells[j] (c % ((cells.map V.int).length : Int)) (hc _ (List.getElem_mem hj')) fun _ => ⟨j, hj, hj'⟩
theorem inc_ok {u : TS} {x y : Option V} (dk : DeckAt H a b n) (q : ∀ (cells : List Int) (c : Int) (H' : Hp), H' a = some (.lst [.ref b, .int c]) → H' b = some (.lst (cells.map V.int)) → a ≠ b → 0 ≤ c → c ≤ ((n + 1 : Nat) : Int) → (∀ x ∈ cells, 0 ≤ x) → cells.length ≤ 63 → (∀ z o, z ≠ a → z ≠ b → H z = some o → H' z = some o) → u De [some (.ref a), some (.int many), x, y] H') :
    tSeq (drawInc K) u De [some (.ref a), some (.int many), x, y] H := by
  obtain ⟨cells, c, h1, h2, hab, c0, c1, hc, h63⟩ := dk
  refine ⟨.ref a, rfl, a, _, 1, .int c, rfl, rfl, SqL.of h1, rfl, c, 1, rfl, rfl, .ref a, rfl, a, [.ref b, .int c], 1, 1, rfl, rfl, h1, rfl, ?_⟩
  have hba : b ≠ a := fun e => hab e.symm
  exact q cells (c + 1) _ upd_same (by rw [upd_ne hba]; exact h2) hab (by omega) (by omega) hc h63 fun z o e1 _ e => by rw [upd_ne e1]; exact e
def mix1 (K : PySem.W.Frag) : TE := tOp rMod (tOp rOver (tOp rMod (tOp rPow (tOp rPlus (tOp rPlus (tOp rMod (tVar 2) (tC (.int 2147483587))) (tOp rTimes (tC (.int 7919)) (dIx K 1))) (tC (.int 1))) (tC (.int 5))) (tC (.int 2147483647))) (tC (.int 7))) (tVar 1)
theorem mixes1 : Mixes K (mix1 K) := by
  intro a b many cell ix c H Q h1 m0 m1 p0 c0 cn q
  have r0 : 0 ≤ cell % 2147483587 := Int.emod_nonneg _ (by decide)
  have r1 : cell % 2147483587 < 2147483587 := Int.emod_lt_of_pos _ (by decide)
  refine ⟨.int cell, rfl, cell, 2147483587, rfl, rfl, (show (0 : Int) < 2147483587 by decide), .ref a, rfl, a, _, 1, .int c, rfl, rfl, SqL.of h1, rfl, 7919, c, rfl, rfl, .inl ⟨by decide, by decide⟩, _, _, rfl, rfl, _, 1, rfl, rfl, _, 5, rfl, rfl, ⟨by decide, by decide, ?_⟩, _, 2147483647, rfl, rfl, (show (0 : Int) < 2147483647 by decide), _, 7, rfl, rfl, ⟨by decide, by decide⟩, .int many, rfl, _, many, rfl, rfl, m0, ?_⟩
  · omega
  · exact q _ (Int.emod_nonneg _ (by omega)) (Int.emod_lt_of_pos _ m0)
def drawT1 (K : PySem.W.Frag) : TS := tSeq (drawInc K) (tSeq (tAsg (tTup (tCons (tC (.int 0)) (tCons (tUn (rU fun i => .int (-i)) (tC (.int 1))) tNil))) (gTup K 2 (gCons (gName 2) (gCons (gName 3) gNil)))) (tSeq (drawMid K) (drawTail K (mix1 K))))
theorem draw1_ok (dk : DeckAt H a b n) (m0 : 0 < many) (m1 : many < 1073741824) (hn : n < 2 ^ 40) (q : ∀ (r : Int) (H' : Hp), 0 ≤ r → r < many → DeckAt H' a b (n + 1) → (∀ z o, z ≠ a → z ≠ b → H z = some o → H' z = some o) → De.rt (.int r) H') :
    drawT1 K De [some (.ref a), some (.int many), none, none] H := by
  refine inc_ok dk fun cells c H1 h1 h2 hab c0 c1 hc h63 hk => ?_
  refine ⟨1, rfl, (by show 2 ≤ sizeLine; decide), fun p hp => ⟨p, _, rfl, .inl (.inl upd_same), rfl, _, _, rfl, _, _, rfl, rfl, ?_⟩⟩
  have g := same_new hp (.tup [.int 0, .int (-1)])
  refine mid_ok (g _ _ h1) (g _ _ h2) c0 hc fun cell ix p0 p1 => ?_
  exact tail_ok mixes1 (g _ _ h1) (g _ _ h2) hab c0 c1 (by omega) hc h63 m0 m1 p0 p1 fun r H' r0 r1 dk' hk' => q r H' r0 r1 dk' fun z o za zb e => hk' z o za zb (g _ _ (hk z o za zb e))
end
end DD
namespace DD
open PySem PySem.Spec PyProof.Rows L2
/-! ### mirrors' words -/
section
variable {m : Type → Type} [Mo m]
abbrev op2 (f : D → D → Option D) (x y : m D) : m D := x >>= fun dx => y >>= fun dy => Mo.lift (f dx dy)
abbrev op1 (f : D → Option D) (x : m D) : m D := x >>= fun d => Mo.lift (f d)
abbrev cmp2 (f : D → D → Option D) (x y : m D) : m Bool := x >>= fun dx => y >>= fun dy => Mo.lift ((f dx dy).bind boolD)
abbrev chain3 (f f' : D → D → Option D) (x y z : m D) : m D := x >>= fun dx => y >>= fun dy => Mo.lift ((f dx dy).bind boolD) >>= fun k => if k = true then (z >>= fun dz => Mo.lift (f' dy dz)) else pure (.bool false)
abbrev tst (x : m D) : m Bool := x >>= fun d => Mo.lift (boolD d)
abbrev notB (x : m Bool) : m Bool := x >>= fun b => pure (!b)
abbrev andB (x y : m Bool) : m Bool := x >>= fun k => if k = true then y else pure false
abbrev orB (x y : m Bool) : m Bool := x >>= fun k => if k = true then pure true else y
abbrev andD (x y : m D) : m D := x >>= fun d => Mo.lift (boolD d) >>= fun k => if k = true then y else pure (.bool false)
abbrev orD (x y : m D) : m D := x >>= fun d => Mo.lift (boolD d) >>= fun k => if k = true then pure (.bool true) else y
abbrev iteM {α : Type} (t : m Bool) (x y : m α) : m α := t >>= fun k => if k = true then x else y
abbrev consM (x : m D) (y : m (List D)) : m (List D) := x >>= fun d => y >>= fun ds => pure (d :: ds)
abbrev starM (x : m D) (y : m (List D)) : m (List D) := x >>= fun d => Mo.lift (itemsD d) >>= fun as => y >>= fun ds => pure (as ++ ds)
abbrev smallM (x : m (List D)) : m (List D) := x >>= fun ds => Mo.lift (small ds)
abbrev tupM (x : m (List D)) : m D := x >>= fun ds => pure (.tuple ds)
abbrev tupSM (x : m (List D)) : m D := x >>= fun ds => Mo.lift (small ds) >>= fun ds => pure (.tuple ds)
abbrev lstM (x : m (List D)) : m D := x >>= fun ds => pure (.list ds)
abbrev argV (x : m D) (y : m (List Sl)) : m (List Sl) := x >>= fun d => y >>= fun as => pure (.val d :: as)
abbrev argK (y : m (List Sl)) : m (List Sl) := y >>= fun as => pure (.deck :: as)
abbrev comp1 (x : m (List D)) (f : D → m D) : m (List D) := x >>= fun ds => Mo.lift (small ds) >>= fun ds => lcA (fun d => someM (f d)) ds []
abbrev comp1i (x : m (List D)) (t : D → m Bool) (f : D → m D) : m (List D) := x >>= fun ds => Mo.lift (small ds) >>= fun ds => lcA (fun d => ifM (t d) (f d)) ds []
abbrev comp2 (x : m (List D)) (f : D → D → m D) : m (List D) := x >>= fun ds => Mo.lift (small ds) >>= fun ds => lcA (fun d => pairM d fun a b => someM (f a b)) ds []
abbrev comp2i (x : m (List D)) (t : D → D → m Bool) (f : D → D → m D) : m (List D) := x >>= fun ds => Mo.lift (small ds) >>= fun ds => lcA (fun d => pairM d fun a b => ifM (t a b) (f a b)) ds []
abbrev seqM (x : m D) : m (List D) := x >>= fun d => Mo.lift (itemsD d)
abbrev rng1 (x : m D) : m (List D) := x >>= fun d => Mo.lift (rangeD1 d)
abbrev rng2 (x y : m D) : m (List D) := x >>= fun d => y >>= fun e => Mo.lift (rangeD2 d e)
abbrev zipSM (x : m D) : m (List D) := x >>= fun d => Mo.lift ((itemsD d).bind zipD)
abbrev zip2M (x y : m D) : m (List D) := x >>= fun d => y >>= fun e => Mo.lift (zipD [d, e])
abbrev zip3M (x y z : m D) : m (List D) := x >>= fun d => y >>= fun e => z >>= fun f => Mo.lift (zipD [d, e, f])
abbrev partM (x : m D) : m (Option Int) := x >>= fun d => Mo.lift (oint d)
abbrev slcM (x : m D) (y z : m (Option Int)) : m D := x >>= fun d => y >>= fun l => z >>= fun h => Mo.lift (sliceD d l h)
abbrev isiM (T : String) (x : m D) : m D := x >>= fun d => pure (.bool (isiB T d))
abbrev rtM {A : Type} (x : m D) : m (Fl A) := x >>= fun d => pure (.rt d)
abbrev forM1 {A : Type} (x : m (List D)) (a0 : A) (b : D → A → m (Fl A)) : m (Fl A) := x >>= fun ds => loopM b ds a0
abbrev forM2 {A : Type} (x : m (List D)) (a0 : A) (b : D → D → A → m (Fl A)) : m (Fl A) := x >>= fun ds => loopM (fun d a => pairM d fun u w => b u w a) ds a0
abbrev parM {α β : Type} (x : m α) (y : m β) : m (α × β) := x >>= fun d => y >>= fun e => pure (d, e)
def pairD : D → Option (D × D)
  | .tuple [a, b] => some (a, b)
  | _ => none
def tripD : D → Option (D × D × D)
  | .tuple [a, b, c] => some (a, b, c)
  | _ => none
abbrev unp2 (x : m D) : m (D × D) := x >>= fun d => Mo.lift (pairD d)
abbrev unp3 (x : m D) : m (D × D × D) := x >>= fun d => Mo.lift (tripD d)
end
abbrev upW (o : Option D) : W D := Up.up (m' := Option) (m := W) o
/-! ### defs by their names -/
structure Def (P : Program) (w : World) (K : PySem.W.Frag) (mg : Str → Option Value) (base : Heap) (k : Nat) (x : Str) (ps : List Str) (sp : Sp) : Prop where
  ex : ∃ f fd, FnG P w K mg base k f fd ps sp ∧ mg x = some (.ref f) ∧ PySem.W.keepIn K (.ref f) = true ∧ Binds K fd ps []
section
variable {m : Type → Type} [Mo m] {A : Type} {X : Cx} {EX : XK} {g : List Sl} {k : Nat} {ps : List Str}
theorem ej_callD {x : Str} {p pos : Pos} {e : Expr} {es : List Expr} {F : List Sl → m D} {y : m (List Sl)} [Calm m] (Fn : Def X.prog X.w X.K X.mg X.base k x ps (spJ X.K F)) (hr : Room k X.A) (gu : X.A.guards = some [])
    (ha : AJ X EX (e :: es) g y) (hg : Gl X x := by rfl) (hd : (x == ("__debug__" : Str)) = false := by decide) (he : starEach (e :: es) X.env = (false, eval e X.env) :: starEach es X.env := by rfl) (hpl : (backTo pos (starEach es X.env)).any (·.1) = false := by rfl) :
    EJ X EX (.Call (.Name x p) (e :: es) [] pos) g (y >>= F) := by
  obtain ⟨f, fd, h1, h2, h3, h4⟩ := Fn.ex
  exact ej_call h1 hr gu h2 h3 h4 ha hg hd he hpl
theorem ej_callDU {m' : Type → Type} [Mo m'] [Calm m'] [Up m' m] {x : Str} {p pos : Pos} {e : Expr} {es : List Expr} {F : List Sl → m' D} {y : m (List Sl)} (Fn : Def X.prog X.w X.K X.mg X.base k x ps (spJ X.K F)) (hr : Room k X.A) (gu : X.A.guards = some [])
    (ha : AJ X EX (e :: es) g y) (hg : Gl X x := by rfl) (hd : (x == ("__debug__" : Str)) = false := by decide) (he : starEach (e :: es) X.env = (false, eval e X.env) :: starEach es X.env := by rfl) (hpl : (backTo pos (starEach es X.env)).any (·.1) = false := by rfl) :
    EJ X EX (.Call (.Name x p) (e :: es) [] pos) g (y >>= fun as => Up.up (m' := m') (F as)) := by
  obtain ⟨f, fd, h1, h2, h3, h4⟩ := Fn.ex
  exact ej_callU h1 hr gu h2 h3 h4 ha hg hd he hpl
theorem units_of {A : Around} {k : Nat} (h : Room k A) : A.units + 64 < cLine := by
  have := h.un
  omega
/-- a, b = e -/
theorem sj_unp2 (i j : Nat) {tg e : Expr} {pos : Pos} {x : m D} (h : EJ X EX e g x) (hg : PG X tg (gTup X.K 2 (gCons (gName i) (gCons (gName j) gNil)))) (hs : swapsWithSole [tg] e pos.line X.env = pure false := by kernel_rfl) (hw : swappedStores [tg] e X.env = pure none := by kernel_rfl)
    (h1 : (assignEach [tg] X.env).map (·.2) = [assign tg X.env] := by rfl) : SJ X EX (.Assign [tg] e pos) g (unp2 x) (fun de => (g.set i (.val de.1)).set j (.val de.2)) :=
  (ps_asg h hg hs hw h1).weak fun De σ H ⟨B, G, n, φ, ξ, o, s, q, xw⟩ => te_one o s (fun v H1 G1 d n1 o1 g1 d1 s1 => by
    obtain ⟨de, ed, pd⟩ := Mo.sat_lift s1
    unfold pairD at ed
    split at ed
    · cases ed
      cases d1 with
      | tup h da =>
        cases da with
        | cons e1 r =>
          cases r with
          | cons e2 r =>
            cases r
            exact ⟨_, _, rfl, sameT o1.fm.sub h, rfl, _, _, rfl, _, _, rfl, rfl, q _ _ _ G1 n1 ((o1.setV e1).setV e2) g1 pd⟩
    · cases ed) xw
theorem sj_unp3 (i j l : Nat) {tg e : Expr} {pos : Pos} {x : m D} (h : EJ X EX e g x) (hg : PG X tg (gTup X.K 3 (gCons (gName i) (gCons (gName j) (gCons (gName l) gNil))))) (hs : swapsWithSole [tg] e pos.line X.env = pure false := by kernel_rfl) (hw : swappedStores [tg] e X.env = pure none := by kernel_rfl)
    (h1 : (assignEach [tg] X.env).map (·.2) = [assign tg X.env] := by rfl) : SJ X EX (.Assign [tg] e pos) g (unp3 x) (fun de => ((g.set i (.val de.1)).set j (.val de.2.1)).set l (.val de.2.2)) :=
  (ps_asg h hg hs hw h1).weak fun De σ H ⟨B, G, n, φ, ξ, o, s, q, xw⟩ => te_one o s (fun v H1 G1 d n1 o1 g1 d1 s1 => by
    obtain ⟨de, ed, pd⟩ := Mo.sat_lift s1
    unfold tripD at ed
    split at ed
    · cases ed
      cases d1 with
      | tup h da =>
        cases da with
        | cons e1 r =>
          cases r with
          | cons e2 r =>
            cases r with
            | cons e3 r =>
              cases r
              exact ⟨_, _, rfl, sameT o1.fm.sub h, rfl, _, _, rfl, _, _, rfl, _, _, rfl, rfl, q _ _ _ G1 n1 (((o1.setV e1).setV e2).setV e3) g1 pd⟩
    · cases ed) xw
end
section
variable {m : Type → Type} [Mo m] {P : Program} {w : World} {K : PySem.W.Frag} {mg : Str → Option Value} {base : Heap} {k : Nat} {x qual : Str} {st : Stmt} {f : Addr} {fd : FuncData} {N ps : List Str}
def ar1 (F : D → m D) : List Sl → m D
  | [.val a0] => F a0
  | _ => Mo.lift none
theorem fn_ar1 {F : D → m D} (Fu : Fun K x qual st f fd) (S : FnScope N ps (defScope st)) (hl : ps.length = 1)
    (hb : ∀ (a0 : D), ∀ (cdv : Value) (A : Around) (outer : List Env) (s : Shared) (H : Hp) (E : XK), Room k (A.deeper (envOfC qual (defScope st) s.heap.objs.size f cdv)) → A.guards = some [] →
      FJ (cxOf CX0 P w K mg base N qual (defScope st) f cdv A outer s H E).nox E0 true (defBody st) ([Sl.val a0] ++ List.replicate (N.length - 1) .any) (F a0)) : FnG P w K mg base (k + 1) f fd ps (spJ K (ar1 F)) := by
  refine fn_j Fu S fun as n φ s => ?_
  unfold ar1 at s
  split at s
  · exact ⟨hl.symm, hb _⟩
  · obtain ⟨_, e, _⟩ := Mo.sat_lift s
    cases e
def ar2 (F : D → D → m D) : List Sl → m D
  | [.val a0, .val a1] => F a0 a1
  | _ => Mo.lift none
theorem fn_ar2 {F : D → D → m D} (Fu : Fun K x qual st f fd) (S : FnScope N ps (defScope st)) (hl : ps.length = 2)
    (hb : ∀ (a0 : D) (a1 : D), ∀ (cdv : Value) (A : Around) (outer : List Env) (s : Shared) (H : Hp) (E : XK), Room k (A.deeper (envOfC qual (defScope st) s.heap.objs.size f cdv)) → A.guards = some [] →
      FJ (cxOf CX0 P w K mg base N qual (defScope st) f cdv A outer s H E).nox E0 true (defBody st) ([Sl.val a0, Sl.val a1] ++ List.replicate (N.length - 2) .any) (F a0 a1)) : FnG P w K mg base (k + 1) f fd ps (spJ K (ar2 F)) := by
  refine fn_j Fu S fun as n φ s => ?_
  unfold ar2 at s
  split at s
  · exact ⟨hl.symm, hb _ _⟩
  · obtain ⟨_, e, _⟩ := Mo.sat_lift s
    cases e
def ar3 (F : D → D → D → m D) : List Sl → m D
  | [.val a0, .val a1, .val a2] => F a0 a1 a2
  | _ => Mo.lift none
theorem fn_ar3 {F : D → D → D → m D} (Fu : Fun K x qual st f fd) (S : FnScope N ps (defScope st)) (hl : ps.length = 3)
    (hb : ∀ (a0 : D) (a1 : D) (a2 : D), ∀ (cdv : Value) (A : Around) (outer : List Env) (s : Shared) (H : Hp) (E : XK), Room k (A.deeper (envOfC qual (defScope st) s.heap.objs.size f cdv)) → A.guards = some [] →
      FJ (cxOf CX0 P w K mg base N qual (defScope st) f cdv A outer s H E).nox E0 true (defBody st) ([Sl.val a0, Sl.val a1, Sl.val a2] ++ List.replicate (N.length - 3) .any) (F a0 a1 a2)) : FnG P w K mg base (k + 1) f fd ps (spJ K (ar3 F)) := by
  refine fn_j Fu S fun as n φ s => ?_
  unfold ar3 at s
  split at s
  · exact ⟨hl.symm, hb _ _ _⟩
  · obtain ⟨_, e, _⟩ := Mo.sat_lift s
    cases e
def ar4 (F : D → D → D → D → m D) : List Sl → m D
  | [.val a0, .val a1, .val a2, .val a3] => F a0 a1 a2 a3
  | _ => Mo.lift none
theorem fn_ar4 {F : D → D → D → D → m D} (Fu : Fun K x qual st f fd) (S : FnScope N ps (defScope st)) (hl : ps.length = 4)
    (hb : ∀ (a0 : D) (a1 : D) (a2 : D) (a3 : D), ∀ (cdv : Value) (A : Around) (outer : List Env) (s : Shared) (H : Hp) (E : XK), Room k (A.deeper (envOfC qual (defScope st) s.heap.objs.size f cdv)) → A.guards = some [] →
      FJ (cxOf CX0 P w K mg base N qual (defScope st) f cdv A outer s H E).nox E0 true (defBody st) ([Sl.val a0, Sl.val a1, Sl.val a2, Sl.val a3] ++ List.replicate (N.length - 4) .any) (F a0 a1 a2 a3)) : FnG P w K mg base (k + 1) f fd ps (spJ K (ar4 F)) := by
  refine fn_j Fu S fun as n φ s => ?_
  unfold ar4 at s
  split at s
  · exact ⟨hl.symm, hb _ _ _ _⟩
  · obtain ⟨_, e, _⟩ := Mo.sat_lift s
    cases e
def ar5 (F : D → D → D → D → D → m D) : List Sl → m D
  | [.val a0, .val a1, .val a2, .val a3, .val a4] => F a0 a1 a2 a3 a4
  | _ => Mo.lift none
theorem fn_ar5 {F : D → D → D → D → D → m D} (Fu : Fun K x qual st f fd) (S : FnScope N ps (defScope st)) (hl : ps.length = 5)
    (hb : ∀ (a0 : D) (a1 : D) (a2 : D) (a3 : D) (a4 : D), ∀ (cdv : Value) (A : Around) (outer : List Env) (s : Shared) (H : Hp) (E : XK), Room k (A.deeper (envOfC qual (defScope st) s.heap.objs.size f cdv)) → A.guards = some [] →
      FJ (cxOf CX0 P w K mg base N qual (defScope st) f cdv A outer s H E).nox E0 true (defBody st) ([Sl.val a0, Sl.val a1, Sl.val a2, Sl.val a3, Sl.val a4] ++ List.replicate (N.length - 5) .any) (F a0 a1 a2 a3 a4)) : FnG P w K mg base (k + 1) f fd ps (spJ K (ar5 F)) := by
  refine fn_j Fu S fun as n φ s => ?_
  unfold ar5 at s
  split at s
  · exact ⟨hl.symm, hb _ _ _ _ _⟩
  · obtain ⟨_, e, _⟩ := Mo.sat_lift s
    cases e
def ar6 (F : D → D → D → D → D → D → m D) : List Sl → m D
  | [.val a0, .val a1, .val a2, .val a3, .val a4, .val a5] => F a0 a1 a2 a3 a4 a5
  | _ => Mo.lift none
theorem fn_ar6 {F : D → D → D → D → D → D → m D} (Fu : Fun K x qual st f fd) (S : FnScope N ps (defScope st)) (hl : ps.length = 6)
    (hb : ∀ (a0 : D) (a1 : D) (a2 : D) (a3 : D) (a4 : D) (a5 : D), ∀ (cdv : Value) (A : Around) (outer : List Env) (s : Shared) (H : Hp) (E : XK), Room k (A.deeper (envOfC qual (defScope st) s.heap.objs.size f cdv)) → A.guards = some [] →
      FJ (cxOf CX0 P w K mg base N qual (defScope st) f cdv A outer s H E).nox E0 true (defBody st) ([Sl.val a0, Sl.val a1, Sl.val a2, Sl.val a3, Sl.val a4, Sl.val a5] ++ List.replicate (N.length - 6) .any) (F a0 a1 a2 a3 a4 a5)) : FnG P w K mg base (k + 1) f fd ps (spJ K (ar6 F)) := by
  refine fn_j Fu S fun as n φ s => ?_
  unfold ar6 at s
  split at s
  · exact ⟨hl.symm, hb _ _ _ _ _ _⟩
  · obtain ⟨_, e, _⟩ := Mo.sat_lift s
    cases e
def ar7 (F : D → D → D → D → D → D → D → m D) : List Sl → m D
  | [.val a0, .val a1, .val a2, .val a3, .val a4, .val a5, .val a6] => F a0 a1 a2 a3 a4 a5 a6
  | _ => Mo.lift none
theorem fn_ar7 {F : D → D → D → D → D → D → D → m D} (Fu : Fun K x qual st f fd) (S : FnScope N ps (defScope st)) (hl : ps.length = 7)
    (hb : ∀ (a0 : D) (a1 : D) (a2 : D) (a3 : D) (a4 : D) (a5 : D) (a6 : D), ∀ (cdv : Value) (A : Around) (outer : List Env) (s : Shared) (H : Hp) (E : XK), Room k (A.deeper (envOfC qual (defScope st) s.heap.objs.size f cdv)) → A.guards = some [] →
      FJ (cxOf CX0 P w K mg base N qual (defScope st) f cdv A outer s H E).nox E0 true (defBody st) ([Sl.val a0, Sl.val a1, Sl.val a2, Sl.val a3, Sl.val a4, Sl.val a5, Sl.val a6] ++ List.replicate (N.length - 7) .any) (F a0 a1 a2 a3 a4 a5 a6)) : FnG P w K mg base (k + 1) f fd ps (spJ K (ar7 F)) := by
  refine fn_j Fu S fun as n φ s => ?_
  unfold ar7 at s
  split at s
  · exact ⟨hl.symm, hb _ _ _ _ _ _ _⟩
  · obtain ⟨_, e, _⟩ := Mo.sat_lift s
    cases e
def dk0 (F : m D) : List Sl → m D
  | [.deck] => F 
  | _ => Mo.lift none
theorem fn_dk0 {F : m D} (Fu : Fun K x qual st f fd) (S : FnScope N ps (defScope st)) (hl : ps.length = 1)
    (hb : ∀ (cdv : Value) (A : Around) (outer : List Env) (s : Shared) (H : Hp) (E : XK), Room k (A.deeper (envOfC qual (defScope st) s.heap.objs.size f cdv)) → A.guards = some [] →
      FJ (cxOf CX0 P w K mg base N qual (defScope st) f cdv A outer s H E).nox E0 true (defBody st) ([Sl.deck] ++ List.replicate (N.length - 1) .any) (F )) : FnG P w K mg base (k + 1) f fd ps (spJ K (dk0 F)) := by
  refine fn_j Fu S fun as n φ s => ?_
  unfold dk0 at s
  split at s
  · exact ⟨hl.symm, hb ⟩
  · obtain ⟨_, e, _⟩ := Mo.sat_lift s
    cases e
def dk1 (F : D → m D) : List Sl → m D
  | [.deck, .val a0] => F a0
  | _ => Mo.lift none
theorem fn_dk1 {F : D → m D} (Fu : Fun K x qual st f fd) (S : FnScope N ps (defScope st)) (hl : ps.length = 2)
    (hb : ∀ (a0 : D), ∀ (cdv : Value) (A : Around) (outer : List Env) (s : Shared) (H : Hp) (E : XK), Room k (A.deeper (envOfC qual (defScope st) s.heap.objs.size f cdv)) → A.guards = some [] →
      FJ (cxOf CX0 P w K mg base N qual (defScope st) f cdv A outer s H E).nox E0 true (defBody st) ([Sl.deck, Sl.val a0] ++ List.replicate (N.length - 2) .any) (F a0)) : FnG P w K mg base (k + 1) f fd ps (spJ K (dk1 F)) := by
  refine fn_j Fu S fun as n φ s => ?_
  unfold dk1 at s
  split at s
  · exact ⟨hl.symm, hb _⟩
  · obtain ⟨_, e, _⟩ := Mo.sat_lift s
    cases e
def dk2 (F : D → D → m D) : List Sl → m D
  | [.deck, .val a0, .val a1] => F a0 a1
  | _ => Mo.lift none
theorem fn_dk2 {F : D → D → m D} (Fu : Fun K x qual st f fd) (S : FnScope N ps (defScope st)) (hl : ps.length = 3)
    (hb : ∀ (a0 : D) (a1 : D), ∀ (cdv : Value) (A : Around) (outer : List Env) (s : Shared) (H : Hp) (E : XK), Room k (A.deeper (envOfC qual (defScope st) s.heap.objs.size f cdv)) → A.guards = some [] →
      FJ (cxOf CX0 P w K mg base N qual (defScope st) f cdv A outer s H E).nox E0 true (defBody st) ([Sl.deck, Sl.val a0, Sl.val a1] ++ List.replicate (N.length - 3) .any) (F a0 a1)) : FnG P w K mg base (k + 1) f fd ps (spJ K (dk2 F)) := by
  refine fn_j Fu S fun as n φ s => ?_
  unfold dk2 at s
  split at s
  · exact ⟨hl.symm, hb _ _⟩
  · obtain ⟨_, e, _⟩ := Mo.sat_lift s
    cases e
def dk3 (F : D → D → D → m D) : List Sl → m D
  | [.deck, .val a0, .val a1, .val a2] => F a0 a1 a2
  | _ => Mo.lift none
theorem fn_dk3 {F : D → D → D → m D} (Fu : Fun K x qual st f fd) (S : FnScope N ps (defScope st)) (hl : ps.length = 4)
    (hb : ∀ (a0 : D) (a1 : D) (a2 : D), ∀ (cdv : Value) (A : Around) (outer : List Env) (s : Shared) (H : Hp) (E : XK), Room k (A.deeper (envOfC qual (defScope st) s.heap.objs.size f cdv)) → A.guards = some [] →
      FJ (cxOf CX0 P w K mg base N qual (defScope st) f cdv A outer s H E).nox E0 true (defBody st) ([Sl.deck, Sl.val a0, Sl.val a1, Sl.val a2] ++ List.replicate (N.length - 4) .any) (F a0 a1 a2)) : FnG P w K mg base (k + 1) f fd ps (spJ K (dk3 F)) := by
  refine fn_j Fu S fun as n φ s => ?_
  unfold dk3 at s
  split at s
  · exact ⟨hl.symm, hb _ _ _⟩
  · obtain ⟨_, e, _⟩ := Mo.sat_lift s
    cases e
def dk4 (F : D → D → D → D → m D) : List Sl → m D
  | [.deck, .val a0, .val a1, .val a2, .val a3] => F a0 a1 a2 a3
  | _ => Mo.lift none
theorem fn_dk4 {F : D → D → D → D → m D} (Fu : Fun K x qual st f fd) (S : FnScope N ps (defScope st)) (hl : ps.length = 5)
    (hb : ∀ (a0 : D) (a1 : D) (a2 : D) (a3 : D), ∀ (cdv : Value) (A : Around) (outer : List Env) (s : Shared) (H : Hp) (E : XK), Room k (A.deeper (envOfC qual (defScope st) s.heap.objs.size f cdv)) → A.guards = some [] →
      FJ (cxOf CX0 P w K mg base N qual (defScope st) f cdv A outer s H E).nox E0 true (defBody st) ([Sl.deck, Sl.val a0, Sl.val a1, Sl.val a2, Sl.val a3] ++ List.replicate (N.length - 5) .any) (F a0 a1 a2 a3)) : FnG P w K mg base (k + 1) f fd ps (spJ K (dk4 F)) := by
  refine fn_j Fu S fun as n φ s => ?_
  unfold dk4 at s
  split at s
  · exact ⟨hl.symm, hb _ _ _ _⟩
  · obtain ⟨_, e, _⟩ := Mo.sat_lift s
    cases e
def dk5 (F : D → D → D → D → D → m D) : List Sl → m D
  | [.deck, .val a0, .val a1, .val a2, .val a3, .val a4] => F a0 a1 a2 a3 a4
  | _ => Mo.lift none
theorem fn_dk5 {F : D → D → D → D → D → m D} (Fu : Fun K x qual st f fd) (S : FnScope N ps (defScope st)) (hl : ps.length = 6)
    (hb : ∀ (a0 : D) (a1 : D) (a2 : D) (a3 : D) (a4 : D), ∀ (cdv : Value) (A : Around) (outer : List Env) (s : Shared) (H : Hp) (E : XK), Room k (A.deeper (envOfC qual (defScope st) s.heap.objs.size f cdv)) → A.guards = some [] →
      FJ (cxOf CX0 P w K mg base N qual (defScope st) f cdv A outer s H E).nox E0 true (defBody st) ([Sl.deck, Sl.val a0, Sl.val a1, Sl.val a2, Sl.val a3, Sl.val a4] ++ List.replicate (N.length - 6) .any) (F a0 a1 a2 a3 a4)) : FnG P w K mg base (k + 1) f fd ps (spJ K (dk5 F)) := by
  refine fn_j Fu S fun as n φ s => ?_
  unfold dk5 at s
  split at s
  · exact ⟨hl.symm, hb _ _ _ _ _⟩
  · obtain ⟨_, e, _⟩ := Mo.sat_lift s
    cases e
def dk6 (F : D → D → D → D → D → D → m D) : List Sl → m D
  | [.deck, .val a0, .val a1, .val a2, .val a3, .val a4, .val a5] => F a0 a1 a2 a3 a4 a5
  | _ => Mo.lift none
theorem fn_dk6 {F : D → D → D → D → D → D → m D} (Fu : Fun K x qual st f fd) (S : FnScope N ps (defScope st)) (hl : ps.length = 7)
    (hb : ∀ (a0 : D) (a1 : D) (a2 : D) (a3 : D) (a4 : D) (a5 : D), ∀ (cdv : Value) (A : Around) (outer : List Env) (s : Shared) (H : Hp) (E : XK), Room k (A.deeper (envOfC qual (defScope st) s.heap.objs.size f cdv)) → A.guards = some [] →
      FJ (cxOf CX0 P w K mg base N qual (defScope st) f cdv A outer s H E).nox E0 true (defBody st) ([Sl.deck, Sl.val a0, Sl.val a1, Sl.val a2, Sl.val a3, Sl.val a4, Sl.val a5] ++ List.replicate (N.length - 7) .any) (F a0 a1 a2 a3 a4 a5)) : FnG P w K mg base (k + 1) f fd ps (spJ K (dk6 F)) := by
  refine fn_j Fu S fun as n φ s => ?_
  unfold dk6 at s
  split at s
  · exact ⟨hl.symm, hb _ _ _ _ _ _⟩
  · obtain ⟨_, e, _⟩ := Mo.sat_lift s
    cases e
def dk7 (F : D → D → D → D → D → D → D → m D) : List Sl → m D
  | [.deck, .val a0, .val a1, .val a2, .val a3, .val a4, .val a5, .val a6] => F a0 a1 a2 a3 a4 a5 a6
  | _ => Mo.lift none
theorem fn_dk7 {F : D → D → D → D → D → D → D → m D} (Fu : Fun K x qual st f fd) (S : FnScope N ps (defScope st)) (hl : ps.length = 8)
    (hb : ∀ (a0 : D) (a1 : D) (a2 : D) (a3 : D) (a4 : D) (a5 : D) (a6 : D), ∀ (cdv : Value) (A : Around) (outer : List Env) (s : Shared) (H : Hp) (E : XK), Room k (A.deeper (envOfC qual (defScope st) s.heap.objs.size f cdv)) → A.guards = some [] →
      FJ (cxOf CX0 P w K mg base N qual (defScope st) f cdv A outer s H E).nox E0 true (defBody st) ([Sl.deck, Sl.val a0, Sl.val a1, Sl.val a2, Sl.val a3, Sl.val a4, Sl.val a5, Sl.val a6] ++ List.replicate (N.length - 8) .any) (F a0 a1 a2 a3 a4 a5 a6)) : FnG P w K mg base (k + 1) f fd ps (spJ K (dk7 F)) := by
  refine fn_j Fu S fun as n φ s => ?_
  unfold dk7 at s
  split at s
  · exact ⟨hl.symm, hb _ _ _ _ _ _ _⟩
  · obtain ⟨_, e, _⟩ := Mo.sat_lift s
    cases e
end
end DD
namespace DD
open PySem PySem.Spec PyProof.Rows L2
/-! ### reasoning about mirrors that draw: at most b draws, then φ -/
def Tri {α : Type} (b : Nat) (x : W α) (φ : α → Prop) : Prop := ∀ (n : Nat) (ψ : α → Nat → Prop), n + b ≤ 2 ^ 40 → (∀ a n', n' ≤ n + b → φ a → ψ a n') → x n ψ
section
variable {α β : Type} {b c : Nat}
theorem Tri.pure {a : α} {φ : α → Prop} (h : φ a) : Tri 0 (Pure.pure a : W α) φ := fun n ψ _ q => q a n (Nat.le_refl _) h
theorem Tri.bind {x : W α} {f : α → W β} {φ : α → Prop} {χ : β → Prop} (h : Tri b x φ) (hf : ∀ a, φ a → Tri c (f a) χ) : Tri (b + c) (x >>= f) χ := fun n ψ hn q =>
  h n (fun a n' => f a n' ψ) (by omega) fun a n' hn' ha => hf a ha n' ψ (by omega) fun a2 n2 h2 p2 => q a2 n2 (by omega) p2
theorem Tri.lift {o : Option α} {a : α} {φ : α → Prop} (e : o = some a) (h : φ a) : Tri 0 (Mo.lift o : W α) φ := fun n ψ _ q => ⟨a, e, q a n (Nat.le_refl _) h⟩
theorem Tri.mono {x : W α} {φ χ : α → Prop} (h : Tri b x φ) (hb : b ≤ c) (hp : ∀ a, φ a → χ a) : Tri c x χ := fun n ψ hn q => h n ψ (by omega) fun a n' hn' ha => q a n' (by omega) (hp a ha)
theorem Tri.le {x : W α} {φ : α → Prop} (h : Tri b x φ) (hb : b ≤ c) : Tri c x φ := h.mono hb fun _ z => z
theorem Tri.up {o : Option D} {a : D} {φ : D → Prop} (e : o = some a) (h : φ a) : Tri 0 (upW o) φ := fun n ψ _ q => ⟨a, e, q a n (Nat.le_refl _) h⟩
theorem Tri.draw {k : Int} (h0 : 0 < k) (h1 : k < 1073741824) : Tri 1 (drawW [.deck, .val (.int k)]) (fun d => ∃ r : Int, d = .int r ∧ 0 ≤ r ∧ r < k) := fun n ψ hn q =>
  ⟨k, rfl, h0, h1, by omega, fun r r0 r1 => q _ (n + 1) (Nat.le_refl _) ⟨r, rfl, r0, r1⟩⟩
theorem Tri.ite {t : Bool} {x y : W α} {φ : α → Prop} (h1 : t = true → Tri b x φ) (h2 : t = false → Tri b y φ) : Tri b (if t = true then x else y) φ := by
  cases t with
  | true => rw [if_pos rfl]; exact h1 rfl
  | false => rw [if_neg Bool.false_ne_true]; exact h2 rfl
/-- a comprehension without a test: one value of every turn -/
theorem Tri.comp {f : D → W D} {P : D → D → Prop} : ∀ (ds acc : List D), (∀ d ∈ ds, Tri c (f d) (P d)) → Tri (ds.length * c) (lcA (fun d => someM (f d)) ds acc) (fun out => ∃ es, out = acc ++ es ∧ es.length = ds.length ∧ ∀ (i : Nat) (d e : D), ds[i]? = some d → es[i]? = some e → P d e)
  | [], acc, _ => by
    have : Tri 0 (Pure.pure acc : W (List D)) (fun out => ∃ es, out = acc ++ es ∧ es.length = 0 ∧ ∀ (i : Nat) (d e : D), ([] : List D)[i]? = some d → es[i]? = some e → P d e) := Tri.pure ⟨[], by simp, rfl, fun i d e h => by simp at h⟩
    exact this.le (by omega)
  | d :: ds, acc, h => by
    have h1 : Tri c (someM (f d)) (fun o => ∃ e, o = some e ∧ P d e) := ((h d List.mem_cons_self).bind (c := 0) fun e he => Tri.pure ⟨e, rfl, he⟩).le (Nat.le_of_eq (Nat.add_zero c))
    refine (h1.bind (c := ds.length * c) fun o ⟨e, eo, he⟩ => ?_).le (by rw [List.length_cons, Nat.succ_mul]; omega)
    subst eo
    refine (Tri.comp ds (acc ++ (some e).toList) fun d hd => h d (List.mem_cons_of_mem _ hd)).mono (Nat.le_refl _) ?_
    rintro out ⟨es, rfl, el, q⟩
    refine ⟨e :: es, by simp, by simp [el], fun i d' e' h1 h2 => ?_⟩
    cases i with
    | zero => simp at h1 h2; subst h1 h2; exact he
    | succ i => exact q i d' e' (by simpa using h1) (by simpa using h2)
/-- behind a loop: it went on, or handed back -/
def Post {A : Type} (I : A → Prop) (R : D → Prop) : Fl A → Prop
  | .nx a => I a
  | .rt v => R v
/-- a loop with an invariant; R: what may be handed back from within -/
theorem Tri.loop {A : Type} {f : D → A → W (Fl A)} {I : List D → A → Prop} {R : D → Prop} (ds : List D) : ∀ a : A, I ds a → (∀ d r a, I (d :: r) a → Tri c (f d a) (Post (I r) R)) → Tri (ds.length * c) (loopM f ds a) (Post (I []) R) := by
  induction ds with
  | nil => exact fun a h _ => (Tri.pure (φ := Post (I []) R) (a := Fl.nx a) h).le (by omega)
  | cons d r ih =>
    intro a h hf
    refine ((hf d r a h).bind (c := r.length * c) fun z hz => ?_).le (by rw [List.length_cons, Nat.succ_mul]; omega)
    cases z with
    | nx a' => exact ih a' hz hf
    | rt v => exact (Tri.pure (φ := Post (I []) R) (a := Fl.rt v) hz).le (by omega)
/-- a loop that never hands back: what stands behind it -/
theorem Tri.thenB {A A' : Type} {x : W (Fl A)} {y : A → W (Fl A')} {I : A → Prop} {χ : Fl A' → Prop} (h : Tri b x (Post I fun _ => False)) (hy : ∀ a, I a → Tri c (y a) χ) : Tri (b + c) (x >>= fun f => DD.thenB f y) χ := h.bind fun z hz => by
  cases z with
  | nx a => exact hy a hz
  | rt v => exact hz.elim
theorem Tri.thenM {A : Type} {x : W (Fl A)} {y : A → W D} {I : A → Prop} {χ : D → Prop} (h : Tri b x (Post I fun _ => False)) (hy : ∀ a, I a → Tri c (y a) χ) : Tri (b + c) (x >>= fun f => DD.thenM f y) χ := h.bind fun z hz => by
  cases z with
  | nx a => exact hy a hz
  | rt v => exact hz.elim
theorem Tri.sat {x : W D} {φ : D → Prop} (h : Tri b x φ) (hb : b ≤ 2 ^ 40) : Mo.sat x 0 (fun d _ => φ d) (fun _ _ => False) := h 0 _ (by omega) fun _ _ _ z => z
end
/-! ### mirrors that do not draw -/
theorem lcA_map {f : D → Option D} {g : D → D} : ∀ (ds acc : List D), (∀ d ∈ ds, f d = some (g d)) → lcA (m := Option) (fun d => someM (f d)) ds acc = some (acc ++ ds.map g)
  | [], acc, _ => by simp [lcA]
  | d :: ds, acc, h => by
    show ((f d >>= fun y => Pure.pure (some y)) >>= fun o => lcA (m := Option) (fun d => someM (f d)) ds (acc ++ o.toList)) = _
    rw [h d List.mem_cons_self]
    show lcA (m := Option) (fun d => someM (f d)) ds (acc ++ [g d]) = _
    rw [lcA_map ds (acc ++ [g d]) fun d hd => h d (List.mem_cons_of_mem _ hd)]
    simp
theorem lcA_filter {f : D → Option D} {t : D → Option Bool} {g : D → D} {p : D → Bool} : ∀ (ds acc : List D), (∀ d ∈ ds, t d = some (p d)) → (∀ d ∈ ds, p d = true → f d = some (g d)) → lcA (m := Option) (fun d => ifM (t d) (f d)) ds acc = some (acc ++ (ds.filter p).map g)
  | [], acc, _, _ => by simp [lcA]
  | d :: ds, acc, h, h2 => by
    show ((t d >>= fun k => if k = true then someM (f d) else Pure.pure none) >>= fun o => lcA (m := Option) (fun d => ifM (t d) (f d)) ds (acc ++ o.toList)) = _
    rw [h d List.mem_cons_self]
    have ih := fun acc => lcA_filter ds acc (fun d hd => h d (List.mem_cons_of_mem _ hd)) fun d hd => h2 d (List.mem_cons_of_mem _ hd)
    cases hp : p d with
    | true =>
      show ((someM (f d)) >>= fun o => lcA (m := Option) (fun d => ifM (t d) (f d)) ds (acc ++ o.toList)) = _
      unfold someM
      rw [h2 d List.mem_cons_self hp]
      show lcA (m := Option) (fun d => ifM (t d) (f d)) ds (acc ++ [g d]) = _
      rw [ih]
      simp [hp]
    | false =>
      show lcA (m := Option) (fun d => ifM (t d) (f d)) ds (acc ++ []) = _
      rw [ih]
      simp [hp]
/-! ### tuples of ints -/
abbrev tI (r : List Int) : D := .tuple (r.map .int)
abbrev tT (rows : List (List Int)) : D := .tuple (rows.map tI)
theorem ints_of : ∀ r : List Int, intsD (r.map .int) = some r
  | [] => rfl
  | i :: r => by
    show (intsD (r.map .int)).map (i :: ·) = _
    rw [ints_of r]
    rfl
theorem sum_tI (r : List Int) : sumD (tI r) = some (.int r.sum) := by
  show (intsD (r.map .int)).map _ = _
  rw [ints_of]
  rfl
theorem sum_lI (r : List Int) : sumD (.list (r.map .int)) = some (.int r.sum) := by
  show (intsD (r.map .int)).map _ = _
  rw [ints_of]
  rfl
theorem rows_of : ∀ rows : List (List Int), rowsD (rows.map tI) = some (rows.map fun r => r.map .int)
  | [] => rfl
  | r :: rows => by
    show (rowsD (rows.map tI)).map (r.map .int :: ·) = _
    rw [rows_of rows]
    rfl
/-! ### what repr shows -/
mutual
def smallB : D → Bool
  | .none => true
  | .bool _ => true
  | .int i => decide (i.natAbs < 10 ^ 20)
  | .str x => PyData.strOk x && decide ((PyData.str x).shown.length ≤ 28)
  | .list xs => smallAll xs
  | .tuple xs => smallAll xs
  | .dict _ => false
def smallAll : List D → Bool
  | [] => true
  | x :: xs => smallB x && smallAll xs
end
mutual
def nodes : D → Nat
  | .list xs => nodesAll xs + 1
  | .tuple xs => nodesAll xs + 1
  | _ => 1
def nodesAll : List D → Nat
  | [] => 0
  | x :: xs => nodes x + nodesAll xs
end
theorem int_len {i : Int} (h : i.natAbs < 10 ^ 20) : (Str.ofString (toString i)).length ≤ 21 := by
  rw [PySem.ofString_length, Int.toString_eq_repr, Int.repr_eq_if]
  split
  · exact Nat.le_trans ((Nat.length_repr_le_iff (k := 20) (by decide)).mpr (by omega)) (by decide)
  · rw [String.length_append]
    have := (Nat.length_repr_le_iff (n := (-i).toNat) (k := 20) (by decide)).mpr (by omega)
    have e : ("-" : String).length = 1 := by decide
    omega
theorem log_lt {i : Int} (h : i.natAbs < 10 ^ 20) : i.natAbs.log2 < 1920 := by
  by_cases h0 : i.natAbs = 0
  · rw [h0]; decide
  · exact Nat.lt_of_lt_of_le ((Nat.log2_lt h0).mpr (Nat.lt_of_lt_of_le h (show 10 ^ 20 ≤ 2 ^ 70 by decide))) (by decide)
theorem list_len (ts : List Str) : (listText ts).length ≤ 2 + piled ts := by
  unfold listText
  rw [strLen_append]
  have e : ((("]" : String) : Str)).length = 1 := rfl
  cases ts with
  | nil =>
    show ((("[" : String) : Str)).length + _ ≤ _
    have e' : ((("[" : String) : Str)).length = 1 := rfl
    rw [e, e', piled_nil]
    omega
  | cons t r =>
    show (textFrom 1 (Str.ofString "[" ++ Str.ofString (if 0 > 0 then ", " else "") ++ t) r).length + _ ≤ _
    rw [textFrom_length_pos r 1 _ (by decide), strLen_append, strLen_append, piled_cons, e]
    have e' : (Str.ofString "[").length = 1 := rfl
    have e2 : (Str.ofString (if 0 > 0 then ", " else "")).length = 0 := rfl
    omega
theorem tup_len (ts : List Str) : (tupleText ts).length ≤ 3 + piled ts := by
  unfold tupleText
  rw [strLen_append, strLen_append]
  have e1 : ((("(" : String) : Str)).length = 1 := rfl
  have e3 : (((if ts.length == 1 then ",)" else ")" : String) : Str)).length ≤ 2 := by split <;> decide
  by_cases h : ts = []
  · subst h
    have e2 : (Str.join (Str.ofString ", ") []).length = 0 := rfl
    rw [e1, e2]
    omega
  · have := join_length_add ts h
    rw [e1]
    omega
mutual
theorem shown_len : ∀ d : D, smallB d = true → d.shown.length + 2 ≤ 30 * nodes d ∧ d.showable = true ∧ d.depth ≤ nodes d
  | .none, _ => ⟨by decide, rfl, by decide⟩
  | .bool b, _ => ⟨by cases b <;> decide, rfl, by cases b <;> decide⟩
  | .int i, h => by
    have h' : i.natAbs < 10 ^ 20 := of_decide_eq_true h
    refine ⟨?_, decide_eq_true (log_lt h'), by simp [PyData.depth, nodes]⟩
    have := int_len h'
    show (Str.ofString (toString i)).length + 2 ≤ 30 * 1
    omega
  | .str x, h => by
    have h' : PyData.strOk x = true ∧ (PyData.str x).shown.length ≤ 28 := by
      have : (PyData.strOk x && decide ((PyData.str x).shown.length ≤ 28)) = true := h
      simpa using this
    refine ⟨?_, rfl, by simp [PyData.depth, nodes]⟩
    show (PyData.str x).shown.length + 2 ≤ 30 * 1
    omega
  | .list xs, h => by
    obtain ⟨h1, h2, h3⟩ := shownAll_len xs h
    refine ⟨?_, h2, ?_⟩
    · show (listText (PyData.shownAll xs)).length + 2 ≤ 30 * (nodesAll xs + 1)
      have := list_len (PyData.shownAll xs)
      omega
    · simp only [PyData.depth, nodes]
      omega
  | .tuple xs, h => by
    obtain ⟨h1, h2, h3⟩ := shownAll_len xs h
    refine ⟨?_, h2, ?_⟩
    · show (tupleText (PyData.shownAll xs)).length + 2 ≤ 30 * (nodesAll xs + 1)
      have := tup_len (PyData.shownAll xs)
      omega
    · simp only [PyData.depth, nodes]
      omega
  | .dict _, h => by cases h
theorem shownAll_len : ∀ xs : List D, smallAll xs = true → piled (PyData.shownAll xs) ≤ 30 * nodesAll xs ∧ PyData.showableAll xs = true ∧ PyData.depthAll xs ≤ nodesAll xs
  | [], _ => ⟨by simp [PyData.shownAll, piled], rfl, by simp [PyData.depthAll]⟩
  | x :: xs, h => by
    have h' : smallB x = true ∧ smallAll xs = true := by
      have : (smallB x && smallAll xs) = true := h
      simpa using this
    obtain ⟨a1, a2, a3⟩ := shown_len x h'.1
    obtain ⟨b1, b2, b3⟩ := shownAll_len xs h'.2
    refine ⟨?_, ?_, ?_⟩
    · show piled (x.shown :: PyData.shownAll xs) ≤ 30 * (nodes x + nodesAll xs)
      rw [piled_cons]
      omega
    · show (x.showable && PyData.showableAll xs) = true
      rw [a2, b2]
      rfl
    · show _ ≤ nodes x + nodesAll xs
      simp only [PyData.depthAll]
      omega
end
theorem repr_ok {d : D} (h : smallB d = true) (hn : nodes d ≤ 30000) (hd : d.depth ≤ 50) : reprD d = some (.str d.shown) := by
  obtain ⟨a, b, c⟩ := shown_len d h
  unfold reprD
  rw [if_pos ⟨b, by omega, hd⟩]
/-! ### drawing mirrors' shapes -/
theorem wb_pure {α β : Type} (a : α) (f : α → W β) : ((Pure.pure a : W α) >>= f) = f a := rfl
theorem wb_assoc {α β γ : Type} (x : W α) (f : α → W β) (g : β → W γ) : ((x >>= f) >>= g) = (x >>= fun a => f a >>= g) := rfl
theorem Tri.bindL {α β : Type} {c : Nat} {o : Option α} {a : α} {f : α → W β} {χ : β → Prop} (e : o = some a) (h : Tri c (f a) χ) : Tri c ((Mo.lift o : W α) >>= f) χ :=
  ((Tri.lift (φ := fun z => z = a) e rfl).bind fun z hz => hz ▸ h).le (Nat.le_of_eq (Nat.zero_add c))
theorem Tri.bindU {β : Type} {c : Nat} {o : Option D} {a : D} {f : D → W β} {χ : β → Prop} (e : o = some a) (h : Tri c (f a) χ) : Tri c (upW o >>= f) χ := Tri.bindL e h
theorem small_ok {ds : List D} (h : ds.length ≤ 1000000) : small ds = some ds := by
  unfold small
  rw [if_pos h]
theorem rangeL_length (lo : Int) (n : Nat) : (rangeL lo n).length = n := by simp [rangeL]
theorem range1_ok {k : Int} (h1 : k < 2 ^ 62) (h0 : -(2 ^ 62) < k) : rangeD1 (.int k) = some (rangeL 0 k.toNat) := by
  show (if k.natAbs < 2 ^ 62 then some (rangeL 0 k.toNat) else none) = _
  rw [if_pos (by omega)]
theorem mem_rangeL {lo : Int} {n : Nat} {d : D} (h : d ∈ rangeL lo n) : ∃ i : Nat, i < n ∧ d = .int (lo + (i : Nat)) := by
  obtain ⟨i, hi, rfl⟩ := List.mem_map.mp h
  exact ⟨i, List.mem_range.mp hi, rfl⟩
/-- tuple([f for _ in ds]): all that comes has P -/
theorem Tri.tupC {f : D → W D} {ds : List D} {P : D → Prop} {b c L : Nat} {x : W (List D)} (hx : Tri b x (fun l => l = ds)) (hL : ds.length ≤ L) (hm : L ≤ 1000000) (h : ∀ d ∈ ds, Tri c (f d) P) : Tri (b + L * c) (op1 tupleD (lstM (comp1 x f))) (fun out => ∃ es, out = .tuple es ∧ es.length = ds.length ∧ ∀ e ∈ es, P e) := by
  refine hx.bind fun l hl => ?_
  subst hl
  refine Tri.bindL (small_ok (by omega)) ?_
  refine ((Tri.comp (P := fun _ => P) l [] h).bind (c := 0) fun out ⟨es, eo, el, q⟩ => ?_).le ?_
  · refine Tri.lift (a := .tuple es) (by rw [eo]; simp [tupleD]) ⟨es, rfl, el, fun e he => ?_⟩
    obtain ⟨i, hi⟩ := List.getElem?_of_mem he
    have hil : i < l.length := by rw [← el]; exact (List.getElem?_eq_some_iff.mp hi).1
    exact q i l[i] e (List.getElem?_eq_getElem hil) hi
  · rw [Nat.add_zero]
    exact Nat.mul_le_mul_right c hL
theorem ints_ex {P : Int → Prop} : ∀ es : List D, (∀ e ∈ es, ∃ r : Int, e = .int r ∧ P r) → ∃ rs : List Int, es = rs.map .int ∧ ∀ r ∈ rs, P r
  | [], _ => ⟨[], rfl, fun r h => by simp at h⟩
  | e :: es, h => by
    obtain ⟨r, rfl, hr⟩ := h e List.mem_cons_self
    obtain ⟨rs, rfl, hs⟩ := ints_ex es fun e he => h e (List.mem_cons_of_mem _ he)
    exact ⟨r :: rs, rfl, fun x hx => (List.mem_cons.mp hx).elim (fun z => z ▸ hr) (hs x)⟩
theorem rows_ex {P : List Int → Prop} : ∀ es : List D, (∀ e ∈ es, ∃ r : List Int, e = tI r ∧ P r) → ∃ rs : List (List Int), es = rs.map tI ∧ ∀ r ∈ rs, P r
  | [], _ => ⟨[], rfl, fun r h => by simp at h⟩
  | e :: es, h => by
    obtain ⟨r, rfl, hr⟩ := h e List.mem_cons_self
    obtain ⟨rs, rfl, hs⟩ := rows_ex es fun e he => h e (List.mem_cons_of_mem _ he)
    exact ⟨r :: rs, rfl, fun x hx => (List.mem_cons.mp hx).elim (fun z => z ▸ hr) (hs x)⟩
theorem small_ints : ∀ r : List Int, (∀ x ∈ r, x.natAbs < 10 ^ 20) → smallAll (r.map .int) = true
  | [], _ => rfl
  | i :: r, h => by
    show (smallB (.int i) && smallAll (r.map .int)) = true
    rw [small_ints r fun x hx => h x (List.mem_cons_of_mem _ hx)]
    simp only [smallB, Bool.and_true, decide_eq_true_eq]
    exact h i List.mem_cons_self
theorem nodes_ints : ∀ r : List Int, nodesAll (r.map .int) = r.length
  | [] => rfl
  | i :: r => by
    show 1 + nodesAll (r.map .int) = _
    rw [nodes_ints r, List.length_cons]
    omega
theorem depth_ints : ∀ r : List Int, PyData.depthAll (r.map .int) = 0
  | [] => rfl
  | i :: r => by
    show max (PyData.depth (.int i)) (PyData.depthAll (r.map .int)) = 0
    rw [depth_ints r]
    rfl
theorem small_rows : ∀ rs : List (List Int), (∀ r ∈ rs, ∀ x ∈ r, x.natAbs < 10 ^ 20) → smallAll (rs.map tI) = true
  | [], _ => rfl
  | r :: rs, h => by
    show (smallAll (r.map .int) && smallAll (rs.map tI)) = true
    rw [small_ints r (h r List.mem_cons_self), small_rows rs fun x hx => h x (List.mem_cons_of_mem _ hx)]
    rfl
theorem nodes_rows {k : Nat} : ∀ rs : List (List Int), (∀ r ∈ rs, r.length ≤ k) → nodesAll (rs.map tI) ≤ rs.length * (k + 1)
  | [], _ => Nat.zero_le _
  | r :: rs, h => by
    show (nodesAll (r.map .int) + 1) + nodesAll (rs.map tI) ≤ _
    have := nodes_rows rs fun x hx => h x (List.mem_cons_of_mem _ hx)
    have := h r List.mem_cons_self
    rw [nodes_ints, List.length_cons, Nat.succ_mul]
    omega
theorem depth_rows : ∀ rs : List (List Int), PyData.depthAll (rs.map tI) ≤ 1
  | [] => Nat.zero_le _
  | r :: rs => by
    show max (PyData.depthAll (r.map .int) + 1) (PyData.depthAll (rs.map tI)) ≤ 1
    have := depth_rows rs
    rw [depth_ints]
    omega
theorem repr_rows {rs : List (List Int)} {k : Nat} (h : ∀ r ∈ rs, ∀ x ∈ r, x.natAbs < 10 ^ 20) (hk : ∀ r ∈ rs, r.length ≤ k) (hn : rs.length * (k + 1) ≤ 29999) : reprD (tT rs) = some (.str (tT rs).shown) := by
  refine repr_ok (small_rows rs h) ?_ ?_
  · show nodesAll (rs.map tI) + 1 ≤ _
    have := nodes_rows rs hk
    omega
  · show PyData.depthAll (rs.map tI) + 1 ≤ 50
    have := depth_rows rs
    omega
theorem eq_str (x y : Str) : eqD (.str x) (.str y) = some (.bool (decide (x = y))) := rfl
theorem ne_str (x y : Str) : neD (.str x) (.str y) = some (.bool (!decide (x = y))) := rfl
section
variable {α β : Type} {b c d : Nat}
theorem Tri.st {x : W α} {f : α → W β} {φ : α → Prop} {χ : β → Prop} (h : Tri b x φ) (hf : ∀ a, φ a → Tri (d - b) (f a) χ) (hd : b ≤ d := by decide) : Tri d (x >>= f) χ := (h.bind hf).le (by omega)
theorem Tri.dr {k : Int} {f : D → W β} {χ : β → Prop} (h0 : 0 < k) (h1 : k < 1073741824) (hf : ∀ r : Int, 0 ≤ r → r < k → Tri (d - 1) (f (.int r)) χ) (hd : 1 ≤ d := by decide) : Tri d (drawW [.deck, .val (.int k)] >>= f) χ :=
  (Tri.draw h0 h1).st (fun a ⟨r, e, r0, r1⟩ => e ▸ hf r r0 r1) hd
theorem Tri.compD {o : D → Option D} {g : D → D} : ∀ (ds acc : List D), (∀ e ∈ ds, o e = some (g e)) → Tri 0 (lcA (fun e => someM (Mo.lift (o e) : W D)) ds acc) (fun out => out = acc ++ ds.map g)
  | [], acc, _ => Tri.pure (by simp)
  | e :: ds, acc, h => by
    refine (Tri.bind (b := 0) (c := 0) (φ := fun z => z = some (g e)) (Tri.bindL (h e List.mem_cons_self) (Tri.pure rfl)) fun z hz => ?_)
    subst hz
    exact (Tri.compD ds (acc ++ [g e]) fun x hx => h x (List.mem_cons_of_mem _ hx)).mono (Nat.le_refl _) fun out ho => by rw [ho]; simp
theorem Tri.loopR {A : Type} {f : D → A → W (Fl A)} {I : Nat → A → Prop} {R : D → Prop} {lo : Int} {n : Nat} {a : A} (h0 : I 0 a) (h : ∀ i a, i < n → I i a → Tri c (f (.int (lo + (i : Nat))) a) (Post (I (i + 1)) R)) : Tri (n * c) (loopM f (rangeL lo n) a) (Post (I n) R) := by
  have := Tri.loop (c := c) (f := f) (R := R) (I := fun ds a => ∃ i, i ≤ n ∧ ds = (rangeL lo n).drop i ∧ I i a) (rangeL lo n) a ⟨0, Nat.zero_le _, rfl, h0⟩ fun e r a ⟨i, hi, ei, hI⟩ => by
    have hl : i < n := by
      by_cases z : i < n
      · exact z
      · rw [List.drop_eq_nil_of_le (by rw [rangeL_length]; omega)] at ei
        cases ei
    rw [List.drop_eq_getElem_cons (by rw [rangeL_length]; exact hl)] at ei
    obtain ⟨e1, e2⟩ := List.cons.inj ei
    have e3 : (rangeL lo n)[i]'(by rw [rangeL_length]; exact hl) = .int (lo + (i : Nat)) := by simp [rangeL]
    rw [e1, e3]
    refine (h i a hl hI).mono (Nat.le_refl _) fun z hz => ?_
    cases z with
    | nx a' => exact ⟨i + 1, hl, e2, hz⟩
    | rt v => exact hz
  rw [rangeL_length] at this
  refine this.mono (Nat.le_refl _) fun z hz => ?_
  cases z with
  | nx a' =>
    obtain ⟨i, hi, ei, hI⟩ := hz
    have : n ≤ i := by
      have e := congrArg List.length ei
      rw [List.length_drop, rangeL_length] at e
      simp at e
      omega
    obtain rfl : i = n := by omega
    exact hI
  | rt v => exact hz
end
/-! ### columns -/
abbrev col (rows : List (List Int)) (i : Nat) : List Int := rows.map fun r => r.getD i 0
abbrev cols (rows : List (List Int)) (k : Nat) : List Int := (List.range k).map fun i => (col rows i).sum
theorem at_int {r : List Int} {i : Nat} (h : i < r.length) : getD (tI r) (.int (i : Nat)) = some (.int (r.getD i 0)) := by
  refine atI_at rfl ?_
  rw [List.getElem?_map, List.getElem?_eq_getElem h]
  simp [List.getD, h]
theorem getD_map {r : List Int} {i : Nat} (h : i < r.length) : (r.map PyData.int).getD i .none = .int (r.getD i 0) := by
  simp [List.getD, h]
theorem zip_rows {rows : List (List Int)} {k : Nat} (h1 : 1 ≤ rows.length) (h4 : rows.length ≤ 4) (hk : ∀ r ∈ rows, r.length = k) : zipD (rows.map tI) = some ((List.range k).map fun i => tI (col rows i)) := by
  cases rows with
  | nil => simp at h1
  | cons r rs =>
    have e : r.length = k := hk r List.mem_cons_self
    rw [zipD_old (r := r.map .int) (rs := rs.map fun r => r.map .int) (by rw [rows_of]; rfl)]
    · congr 1
      rw [List.length_map, e]
      refine List.map_congr_left fun i hi => ?_
      have hi' := List.mem_range.mp hi
      have all : ∀ xs : List (List Int), (∀ x ∈ xs, x.length = k) → (xs.map fun r => r.map PyData.int).map (fun x => x.getD i .none) = (col xs i).map .int := by
        intro xs hx
        rw [List.map_map, List.map_map]
        refine List.map_congr_left fun x hxm => ?_
        exact getD_map (by rw [hx x hxm]; exact hi')
      have := all (r :: rs) hk
      simp only [List.map_cons] at this
      exact congrArg PyData.tuple this
    · simp at h4 ⊢; omega
    · intro x hx
      obtain ⟨y, hy, rfl⟩ := List.mem_map.mp hx
      rw [List.length_map, List.length_map, e, hk y (List.mem_cons_of_mem _ hy)]
      exact Nat.le_refl _
theorem ob_pure {α β : Type} (a : α) (f : α → Option β) : ((Pure.pure a : Option α) >>= f) = f a := rfl
theorem ob_some {α β : Type} (a : α) (f : α → Option β) : (some a >>= f) = f a := rfl
theorem ob_lift {α : Type} (o : Option α) : (Mo.lift o : Option α) = o := rfl
section
variable {γ : Type}
theorem Tri.compM {o : D → Option D} {F G : γ → D} (xs : List γ) (acc : List D) (h : ∀ x ∈ xs, o (F x) = some (G x)) : Tri 0 (lcA (fun e => someM (Mo.lift (o e) : W D)) (xs.map F) acc) (fun out => out = acc ++ xs.map G) := by
  induction xs generalizing acc with
  | nil => exact Tri.pure (by simp)
  | cons x xs ih =>
    refine (Tri.bind (b := 0) (c := 0) (φ := fun z => z = some (G x)) (Tri.bindL (h x List.mem_cons_self) (Tri.pure rfl)) fun z hz => ?_)
    subst hz
    exact (ih (acc ++ [G x]) fun y hy => h y (List.mem_cons_of_mem _ hy)).mono (Nat.le_refl _) fun out ho => by rw [ho]; simp
theorem lcA_mapM {f : D → Option D} {F G : γ → D} (xs : List γ) (acc : List D) (h : ∀ x ∈ xs, f (F x) = some (G x)) : lcA (m := Option) (fun d => someM (f d)) (xs.map F) acc = some (acc ++ xs.map G) := by
  induction xs generalizing acc with
  | nil => simp [lcA]
  | cons x xs ih =>
    show ((f (F x) >>= fun y => Pure.pure (some y)) >>= fun o => lcA (m := Option) (fun d => someM (f d)) (xs.map F) (acc ++ o.toList)) = _
    rw [h x List.mem_cons_self]
    show lcA (m := Option) (fun d => someM (f d)) (xs.map F) (acc ++ [G x]) = _
    rw [ih (acc ++ [G x]) fun y hy => h y (List.mem_cons_of_mem _ hy)]
    simp
end
section
variable {b c d : Nat}
theorem Tri.thB {A A' : Type} {x : W (Fl A)} {y : A → W (Fl A')} {I : A → Prop} {χ : Fl A' → Prop} (h : Tri b x (Post I fun _ => False)) (hy : ∀ a, I a → Tri (d - b) (y a) χ) (hd : b ≤ d := by decide) : Tri d (x >>= fun f => DD.thenB f y) χ := (Tri.thenB h hy).le (by omega)
theorem Tri.thM {A : Type} {x : W (Fl A)} {y : A → W D} {I : A → Prop} {χ : D → Prop} (h : Tri b x (Post I fun _ => False)) (hy : ∀ a, I a → Tri (d - b) (y a) χ) (hd : b ≤ d := by decide) : Tri d (x >>= fun f => DD.thenM f y) χ := (Tri.thenM h hy).le (by omega)
theorem Tri.loop0 {A : Type} {f : D → A → W (Fl A)} {I : Nat → A → Prop} {R : D → Prop} {lo : Int} {n : Nat} {a : A} (h0 : I 0 a) (h : ∀ i a, i < n → I i a → Tri 0 (f (.int (lo + (i : Nat))) a) (Post (I (i + 1)) R)) : Tri 0 (loopM f (rangeL lo n) a) (Post (I n) R) := (Tri.loopR (c := 0) h0 h).le (by omega)
theorem Tri.nx {A : Type} {a : A} {I : A → Prop} {R : D → Prop} (h : I a) : Tri d (Pure.pure (Fl.nx a) : W (Fl A)) (Post I R) := (Tri.pure (φ := Post I R) (a := Fl.nx a) h).le (Nat.zero_le _)
theorem Tri.rt {A : Type} {v : D} {I : A → Prop} {R : D → Prop} (h : R v) : Tri d (Pure.pure (Fl.rt v) : W (Fl A)) (Post I R) := (Tri.pure (φ := Post I R) (a := Fl.rt v) h).le (Nat.zero_le _)
theorem Tri.li {α : Type} {o : Option α} {a : α} {φ : α → Prop} (e : o = some a) (h : φ a) : Tri d (Mo.lift o : W α) φ := (Tri.lift e h).le (Nat.zero_le _)
end
theorem sum_in {B : Int} : ∀ l : List Int, (∀ x ∈ l, 0 ≤ x ∧ x ≤ B) → 0 ≤ l.sum ∧ l.sum ≤ l.length * B
  | [], _ => by simp
  | x :: l, h => by
    have h1 := sum_in l fun y hy => h y (List.mem_cons_of_mem _ hy)
    have h2 := h x List.mem_cons_self
    rw [List.sum_cons, List.length_cons]
    have e : ((l.length + 1 : Nat) : Int) * B = l.length * B + B := by
      rw [Int.natCast_add, Int.add_mul]
      simp
    omega
theorem repr_rowsL {rs : List (List Int)} {k : Nat} (h : ∀ r ∈ rs, ∀ x ∈ r, x.natAbs < 10 ^ 20) (hk : ∀ r ∈ rs, r.length ≤ k) (hn : rs.length * (k + 1) ≤ 29999) : reprD (.list (rs.map tI)) = some (.str (PyData.list (rs.map tI)).shown) := by
  refine repr_ok (d := .list (rs.map tI)) (small_rows rs h) ?_ ?_
  · show nodesAll (rs.map tI) + 1 ≤ _
    have := nodes_rows rs hk
    omega
  · show PyData.depthAll (rs.map tI) + 1 ≤ 50
    have := depth_rows rs
    omega
theorem add_tI {r s : List Int} (h : r.length + s.length ≤ 1000000) : addD (tI r) (tI s) = some (tI (r ++ s)) := by
  show (small (r.map .int ++ s.map .int)).map PyData.tuple = _
  rw [small_ok (by rw [List.length_append, List.length_map, List.length_map]; exact h), ← List.map_append]
  rfl
theorem cols_succ (rows : List (List Int)) (i : Nat) : cols rows (i + 1) = cols rows i ++ [(col rows i).sum] := by
  unfold cols
  rw [List.range_succ, List.map_append]
  rfl
theorem getD_in {P : Int → Prop} {r : List Int} {i : Nat} (h : ∀ x ∈ r, P x) (hi : i < r.length) : P (r.getD i 0) := by
  have e : r.getD i 0 = r[i] := by simp [List.getD, hi]
  rw [e]
  exact h _ (List.getElem_mem hi)
end DD
namespace DD
open PySem PySem.Spec PyProof.Rows L2
/-! ### enumerate(tuple) -/
def enO (it : Addr) : Obj := { cls := .type "enumerate", data := .fields #[.none, .bool false, .ref it, rawInt 0, .none, .none] }
def tiO (l : Addr) : Obj := { cls := .type "tuple_iterator", data := .fields #[.ref l, .int 0 0] }
theorem meets_enT (l : Addr) (items : Array Value) : Meets (Builtin.«enumerate.__new__» ⟨[.type "enumerate", .ref l], []⟩) (fun _ R s => s.heap.IsTuple l items ∧ R (.ok (.ret (.ref (s.heap.push (tiO l)).objs.size))) { s with heap := (s.heap.push (tiO l)).push (enO s.heap.objs.size) }) :=
  .of_wp fun prog w A R s h => by
    obtain ⟨hp, g, d, tk, os⟩ := s
    obtain ⟨hl, h⟩ := h
    have hsub := sub_enumerate
    have q1 : ∀ {A' : Around} {E : Value → Shared → Prop} {Q : Value → Shared → Prop}, Q (.ref hp.objs.size) ⟨hp.push (tiO l), g, d, tk, os⟩ → wpAny (model prog w) A' (pyIter (.ref l)) Q E ⟨hp, g, d, tk, os⟩ := fun q => wpAny_pyIter_tuple hl q
    wp_walk using q1
    refine wpAny_stack_any fun st => wpAny_pure ?_
    split
    · rename_i c _ _ _ _ _
      cases (c == Value.type "enumerate") <;> (wp_walk using q1; exact ⟨_, rfl, h⟩)
    · wp_walk using q1
      exact ⟨_, rfl, h⟩
section
variable {prog : Program} {w : World} {A : Around} {E : Value → Shared → Prop} {s : Shared}
theorem call_enT {l : Addr} {items : Array Value} {Q : Value → Shared → Prop} (hL : s.heap.IsTuple l items)
    (h : ∀ h', IsEnum h' (s.heap.objs.size + 1) s.heap.objs.size 0 .none → h'.IsTupleIter s.heap.objs.size l 0 → (∀ b o, s.heap.get? b = some o → h'.get? b = some o) → Q (.ref (s.heap.objs.size + 1)) { s with heap := h' }) : wpAny (model prog w) A (call (.type "enumerate") [.ref l]) Q E s := by
  refine callType_new F.called_enumerate (by decide) (F.typeCall_enumerate_1 _) (F.newCall_enumerate_1 _) (fun obj => F.args_object_init_2 obj _) F.entry_enumerate_new (meets_enT l items) ⟨hL, ?_⟩
  have hz : (s.heap.push (tiO l)).objs.size = s.heap.objs.size + 1 := Heap.size_push ..
  show _ ∧ _
  rw [hz]
  have he : IsEnum ((s.heap.push (tiO l)).push (enO s.heap.objs.size)) (s.heap.objs.size + 1) s.heap.objs.size 0 .none := by
    have := Heap.get?_push_size (s.heap.push (tiO l)) (o := enO s.heap.objs.size) rfl
    rw [hz] at this
    exact this
  exact ⟨⟨_, he, rfl⟩, h _ he ⟨_, Heap.get?_push_of_some _ (Heap.get?_push_size _ rfl), rfl, rfl⟩ fun b o x => Heap.get?_push_of_some _ (Heap.get?_push_of_some _ x)⟩
theorem draws_tup {it l : Addr} {items : Array Value} (hh : A.handled = none) (hne : l ≠ it) : Draws prog w A it [it, l] items.size (fun i x => items[i]? = some x) (fun i h => h.IsTupleIter it l i ∧ h.IsTuple l items) where
  live := fun i h st => let ⟨⟨o, e, _⟩, _⟩ := st; ⟨o, e⟩
  frame := fun i h h' st k => let ⟨⟨o, e, r⟩, ⟨o2, e2, r2⟩⟩ := st; ⟨⟨o, k it (by simp) o e, r⟩, ⟨o2, k l (by simp) o2 e2, r2⟩⟩
  item := fun i s Q E hi st hQ => by
    refine wpAny_nextOf_tuple_item st.1 st.2 (x := items[i]) (Array.getElem?_eq_getElem hi) fun h' hi' sb => hQ _ h' s.toks (Array.getElem?_eq_getElem hi) ⟨hi', ?_⟩ sb
    obtain ⟨o2, e2, r2⟩ := st.2
    exact ⟨o2, (sb.2 l hne).trans e2, r2⟩
  done := fun s Q E st hE => wpAny_nextOf_tuple_end hh st.1 st.2 (by simp) hE
end
def IteT (K : PySem.W.Frag) (a : Addr) : It :=
  ⟨fun i H => ∃ (xs : List V) (x : V), SqT K H a xs ∧ xs[i]? = some x, fun i H v H' => ∃ T x, v = .ref T ∧ H T = none ∧ H' = upd H T (.tup [.int (i : Nat), x]) ∧ ∀ xs, SqT K H a xs → xs[i]? = some x, fun i H => ∃ xs : List V, SqT K H a xs ∧ xs.length ≤ i⟩
theorem turn_enT {P : Program} {w : World} {K : PySem.W.Frag} {elts : List Expr} {kk : Nat} {tpos : Pos} {a e it : Addr} (hai : a ≠ it) (hae : a ≠ e) (hei : e ≠ it) :
    Turn P w K (.Tuple elts kk tpos) (IteT K a) [e, it] e (fun i h => (∃ old, IsEnum h e it ((i : Nat) : Int) old) ∧ h.IsTupleIter it a i) where
  mem := by simp
  obj := fun i h st b hb => by
    obtain ⟨⟨old, he⟩, ⟨o, ho, hc, hd⟩⟩ := st
    rcases List.mem_cons.mp hb with rfl | hb
    · exact ⟨_, he, fun v q => nomatch q⟩
    · rw [List.mem_singleton.mp hb]
      exact ⟨o, ho, fun v q => by rw [hd] at q; cases q⟩
  keep := fun i h h' st k => let ⟨⟨old, he⟩, ⟨o, ho, r⟩⟩ := st; ⟨⟨old, k e (by simp) _ he⟩, ⟨o, k it (by simp) o ho, r⟩⟩
  item := by
    intro X hP hw hK hc i pins s σ H E I hf st hg
    subst hP hw hK
    obtain ⟨⟨old, he⟩, hit⟩ := st
    obtain ⟨xs, x, hq, hx⟩ := hg
    obtain ⟨its, rv, p, hz⟩ := I.tuple hq
    obtain ⟨u, hu, ru⟩ := rv.get hx
    have hel : e < s.heap.objs.size := Heap.lt_size he
    have hil : it < s.heap.objs.size := by obtain ⟨_, q, _⟩ := hit; exact Heap.lt_size q
    have hlt : i < its.toArray.size := by simpa using (List.getElem?_eq_some_iff.mp hu).1
    refine wpAny_pyNext_enum_itemD (draws_tup (I.ok.hd hc) hai) he (i := i) ⟨hit, p⟩ hlt hei (by simp [hei]; exact fun z => hae z.symm) fun y h' tk hy ho st' hT hsz hk => ?_
    have hy' : y = u := by
      have hy2 : its.toArray[i]? = some y := hy
      rw [List.getElem?_toArray, hu] at hy2
      exact (Option.some.inj hy2).symm
    subst hy'
    refine ⟨_, rfl, wpAny_letOwnedTupleGo_enum (s := { s with heap := h', toks := tk + 1 }) ho fun h'' he' sb => ?_⟩
    have hT2 : h''.get? s.heap.objs.size = some { cls := .type "tuple", data := .seq #[.int i tk, y] } := (sb.2 _ (Nat.ne_of_gt hel)).trans hT
    have new : ObjOk X.prog X.w (upd H s.heap.objs.size (.tup [.int (i : Nat), x])) h'' s.heap.objs.size (.tup [.int (i : Nat), x]) :=
      ⟨by show 2 ≤ sizeLine; decide, [.int i tk, y], .cons ⟨_, rfl⟩ (.cons ru .nil), ⟨_, hT2, rfl, _, rfl⟩⟩
    have I1 : Inv X pins σ (upd H s.heap.objs.size (.tup [.int (i : Nat), x])) { s with heap := h'', toks := tk + 1 } :=
      I.turnedNew (t' := tk + 1) (ch := [e, it]) (fun b ob hb q => (sb.2 b (fun z => hb (by simp [z]))).trans (hk b ob (fun z => hb (by simp [z])) (fun z => hb (by simp [z])) q)) hf (Nat.le_refl _) new
    obtain ⟨⟨oi, hoi, ri⟩, _⟩ := st'
    refine ⟨.ref s.heap.objs.size, _, I1, rfl, ⟨_, x, rfl, I.hok.fresh (Nat.le_refl _), rfl, fun ys hy => by rw [I.tuple_inj hy hq]; exact hx⟩, ⟨⟨y, ?_⟩, ⟨oi, (sb.2 it (Ne.symm hei)).trans hoi, ri⟩⟩, fun b hb => ?_⟩
    · rw [show ((i + 1 : Nat) : Int) = (i : Int) + 1 by omega]
      exact he'
    · have hb' : b < s.heap.objs.size := by
        rcases List.mem_cons.mp hb with rfl | hb
        · exact hel
        · rw [List.mem_singleton.mp hb]; exact hil
      rw [upd_ne (Nat.ne_of_lt hb')]
      exact (hf b hb).1
  done := by
    intro X hP hw hK hc i pins s σ H E I hf st hg
    subst hP hw hK
    obtain ⟨⟨old, he⟩, hit⟩ := st
    obtain ⟨xs, hq, hx⟩ := hg
    obtain ⟨its, rv, p, hz⟩ := I.tuple hq
    obtain ⟨f0, f1, f2, f3, f4, f5⟩ := hf it (by simp)
    unfold pyNext
    refine wpAny_bind (wpAny_attempt (wpAny_callSpecial?_slot (name := Str.ofString "__next__") (T := "enumerate") ⟨_, he, rfl⟩ F.slot_enumerate_next (wpAny_call_entry F.slot_enumerate_next (T := "enumerate") ⟨_, he, rfl⟩ F.entry_enumerate_next ?_ (F.args_enumerate_next_1 _))))
    show wpAny _ _ (field (.ref e) 2 >>= _) _ _ _
    refine wpAny_bind (wpAny_field he rfl (x := .ref it) rfl ?_)
    refine wpAny_bind (wpAny_nextOf_tuple_end (I.ok.hd hc) hit p (by simp; have := rv.length; omega) fun h' e2 he' hx' => ?_)
    obtain ⟨o, ho, hcl⟩ := hx'
    refine wpAny_bind (wpAny_isInstance (T := "StopIteration") (b := true) ⟨o, ho, hcl⟩ isSubtype_stop (wpAny_pure ⟨rfl, ?_⟩))
    exact I.turned (t' := s.toks) (fun b o hb q => he' b o hb q) f0 f1 f3 f4 f5
  self := fun A i s Q E st h => let ⟨⟨_, he⟩, _⟩ := st; wpAny_pyIter_enum he h
def iEnS (K : PySem.W.Frag) (ta : TA) : TI := fun σ H R => ta σ H fun vs H1 => ∃ a xs, vs = [.ref a] ∧ ((SqL K H1 a xs ∧ R (Ite K a) H1) ∨ (SqT K H1 a xs ∧ R (IteT K a) H1))
theorem pi_enS {X : Cx} {e : Expr} {ta : TA} {p pos tpos : Pos} {elts : List Expr} {kk : Nat} (hg : Gl X "enumerate") (hm : X.mg "enumerate" = none) (ha : PA X [e] ta) (hs : starEach [e] X.env = [(false, eval e X.env)] := by rfl) : PI X (.Tuple elts kk tpos) (.Call (.Name "enumerate" p) [e] [] pos) (iEnS X.K ta) := by
  refine ⟨fun pins s σ H R I h => Call_ (ld_blt I hg hm boot_enumerate (PyProof.Rows.callWith_type1 (thn (ha.run pos pins s σ H _ I h) fun us s1 ⟨vs, H1, I1, r1, q1⟩ => ?_) hs rfl))⟩
  obtain ⟨a, xs, rfl, q1⟩ := q1
  cases r1 with
  | cons r rr =>
    cases rr
    cases r
    have fp : ∀ b : Nat, b ∈ [s1.heap.objs.size + 1, s1.heap.objs.size] → FpOk X pins H1 b := fun b hb => by
      have hle : s1.heap.objs.size ≤ b := by
        rcases List.mem_cons.mp hb with z | z
        · rw [z]; omega
        · rw [List.mem_singleton.mp z]; omega
      exact I1.fpOk hle (I1.hok.fresh hle)
    rcases q1 with ⟨hq, q⟩ | ⟨hq, q⟩
    · obtain ⟨its, rv, p', hz⟩ := I1.list hq
      exact call_enumerate_list p'.isList fun h' he hit hsz hk => wpAny_pyIter_enum he ⟨s1.heap.objs.size + 1, [s1.heap.objs.size + 1, s1.heap.objs.size], _, _, H1, rfl, I1.kept (t' := s1.toks) hk, turn_enum a (s1.heap.objs.size + 1) s1.heap.objs.size, ⟨⟨.none, he⟩, hit, Nat.succ_ne_self _⟩, fp, q⟩
    · obtain ⟨its, rv, p', hz⟩ := I1.tuple hq
      have hl : a < s1.heap.objs.size := by obtain ⟨o, ho, _⟩ := p'; exact Heap.lt_size ho
      exact call_enT p' fun h' he hit hk => wpAny_pyIter_enum he ⟨s1.heap.objs.size + 1, [s1.heap.objs.size + 1, s1.heap.objs.size], _, _, H1, rfl, I1.kept (t' := s1.toks) hk, turn_enT (Nat.ne_of_lt hl) (Nat.ne_of_lt (Nat.lt_succ_of_lt hl)) (Nat.succ_ne_self _), ⟨⟨.none, he⟩, hit⟩, fp, q⟩
def enumL (ds : List D) : List D := ds.zipIdx.map fun p => .tuple [.int (p.2 : Nat), p.1]
theorem enumL_at (ds : List D) (i : Nat) : (enumL ds)[i]? = ds[i]?.map fun d => .tuple [.int (i : Nat), d] := by
  unfold enumL
  rw [List.getElem?_map, List.getElem?_zipIdx]
  cases ds[i]? <;> simp
theorem enumL_len (ds : List D) : (enumL ds).length = ds.length := by simp [enumL]
theorem walkD_en {K : PySem.W.Frag} {G : Hp} {xs : List V} {ds : List D} {J : It} (da : DaAll K G xs ds) (hgo : ∀ i H, i < xs.length → Same G H → J.go i H) (hst : ∀ H, Same G H → J.stop xs.length H)
    (hy : ∀ i H v H', Same G H → J.yld i H v H' → ∃ T x, v = .ref T ∧ H T = none ∧ H' = upd H T (.tup [.int (i : Nat), x]) ∧ xs[i]? = some x) : WalkD K G J (enumL ds) where
  goes := fun i H hi s => hgo i H (by rw [da.length, ← enumL_len]; exact hi) s
  stops := fun H s => by rw [enumL_len, ← da.length]; exact hst H s
  yields := fun i H G1 v H' hi s s1 y => by
    obtain ⟨T, x, rfl, hT, rfl, hx⟩ := hy i H v H' (s.trans s1) y
    obtain ⟨d, e1, e2⟩ := da.getV hx
    have gr := Gr.alloc (u := .tup [.int (i : Nat), x]) s1 hT
    refine ⟨.tuple [.int (i : Nat), d], _, by rw [enumL_at, e1]; rfl, gr, .tup (.inl (.inl upd_same)) (.cons (.int _) (.cons (e2.mono (s.trans gr.g)) .nil))⟩
section
variable {m : Type → Type} [Mo m] {X : Cx} {EX : XK} {g : List Sl}
abbrev enumM (x : m D) : m (List D) := x >>= fun d => Mo.lift ((itemsD d).map enumL)
theorem ij_enum {e : Expr} {p pos tpos : Pos} {elts : List Expr} {kk : Nat} {x : m D} (hm : X.mg "enumerate" = none) (h : EJ X EX e g x) (hg : Gl X "enumerate" := by rfl) (hs : starEach [e] X.env = [(false, eval e X.env)] := by rfl) (hs' : starEach [e] X.env = (false, eval e X.env) :: starEach [] X.env := by rfl) :
    IJ X EX (.Tuple elts kk tpos) (.Call (.Name "enumerate" p) [e] [] pos) g (enumM x) :=
  (pi_enS hg hm (pa_cons h pa_nil hs') hs).weak fun σ H R ⟨B, G, n, φ, ξ, o, s, q, xw⟩ => te_one o s (fun v H1 G1 d n1 o1 g1 d1 s1 => by
    obtain ⟨out, ed, pd⟩ := Mo.sat_lift s1
    obtain ⟨ds, e1, rfl⟩ := Option.map_eq_some_iff.mp ed
    obtain ⟨a, xs, rfl, sq, da⟩ := d1.seq e1
    refine ⟨a, xs, rfl, ?_⟩
    rcases sq with sq | sq
    · refine .inr ⟨sameT o1.fm.sub sq, q _ H1 G1 _ n1 o1 g1 (walkD_en da (fun i H hi s => ⟨xs, xs[i], sameT s sq, by simp [hi]⟩) (fun H s => ⟨xs, sameT s sq, Nat.le_refl _⟩) fun i H v H' s y => ?_) pd⟩
      obtain ⟨T, x, a1, a2, a3, a4⟩ := y
      exact ⟨T, x, a1, a2, a3, a4 xs (sameT s sq)⟩
    · refine .inl ⟨o1.fm.sub.seq sq, q _ H1 G1 _ n1 o1 g1 (walkD_en da (fun i H hi s => ⟨xs, xs[i], s.seq sq, by simp [hi]⟩) (fun H s => ⟨xs, s.seq sq, Nat.le_refl _⟩) fun i H v H' s y => ?_) pd⟩
      obtain ⟨T, x, a1, a2, a3, a4⟩ := y
      exact ⟨T, x, a1, a2, a3, a4 xs (s.seq sq)⟩) xw
end
end DD
namespace DD
open PySem PySem.Spec PyProof.Rows L2
/-! ### a list of one's own, read in the middle: what comes out holds no list -/
mutual
def noL : D → Bool
  | .list _ => false
  | .tuple xs => noLs xs
  | .dict _ => false
  | _ => true
def noLs : List D → Bool
  | [] => true
  | x :: xs => noL x && noLs xs
end
def flatO (d : D) : Option D := if noL d = true then some d else none
theorem flatO_eq {d e : D} (h : flatO d = some e) : e = d ∧ noL d = true := by
  unfold flatO at h
  split at h
  · rename_i hl; cases h; exact ⟨rfl, hl⟩
  · cases h
/-- the data among what has come: what stood in the heap and was no data is left out -/
noncomputable def cutB (H G G' : Hp) : Hp := fun a => open Classical in if G a = none ∧ H a ≠ none then none else G' a
theorem cutB_in {H G G' : Hp} {a : Addr} (h : ¬ (G a = none ∧ H a ≠ none)) : cutB H G G' a = G' a := by unfold cutB; rw [if_neg h]
theorem cutB_out {H G G' : Hp} {a : Addr} (h1 : G a = none) (h2 : H a ≠ none) : cutB H G G' a = none := by unfold cutB; rw [if_pos ⟨h1, h2⟩]
theorem cutB_sub {H G G' : Hp} {a : Addr} {o : HO} (h : cutB H G G' a = some o) : G' a = some o := by
  unfold cutB at h
  split at h
  · cases h
  · exact h
def lend1 : Sl → Sl
  | .own ds => .val (.list ds)
  | s => s
abbrev lendG (g : List Sl) : List Sl := g.map lend1
section
variable {K : PySem.W.Frag} {H G G' : Hp}
mutual
theorem Da.cut (hp : ∀ a o, G' a = some o → G a = none → H a ≠ none → ∃ xs, o = .lst xs) : ∀ {d : D} {v : V}, noL d = true → Da K G' v d → Da K (cutB H G G') v d
  | _, _, _, .non => .non
  | _, _, _, .bl b => .bl b
  | _, _, _, .int i => .int i
  | _, _, _, .str x => .str x
  | _, _, h, .lst _ _ => by cases h
  | .tuple ds, _, h, .tup sq a => by
    refine .tup ?_ (DaAll.cutA hp (show noLs ds = true from h) a)
    rcases sq with (sq | ⟨o, sq⟩) | sq
    · refine .inl (.inl ((cutB_in fun z => ?_).trans sq))
      obtain ⟨xs, e⟩ := hp _ _ sq z.1 z.2
      cases e
    · refine .inl (.inr ⟨o, (cutB_in fun z => ?_).trans sq⟩)
      obtain ⟨xs, e⟩ := hp _ _ sq z.1 z.2
      cases e
    · exact .inr sq
  | _, _, h, .dct _ _ => by cases h
theorem DaAll.cutA (hp : ∀ a o, G' a = some o → G a = none → H a ≠ none → ∃ xs, o = .lst xs) : ∀ {ds : List D} {vs : List V}, noLs ds = true → DaAll K G' vs ds → DaAll K (cutB H G G') vs ds
  | _, _, _, .nil => .nil
  | d :: ds, _, h, .cons a b => by
    have h' : noL d = true ∧ noLs ds = true := by
      have : (noL d && noLs ds) = true := h
      simpa using this
    exact .cons (Da.cut hp h'.1 a) (DaAll.cutA hp h'.2 b)
end
end
section
variable {m : Type → Type} [Mo m] {X : Cx} {EX : XK} {g : List Sl}
/-- all lists of one's own become data, a while -/
theorem Ok.lend {K : PySem.W.Frag} {B : Bs} {σ : L2.St} {H G : Hp} {n : Nat} (o : Ok K B g σ H G n) : ∃ G1 : Hp, Ok K ⟨H, G1, B.dk⟩ (lendG g) σ H G1 n ∧
    ∀ (H' G' : Hp) (n' : Nat), Fm ⟨H, G1, B.dk⟩ H' G' n' → (Ok K B g σ H' (cutB H G G') n' ∧ Same G (cutB H G G')) ∧ ∀ a o, G' a = some o → G a = none → H a ≠ none → ∃ xs, o = .lst xs := by
  classical
  obtain ⟨f, h1, h2⟩ := id o.own
  let OwnA : Addr → Prop := fun a => ∃ (j : Nat) (ds : List D), g[j]? = some (Sl.own ds) ∧ f j = a
  have own_lst : ∀ a, OwnA a → G a = none ∧ B.H a = none ∧ ∃ xs, H a = some (.lst xs) := by
    rintro a ⟨j, ds, e, rfl⟩
    obtain ⟨_, b, c, xs, d, _⟩ := h2 j ds e
    exact ⟨b, c, xs, d⟩
  let G1 : Hp := fun a => if OwnA a then H a else G a
  have g1o : ∀ a, OwnA a → G1 a = H a := fun a h => if_pos h
  have g1n : ∀ a, ¬ OwnA a → G1 a = G a := fun a h => if_neg h
  have sG : Same G G1 := fun a u e => by
    rw [g1n a fun z => by rw [(own_lst a z).1] at e; cases e]
    exact e
  have sH : Same G1 H := fun a u e => by
    by_cases z : OwnA a
    · rw [g1o a z] at e; exact e
    · rw [g1n a z] at e; exact o.fm.sub a u e
  have pick : ∀ (i : Nat) (s : Sl), (lendG g)[i]? = some s → ∃ s0, g[i]? = some s0 ∧ s = lend1 s0 := fun i s e => by
    rw [List.getElem?_map] at e
    obtain ⟨s0, e0, e1⟩ := Option.map_eq_some_iff.mp e
    exact ⟨s0, e0, e1.symm⟩
  refine ⟨G1, ⟨⟨fun a u e _ => e, sH, Same.refl _, fun a _ e => e, fun a b e => ?_⟩, by rw [List.length_map]; exact o.len, fun i d e => ?_, ⟨f, fun i j ds es e => ?_, fun i ds e => ?_⟩, fun i e => ?_⟩, fun H' G' n' fm => ?_⟩
  · obtain ⟨dk, b1, b2, b3, b4⟩ := o.fm.deck a b e
    obtain ⟨cs, c, k1, k2, _⟩ := id dk
    have na : ¬ OwnA a := fun z => b1 (own_lst a z).2.1
    have nb : ¬ OwnA b := fun z => b2 (own_lst b z).2.1
    refine ⟨dk, by show H a ≠ none; rw [k1]; simp, by show H b ≠ none; rw [k2]; simp, ?_, ?_⟩
    · show G1 a = none
      rw [g1n a na]; exact o.fm.new a b1 b3
    · show G1 b = none
      rw [g1n b nb]; exact o.fm.new b b2 b4
  · obtain ⟨s0, e0, e1⟩ := pick i _ e
    cases s0 with
    | val d0 =>
      cases e1
      obtain ⟨v, a, b⟩ := o.val i d e0
      exact ⟨v, a, b.mono sG⟩
    | own ds =>
      cases e1
      obtain ⟨a, b, c, xs, hd, da⟩ := h2 i ds e0
      refine ⟨_, a, .lst (xs := xs) ?_ (da.mono sG)⟩
      rw [g1o _ ⟨i, ds, e0, rfl⟩]
      exact hd
    | deck => cases e1
    | any => cases e1
  · obtain ⟨s0, e0, e1⟩ := pick i _ e
    cases s0 <;> cases e1
  · obtain ⟨s0, e0, e1⟩ := pick i _ e
    cases s0 <;> cases e1
  · obtain ⟨s0, e0, e1⟩ := pick i _ e
    cases s0 with
    | deck => exact o.dck i e0
    | val _ => cases e1
    | own _ => cases e1
    | any => cases e1
  · have lst : ∀ a u, G' a = some u → G a = none → H a ≠ none → ∃ xs, u = .lst xs := fun a u e ga ha => by
      by_cases z : OwnA a
      · obtain ⟨_, _, xs, hx⟩ := own_lst a z
        have : G' a = some (.lst xs) := fm.old a _ (by show G1 a = _; rw [g1o a z]; exact hx)
        rw [this] at e
        cases e
        exact ⟨xs, rfl⟩
      · have : G' a = none := fm.new a ha (by show G1 a = none; rw [g1n a z]; exact ga)
        rw [this] at e; cases e
    have fm2 : Fm ⟨H, G, B.dk⟩ H' (cutB H G G') n' := by
      refine ⟨fm.keep, fun a u e => fm.sub a u (cutB_sub e), fun a u e => ?_, fun a e q => cutB_out q e, fun a b e => ?_⟩
      · rw [cutB_in fun z => by rw [show G a = some u from e] at z; cases z.1]
        exact fm.old a u (sG a u e)
      · obtain ⟨dk, b1, b2, b3, b4⟩ := fm.deck a b e
        obtain ⟨dk', c1, c2, c3, c4⟩ := o.fm.deck a b e
        exact ⟨dk, b1, b2, o.fm.new a c1 c3, o.fm.new b c2 c4⟩
    exact ⟨Fm.back o (.inr rfl) fm2, lst⟩
variable [Calm m]
theorem ej_rd {e : Expr} {x : m D} (h : EJ X EX e (lendG g) x) : EJ X EX e g (x >>= fun d => Mo.lift (flatO d)) :=
  PE.weak h fun σ H Q ⟨B, G, n, φ, ξ, o, s, q, xw⟩ => by
    obtain ⟨G1, o1, back⟩ := o.lend
    refine ⟨⟨H, G1, B.dk⟩, G1, n, _, fun _ _ => False, o1, Calm.calm (Mo.sat_bind s), fun v H' G' d n' o' g' dv s' => ?_, fun _ _ _ _ _ _ z => z.elim⟩
    obtain ⟨z, ez, pz⟩ := Mo.sat_lift s'
    obtain ⟨rfl, hz⟩ := flatO_eq ez
    obtain ⟨⟨o2, g2⟩, hl⟩ := back H' G' n' o'.fm
    exact q v H' _ _ n' o2 g2 (dv.cut hl hz) pz
theorem tj_rd {e : Expr} {x : m Bool} (h : TJ X EX e (lendG g) x) : TJ X EX e g x :=
  PT.weak h fun σ H Q ⟨B, G, n, φ, ξ, o, s, q, xw⟩ => by
    obtain ⟨G1, o1, back⟩ := o.lend
    refine ⟨⟨H, G1, B.dk⟩, G1, n, φ, fun _ _ => False, o1, Calm.calm s, fun b H' G' n' o' g' p => ?_, fun _ _ _ _ _ _ z => z.elim⟩
    obtain ⟨⟨o2, g2⟩, _⟩ := back H' G' n' o'.fm
    exact q b H' _ n' o2 g2 p
def flatsO (ds : List D) : Option (List D) := if noLs ds = true then some ds else none
theorem tl_rd {x : m (List D)} {σ : L2.St} {H : Hp} {Q : VK} (h : tlJ X EX g (x >>= fun ds => Mo.lift (flatsO ds)) σ H Q) : tlJ X EX (lendG g) x σ H Q := by
  obtain ⟨B, G, n, φ, ξ, o, s, q, xw⟩ := h
  obtain ⟨G1, o1, back⟩ := o.lend
  refine ⟨⟨H, G1, B.dk⟩, G1, n, _, fun _ _ => False, o1, Calm.calm (Mo.sat_bind s), fun p xs H' G' ds n' o' g' hb hg hh hf da s' => ?_, fun _ _ _ _ _ _ z => z.elim⟩
  obtain ⟨z, ez, pz⟩ := Mo.sat_lift s'
  unfold flatsO at ez
  split at ez
  · rename_i hz
    cases ez
    obtain ⟨⟨o2, g2⟩, hl⟩ := back H' G' n' o'.fm
    have hp : H p = none := hb
    obtain ⟨f1, f2⟩ := o.fresh hp
    refine q p xs H' _ _ n' o2 g2 f1 ?_ hh f2 (da.cutA hl hz) pz
    rw [cutB_in fun z => z.2 hp]
    exact hg
  · cases ez
theorem lj_rd {e : Expr} {x : m (List D)} (h : LJ X EX e (lendG g) x) : LJ X EX e g (x >>= fun ds => Mo.lift (flatsO ds)) := PE.weak h fun σ H Q => tl_rd
theorem lcp_rd {e : Expr} {x : m (List D)} (h : LcP X EX e (lendG g) x) : LcP X EX e g (x >>= fun ds => Mo.lift (flatsO ds)) := ⟨lj_rd h.expr, fun nd hy hl hs => (h.stmt nd hy hl hs).weak fun De σ H => tl_rd⟩
end
/-! ### new lists by operations -/
section
variable {m : Type → Type} [Mo m] {X : Cx} {EX : XK} {g : List Sl}
/-- list(e) -/
theorem lj_list {e : Expr} {p pos : Pos} {x : m D} (hm : X.mg "list" = none) (h : EJ X EX e g x) (hg : Gl X "list" := by rfl) (hs : starEach [e] X.env = (false, eval e X.env) :: starEach [] X.env := by rfl) : LJ X EX (.Call (.Name "list" p) [e] [] pos) g (x >>= fun d => Mo.lift (itemsD d)) :=
  (pe_callTy call_list_of hg hm boot_list (pa_cons h pa_nil hs) (by decide) (by decide) hs rfl).weak fun σ H Q ⟨B, G, n, φ, ξ, o, s, q, xw⟩ => te_one o s (fun v H1 G1 d n1 o1 g1 d1 s1 => by
    obtain ⟨ds, ed, pd⟩ := Mo.sat_lift s1
    obtain ⟨a, xs, rfl, sq, da⟩ := d1.seq ed
    refine ⟨a, xs, rfl, ?_, fun l hl => ?_⟩
    · rcases sq with sq | sq
      · exact .inr (sameT o1.fm.sub sq)
      · exact .inl (o1.fm.sub.seq sq)
    · obtain ⟨f1, f2⟩ := o1.fresh hl
      exact q l xs _ G1 ds n1 (o1.raw hl) g1 f1 (o1.free hl) upd_same f2 da pd) xw
def repO (ds : List D) (k : D) : Option (List D) := match k with
  | .int k => if 0 ≤ k ∧ k ≤ 1000 ∧ ds.length ≤ 1000 then some (List.replicate k.toNat ds).flatten else none
  | _ => none
def listOnly : D → Option (List D)
  | .list ds => some ds
  | _ => none
/-- [..] * k -/
theorem lj_rep {a b : Expr} {pos : Pos} {x : m (List D)} {y : m D} (ha : LJ X EX a g x) (hb : EJ X EX b g y) : LJ X EX (.BinOp a .Mult b pos) g ((x >>= fun ds => pure (PyData.list ds)) >>= fun d => y >>= fun k => Mo.lift ((listOnly d).bind fun ds => repO ds k)) :=
  (pe_op op_rep (ej_l ha) hb).weak fun σ H Q ⟨B, G, n, φ, ξ, o, s, q, xw⟩ => te_one o s (fun v H1 G1 d n1 o1 g1 d1 s1 => te_one o1 s1 (fun w H2 G2 k n2 o2 g2 d2 s2 => by
    obtain ⟨out, eo, po⟩ := Mo.sat_lift s2
    obtain ⟨ds, e1, e2⟩ := Option.bind_eq_some_iff.mp eo
    cases k with
    | int k =>
      cases d2
      have e2' : (if 0 ≤ k ∧ k ≤ 1000 ∧ ds.length ≤ 1000 then some (List.replicate k.toNat ds).flatten else none) = some out := e2
      split at e2'
      · rename_i hk
        cases e2'
        cases d with
        | list ds' =>
          cases e1
          obtain ⟨a, xs, rfl, ha', da⟩ := (d1.mono g2).toL
          refine ⟨a, k, xs, rfl, rfl, o2.fm.sub _ _ ha', by omega, by omega, ?_, fun p hp => ?_⟩
          · rw [da.length]
            have : ds.length * k.toNat ≤ 1000 * 1000 := Nat.mul_le_mul hk.2.2 (by omega)
            exact Nat.le_trans this (by decide)
          · obtain ⟨f1, f2⟩ := o2.fresh hp
            exact q p _ _ G2 _ n2 (o2.raw hp) (g1.trans g2) f1 (o2.free hp) upd_same f2 (da.flatReplicate k.toNat) po
        | _ => cases e1
      · cases e2'
    | _ => cases e2) xw) xw
/-- range(..) as what list() takes -/
def lrgO1 : D → Option (List D)
  | .int j => if 0 ≤ j ∧ j ≤ 1000000 then some (rangeL 0 j.toNat) else none
  | _ => none
theorem rg_da {K : PySem.W.Frag} {G : Hp} (lo hi : Int) : DaAll K G (rgV lo hi) (rangeL lo (hi - lo).toNat) := by
  unfold rgV rangeL
  induction (List.range (hi - lo).toNat) with
  | nil => exact .nil
  | cons i l ih => exact .cons (.int _) ih
/-- list(range(a)) -/
theorem lj_lrg1 {a : Expr} {p pos p2 pos2 : Pos} {x : m D} (hm : X.mg "list" = none) (hmr : X.mg "range" = none) (h : EJ X EX a g x) (hc : X.calm = true := by rfl) (hg : Gl X "list" := by rfl) (hgr : Gl X "range" := by rfl) (na : starEach [a] X.env = (false, eval a X.env) :: starEach [] X.env := by rfl)
    (nb : starEach [.Call (.Name "range" p2) [a] [] pos2] X.env = (false, eval (.Call (.Name "range" p2) [a] [] pos2) X.env) :: starEach [] X.env := by rfl) : LJ X EX (.Call (.Name "list" p) [.Call (.Name "range" p2) [a] [] pos2] [] pos) g (x >>= fun d => Mo.lift (lrgO1 d)) :=
  (pe_listRg hc hg hm (prg_1 hgr hmr h na) nb).weak fun σ H Q ⟨B, G, n, φ, ξ, o, s, q, xw⟩ => te_one o s (fun v H1 G1 d n1 o1 g1 d1 s1 => by
    obtain ⟨ds, ed, pd⟩ := Mo.sat_lift s1
    cases d with
    | int j =>
      cases d1
      have ed' : (if 0 ≤ j ∧ j ≤ 1000000 then some (rangeL 0 j.toNat) else none) = some ds := ed
      split at ed'
      · rename_i hj
        cases ed'
        refine ⟨j, rfl, RgOk.of_le (by decide) (by omega) (by decide) hj.1, fun l hl => ?_⟩
        obtain ⟨f1, f2⟩ := o1.fresh hl
        refine q l _ _ G1 _ n1 (o1.raw hl) g1 f1 (o1.free hl) upd_same f2 ?_ pd
        have := rg_da (K := X.K) (G := G1) 0 j
        rw [Int.sub_zero] at this
        exact this
      · cases ed'
    | _ => cases ed) xw
/-- a, b, c = x, y, z -/
theorem sj_par3 (i j l : Nat) {y z u : Str} {a b c : Expr} {px py pz pt pos : Pos} {kt k2 pt2} {x1 x2 x3 : m D} (hN : X.N.Nodup) (ha : EJ X EX a g x1) (hb : EJ X EX b g x2) (hcc : EJ X EX c g x3) (hij : i ≠ j := by decide) (hil : i ≠ l := by decide) (hjl : j ≠ l := by decide) (hi : X.N[i]? = some y := by rfl) (hj : X.N[j]? = some z := by rfl) (hl : X.N[l]? = some u := by rfl) (hc : X.calm = true := by rfl)
    (hx : X.env.scope.names.lookup y = some .local := by rfl) (hy : X.env.scope.names.lookup z = some .local := by rfl) (hz : X.env.scope.names.lookup u = some .local := by rfl)
    (hw : swappedStores [.Tuple [.Name y px, .Name z py, .Name u pz] kt pt] (.Tuple [a, b, c] k2 pt2) X.env = pure (some [y, z, u]) := by kernel_rfl) (hs : swapsWithSole [.Tuple [.Name y px, .Name z py, .Name u pz] kt pt] (.Tuple [a, b, c] k2 pt2) pos.line X.env = pure false := by kernel_rfl)
    (hs1 : starEach [a, b, c] X.env = (false, eval a X.env) :: starEach [b, c] X.env := by rfl) (hs2 : starEach [b, c] X.env = (false, eval b X.env) :: starEach [c] X.env := by rfl) (hs3 : starEach [c] X.env = (false, eval c X.env) :: starEach [] X.env := by rfl) :
    SJ X EX (.Assign [.Tuple [.Name y px, .Name z py, .Name u pz] kt pt] (.Tuple [a, b, c] k2 pt2) pos) g (x1 >>= fun d => x2 >>= fun e => x3 >>= fun f => pure (d, e, f)) (fun de => ((g.set i (.val de.1)).set j (.val de.2.1)).set l (.val de.2.2)) :=
  (ps_par3 hc hN hi hj hl hij hil hjl hx hy hz (pa_cons ha (pa_cons hb (pa_cons hcc pa_nil hs3) hs2) hs1) hw hs).weak fun De σ H ⟨B, G, n, φ, ξ, o, s, q, xw⟩ => te_one o s (fun v H1 G1 d n1 o1 g1 d1 s1 => te_one o1 s1 (fun w H2 G2 e n2 o2 g2 d2 s2 => te_one o2 s2 (fun w3 H3 G3 f n3 o3 g3 d3 s3 =>
    ⟨v, w, w3, rfl, q (d, e, f) _ H3 G3 n3 (((o3.setV (d1.mono (g2.trans g3))).setV (d2.mono g3)).setV d3) (g1.trans (g2.trans g3)) (Mo.sat_pure s3)⟩) xw) xw) xw
abbrev repM (x : m (List D)) (y : m D) : m (List D) := (x >>= fun ds => pure (PyData.list ds)) >>= fun d => y >>= fun k => Mo.lift ((listOnly d).bind fun ds => repO ds k)
abbrev lrg1M (x : m D) : m (List D) := x >>= fun d => Mo.lift (lrgO1 d)
abbrev par3M (x y z : m D) : m (D × D × D) := x >>= fun d => y >>= fun e => z >>= fun f => pure (d, e, f)
abbrev rdM (x : m D) : m D := x >>= fun d => Mo.lift (flatO d)
abbrev rdLM (x : m (List D)) : m (List D) := x >>= fun ds => Mo.lift (flatsO ds)
end
def addI : D → D → Option D := intD2 fun i j => some (.int (i + j))
def subI : D → D → Option D := intD2 fun i j => some (.int (i - j))
theorem rd_addI {K : PySem.W.Frag} : RD K (ipI fun i j => i + j) addI := rd_int0 (h := fun i j => .int (i + j)) fun i j z e _ _ => by cases e; exact .int _
theorem rd_subI {K : PySem.W.Frag} : RD K (ipI fun i j => i - j) subI := rd_int0 (h := fun i j => .int (i - j)) fun i j z e _ _ => by cases e; exact .int _
section
variable {m : Type → Type} [Mo m] {X : Cx} {EX : XK} {g : List Sl}
/-- as ej_var, the slot looked up by the kernel -/
theorem ej_vk (i : Nat) {x : Str} {pos : Pos} {d : D} (hs : g[i]? = some (Sl.val d) := by kernel_rfl) (hN : X.N[i]? = some x := by rfl) (hv : Vis X.env.scope x := by first | exact Or.inl rfl | exact Or.inr (Or.inl rfl) | exact Or.inr (Or.inr rfl)) (hd : (x == ("__debug__" : Str)) = false := by decide)
    (hcd : (x == ("__classdict__" : Str)) = false := by decide) : EJ (m := m) X EX (.Name x pos) g (pure d) := ej_var i hs hN hv hd hcd
theorem aj_dk (i : Nat) {x : Str} {pos : Pos} {es : List Expr} {y : m (List Sl)} (hr : AJ X EX es g y) (hg : g[i]? = some Sl.deck := by kernel_rfl) (hN : X.N[i]? = some x := by rfl) (hv : Vis X.env.scope x := by first | exact Or.inl rfl | exact Or.inr (Or.inl rfl) | exact Or.inr (Or.inr rfl))
    (hd : (x == ("__debug__" : Str)) = false := by decide) (hcd : (x == ("__classdict__" : Str)) = false := by decide) (hs : starEach (.Name x pos :: es) X.env = (false, eval (.Name x pos) X.env) :: starEach es X.env := by rfl) : AJ X EX (.Name x pos :: es) g (y >>= fun as => pure (.deck :: as)) := aj_deck i hr hg hN hv hd hcd hs
end
end DD
namespace DD
open PySem PySem.Spec PyProof.Rows L2
/-! ### mirrors without draws, by equations -/
class MoL (m : Type → Type) [Mo m] : Prop where
  pb : ∀ {α β : Type} (a : α) (f : α → m β), ((pure a : m α) >>= f) = f a
  as : ∀ {α β γ : Type} (x : m α) (f : α → m β) (g : β → m γ), ((x >>= f) >>= g) = (x >>= fun a => f a >>= g)
  ls : ∀ {α : Type} (a : α), (Mo.lift (some a) : m α) = pure a
theorem wl_some {α : Type} (a : α) : (Mo.lift (some a) : W α) = Pure.pure a := by
  funext n φ
  exact propext ⟨fun ⟨b, e, h⟩ => by cases e; exact h, fun h => ⟨a, rfl, h⟩⟩
theorem wu_some (a : D) : upW (some a) = Pure.pure a := wl_some a
theorem ol_some {α : Type} (a : α) : (Mo.lift (some a) : Option α) = Pure.pure a := rfl
instance : MoL W := ⟨fun _ _ => rfl, fun _ _ _ => rfl, wl_some⟩
instance : MoL Option := ⟨fun _ _ => rfl, fun x f g => by cases x <;> rfl, fun _ => rfl⟩
section
variable {m : Type → Type} [Mo m] [MoL m] {A γ : Type}
theorem lcA_mapP {f : D → m D} {F G : γ → D} : ∀ (xs : List γ) (acc : List D), (∀ x ∈ xs, f (F x) = pure (G x)) → lcA (fun d => someM (f d)) (xs.map F) acc = pure (acc ++ xs.map G)
  | [], acc, _ => by simp [lcA]
  | x :: xs, acc, h => by
    show (someM (f (F x)) >>= fun o => lcA (fun d => someM (f d)) (xs.map F) (acc ++ o.toList)) = _
    unfold someM
    rw [h x List.mem_cons_self, MoL.pb, MoL.pb]
    have := lcA_mapP xs (acc ++ [G x]) fun y hy => h y (List.mem_cons_of_mem _ hy)
    unfold someM at this
    show lcA _ (xs.map F) (acc ++ [G x]) = _
    rw [this]
    simp
theorem lcA_filtP {f : D → m D} {t : D → m Bool} {F G : γ → D} {p : γ → Bool} : ∀ (xs : List γ) (acc : List D), (∀ x ∈ xs, t (F x) = pure (p x)) → (∀ x ∈ xs, p x = true → f (F x) = pure (G x)) → lcA (fun d => ifM (t d) (f d)) (xs.map F) acc = pure (acc ++ (xs.filter p).map G)
  | [], acc, _, _ => by simp [lcA]
  | x :: xs, acc, h, h2 => by
    show (ifM (t (F x)) (f (F x)) >>= fun o => lcA (fun d => ifM (t d) (f d)) (xs.map F) (acc ++ o.toList)) = _
    have ih := fun acc => lcA_filtP xs acc (fun y hy => h y (List.mem_cons_of_mem _ hy)) fun y hy => h2 y (List.mem_cons_of_mem _ hy)
    have e : ifM (t (F x)) (f (F x)) = pure (if p x = true then some (G x) else none) := by
      unfold ifM someM
      rw [h x List.mem_cons_self, MoL.pb]
      cases hp : p x with
      | true => simp only [if_true]; rw [h2 x List.mem_cons_self hp, MoL.pb]
      | false => rfl
    rw [e, MoL.pb, ih]
    cases hp : p x <;> simp [hp]
theorem lcA_map2 {f : D → D → m D} {F Ga Gb G : γ → D} (hF : ∀ x, F x = .tuple [Ga x, Gb x]) (xs : List γ) (acc : List D) (h : ∀ x ∈ xs, f (Ga x) (Gb x) = pure (G x)) : lcA (fun d => pairM d fun a b => someM (f a b)) (xs.map F) acc = pure (acc ++ xs.map G) := by
  induction xs generalizing acc with
  | nil => simp [lcA]
  | cons x xs ih =>
    show (pairM (F x) (fun a b => someM (f a b)) >>= fun o => lcA (fun d => pairM d fun a b => someM (f a b)) (xs.map F) (acc ++ o.toList)) = _
    have e : pairM (F x) (fun a b => someM (f a b)) = pure (some (G x)) := by
      rw [hF]
      show someM (f (Ga x) (Gb x)) = _
      unfold someM
      rw [h x List.mem_cons_self, MoL.pb]
    rw [e, MoL.pb, ih _ fun y hy => h y (List.mem_cons_of_mem _ hy)]
    simp
theorem lcA_filt2 {f : D → D → m D} {t : D → D → m Bool} {F Ga Gb G : γ → D} {p : γ → Bool} (hF : ∀ x, F x = .tuple [Ga x, Gb x]) (xs : List γ) (acc : List D) (h : ∀ x ∈ xs, t (Ga x) (Gb x) = pure (p x)) (h2 : ∀ x ∈ xs, p x = true → f (Ga x) (Gb x) = pure (G x)) : lcA (fun d => pairM d fun a b => ifM (t a b) (f a b)) (xs.map F) acc = pure (acc ++ (xs.filter p).map G) := by
  induction xs generalizing acc with
  | nil => simp [lcA]
  | cons x xs ih =>
    show (pairM (F x) (fun a b => ifM (t a b) (f a b)) >>= fun o => lcA (fun d => pairM d fun a b => ifM (t a b) (f a b)) (xs.map F) (acc ++ o.toList)) = _
    have e : pairM (F x) (fun a b => ifM (t a b) (f a b)) = pure (if p x = true then some (G x) else none) := by
      rw [hF]
      show ifM (t (Ga x) (Gb x)) (f (Ga x) (Gb x)) = _
      unfold ifM someM
      rw [h x List.mem_cons_self, MoL.pb]
      cases hp : p x with
      | true => simp only [if_true]; rw [h2 x List.mem_cons_self hp, MoL.pb]
      | false => rfl
    rw [e, MoL.pb, ih _ (fun y hy => h y (List.mem_cons_of_mem _ hy)) fun y hy => h2 y (List.mem_cons_of_mem _ hy)]
    cases hp : p x <;> simp [hp]
/-- a loop whose state is a function of what it has walked -/
theorem loop_from {f : D → A → m (Fl A)} {F : γ → D} {S : List γ → A} : ∀ (post pre : List γ), (∀ p x q, pre ++ post = p ++ x :: q → f (F x) (S p) = pure (.nx (S (p ++ [x])))) → loopM f (post.map F) (S pre) = pure (.nx (S (pre ++ post)))
  | [], pre, _ => by simp [loopM]
  | x :: post, pre, h => by
    show (f (F x) (S pre) >>= fun z => match z with | .nx a' => loopM f (post.map F) a' | .rt v => pure (.rt v)) = _
    rw [h pre x post rfl, MoL.pb]
    have := loop_from post (pre ++ [x]) fun p y q e => h p y q (by rw [← e]; simp)
    rw [show pre ++ x :: post = (pre ++ [x]) ++ post by simp]
    exact this
theorem loop_pre {f : D → A → m (Fl A)} {F : γ → D} (S : List γ → A) (all : List γ) (h : ∀ p x q, all = p ++ x :: q → f (F x) (S p) = pure (.nx (S (p ++ [x])))) : loopM f (all.map F) (S []) = pure (.nx (S all)) := by
  have := loop_from (S := S) all [] fun p x q e => h p x q e
  exact this
theorem loop_rng {f : D → A → m (Fl A)} (S : Nat → A) {n : Nat} (h : ∀ i, i < n → f (.int (i : Nat)) (S i) = pure (.nx (S (i + 1)))) : loopM f (rangeL 0 n) (S 0) = pure (.nx (S n)) := by
  have := loop_pre (f := f) (F := fun i : Nat => PyData.int (0 + (i : Nat))) (fun p => S p.length) (List.range n) fun p x q e => by
    have hx : x = p.length := by
      have := congrArg (fun l => l[p.length]?) e
      simp at this
      by_cases hl : p.length < n
      · rw [List.getElem?_eq_getElem (by simpa using hl)] at this; simp at this; exact this.symm
      · rw [List.getElem?_eq_none (by simpa using Nat.le_of_not_lt hl)] at this; cases this
    have hn : x < n := List.mem_range.mp (by rw [e]; simp)
    subst hx
    rw [Int.zero_add, h _ hn]
    simp
  simpa [rangeL] using this
/-- a loop that looks for the first -/
theorem loop_find {f : D → A → m (Fl A)} {F : γ → D} {p : γ → Bool} {R : γ → D} {a : A} : ∀ xs : List γ, (∀ x ∈ xs, f (F x) a = if p x = true then pure (.rt (R x)) else pure (.nx a)) → loopM f (xs.map F) a = pure (match xs.find? p with | some x => .rt (R x) | none => .nx a)
  | [], _ => rfl
  | x :: xs, h => by
    show (f (F x) a >>= fun z => match z with | .nx a' => loopM f (xs.map F) a' | .rt v => pure (.rt v)) = _
    rw [h x List.mem_cons_self]
    cases hp : p x with
    | true => simp only [if_true, MoL.pb, List.find?_cons, hp]
    | false =>
      simp only [Bool.false_eq_true, if_false, MoL.pb, List.find?_cons, hp]
      exact loop_find xs fun y hy => h y (List.mem_cons_of_mem _ hy)
theorem loop_same {f : D → A → m (Fl A)} {a : A} : ∀ xs : List D, (∀ x ∈ xs, f x a = pure (.nx a)) → loopM f xs a = pure (.nx a)
  | [], _ => rfl
  | x :: xs, h => by
    show (f x a >>= fun z => match z with | .nx a' => loopM f xs a' | .rt v => pure (.rt v)) = _
    rw [h x List.mem_cons_self, MoL.pb]
    exact loop_same xs fun y hy => h y (List.mem_cons_of_mem _ hy)
end
section
variable {A γ : Type} {c : Nat}
/-- a drawing loop with an invariant over what it has walked -/
theorem Tri.loopP {f : D → A → W (Fl A)} {F : γ → D} {I : List γ → A → Prop} {R : D → Prop} (all : List γ) {a : A} (h0 : I [] a) (h : ∀ p x q a, all = p ++ x :: q → I p a → Tri c (f (F x) a) (Post (I (p ++ [x])) R)) : Tri (all.length * c) (loopM f (all.map F) a) (Post (I all) R) := by
  have key : ∀ (post pre : List γ) (a : A), pre ++ post = all → I pre a → Tri (post.length * c) (loopM f (post.map F) a) (Post (I all) R) := by
    intro post
    induction post with
    | nil =>
      intro pre a e hI
      rw [List.append_nil] at e
      subst e
      exact (Tri.pure (φ := Post (I pre) R) (a := Fl.nx a) hI).le (by omega)
    | cons x post ih =>
      intro pre a e hI
      refine ((h pre x post a e.symm hI).bind (c := post.length * c) fun z hz => ?_).le (by rw [List.length_cons, Nat.succ_mul]; omega)
      cases z with
      | nx a' => exact ih (pre ++ [x]) a' (by simpa using e) hz
      | rt v => exact (Tri.pure (φ := Post (I all) R) (a := Fl.rt v) hz).le (by omega)
  exact key all [] a rfl h0
theorem Tri.eq {α : Type} {b : Nat} {x : W α} {a : α} {φ : α → Prop} (e : x = Pure.pure a) (h : φ a) : Tri b x φ := by
  rw [e]
  exact (Tri.pure h).le (Nat.zero_le _)
end
theorem Tri.stE {α β : Type} {d : Nat} {x : W α} {a : α} {f : α → W β} {χ : β → Prop} (e : x = Pure.pure a) (h : Tri d (f a) χ) : Tri d (x >>= f) χ := by
  rw [e]
  exact h
theorem bindE {m : Type → Type} [Mo m] [MoL m] {α β : Type} {x : m α} {a : α} {f : α → m β} {y : m β} (e : x = pure a) (h : f a = y) : (x >>= f) = y := by
  rw [e, MoL.pb]
  exact h
/-! ### operations on data of known shape -/
theorem add_int (a b : Int) : addD (.int a) (.int b) = some (.int (a + b)) := rfl
theorem sub_int (a b : Int) : subD (.int a) (.int b) = some (.int (a - b)) := rfl
theorem lt_int (a b : Int) : ltD (.int a) (.int b) = some (.bool (decide (a < b))) := rfl
theorem le_int (a b : Int) : leD (.int a) (.int b) = some (.bool (decide (a ≤ b))) := rfl
theorem gt_int (a b : Int) : gtD (.int a) (.int b) = some (.bool (decide (b < a))) := rfl
theorem ge_int (a b : Int) : geD (.int a) (.int b) = some (.bool (decide (b ≤ a))) := rfl
theorem eq_int (a b : Int) : eqD (.int a) (.int b) = some (.bool (a == b)) := rfl
theorem ne_int (a b : Int) : neD (.int a) (.int b) = some (.bool (!(a == b))) := rfl
theorem min_int (a b : Int) : min2D (.int a) (.int b) = some (.int (min a b)) := by
  show some (PyData.int (if b < a then b else a)) = _
  congr 2
  omega
theorem max_int (a b : Int) : max2D (.int a) (.int b) = some (.int (max a b)) := by
  show some (PyData.int (if b > a then b else a)) = _
  congr 2
  omega
theorem neg_int (a : Int) : negD (.int a) = some (.int (-a)) := rfl
theorem bool_bool (b : Bool) : boolD (.bool b) = some b := rfl
theorem not_bool (b : Bool) : notD (.bool b) = some (.bool (!b)) := rfl
theorem is_none (d : D) : isD d .none = some (.bool (isNone d)) := rfl
theorem isn_none (d : D) : isnD d .none = some (.bool (!isNone d)) := rfl
theorem nn_int (i : Int) : isNone (.int i) = false := rfl
theorem nn_none : isNone .none = true := rfl
theorem nn_tup (xs : List D) : isNone (.tuple xs) = false := rfl
theorem len_tup (xs : List D) : lenD (.tuple xs) = some (.int xs.length) := rfl
theorem len_lst (xs : List D) : lenD (.list xs) = some (.int xs.length) := rfl
theorem tup_lst (xs : List D) : tupleD (.list xs) = some (.tuple xs) := rfl
theorem tup_tup (xs : List D) : tupleD (.tuple xs) = some (.tuple xs) := rfl
theorem it_lst (xs : List D) : itemsD (.list xs) = some xs := rfl
theorem it_tup (xs : List D) : itemsD (.tuple xs) = some xs := rfl
theorem int_bool (b : Bool) : intD (.bool b) = some (.int (if b then 1 else 0)) := rfl
theorem int_int (i : Int) : intD (.int i) = some (.int i) := rfl
theorem oint_int (i : Int) : oint (.int i) = some (some i) := rfl
theorem addI_int (a b : Int) : addI (.int a) (.int b) = some (.int (a + b)) := rfl
theorem subI_int (a b : Int) : subI (.int a) (.int b) = some (.int (a - b)) := rfl
theorem fits_ok {k : Nat} (h : k < 1000000) : fits k = some () := by unfold fits; rw [if_pos h]
theorem mod_int {a b : Int} (h : 0 < b) : modD (.int a) (.int b) = some (.int (a % b)) := by
  show (if 0 < b then some (PyData.int (a % b)) else none) = _
  rw [if_pos h]
theorem div_int {a b : Int} (h : 0 < b) (h1 : b < 1073741824) : divD (.int a) (.int b) = some (.int (a / b)) := by
  show (if 0 < b ∧ b.natAbs < 1073741824 then some (PyData.int (a / b)) else none) = _
  rw [if_pos ⟨h, by omega⟩]
theorem mul_int {a b : Int} (h : (-(2 ^ 64) < a ∧ a < 2 ^ 64) ∨ (-(2 ^ 64) < b ∧ b < 2 ^ 64)) : mulD (.int a) (.int b) = some (.int (a * b)) := by
  show (if a.natAbs < 2 ^ 64 ∨ b.natAbs < 2 ^ 64 then some (PyData.int (a * b)) else none) = _
  rw [if_pos (by omega)]
theorem add_tup {a b : List D} (h : a.length + b.length ≤ 1000000) : addD (.tuple a) (.tuple b) = some (.tuple (a ++ b)) := by
  show (small (a ++ b)).map PyData.tuple = _
  rw [small_ok (by rw [List.length_append]; exact h)]
  rfl
theorem add_lst {a b : List D} (h : a.length + b.length ≤ 1000000) : addD (.list a) (.list b) = some (.list (a ++ b)) := by
  show (small (a ++ b)).map PyData.list = _
  rw [small_ok (by rw [List.length_append]; exact h)]
  rfl
theorem range_map (n : Nat) : rangeL 0 n = (List.range n).map fun i : Nat => PyData.int (i : Nat) := by
  unfold rangeL
  refine List.map_congr_left fun i _ => ?_
  rw [Int.zero_add]
theorem range1_nat {k : Int} (h1 : k < 2 ^ 62) (h0 : 0 ≤ k) : rangeD1 (.int k) = some ((List.range k.toNat).map fun i : Nat => PyData.int (i : Nat)) := by
  rw [range1_ok h1 (by omega), range_map]
theorem enum_map {γ : Type} (F : γ → D) (xs : List γ) : enumL (xs.map F) = xs.zipIdx.map fun p => .tuple [.int (p.2 : Nat), F p.1] := by
  unfold enumL
  rw [List.zipIdx_map, List.map_map]
  rfl
theorem zip_map {γ δ : Type} {F : γ → D} {G : δ → D} {xs : List γ} {ys : List δ} (h : xs.length ≤ ys.length) : zipD [.tuple (xs.map F), .tuple (ys.map G)] = some ((xs.zip ys).map fun p => .tuple [F p.1, G p.2]) := by
  rw [zipD_old (r := xs.map F) (rs := [ys.map G]) rfl (by simp) fun x hx => by rw [List.mem_singleton.mp hx]; simpa using h]
  congr 1
  refine List.ext_getElem (by simp; omega) fun i h1 h2 => ?_
  have hi : i < xs.length := by simpa using h1
  have hj : i < ys.length := by omega
  simp [List.getD, hi, hj]
theorem get_tup {γ : Type} {F : γ → D} {xs : List γ} {i : Nat} (h : i < xs.length) : getD (.tuple (xs.map F)) (.int (i : Nat)) = some (F xs[i]) := by
  refine atI_at rfl ?_
  rw [List.getElem?_map, List.getElem?_eq_getElem h]
  rfl
theorem get_lst {γ : Type} {F : γ → D} {xs : List γ} {i : Nat} (h : i < xs.length) : getD (.list (xs.map F)) (.int (i : Nat)) = some (F xs[i]) := by
  refine atI_at rfl ?_
  rw [List.getElem?_map, List.getElem?_eq_getElem h]
  rfl
theorem at_intI {r : List Int} {i : Int} (h0 : 0 ≤ i) (h : i < r.length) : getD (tI r) (.int i) = some (.int (r.getD i.toNat 0)) := by
  have := at_int (r := r) (i := i.toNat) (by omega)
  rwa [Int.toNat_of_nonneg h0] at this
theorem at_intL {r : List Int} {i : Nat} (h : i < r.length) : getD (.list (r.map .int)) (.int (i : Nat)) = some (.int (r.getD i 0)) := by
  refine atI_at rfl ?_
  rw [List.getElem?_map, List.getElem?_eq_getElem h]
  simp [List.getD, h]
theorem max_tI {r : List Int} {v : Int} (e : r.max? = some v) : maxD (tI r) = some (.int v) := by
  show (intsD (r.map .int)).bind (fun ns => ns.max?.map PyData.int) = _
  rw [ints_of]
  show r.max?.map PyData.int = _
  rw [e]
  rfl
theorem max_lI {r : List Int} {v : Int} (e : r.max? = some v) : maxD (.list (r.map .int)) = some (.int v) := max_tI e
theorem min_tI {r : List Int} {v : Int} (e : r.min? = some v) : minD (tI r) = some (.int v) := by
  show (intsD (r.map .int)).bind (fun ns => ns.min?.map PyData.int) = _
  rw [ints_of]
  show r.min?.map PyData.int = _
  rw [e]
  rfl
theorem min_lI {r : List Int} {v : Int} (e : r.min? = some v) : minD (.list (r.map .int)) = some (.int v) := min_tI e
theorem bools_of {γ : Type} {p : γ → Bool} : ∀ xs : List γ, bools (xs.map fun x => PyData.bool (p x)) = some (xs.map p)
  | [] => rfl
  | x :: xs => by
    show (bools (xs.map fun x => PyData.bool (p x))).map (p x :: ·) = _
    rw [bools_of xs]
    rfl
theorem all_map {γ : Type} {p : γ → Bool} (xs : List γ) : allD (.list (xs.map fun x => .bool (p x))) = some (.bool (xs.all p)) := by
  show (bools (xs.map fun x => PyData.bool (p x))).map _ = _
  rw [bools_of]
  simp [Function.comp_def]
theorem any_map {γ : Type} {p : γ → Bool} (xs : List γ) : anyD (.list (xs.map fun x => .bool (p x))) = some (.bool (xs.any p)) := by
  show (bools (xs.map fun x => PyData.bool (p x))).map _ = _
  rw [bools_of]
  simp [Function.comp_def]
/-! slices -/
theorem sIx_at {n d : Nat} {j : Int} (h0 : 0 ≤ j) (h : j ≤ n) : HT.sIx n d (some j) = j.toNat := by
  show (if j < 0 then (j + (n : Int)).toNat else min j.toNat n) = _
  rw [if_neg (by omega)]
  omega
theorem cut_loD {r : List D} {j : Int} (h0 : 0 ≤ j) (h : j ≤ r.length) : sliceD (.tuple r) none (some j) = some (.tuple (r.take j.toNat)) := by
  show some (PyData.tuple (cutD r none (some j))) = _
  unfold cutD
  rw [sIx_at h0 h, HT.sIx_none, List.drop_zero, Nat.sub_zero]
theorem cut_hiD {r : List D} {j : Int} (h0 : 0 ≤ j) (h : j ≤ r.length) : sliceD (.tuple r) (some j) none = some (.tuple (r.drop j.toNat)) := by
  show some (PyData.tuple (cutD r (some j) none)) = _
  unfold cutD
  rw [sIx_at h0 h, HT.sIx_none, List.take_of_length_le (by simp)]
theorem cut_lo {r : List Int} {j : Int} (h0 : 0 ≤ j) (h : j ≤ r.length) : sliceD (tI r) none (some j) = some (tI (r.take j.toNat)) := by
  rw [cut_loD h0 (by simpa using h), ← List.map_take]
theorem cut_hi {r : List Int} {j : Int} (h0 : 0 ≤ j) (h : j ≤ r.length) : sliceD (tI r) (some j) none = some (tI (r.drop j.toNat)) := by
  rw [cut_hiD h0 (by simpa using h), ← List.map_drop]
/-! no list within -/
theorem noL_map {γ : Type} {F : γ → D} : ∀ xs : List γ, (∀ x ∈ xs, noL (F x) = true) → noLs (xs.map F) = true
  | [], _ => rfl
  | x :: xs, h => by
    show (noL (F x) && noLs (xs.map F)) = true
    rw [h x List.mem_cons_self, noL_map xs fun y hy => h y (List.mem_cons_of_mem _ hy)]
    rfl
theorem noL_ints (r : List Int) : noLs (r.map .int) = true := noL_map r fun _ _ => rfl
theorem flat_ok {d : D} (h : noL d = true) : flatO d = some d := by unfold flatO; rw [if_pos h]
theorem flats_ok {ds : List D} (h : noLs ds = true) : flatsO ds = some ds := by unfold flatsO; rw [if_pos h]
theorem flat_tI (r : List Int) : flatO (tI r) = some (tI r) := flat_ok (noL_ints r)
theorem flat_int (i : Int) : flatO (.int i) = some (.int i) := rfl
theorem flat_none : flatO .none = some .none := rfl
theorem ixN_last {n : Nat} (h : 0 < n) : ixN n (-1) = some (n - 1) := by
  unfold ixN
  rw [if_neg (by decide), if_pos (by omega)]
  congr 1
  omega
theorem put_at {ds : List D} {i : Nat} {d : D} (h : i < ds.length) : putD ds (.int (i : Nat)) d = some (ds.set i d) := by
  show (ixN ds.length (i : Nat)).map (fun j => ds.set j d) = _
  rw [ixN_at rfl h]
  rfl
/-! ### what repr can show: n nodes, depth k -/
structure Sm (n k : Nat) (d : D) : Prop where
  b : smallB d = true
  n : nodes d ≤ n
  k : d.depth ≤ k
structure SmA (n k : Nat) (ds : List D) : Prop where
  b : smallAll ds = true
  n : nodesAll ds ≤ n
  k : PyData.depthAll ds ≤ k
theorem Sm.repr {n k : Nat} {d : D} (h : Sm n k d) (hn : n ≤ 30000) (hk : k ≤ 50) : reprD d = some (.str d.shown) := repr_ok h.b (Nat.le_trans h.n hn) (Nat.le_trans h.k hk)
theorem Sm.le {n k n' k' : Nat} {d : D} (h : Sm n k d) (hn : n ≤ n') (hk : k ≤ k') : Sm n' k' d := ⟨h.b, Nat.le_trans h.n hn, Nat.le_trans h.k hk⟩
theorem Sm.int {i : Int} (h : i.natAbs < 10 ^ 20) : Sm 1 0 (.int i) := ⟨decide_eq_true h, Nat.le_refl _, by simp [PyData.depth]⟩
theorem Sm.str {x : Str} (h : PyData.strOk x = true) (h2 : (PyData.str x).shown.length ≤ 28) : Sm 1 0 (.str x) := ⟨by show (PyData.strOk x && decide ((PyData.str x).shown.length ≤ 28)) = true; rw [h, decide_eq_true h2]; rfl, Nat.le_refl _, by simp [PyData.depth]⟩
theorem Sm.none : Sm 1 0 .none := ⟨rfl, Nat.le_refl _, by simp [PyData.depth]⟩
theorem Sm.bool (b : Bool) : Sm 1 0 (.bool b) := ⟨rfl, Nat.le_refl _, by simp [PyData.depth]⟩
theorem SmA.nil : SmA 0 0 [] := ⟨rfl, Nat.le_refl _, by simp [PyData.depthAll]⟩
theorem SmA.cons {n k n' k' : Nat} {d : D} {ds : List D} (h : Sm n k d) (t : SmA n' k' ds) : SmA (n + n') (max k k') (d :: ds) :=
  ⟨by show (smallB d && smallAll ds) = true; rw [h.b, t.b]; rfl, by show nodes d + nodesAll ds ≤ _; have := h.n; have := t.n; omega, by show max d.depth (PyData.depthAll ds) ≤ _; have := h.k; have := t.k; omega⟩
theorem SmA.map {γ : Type} {n k : Nat} {F : γ → D} : ∀ xs : List γ, (∀ x ∈ xs, Sm n k (F x)) → SmA (xs.length * n) k (xs.map F)
  | [], _ => ⟨rfl, by simp [nodesAll], by simp [PyData.depthAll]⟩
  | x :: xs, h => by
    have := SmA.cons (h x List.mem_cons_self) (SmA.map xs fun y hy => h y (List.mem_cons_of_mem _ hy))
    exact ⟨this.b, by have := this.n; rw [List.length_cons, Nat.succ_mul]; simp only [List.map_cons]; omega, by have := this.k; simp only [List.map_cons]; omega⟩
theorem SmA.le {n k n' k' : Nat} {ds : List D} (h : SmA n k ds) (hn : n ≤ n') (hk : k ≤ k') : SmA n' k' ds := ⟨h.b, Nat.le_trans h.n hn, Nat.le_trans h.k hk⟩
theorem SmA.tup {n k : Nat} {ds : List D} (h : SmA n k ds) : Sm (n + 1) (k + 1) (.tuple ds) := ⟨h.b, by show nodesAll ds + 1 ≤ _; have := h.n; omega, by show PyData.depthAll ds + 1 ≤ _; have := h.k; omega⟩
theorem SmA.lst {n k : Nat} {ds : List D} (h : SmA n k ds) : Sm (n + 1) (k + 1) (.list ds) := ⟨h.b, by show nodesAll ds + 1 ≤ _; have := h.n; omega, by show PyData.depthAll ds + 1 ≤ _; have := h.k; omega⟩
theorem Sm.tI {r : List Int} {n : Nat} (h : ∀ x ∈ r, x.natAbs < 10 ^ 20) (hn : r.length ≤ n) : Sm (n + 1) 1 (tI r) := (SmA.map (n := 1) (k := 0) r fun x hx => Sm.int (h x hx)).tup.le (by omega) (Nat.le_refl _)
theorem Sm.tT {rows : List (List Int)} {n k : Nat} (h : ∀ r ∈ rows, ∀ x ∈ r, x.natAbs < 10 ^ 20) (hk : ∀ r ∈ rows, r.length ≤ k) (hn : rows.length ≤ n) : Sm (n * (k + 1) + 1) 2 (tT rows) := (SmA.map (n := k + 1) (k := 1) rows fun r hr => Sm.tI (h r hr) (hk r hr)).tup.le (by have := Nat.mul_le_mul_right (k + 1) hn; omega) (Nat.le_refl _)
/-- repr(a) == repr(a) -/
theorem same_repr {n k : Nat} {d : D} (h : Sm n k d) (hn : n ≤ 30000) (hk : k ≤ 50) : (reprD d >>= fun x => reprD d >>= fun y => eqD x y) = some (.bool true) := by
  rw [h.repr hn hk, ob_some, ob_some, eq_str]
  simp
mutual
theorem lay_small : ∀ d : D, smallB d = true → d.canLay0 = true
  | .none, _ => rfl
  | .bool _, _ => rfl
  | .int _, _ => rfl
  | .str x, h => by
    have h' : PyData.strOk x = true ∧ (PyData.str x).shown.length ≤ 28 := by
      have : (PyData.strOk x && decide ((PyData.str x).shown.length ≤ 28)) = true := h
      simpa using this
    exact h'.1
  | .list xs, h => layA_small xs h
  | .tuple xs, h => layA_small xs h
  | .dict _, h => by cases h
theorem layA_small : ∀ xs : List D, smallAll xs = true → PyData.canLayAll0 xs = true
  | [], _ => rfl
  | x :: xs, h => by
    have h' : smallB x = true ∧ smallAll xs = true := by
      have : (smallB x && smallAll xs) = true := h
      simpa using this
    show (x.canLay0 && PyData.canLayAll0 xs) = true
    rw [lay_small x h'.1, layA_small xs h'.2]
    rfl
end
theorem Sm.shaped {n k : Nat} {d : D} (h : Sm n k d) (hk : k ≤ 64) : SeqAt.shaped d = true := by
  unfold SeqAt.shaped
  rw [lay_small d h.b, Bool.true_and]
  exact decide_eq_true (Nat.le_trans h.k hk)
theorem eq_sm {n k n' k' : Nat} {a b : D} (h : Sm n k a) (h' : Sm n' k' b) (hk : k ≤ 64) (hk' : k' ≤ 64) : eqD a b = some (.bool (PyData.eqv a b)) := by
  have e := h.shaped hk
  have e' := h'.shaped hk'
  cases a with
  | str x =>
    cases b with
    | str y =>
      show some (PyData.bool (decide (x = y))) = some (PyData.bool (x == y))
      refine congrArg (fun b => some (PyData.bool b)) ?_
      rw [Bool.eq_iff_iff, decide_eq_true_eq, beq_iff_eq]
    | _ => unfold eqD; exact if_pos (And.intro e e')
  | _ => unfold eqD; exact if_pos (And.intro e e')
theorem ne_sm {n k n' k' : Nat} {a b : D} (h : Sm n k a) (h' : Sm n' k' b) (hk : k ≤ 64) (hk' : k' ≤ 64) : neD a b = some (.bool (!PyData.eqv a b)) := by
  have e := h.shaped hk
  have e' := h'.shaped hk'
  cases a with
  | str x =>
    cases b with
    | str y =>
      show some (PyData.bool (!decide (x = y))) = some (PyData.bool (!(x == y)))
      refine congrArg (fun b => some (PyData.bool !b)) ?_
      rw [Bool.eq_iff_iff, decide_eq_true_eq, beq_iff_eq]
    | _ => unfold neD; exact if_pos (And.intro e e')
  | _ => unfold neD; exact if_pos (And.intro e e')
/-! data without bools and dicts: == is equality -/
mutual
def noB : D → Bool
  | .bool _ => false
  | .dict _ => false
  | .list xs => noBs xs
  | .tuple xs => noBs xs
  | _ => true
def noBs : List D → Bool
  | [] => true
  | x :: xs => noB x && noBs xs
end
theorem noB_map {γ : Type} {F : γ → D} : ∀ xs : List γ, (∀ x ∈ xs, noB (F x) = true) → noBs (xs.map F) = true
  | [], _ => rfl
  | x :: xs, h => by
    show (noB (F x) && noBs (xs.map F)) = true
    rw [h x List.mem_cons_self, noB_map xs fun y hy => h y (List.mem_cons_of_mem _ hy)]
    rfl
mutual
theorem eqv_iff : ∀ a b : D, noB a = true → noB b = true → (PyData.eqv a b = true ↔ a = b) := fun a b ha hb => by
  cases a with
  | none => cases b <;> simp [PyData.eqv, noB] at *
  | bool x => cases ha
  | int x => cases b <;> simp [PyData.eqv, noB] at *
  | str x => cases b <;> simp [PyData.eqv, noB] at *
  | list xs => cases b with
    | list ys => simp only [PyData.eqv, PyData.list.injEq]; exact eqvAll_iff xs ys ha hb
    | _ => simp [PyData.eqv]
  | tuple xs => cases b with
    | tuple ys => simp only [PyData.eqv, PyData.tuple.injEq]; exact eqvAll_iff xs ys ha hb
    | _ => simp [PyData.eqv]
  | dict x => cases ha
theorem eqvAll_iff : ∀ xs ys : List D, noBs xs = true → noBs ys = true → (PyData.eqvAll xs ys = true ↔ xs = ys) := fun xs ys ha hb => by
  cases xs with
  | nil => cases ys <;> simp [PyData.eqvAll]
  | cons x xs => cases ys with
    | nil => simp [PyData.eqvAll]
    | cons y ys =>
      have h1 : noB x = true ∧ noBs xs = true := by
        have : (noB x && noBs xs) = true := ha
        simpa using this
      have h2 : noB y = true ∧ noBs ys = true := by
        have : (noB y && noBs ys) = true := hb
        simpa using this
      simp only [PyData.eqvAll, Bool.and_eq_true, List.cons.injEq]
      rw [eqv_iff x y h1.1 h2.1, eqvAll_iff xs ys h1.2 h2.2]
end
theorem eqv_self {a : D} (ha : noB a = true) : PyData.eqv a a = true := (eqv_iff a a ha ha).mpr rfl
theorem eqv_no {a b : D} (ha : noB a = true) (hb : noB b = true) (h : a ≠ b) : PyData.eqv a b = false := by
  rw [Bool.eq_false_iff]
  exact fun z => h ((eqv_iff a b ha hb).mp z)
theorem noB_tI (r : List Int) : noB (tI r) = true := noB_map r fun _ _ => rfl
theorem noB_lI (r : List Int) : noB (.list (r.map .int)) = true := noB_map r fun _ _ => rfl
theorem noB_tT (rows : List (List Int)) : noB (tT rows) = true := noB_map rows fun r _ => noB_tI r
theorem eq_nilL {n k : Nat} {xs : List D} (h : SmA n k xs) (hk : k ≤ 63) : eqD (.list xs) (.list []) = some (.bool xs.isEmpty) := by
  rw [eq_sm h.lst SmA.nil.lst (by omega) (by decide)]
  cases xs <;> rfl
theorem ne_nilL {n k : Nat} {xs : List D} (h : SmA n k xs) (hk : k ≤ 63) : neD (.list xs) (.list []) = some (.bool !xs.isEmpty) := by
  rw [ne_sm h.lst SmA.nil.lst (by omega) (by decide)]
  cases xs <;> rfl
theorem mul_one {x : D} {k : Int} (h : 0 ≤ k) (h1 : k ≤ 1000) : mulD (.tuple [x]) (.int k) = some (.tuple (List.replicate k.toNat x)) := by
  show (if k = 1 then some (PyData.tuple [x]) else if [x] ≠ [] ∧ 2 ≤ k ∧ k ≤ 1000 ∧ [x].length ≤ 1000 then some (.tuple (List.replicate k.toNat [x]).flatten) else if [x] ≠ [] ∧ k = 0 then some (.tuple []) else none) = _
  by_cases e : k = 1
  · rw [if_pos e, e]; rfl
  · by_cases e0 : k = 0
    · rw [if_neg e, if_neg (by omega), if_pos ⟨by simp, e0⟩, e0]
      rfl
    rw [if_neg e, if_pos ⟨by simp, by omega, h1, by simp⟩]
    congr 2
    generalize k.toNat = n
    induction n with
    | zero => rfl
    | succ n ih => rw [List.replicate_succ, List.flatten_cons, ih]; rfl
/-! the first index -/
def firstN {α : Type} (p : α → Bool) (l : List α) : Option Nat := (l.zipIdx.find? fun q => p q.1).map (·.2)
theorem first_snoc {α : Type} (p : α → Bool) (l : List α) (x : α) : firstN p (l ++ [x]) = match firstN p l with | some n => some n | none => if p x = true then some l.length else none := by
  unfold firstN
  rw [List.zipIdx_append, List.find?_append]
  cases h : l.zipIdx.find? fun q => p q.1 with
  | some q => simp
  | none =>
    by_cases hp : p x = true <;> simp [hp]
def oN : Option Nat → D
  | none => .none
  | some n => .int (n : Nat)
theorem Sm.oN {o : Option Nat} (h : ∀ i, o = some i → i < 10 ^ 20) : Sm 1 0 (oN o) := by
  cases o with
  | none => exact Sm.none
  | some i => exact Sm.int (by have := h i rfl; omega)
theorem first_lt {α : Type} {p : α → Bool} {l : List α} {n : Nat} (h : firstN p l = some n) : n < l.length := by
  unfold firstN at h
  obtain ⟨q, hq, rfl⟩ := Option.map_eq_some_iff.mp h
  have := List.mem_of_find?_eq_some hq
  have := List.mem_zipIdx this
  omega
theorem min_snoc (l : List Int) (x : Int) : (l ++ [x]).min? = some (match l.min? with | none => x | some v => min v x) := by
  cases l with
  | nil => rfl
  | cons a l =>
    show some ((l ++ [x]).foldl min a) = some (min (l.foldl min a) x)
    rw [List.foldl_append]
    rfl
theorem max_snoc (l : List Int) (x : Int) : (l ++ [x]).max? = some (match l.max? with | none => x | some v => max v x) := by
  cases l with
  | nil => rfl
  | cons a l =>
    show some ((l ++ [x]).foldl max a) = some (max (l.foldl max a) x)
    rw [List.foldl_append]
    rfl
theorem rep_ok {ds : List D} {k : Int} (h0 : 0 ≤ k) (h1 : k ≤ 1000) (h : ds.length ≤ 1000) : repO ds (.int k) = some (List.replicate k.toNat ds).flatten := by
  show (if 0 ≤ k ∧ k ≤ 1000 ∧ ds.length ≤ 1000 then some (List.replicate k.toNat ds).flatten else none) = _
  rw [if_pos ⟨h0, h1, h⟩]
def oD : Option Int → D
  | none => .none
  | some i => .int i
theorem Sm.oD {o : Option Int} (h : ∀ i, o = some i → i.natAbs < 10 ^ 20) : Sm 1 0 (oD o) := by
  cases o with
  | none => exact Sm.none
  | some i => exact Sm.int (h i rfl)
end DD
namespace DD
open PySem PySem.Spec PyProof.Rows L2
theorem ob_assoc {α β γ : Type} (x : Option α) (f : α → Option β) (g : β → Option γ) : ((x >>= f) >>= g) = (x >>= fun a => f a >>= g) := by cases x <;> rfl
theorem Tri.pr {α : Type} {d : Nat} {a : α} {φ : α → Prop} (h : φ a) : Tri d (Pure.pure a : W α) φ := (Tri.pure h).le (Nat.zero_le _)
/-! ### other draws -/
section
variable {K : PySem.W.Frag} {De : Ends} {H : Hp} {a b : Addr} {n : Nat} {many : Int} {cells : List Int} {c : Int}
theorem inc2_ok {u : TS} {rest : List (Option V)} (dk : DeckAt H a b n) (q : ∀ (cells : List Int) (c : Int) (H' : Hp), H' a = some (.lst [.ref b, .int c]) → H' b = some (.lst (cells.map V.int)) → a ≠ b → 0 ≤ c → c ≤ ((n + 1 : Nat) : Int) → (∀ x ∈ cells, 0 ≤ x) → cells.length ≤ 63 → (∀ z o, z ≠ a → z ≠ b → H z = some o → H' z = some o) → u De (some (.ref a) :: some (.int many) :: rest) H') :
    tSeq (drawInc K) u De (some (.ref a) :: some (.int many) :: rest) H := by
  obtain ⟨cells, c, h1, h2, hab, c0, c1, hc, h63⟩ := dk
  refine ⟨.ref a, rfl, a, _, 1, .int c, rfl, rfl, SqL.of h1, rfl, c, 1, rfl, rfl, .ref a, rfl, a, [.ref b, .int c], 1, 1, rfl, rfl, h1, rfl, ?_⟩
  have hba : b ≠ a := fun e => hab e.symm
  exact q cells (c + 1) _ upd_same (by rw [upd_ne hba]; exact h2) hab (by omega) (by omega) hc h63 fun z o e1 _ e => by rw [upd_ne e1]; exact e
/-- variant 2 (k09 ..) -/
abbrev rMx2 : List V → Hp → VK → Prop := fun xs H Q => ∃ i j, xs = [.int i, .int j] ∧ Q (.int (if j > i then j else i)) H
def draw2At (K : PySem.W.Frag) : TS := tAsg (tOp rMod (dIx K 1) (tCB rMx2 (tCons (tC (.int 1)) (tCons (tCB (rLenQ K) (tCons (dIx K 0) tNil)) tNil)))) (gName 2)
def draw2Cell (K : PySem.W.Frag) : TS := tAsg (tOp (rIxL K) (tOp rCat (dIx K 0) (tLst (tCons (tC (.int 0)) tNil))) (tVar 2)) (gName 3)
def draw2Cut (K : PySem.W.Frag) : TS := tIfS (tTest (tOp (rI0 fun i j => .bl (decide (j ≤ i))) (tVar 3) (tOp rPow (tC (.int 10)) (tC (.int 18)))))
    (tSeq (tAsg (tOp rOver (tVar 3) (tVar 1)) (gSub (dIx K 0) (tVar 2) rSetL)) (tRet (tOp rMod (tVar 3) (tVar 1)))) tNext
def draw2Mix (K : PySem.W.Frag) : TS := tAsg (tOp rMod (tOp rPow (tOp rPlus (tOp rPlus (tOp rMod (tVar 3) (tC (.int 2147483563))) (tOp rTimes (tC (.int 104729)) (dIx K 1))) (tC (.int 7))) (tC (.int 4))) (tC (.int 2147483629))) (gName 4)
def draw2End (K : PySem.W.Frag) : TS := tRet (tOp rMod (tOp rPlus (tOp rOver (tVar 4) (tC (.int 8))) (tOp rTimes (tC (.int 31)) (dIx K 1))) (tVar 1))
def drawT2 (K : PySem.W.Frag) : TS := tSeq (drawInc K) (tSeq (draw2At K) (tSeq (draw2Cell K) (tSeq (draw2Cut K) (tSeq (draw2Mix K) (draw2End K)))))
theorem draw2_tail {cell ix : Int} (h1 : H a = some (.lst [.ref b, .int c])) (h2 : H b = some (.lst (cells.map V.int))) (hab : a ≠ b) (c0 : 0 ≤ c) (c1 : c ≤ (n : Int)) (cn : c < 2 ^ 41) (hc : ∀ x ∈ cells, 0 ≤ x) (h63 : cells.length ≤ 63) (m0 : 0 < many) (m1 : many < 1073741824)
    (p0 : 0 ≤ cell) (p1 : (10 : Int) ^ (18 : Int).toNat ≤ cell → ∃ j : Nat, ix = (j : Int) ∧ j < cells.length)
    (q : ∀ (r : Int) (H' : Hp), 0 ≤ r → r < many → DeckAt H' a b n → (∀ z o, z ≠ a → z ≠ b → H z = some o → H' z = some o) → De.rt (.int r) H') : tSeq (draw2Cut K) (tSeq (draw2Mix K) (draw2End K)) De [some (.ref a), some (.int many), some (.int ix), some (.int cell), none] H := by
  have hba : b ≠ a := fun e => hab e.symm
  refine ⟨.int cell, rfl, 10, 18, rfl, rfl, ⟨by decide, by decide, by decide⟩, cell, _, rfl, rfl, _, rfl, ?_⟩
  refine ite2 (fun hge => ?_) (fun _ => ?_)
  · obtain ⟨j, rfl, hj⟩ := p1 (of_decide_eq_true hge)
    refine ⟨.int cell, rfl, .int many, rfl, cell, many, rfl, rfl, ⟨m0, m1⟩, .ref a, rfl, a, _, 0, .ref b, rfl, rfl, SqL.of h1, rfl, .int (j : Int), rfl, b, cells.map V.int, j, j, rfl, rfl, h2, ixN_at rfl (by rw [List.length_map]; exact hj), ?_⟩
    refine ⟨.int cell, rfl, .int many, rfl, cell, many, rfl, rfl, m0, ?_⟩
    refine q _ _ (Int.emod_nonneg _ (by omega)) (Int.emod_lt_of_pos _ m0) ⟨cells.set j (cell / many), c, by rw [upd_ne hab]; exact h1, ?_, hab, c0, c1, fun x hx => ?_, by rw [List.length_set]; exact h63⟩ fun z o _ zb e => by rw [upd_ne zb]; exact e
    · rw [upd_same, List.map_set]
    · rcases List.mem_or_eq_of_mem_set hx with hx | rfl
      · exact hc x hx
      · exact Int.ediv_nonneg p0 (by omega)
  · have r0 : 0 ≤ cell % 2147483563 := Int.emod_nonneg _ (by decide)
    have r1 : cell % 2147483563 < 2147483563 := Int.emod_lt_of_pos _ (by decide)
    refine ⟨.int cell, rfl, cell, 2147483563, rfl, rfl, (show (0 : Int) < 2147483563 by decide), .ref a, rfl, a, _, 1, .int c, rfl, rfl, SqL.of h1, rfl, 104729, c, rfl, rfl, .inl ⟨by decide, by decide⟩, _, _, rfl, rfl, _, 7, rfl, rfl, _, 4, rfl, rfl, ⟨by decide, by decide, ?_⟩, _, 2147483629, rfl, rfl, (show (0 : Int) < 2147483629 by decide), ?_⟩
    · omega
    refine ⟨_, rfl, _, 8, rfl, rfl, ⟨by decide, by decide⟩, .ref a, rfl, a, _, 1, .int c, rfl, rfl, SqL.of h1, rfl, 31, c, rfl, rfl, .inl ⟨by decide, by decide⟩, _, _, rfl, rfl, .int many, rfl, _, many, rfl, rfl, m0, ?_⟩
    exact q _ H (Int.emod_nonneg _ (by omega)) (Int.emod_lt_of_pos _ m0) ⟨cells, c, h1, h2, hab, c0, c1, hc, h63⟩ fun _ _ _ _ e => e
theorem draw2_ok (dk : DeckAt H a b n) (m0 : 0 < many) (m1 : many < 1073741824) (hn : n < 2 ^ 40) (q : ∀ (r : Int) (H' : Hp), 0 ≤ r → r < many → DeckAt H' a b (n + 1) → (∀ z o, z ≠ a → z ≠ b → H z = some o → H' z = some o) → De.rt (.int r) H') :
    drawT2 K De [some (.ref a), some (.int many), none, none, none] H := by
  refine inc2_ok dk fun cells c H1 h1 h2 hab c0 c1 hc h63 hk => ?_
  have hmx : (0 : Int) < (if ((cells.map V.int).length : Int) > 1 then ((cells.map V.int).length : Int) else 1) := by split <;> omega
  refine ⟨.ref a, rfl, a, _, 1, .int c, rfl, rfl, SqL.of h1, rfl, .ref a, rfl, a, _, 0, .ref b, rfl, rfl, SqL.of h1, rfl, b, _, rfl, .inl (SqL.of h2), 1, ((cells.map V.int).length : Int), rfl, c, _, rfl, rfl, hmx, ?_⟩
  have hat : ∃ (j : Nat) (cell : Int), c % (if ((cells.map V.int).length : Int) > 1 then ((cells.map V.int).length : Int) else 1) = (j : Int) ∧ (cells.map V.int ++ [V.int 0])[j]? = some (.int cell) ∧ 0 ≤ cell ∧ ((10 : Int) ^ (18 : Int).toNat ≤ cell → j < cells.length) := by
    have e0 := Int.emod_nonneg c (Int.ne_of_gt hmx)
    have e1 := Int.emod_lt_of_pos c hmx
    obtain ⟨j, hj⟩ : ∃ j : Nat, c % (if ((cells.map V.int).length : Int) > 1 then ((cells.map V.int).length : Int) else 1) = (j : Int) := ⟨_, (Int.toNat_of_nonneg e0).symm⟩
    rw [hj] at e1
    by_cases hl : j < cells.length
    · exact ⟨j, cells[j], hj, by rw [List.getElem?_append_left (by simpa using hl)]; simp [hl], hc _ (List.getElem_mem hl), fun _ => hl⟩
    · refine ⟨j, 0, hj, ?_, by decide, fun h => absurd h (by decide)⟩
      rw [List.length_map] at e1
      have hz : cells.length = 0 ∧ j = 0 := by split at e1 <;> omega
      rw [List.eq_nil_of_length_eq_zero hz.1, hz.2]
      rfl
  obtain ⟨j, cell, hj, hcell, p0, p1⟩ := hat
  refine ⟨.ref a, rfl, a, _, 0, .ref b, rfl, rfl, SqL.of h1, rfl, (by show 1 ≤ sizeLine; decide), fun p hp => ?_⟩
  have g := same_new hp (.lst [V.int 0])
  refine ⟨b, p, _, _, rfl, rfl, g _ _ h2, upd_same, ?_, fun p2 hp2 => ?_⟩
  · rw [List.length_map]
    exact line63 (by simp; omega)
  have g2 := g.trans (same_new hp2 (.lst (cells.map V.int ++ [V.int 0])))
  refine ⟨_, rfl, p2, _, _, .int cell, rfl, rfl, SqL.of upd_same, atI_at hj hcell, ?_⟩
  exact draw2_tail (g2 _ _ h1) (g2 _ _ h2) hab c0 c1 (by omega) hc h63 m0 m1 p0 (fun h => ⟨j, hj, p1 h⟩) fun r H' r0 r1 dk' hk' => q r H' r0 r1 dk' fun z o za zb e => hk' z o za zb (g2 _ _ (hk z o za zb e))
/-- variant 3 (k35 ..) -/
def mix3 (K : PySem.W.Frag) : TE := tOp rMod (tOp rMod (tOp rPow (tOp rPlus (tOp rPlus (tOp rMod (tVar 2) (tC (.int 2147483587))) (tOp rTimes (tC (.int 7919)) (dIx K 1))) (tC (.int 1))) (tC (.int 5))) (tC (.int 2147483647))) (tVar 1)
theorem mixes3 : Mixes K (mix3 K) := by
  intro a b many cell ix c H Q h1 m0 m1 p0 c0 cn q
  have r0 : 0 ≤ cell % 2147483587 := Int.emod_nonneg _ (by decide)
  have r1 : cell % 2147483587 < 2147483587 := Int.emod_lt_of_pos _ (by decide)
  refine ⟨.int cell, rfl, cell, 2147483587, rfl, rfl, (show (0 : Int) < 2147483587 by decide), .ref a, rfl, a, _, 1, .int c, rfl, rfl, SqL.of h1, rfl, 7919, c, rfl, rfl, .inl ⟨by decide, by decide⟩, _, _, rfl, rfl, _, 1, rfl, rfl, _, 5, rfl, rfl, ⟨by decide, by decide, ?_⟩, _, 2147483647, rfl, rfl, (show (0 : Int) < 2147483647 by decide), .int many, rfl, _, many, rfl, rfl, m0, ?_⟩
  · omega
  · exact q _ (Int.emod_nonneg _ (by omega)) (Int.emod_lt_of_pos _ m0)
def drawT3 (K : PySem.W.Frag) : TS := tSeq (drawInc K) (tSeq (tAsg (tC (.int 0)) (gName 2)) (tSeq (tAsg (tUn (rU fun i => .int (-i)) (tC (.int 1))) (gName 3)) (tSeq (drawMid K) (drawTail K (mix3 K)))))
theorem draw3_ok (dk : DeckAt H a b n) (m0 : 0 < many) (m1 : many < 1073741824) (hn : n < 2 ^ 40) (q : ∀ (r : Int) (H' : Hp), 0 ≤ r → r < many → DeckAt H' a b (n + 1) → (∀ z o, z ≠ a → z ≠ b → H z = some o → H' z = some o) → De.rt (.int r) H') :
    drawT3 K De [some (.ref a), some (.int many), none, none] H := by
  refine inc_ok dk fun cells c H1 h1 h2 hab c0 c1 hc h63 hk => ?_
  refine ⟨1, rfl, ?_⟩
  refine mid_ok h1 h2 c0 hc fun cell ix p0 p1 => ?_
  exact tail_ok mixes3 h1 h2 hab c0 c1 (by omega) hc h63 m0 m1 p0 p1 fun r H' r0 r1 dk' hk' => q r H' r0 r1 dk' fun z o za zb e => hk' z o za zb (hk z o za zb e)
end
end DD
namespace DD
open PySem PySem.Spec PyProof.Rows L2
/-! ### x in c, x not in c: data of any depth -/
theorem units65 {A : Around} {k : Nat} (h : Room k A) : A.units + 65 < cLine := by
  have := h.un
  omega
def laidIn (d : D) (xs : List D) : Bool := SeqAt.shaped d && PyData.canLayAll0 xs
/-- a list of texts -/
def strsOf : List D → Option (List Str)
  | [] => some []
  | .str x :: ds => (strsOf ds).map (x :: ·)
  | _ :: _ => none
def inStr : D → List D → Option Bool
  | .str x, xs => (strsOf xs).map fun ss => decide (x ∈ ss)
  | _, _ => none
def inD : D → D → Option D
  | d, .list xs => if laidIn d xs = true then some (.bool (xs.any fun y => PyData.eqv y d)) else (inStr d xs).map fun b => .bool b
  | d, .tuple xs => if laidIn d xs = true then some (.bool (xs.any fun y => PyData.eqv y d)) else (inStr d xs).map fun b => .bool b
  | _, _ => none
def ninD : D → D → Option D
  | d, .list xs => if laidIn d xs = true then some (.bool (!xs.any fun y => PyData.eqv y d)) else (inStr d xs).map fun b => .bool !b
  | d, .tuple xs => if laidIn d xs = true then some (.bool (!xs.any fun y => PyData.eqv y d)) else (inStr d xs).map fun b => .bool !b
  | _, _ => none
def rInA (K : PySem.W.Frag) : R2 := fun x y H Q => ∃ d e xs, Da K H x d ∧ Da K H y e ∧ (e = .list xs ∨ e = .tuple xs) ∧ laidIn d xs = true ∧ Q (.bl (xs.any fun y => PyData.eqv y d)) H
def rNinA (K : PySem.W.Frag) : R2 := fun x y H Q => ∃ d e xs, Da K H x d ∧ Da K H y e ∧ (e = .list xs ∨ e = .tuple xs) ∧ laidIn d xs = true ∧ Q (.bl (!xs.any fun y => PyData.eqv y d)) H
theorem strs_da {K : PySem.W.Frag} {G : Hp} : ∀ {ds : List D} {ss : List Str} {vs : List V}, DaAll K G vs ds → strsOf ds = some ss → vs = ss.map V.str
  | [], ss, _, .nil, e => by cases e; rfl
  | .str x :: ds, ss, _, .cons h hs, e => by
    obtain ⟨ss', e', rfl⟩ := Option.map_eq_some_iff.mp (show (strsOf ds).map (x :: ·) = some ss from e)
    cases h
    rw [strs_da hs e']
    rfl
  | .none :: _, _, _, .cons _ _, e => by cases e
  | .bool _ :: _, _, _, .cons _ _, e => by cases e
  | .int _ :: _, _, _, .cons _ _, e => by cases e
  | .list _ :: _, _, _, .cons _ _, e => by cases e
  | .tuple _ :: _, _, _, .cons _ _, e => by cases e
  | .dict _ :: _, _, _, .cons _ _, e => by cases e
theorem inV_str (x : Str) (ss : List Str) : inV (.str x) (ss.map V.str) = decide (x ∈ ss) := by
  unfold inV
  rw [List.any_map, Bool.eq_iff_iff, List.any_eq_true, decide_eq_true_eq]
  constructor
  · rintro ⟨y, hy, h⟩
    have : (y == x) = true := h
    rw [← eq_of_beq this]
    exact hy
  · intro h
    exact ⟨x, h, beq_self_eq_true x⟩
theorem flat_strs (ss : List Str) : (ss.map V.str).all flatV = true := by
  rw [List.all_map, List.all_eq_true]
  intro x _
  rfl
section
variable {X : Cx} {K : PySem.W.Frag}
theorem op_inA (hy : Sys X) (hu : X.A.units + 65 < cLine) : OpR X (compareOp .In) (rInA X.K) := by
  intro pins s σ H x y v u Q I rx ry h
  obtain ⟨d, e, xs, hd, he, hk, hl, q⟩ := h
  unfold laidIn at hl
  rw [Bool.and_eq_true] at hl
  obtain ⟨as, r1, _⟩ := Da.reads hy I d x v hd rx
  obtain ⟨bs, r2, _⟩ := Da.reads hy I e y u he ry
  rcases hk with rfl | rfl
  · exact SeqAt.in_list_reads r2 r1 hl.2 (SeqAt.canLay_of_shaped hl.1) (room_in_shaped hl.1 hu) ⟨.bl _, H, I, rfl, q⟩
  · exact SeqAt.in_tuple_reads r2 r1 hl.2 (SeqAt.canLay_of_shaped hl.1) (room_in_shaped hl.1 hu) ⟨.bl _, H, I, rfl, q⟩
theorem op_ninA (hy : Sys X) (hu : X.A.units + 65 < cLine) : OpR X (compareOp .NotIn) (rNinA X.K) := by
  intro pins s σ H x y v u Q I rx ry h
  obtain ⟨d, e, xs, hd, he, hk, hl, q⟩ := h
  unfold laidIn at hl
  rw [Bool.and_eq_true] at hl
  obtain ⟨as, r1, _⟩ := Da.reads hy I d x v hd rx
  obtain ⟨bs, r2, _⟩ := Da.reads hy I e y u he ry
  rcases hk with rfl | rfl
  · exact SeqAt.notIn_list_reads r2 r1 hl.2 (SeqAt.canLay_of_shaped hl.1) (room_in_shaped hl.1 hu) ⟨.bl _, H, I, rfl, q⟩
  · exact SeqAt.notIn_tuple_reads r2 r1 hl.2 (SeqAt.canLay_of_shaped hl.1) (room_in_shaped hl.1 hu) ⟨.bl _, H, I, rfl, q⟩
theorem op_inB (hy : Sys X) (hu : X.A.units + 65 < cLine) : OpR X (compareOp .In) (orR (rInA X.K) (rIn X.K false)) := op_or (op_inA hy hu) op_in_seq
theorem op_ninB (hy : Sys X) (hu : X.A.units + 65 < cLine) : OpR X (compareOp .NotIn) (orR (rNinA X.K) (rIn X.K true)) := op_or (op_ninA hy hu) op_notIn_seq
theorem instr_da {G H : Hp} {x y : V} {dx : D} {xs : List D} {k : Bool} (hs : Same G H) (hx : Da K G x dx) (hy : Da K G y (.list xs) ∨ Da K G y (.tuple xs)) (e : inStr dx xs = some k) : ∃ p ys, y = .ref p ∧ (SqL K H p ys ∨ SqT K H p ys) ∧ flatV x = true ∧ ys.all flatV = true ∧ inV x ys = k := by
  unfold inStr at e
  split at e
  · rename_i s
    obtain ⟨ss, es, rfl⟩ := Option.map_eq_some_iff.mp e
    cases hx
    rcases hy with hy | hy
    · obtain ⟨a, ys, rfl, ha, da⟩ := hy.toL
      obtain rfl := strs_da da es
      exact ⟨a, _, rfl, .inl (.of (hs _ _ ha)), rfl, flat_strs ss, inV_str s ss⟩
    · obtain ⟨a, ys, rfl, ha, da⟩ := hy.toT
      obtain rfl := strs_da da es
      exact ⟨a, _, rfl, .inr (sameT hs ha), rfl, flat_strs ss, inV_str s ss⟩
  · cases e
theorem rd_in : RD K (orR (rInA K) (rIn K false)) inD := by
  intro x y dx dy z H G Q hx hy hs e q
  unfold inD at e
  split at e
  all_goals first
    | (split at e
       · rename_i h; cases e; exact .inl ⟨_, _, _, hx.mono hs, hy.mono hs, by first | exact .inl rfl | exact .inr rfl, h, q _ H G (Gr.refl hs) (.bl _)⟩
       · obtain ⟨k, hk, rfl⟩ := Option.map_eq_some_iff.mp e
         obtain ⟨p, ys, r1, r2, r3, r4, r5⟩ := instr_da hs hx (by first | exact .inl hy | exact .inr hy) hk
         exact .inr ⟨p, ys, r1, r2, r3, r4, by rw [r5]; exact q _ H G (Gr.refl hs) (.bl _)⟩)
    | cases e
theorem rd_nin : RD K (orR (rNinA K) (rIn K true)) ninD := by
  intro x y dx dy z H G Q hx hy hs e q
  unfold ninD at e
  split at e
  all_goals first
    | (split at e
       · rename_i h; cases e; exact .inl ⟨_, _, _, hx.mono hs, hy.mono hs, by first | exact .inl rfl | exact .inr rfl, h, q _ H G (Gr.refl hs) (.bl _)⟩
       · obtain ⟨k, hk, rfl⟩ := Option.map_eq_some_iff.mp e
         obtain ⟨p, ys, r1, r2, r3, r4, r5⟩ := instr_da hs hx (by first | exact .inl hy | exact .inr hy) hk
         exact .inr ⟨p, ys, r1, r2, r3, r4, by rw [r5]; exact q _ H G (Gr.refl hs) (.bl _)⟩)
    | cases e
end
/-! ### [e for x in it for y in it2] -/
section
variable {m : Type → Type} [Mo m]
def lc2B (f : D → m D) : List D → List D → m (List D)
  | [], acc => pure acc
  | e :: r, acc => f e >>= fun z => Mo.lift (fits acc.length) >>= fun _ => lc2B f r (acc ++ [z])
def lc2A (y : D → m (List D)) (f : D → D → m D) : List D → List D → m (List D)
  | [], acc => pure acc
  | d :: r, acc => y d >>= fun es => lc2B (f d) es acc >>= fun acc => lc2A y f r acc
theorem fits_eq {k : Nat} {u : Unit} (h : fits k = some u) : k < 1000000 := by
  unfold fits at h
  split at h
  · assumption
  · cases h
variable [Calm m] {X : Cx} {EX : XK} {g : List Sl}
theorem tlc2_of {i j : Nat} {x : m (List D)} {y : D → m (List D)} {f : D → D → m D} {vs : List Nat} (hi : i ∈ vs) (hj : j ∈ vs) (how : noOwn g vs = true) (how1 : ∀ d, noOwn ((wipeG g vs).set i (.val d)) [j] = true) {σ : L2.St} {H : Hp} {Q : VK}
    (h : tlJ X EX g (x >>= fun ds => Mo.lift (small ds) >>= fun ds => lc2A y f ds []) σ H Q) :
    tLc2 (tiJ X EX g x) (gName i) tYes (fun σ H R => ∃ d, tiJ X E0 ((wipeG g vs).set i (.val d)) (y d) σ H R) (gName j) tYes (fun σ H Q => ∃ d : D × D, teJ X E0 ((wipeG ((wipeG g vs).set i (.val d.1)) [j]).set j (.val d.2)) (f d.1 d.2) σ H Q) vs [j] σ H Q := by
  obtain ⟨B, G, n, φ, ξ, o, s, q, xw⟩ := h
  refine ⟨B, G, n, _, ξ, o, Mo.sat_bind s, fun J H1 G1 ds n1 o1 g1 wk s1 => ?_, xw⟩
  obtain ⟨es, ee, s1'⟩ := Mo.sat_lift (Mo.sat_bind s1)
  obtain ⟨rfl, hlen⟩ := small_eq ee
  intro D hD
  have sd := o1.side hD
  refine ⟨fun i k H' => k = es.length - i ∧ i ≤ es.length ∧ ∃ G' n' acc ac, Ok X.K B g σ H' G' n' ∧ Same G1 G' ∧ Side B g σ G' D ∧ H' D = some (.lst acc) ∧ DaAll X.K G' acc ac ∧ Mo.sat (lc2A y f (es.drop i) ac) n' φ ξ, ⟨es.length, by omega, Nat.zero_le _, G1, n1, [], [], o1.raw hD, Same.refl _, sd, upd_same, .nil, s1'⟩, ?_⟩
  rintro i' k H' ⟨rfl, hi', G', n', acc, ac, o', g', sd', hD', da, s'⟩
  by_cases hlt : i' < es.length
  · refine .inr ⟨wk.goes i' H' hlt (g'.trans o'.fm.sub), fun H2 => ∃ G2 n2 acc2 ac2, Ok X.K B g σ H2 G2 n2 ∧ Same G1 G2 ∧ Side B g σ G2 D ∧ H2 D = some (.lst acc2) ∧ DaAll X.K G2 acc2 ac2 ∧ Mo.sat (lc2A y f (es.drop (i' + 1)) ac2) n2 φ ξ,
      fun H2 ⟨G2, n2, acc2, ac2, r⟩ => ⟨es.length - (i' + 1), by omega, rfl, hlt, G2, n2, acc2, ac2, r⟩, fun v H2 hy => ?_⟩
    obtain ⟨d, G2, ed, gr, dv⟩ := wk.yields i' H' G' v H2 hlt g' o'.fm.sub hy
    have o2 := o'.gr gr
    have sd2 : Side B g σ G2 D := ⟨sd'.b, sd'.bg, gr.new D (by rw [hD']; simp) sd'.no, sd'.f⟩
    have hD2 : H2 D = some (.lst acc) := gr.h _ _ hD'
    have e0 : es.drop i' = d :: es.drop (i' + 1) := by
      rw [List.drop_eq_getElem_cons hlt]
      congr 1
      rw [List.getElem?_eq_getElem hlt] at ed
      exact Option.some.inj ed
    rw [e0] at s'
    have s2 := Calm.calm (ξ' := fun _ _ => False) (Mo.sat_bind s')
    have sdw : Side B (wipeG g vs) (L2.wipe σ vs) G2 D := ⟨sd2.b, sd2.bg, sd2.no, fun j es2 f2 e1 e2 => sd2.f j es2 f2 (wipeG_some e1 (by simp)).1 (wipe_some e2).1⟩
    have es1 : L2.wipe ((L2.wipe σ vs).set i (some v)) vs = L2.wipe σ vs := by rw [wipe_set hi, wipe_wipe]
    have eg1 : wipeG ((wipeG g vs).set i (.val d)) vs = wipeG g vs := by rw [wipeG_set hi, wipeG_wipeG]
    refine ⟨es1, ?_⟩
    unfold tYes; dsimp only
    rw [if_pos rfl]
    refine ⟨d, B.pin D (.lst acc), G2, n', _, _, (o2.wipe.pin sdw hD2).setV dv, s2, fun J1 H4 G4 ds1 n4 o4 g4 wk1 s4 => ?_, fun _ _ _ _ _ _ z => z.elim⟩
    have oB4 := o4.unpin o2.fm sd2.b
    have no4 : G4 D = none := o4.fm.new D (by show upd B.H D _ D ≠ none; rw [upd_same]; simp) sd2.bg
    have side2 : ∀ {G' : Hp}, G' D = none → Side B ((wipeG g vs).set i (.val d)) ((L2.wipe σ vs).set i (some v)) G' D := fun {G'} hn => ⟨sd2.b, sd2.bg, hn, fun a es2 f2 e1 e2 => by
      by_cases ha : a = i
      · subst ha
        rw [List.getElem?_set_self'] at e1
        cases hh : (wipeG g vs)[a]? with
        | none => rw [hh] at e1; cases e1
        | some _ => rw [hh] at e1; cases e1
      · rw [List.getElem?_set_ne (fun h => ha h.symm)] at e1 e2
        exact sdw.f a es2 f2 e1 e2⟩
    have h4D : H4 D = some (.lst acc) := o4.fm.keep D _ upd_same (o2.fm.side sd2.b)
    refine ⟨fun j' k H' => k = ds1.length - j' ∧ j' ≤ ds1.length ∧ ∃ G' n' acc' ac', Ok X.K B ((wipeG g vs).set i (.val d)) ((L2.wipe σ vs).set i (some v)) H' G' n' ∧ Same G4 G' ∧ G' D = none ∧ H' D = some (.lst acc') ∧ DaAll X.K G' acc' ac' ∧ Mo.sat (lc2B (f d) (ds1.drop j') ac') n' (fun acc n'' => Mo.sat (lc2A y f (es.drop (i' + 1)) acc) n'' φ ξ) ξ, ⟨ds1.length, by omega, Nat.zero_le _, G4, n4, acc, ac, oB4, Same.refl _, no4, h4D, (da.mono gr.g).mono g4, ?_⟩, ?_⟩
    · exact Mo.sat_bind s4
    rintro j' k' H5 ⟨rfl, hj', G5, n5, acc5, ac5, o5, g5, no5, h5D, da5, s5⟩
    by_cases hlt1 : j' < ds1.length
    · refine .inr ⟨wk1.goes j' H5 hlt1 (g5.trans o5.fm.sub), fun H' => ∃ G' n' acc' ac', Ok X.K B ((wipeG g vs).set i (.val d)) ((L2.wipe σ vs).set i (some v)) H' G' n' ∧ Same G4 G' ∧ G' D = none ∧ H' D = some (.lst acc') ∧ DaAll X.K G' acc' ac' ∧ Mo.sat (lc2B (f d) (ds1.drop (j' + 1)) ac') n' (fun acc n'' => Mo.sat (lc2A y f (es.drop (i' + 1)) acc) n'' φ ξ) ξ,
        fun H6 ⟨G6, n6, acc6, ac6, r⟩ => ⟨ds1.length - (j' + 1), by omega, rfl, hlt1, G6, n6, acc6, ac6, r⟩, fun v1 H6 hy1 => ?_⟩
      obtain ⟨d1, G6, ed1, gr1, dv1⟩ := wk1.yields j' H5 G5 v1 H6 hlt1 g5 o5.fm.sub hy1
      have o6 := o5.gr gr1
      have no6 : G6 D = none := gr1.new D (by rw [h5D]; simp) no5
      have h6D : H6 D = some (.lst acc5) := gr1.h _ _ h5D
      have e1 : ds1.drop j' = d1 :: ds1.drop (j' + 1) := by
        rw [List.drop_eq_getElem_cons hlt1]
        congr 1
        rw [List.getElem?_eq_getElem hlt1] at ed1
        exact Option.some.inj ed1
      rw [e1] at s5
      have s6 := Calm.calm (ξ' := fun _ _ => False) (Mo.sat_bind s5)
      refine ⟨by rw [wipe_set (List.mem_singleton.mpr rfl), wipe_wipe], ?_⟩
      rw [if_pos rfl]
      have sd6 := side2 no6
      have sd6w : Side B (wipeG ((wipeG g vs).set i (.val d)) [j]) (L2.wipe ((L2.wipe σ vs).set i (some v)) [j]) G6 D := ⟨sd6.b, sd6.bg, sd6.no, fun a es2 f2 e1 e2 => sd6.f a es2 f2 (wipeG_some e1 (by simp)).1 (wipe_some e2).1⟩
      refine ⟨(d, d1), B.pin D (.lst acc5), G6, n5, _, _, ((o6.wipe.pin sd6w h6D)).setV dv1, s6, fun yv H7 G7 dy n7 o7 g7 dyv s7 => ?_, fun _ _ _ _ _ _ z => z.elim⟩
      have o7w : Ok X.K (B.pin D (.lst acc5)) (wipeG ((wipeG g vs).set i (.val d)) [j]) (L2.wipe ((L2.wipe σ vs).set i (some v)) [j]) H7 G7 n7 := o7.rewipe (by rw [wipeG_set (List.mem_singleton.mpr rfl), wipeG_wipeG]) (by rw [wipe_set (List.mem_singleton.mpr rfl), wipe_wipe])
      have o7' := o6.unwipe (o7w.unpin o6.fm sd2.b) g7 (how1 d)
      have no7 : G7 D = none := o7.fm.new D (by show upd B.H D _ D ≠ none; rw [upd_same]; simp) sd2.bg
      have h7D : H7 D = some (.lst acc5) := o7.fm.keep D _ upd_same (o6.fm.side sd2.b)
      obtain ⟨u, eu, s8⟩ := Mo.sat_lift (Mo.sat_bind (show Mo.sat (Mo.lift (fits ac5.length) >>= fun _ => lc2B (f d) (ds1.drop (j' + 1)) (ac5 ++ [dy])) n7 _ _ from s7))
      have hfit := fits_eq eu
      have hl5 : acc5.length = ac5.length := da5.length
      refine ⟨acc5, h7D, Nat.lt_of_lt_of_le (by omega) (le_line (Nat.le_refl _)), G7, n7, _, ac5 ++ [dy], o7'.poke (side2 no7), (g5.trans gr1.g).trans g7, no7, upd_same, ((da5.mono gr1.g).mono g7).append (.one dyv), ?_⟩
      exact s8
    · have e : j' = ds1.length := by omega
      subst e
      rw [List.drop_length] at s5
      have p := Mo.sat_pure s5
      refine .inl ⟨wk1.stops H5 (g5.trans o5.fm.sub), ?_⟩
      have o5w : Ok X.K B (wipeG g vs) (L2.wipe σ vs) H5 G5 n5 := o5.rewipe eg1 es1
      have o5' := o2.unwipe o5w (g4.trans g5) how
      exact ⟨G5, n5, acc5, ac5, o5', (g'.trans gr.g).trans (g4.trans g5), ⟨sd2.b, sd2.bg, no5, sd2.f⟩, h5D, da5, p⟩
  · have e : i' = es.length := by omega
    subst e
    rw [List.drop_length] at s'
    have p := Mo.sat_pure s'
    exact .inl ⟨wk.stops H' (g'.trans o'.fm.sub), q D acc H' G' ac n' o' (g1.trans g') sd'.b sd'.no hD' sd'.f da p⟩
theorem ij_blk {s : Shared} {H : Hp} {scope : Scope} {env : Env} {fp : List Addr} {tg e : Expr} {x : m (List D)} (h : IJ (X.blk s H scope env fp) E0 tg e g x) : PI (X.blk s H scope env fp) tg e (tiJ X E0 g x) := h
theorem pi_u {ι : Type} {X : Cx} {tg e : Expr} {F : ι → TI} (h : ∀ i, PI X tg e (F i)) : PI X tg e (fun σ H Q => ∃ i, F i σ H Q) := ⟨fun pins s σ H Q I ⟨i, q⟩ => (h i).run pins s σ H Q I q⟩
theorem lj_lc11 (own : List (Str × Nat)) (i j : Nat) {elt tg iter tg1 iter1 : Expr} {scope : Scope} {pos : Pos} {x : m (List D)} {y : D → m (List D)} {f : D → D → m D} (hN : X.N.Nodup) (hi : IJ X EX tg iter g x) (ok : BlkOk X.N X.env.scope scope own)
    (hg : ∀ (s : Shared) (H : Hp) (C : Addr) (cl : List (Str × Addr)) (fp : List Addr), PG (X.blk s H scope (compEnvC scope cl C X.env) fp) tg (gName i))
    (hi1 : ∀ (s : Shared) (H : Hp) (C : Addr) (cl : List (Str × Addr)) (fp : List Addr) (d : D), IJ (X.blk s H scope (compEnvC scope cl C X.env) fp) E0 tg1 iter1 ((wipeG g (own.map (·.2))).set i (.val d)) (y d))
    (hg1 : ∀ (s : Shared) (H : Hp) (C : Addr) (cl : List (Str × Addr)) (fp : List Addr), PG (X.blk s H scope (compEnvC scope cl C X.env) fp) tg1 (gName j))
    (he : ∀ (s : Shared) (H : Hp) (C : Addr) (cl : List (Str × Addr)) (fp : List Addr) (a b : D), EJ (X.blk s H scope (compEnvC scope cl C X.env) fp) E0 elt ((wipeG ((wipeG g (own.map (·.2))).set i (.val a)) [j]).set j (.val b)) (f a b))
    (hin : i ∈ own.map (·.2) := by decide) (hjn : j ∈ own.map (·.2) := by decide) (how : noOwn g (own.map (·.2)) = true := by rfl) (how1 : ∀ d, noOwn ((wipeG g (own.map (·.2))).set i (.val d)) [j] = true := by intro _; rfl) (hc : X.calm = true := by rfl) (hs : ∀ x, foldedSetIterable iter X.env x = pure x := by intro _; rfl) (hs1 : ∀ env x, foldedSetIterable iter1 env x = pure x := by intro _ _; rfl) :
    LcP X EX (.ListComp elt [⟨tg, iter, [], 0⟩, ⟨tg1, iter1, [], 0⟩] scope pos) g (x >>= fun ds => Mo.lift (small ds) >>= fun ds => lc2A y f ds []) :=
  have hv : ∀ a ∈ [j], a ∈ own.map (·.2) := fun a ha => by rw [List.mem_singleton.mp ha]; exact hjn
  ⟨(pe_lc2 hc hN hi ok hv hg (fun _ _ _ _ _ => pts_nil) (fun s H C cl fp => pi_u fun d => ij_blk (hi1 s H C cl fp d)) hg1 (fun _ _ _ _ _ => pts_nil) (fun s H C cl fp => pe_u fun d => ej_blk (he s H C cl fp d.1 d.2)) hs hs1).weak fun σ H Q h => tlc2_of hin hjn how how1 h,
   fun nd hy hl hsw => (ps_setLc2 hc nd hy hl hsw hi ok hv hg (fun _ _ _ _ _ => pts_nil) (fun s H C cl fp => pi_u fun d => ij_blk (hi1 s H C cl fp d)) hg1 (fun _ _ _ _ _ => pts_nil) (fun s H C cl fp => pe_u fun d => ej_blk (he s H C cl fp d.1 d.2)) hs hs1).weak fun De σ H h => tlc2_of hin hjn how how1 h⟩
theorem lc2B_map [MoL m] {γ : Type} {f : D → m D} {F G : γ → D} : ∀ (xs : List γ) (acc : List D), (∀ x ∈ xs, f (F x) = pure (G x)) → acc.length + xs.length < 1000000 → lc2B f (xs.map F) acc = pure (acc ++ xs.map G)
  | [], acc, _, _ => by simp [lc2B]
  | x :: xs, acc, h, hl => by
    show (f (F x) >>= fun z => Mo.lift (fits acc.length) >>= fun _ => lc2B f (xs.map F) (acc ++ [z])) = _
    rw [h x List.mem_cons_self, MoL.pb, fits_ok (by omega), MoL.ls, MoL.pb, lc2B_map xs (acc ++ [G x]) (fun y hy => h y (List.mem_cons_of_mem _ hy)) (by simp at hl ⊢; omega)]
    simp
theorem lc2_map [MoL m] {γ δ : Type} {y : D → m (List D)} {f : D → D → m D} {F : γ → D} {F2 : δ → D} {ys : γ → List δ} {G : γ → δ → D} : ∀ (xs : List γ) (acc : List D), (∀ x ∈ xs, y (F x) = pure ((ys x).map F2)) → (∀ x ∈ xs, ∀ e ∈ ys x, f (F x) (F2 e) = pure (G x e)) → acc.length + (xs.flatMap ys).length < 1000000 → lc2A y f (xs.map F) acc = pure (acc ++ xs.flatMap fun x => (ys x).map (G x))
  | [], acc, _, _, _ => by simp [lc2A]
  | x :: xs, acc, hy, hf, hl => by
    show (y (F x) >>= fun es => lc2B (f (F x)) es acc >>= fun acc => lc2A y f (xs.map F) acc) = _
    rw [List.flatMap_cons, List.length_append] at hl
    rw [hy x List.mem_cons_self, MoL.pb, lc2B_map (ys x) acc (hf x List.mem_cons_self) (by omega), MoL.pb, lc2_map xs _ (fun z hz => hy z (List.mem_cons_of_mem _ hz)) (fun z hz => hf z (List.mem_cons_of_mem _ hz)) (by rw [List.length_append, List.length_map]; omega)]
    simp
abbrev tN (ns : List Nat) : D := .tuple (ns.map fun n : Nat => .int (n : Nat))
abbrev tO (c : List (Option Int)) : D := .tuple (c.map oD)
abbrev comp11 (x : m (List D)) (y : D → m (List D)) (f : D → D → m D) : m (List D) := x >>= fun ds => Mo.lift (small ds) >>= fun ds => lc2A y f ds []
end
/-! rows -/
theorem get_row {rows : List (List Int)} {d : Nat} (h : d < rows.length) : DD.getD (tT rows) (.int (d : Nat)) = some (tI (rows.getD d [])) := by
  have := get_tup (F := tI) h
  rw [this]
  simp [List.getD, h]
theorem row_len {rows : List (List Int)} {k d : Nat} (hl : ∀ r ∈ rows, r.length = k) (h : d < rows.length) : (rows.getD d []).length = k := by
  simp [List.getD, h]
  exact hl _ (List.getElem_mem h)
theorem cut_loA {r : List D} {j : Int} (h0 : 0 ≤ j) : sliceD (.tuple r) none (some j) = some (.tuple (r.take j.toNat)) := by
  show some (PyData.tuple (cutD r none (some j))) = _
  unfold cutD
  have e : HT.sIx r.length r.length (some j) = min j.toNat r.length := by
    show (if j < 0 then (j + (r.length : Int)).toNat else min j.toNat r.length) = _
    rw [if_neg (by omega)]
  rw [e, HT.sIx_none, List.drop_zero, Nat.sub_zero]
  congr 2
  rw [List.take_eq_take_iff]
  omega
theorem cut_rows {rows : List (List Int)} {j : Int} (h0 : 0 ≤ j) : sliceD (tT rows) none (some j) = some (tT (rows.take j.toNat)) := by
  rw [cut_loA h0, ← List.map_take]
theorem oN_none {o : Option Nat} : isNone (oN o) = o.isNone := by cases o <;> rfl
theorem eqv_bools (a b : Bool) : eqD (.bool a) (.bool b) = some (.bool (a == b)) := by cases a <;> cases b <;> kernel_rfl
theorem nev_bools (a b : Bool) : neD (.bool a) (.bool b) = some (.bool (!(a == b))) := by cases a <;> cases b <;> kernel_rfl
theorem tup_map {γ : Type} (l : List γ) (f : γ → Int) : PyData.tuple (l.map fun y => PyData.int (f y)) = tI (l.map f) := by simp [tI, Function.comp_def]
theorem lst_map {γ : Type} (l : List γ) (f : γ → Int) : PyData.list (l.map fun y => PyData.int (f y)) = PyData.list ((l.map f).map PyData.int) := by simp [Function.comp_def]
theorem mulL_one {x : D} {k : Int} (h : 0 ≤ k) (h1 : k ≤ 1000) : mulD (.list [x]) (.int k) = some (.list (List.replicate k.toNat x)) := by
  show (if 0 ≤ k ∧ k ≤ 1000 ∧ [x].length ≤ 1000 then some (PyData.list (List.replicate k.toNat [x]).flatten) else none) = _
  rw [if_pos ⟨h, h1, by simp⟩]
  congr 2
  generalize k.toNat = n
  induction n with
  | zero => rfl
  | succ n ih => rw [List.replicate_succ, List.flatten_cons, ih]; rfl
theorem Tri.bT {β : Type} {d : Nat} {x : W D} {f : Bool → W β} {χ : β → Prop} {b : Nat} (h : Tri b x (fun d => d = .bool true)) (hf : Tri (d - b) (f true) χ) (hd : b ≤ d := by decide) : Tri d (x >>= fun a => (Mo.lift (boolD a) : W Bool) >>= f) χ :=
  Tri.st h (fun a ha => by rw [ha, bool_bool, wl_some, wb_pure]; exact hf) hd
theorem int_map {γ : Type} (l : List γ) (f : γ → Int) : (l.map fun y => PyData.int (f y)) = (l.map f).map PyData.int := by simp [Function.comp_def]
/-! ### defs that call themselves -/
theorem fng_none {m : Type → Type} [Mo m] {P : Program} {w : World} {K : PySem.W.Frag} {mg : Str → Option Value} {base : Heap} {k : Nat} {f : Addr} {fd : FuncData} {ps : List Str} {M : List Sl → m D} (h : ∀ as n φ, ¬ Mo.sat (M as) n φ (fun _ _ => False)) : FnG P w K mg base k f fd ps (spJ K M) :=
  ⟨fun _ _ _ _ ⟨_, n, _, as, φ, _, _, s, _⟩ => (h as n φ s).elim, fun _ _ _ _ _ _ _ _ _ _ _ _ _ _ ⟨_, n, _, as, φ, _, _, s, _⟩ => (h as n φ s).elim⟩
theorem no_lift {m : Type → Type} [Mo m] {n : Nat} {φ : D → Nat → Prop} {ξ : Exn → Nat → Prop} : ¬ Mo.sat (Mo.lift none : m D) n φ ξ := fun h => by
  obtain ⟨_, e, _⟩ := Mo.sat_lift h
  cases e
theorem eq_nilT {n k : Nat} {xs : List D} (h : SmA n k xs) (hk : k ≤ 63) : eqD (.tuple xs) (.tuple []) = some (.bool xs.isEmpty) := by
  rw [eq_sm h.tup SmA.nil.tup (by omega) (by decide)]
  cases xs <;> rfl
theorem SmA.rows {rows : List (List Int)} {n k : Nat} (h : ∀ r ∈ rows, ∀ x ∈ r, x.natAbs < 10 ^ 20) (hk : ∀ r ∈ rows, r.length ≤ k) (hn : rows.length ≤ n) : SmA (n * (k + 1)) 1 (rows.map DD.tI) := (SmA.map (n := k + 1) (k := 1) rows fun r hr => Sm.tI (h r hr) (hk r hr)).le (Nat.mul_le_mul_right (k + 1) hn) (Nat.le_refl _)
theorem zipIdx_range (r : List Int) : r.zipIdx = (List.range r.length).map fun i => (r.getD i 0, i) := by
  refine List.ext_getElem (by simp) fun i h1 h2 => ?_
  have : i < r.length := by simpa using h1
  simp [List.getD, this]
theorem ar1_val {m : Type → Type} [Mo m] (F : D → m D) (a : D) : ar1 F [.val a] = F a := rfl
theorem ar2_val {m : Type → Type} [Mo m] (F : D → D → m D) (a b : D) : ar2 F [.val a, .val b] = F a b := rfl
theorem ar3_val {m : Type → Type} [Mo m] (F : D → D → D → m D) (a b c : D) : ar3 F [.val a, .val b, .val c] = F a b c := rfl
/-- drawn wishes: one to four rows of k ints, none all zero -/
structure Wishes (k : Nat) (m : Int) (rows : List (List Int)) : Prop where
  one : 1 ≤ rows.length
  four : rows.length ≤ 4
  len : ∀ r ∈ rows, r.length = k
  ge : ∀ r ∈ rows, ∀ x ∈ r, 0 ≤ x ∧ x ≤ m
  pos : ∀ r ∈ rows, ∃ x ∈ r, 0 < x
def good (k : Nat) (m : Int) (r : List Int) : Prop := r.length = k ∧ (∀ x ∈ r, 0 ≤ x ∧ x ≤ m) ∧ ∃ x ∈ r, 0 < x
theorem Wishes.take {k : Nat} {m : Int} {rows : List (List Int)} (w : Wishes k m rows) {n : Nat} (h : 1 ≤ n) : Wishes k m (rows.take n) :=
  ⟨by have := w.one; rw [List.length_take]; omega, by have := w.four; rw [List.length_take]; omega, fun r hr => w.len r (List.mem_of_mem_take hr), fun r hr => w.ge r (List.mem_of_mem_take hr), fun r hr => w.pos r (List.mem_of_mem_take hr)⟩
/-- a drawn stock -/
structure Stk (m : Int) (k : Nat) (rows : List (List Int)) : Prop where
  one : 1 ≤ rows.length
  four : rows.length ≤ 4
  k1 : 1 ≤ k
  k4 : k ≤ 4
  len : ∀ r ∈ rows, r.length = k
  ge : ∀ r ∈ rows, ∀ x ∈ r, 0 ≤ x ∧ x ≤ m
theorem liE {m : Type → Type} [Mo m] [MoL m] {α : Type} {o : Option α} {a : α} (e : o = some a) : (Mo.lift o : m α) = pure a := by rw [e, MoL.ls]
theorem upE {o : Option D} {a : D} (e : o = some a) : upW o = Pure.pure a := by rw [e]; exact wu_some a
theorem twice_map {α : Type} (x : α) : (List.range (Int.toNat 2)).map (fun _ => x) = [x, x] := rfl
section
variable {m : Type → Type} [Mo m] [MoL m] {A γ : Type}
/-- a loop with an invariant; it may hand back -/
theorem loop_exE {f : D → A → m (Fl A)} {F : γ → D} {I : List γ → A → Prop} {R : D → Prop} (all : List γ) {a : A} (h0 : I [] a) (h : ∀ p x q a, all = p ++ x :: q → I p a → (∃ a', f (F x) a = pure (.nx a') ∧ I (p ++ [x]) a') ∨ ∃ v, f (F x) a = pure (.rt v) ∧ R v) : (∃ a', loopM f (all.map F) a = pure (.nx a') ∧ I all a') ∨ ∃ v, loopM f (all.map F) a = pure (.rt v) ∧ R v := by
  have key : ∀ (post pre : List γ) (a : A), pre ++ post = all → I pre a → (∃ a', loopM f (post.map F) a = pure (.nx a') ∧ I all a') ∨ ∃ v, loopM f (post.map F) a = pure (.rt v) ∧ R v := by
    intro post
    induction post with
    | nil => intro pre a e hI; rw [List.append_nil] at e; subst e; exact .inl ⟨a, rfl, hI⟩
    | cons x post ih =>
      intro pre a e hI
      show (∃ a', (f (F x) a >>= fun z => match z with | .nx a' => loopM f (post.map F) a' | .rt v => pure (.rt v)) = pure (.nx a') ∧ I all a') ∨ ∃ v, (f (F x) a >>= fun z => match z with | .nx a' => loopM f (post.map F) a' | .rt v => pure (.rt v)) = pure (.rt v) ∧ R v
      rcases h pre x post a e.symm hI with ⟨a', e1, h1⟩ | ⟨v, e1, h1⟩
      · rw [e1, MoL.pb]
        exact ih (pre ++ [x]) a' (by simpa using e) h1
      · rw [e1, MoL.pb]
        exact .inr ⟨v, rfl, h1⟩
  exact key all [] a rfl h0
theorem loop_ex {f : D → A → m (Fl A)} {F : γ → D} {I : List γ → A → Prop} (all : List γ) {a : A} (h0 : I [] a) (h : ∀ p x q a, all = p ++ x :: q → I p a → ∃ a', f (F x) a = pure (.nx a') ∧ I (p ++ [x]) a') : ∃ a', loopM f (all.map F) a = pure (.nx a') ∧ I all a' := by
  rcases loop_exE (R := fun _ => False) all h0 (fun p x q a e hI => .inl (h p x q a e hI)) with r | ⟨v, _, z⟩
  · exact r
  · exact z.elim
theorem loop_exN {f : D → A → m (Fl A)} {I : Nat → A → Prop} {n : Nat} {a : A} (h0 : I 0 a) (h : ∀ i a, i < n → I i a → ∃ a', f (.int (i : Nat)) a = pure (.nx a') ∧ I (i + 1) a') : ∃ a', loopM f ((List.range n).map fun i : Nat => PyData.int (i : Nat)) a = pure (.nx a') ∧ I n a' := by
  have := loop_ex (f := f) (F := fun i : Nat => PyData.int (i : Nat)) (I := fun p a => I p.length a) (List.range n) h0 fun p x q a e hI => by
    have hx : x = p.length := by
      have := congrArg (fun l => l[p.length]?) e
      simp at this
      by_cases hl : p.length < n
      · rw [List.getElem?_eq_getElem (by simpa using hl)] at this; simp at this; exact this.symm
      · rw [List.getElem?_eq_none (by simpa using Nat.le_of_not_lt hl)] at this; cases this
    have hn : x < n := List.mem_range.mp (by rw [e]; simp)
    subst hx
    simpa using h _ a hn hI
  simpa using this
end
theorem int_nin {v : Int} {l : List Int} : ninD (.int v) (.tuple (l.map PyData.int)) = some (.bool (!decide (v ∈ l))) := by
  have h1 : laidIn (.int v) (l.map PyData.int) = true := by
    unfold laidIn
    rw [Bool.and_eq_true]
    refine ⟨by rfl, ?_⟩
    induction l with
    | nil => rfl
    | cons x l ih => exact ih
  show (if laidIn (.int v) (l.map PyData.int) = true then some (PyData.bool (!(l.map PyData.int).any fun y => PyData.eqv y (.int v))) else (inStr (.int v) (l.map PyData.int)).map fun b => PyData.bool !b) = _
  rw [if_pos h1]
  congr 3
  rw [Bool.eq_iff_iff, List.any_eq_true, decide_eq_true_eq]
  constructor
  · rintro ⟨y, hy, he⟩
    obtain ⟨x, hx, rfl⟩ := List.mem_map.mp hy
    have := (eqv_iff (.int x) (.int v) rfl rfl).mp he
    cases this
    exact hx
  · intro h
    exact ⟨.int v, List.mem_map.mpr ⟨v, h, rfl⟩, eqv_self rfl⟩
theorem bind_ex {m : Type → Type} [Mo m] [MoL m] {α β : Type} {x : m α} {g : α → m β} {I : α → Prop} {R : m β → Prop} (h : ∃ a, x = pure a ∧ I a) (k : ∀ a, I a → R (g a)) : R (x >>= g) := by
  obtain ⟨a, e, hi⟩ := h
  rw [e, MoL.pb]
  exact k a hi
theorem loop_exF {m : Type → Type} [Mo m] [MoL m] {A γ : Type} {f : D → A → m (Fl A)} {F : γ → D} {I : List γ → A → Prop} (all : List γ) {a : A} (h0 : I [] a) (h : ∀ p x q a, all = p ++ x :: q → I p a → ∃ a', f (F x) a = pure (.nx a') ∧ I (p ++ [x]) a') : ∃ z, loopM f (all.map F) a = pure z ∧ ∃ a', z = .nx a' ∧ I all a' := by
  obtain ⟨a', e, hi⟩ := loop_ex all h0 h
  exact ⟨_, e, a', rfl, hi⟩
theorem loop_exG {m : Type → Type} [Mo m] [MoL m] {A : Type} {f : D → A → m (Fl A)} {I : Nat → A → Prop} {n : Nat} {a : A} (h0 : I 0 a) (h : ∀ i a, i < n → I i a → ∃ a', f (.int (i : Nat)) a = pure (.nx a') ∧ I (i + 1) a') : ∃ z, loopM f ((List.range n).map fun i : Nat => PyData.int (i : Nat)) a = pure z ∧ ∃ a', z = .nx a' ∧ I n a' := by
  obtain ⟨a', e, hi⟩ := loop_exN (f := f) h0 h
  exact ⟨_, e, a', rfl, hi⟩
/-! ### is, is not of bools -/
def isbD : D → D → Option D
  | .bool a, .bool b => some (.bool (decide (a = b)))
  | _, _ => none
def isnbD : D → D → Option D
  | .bool a, .bool b => some (.bool (!decide (a = b)))
  | _, _ => none
theorem rd_isB {K : PySem.W.Frag} : RD K rIsB isbD := by
  intro x y dx dy z H G Q hx hy hs e q
  unfold isbD at e
  split at e
  · cases e
    cases hx
    cases hy
    exact ⟨_, _, rfl, rfl, q _ H G (Gr.refl hs) (.bl _)⟩
  · cases e
theorem rd_isnB {K : PySem.W.Frag} : RD K rNotB isnbD := by
  intro x y dx dy z H G Q hx hy hs e q
  unfold isnbD at e
  split at e
  · cases e
    cases hx
    cases hy
    exact ⟨_, _, rfl, rfl, q _ H G (Gr.refl hs) (.bl _)⟩
  · cases e
/-! ### for with three names -/
section
variable {m : Type → Type} [Mo m] {A : Type} {X : Cx} {EX : XK} {g : List Sl}
def tripM {α : Type} (d : D) (f : D → D → D → m α) : m α := match d with
  | .tuple [a, b, c] => f a b c
  | _ => Mo.lift none
theorem gsem3 {i j l : Nat} {P : A → List Sl} {b : D → D → D → A → m (Fl A)} : GSem X.K (gTup X.K 3 (gCons (gName i) (gCons (gName j) (gCons (gName l) gNil)))) P (fun d a => tripM d fun u w v => b u w v a) (fun d a g' y => ∃ u w v, g' = (((P a).set i (.val u)).set j (.val w)).set l (.val v) ∧ y = b u w v a) := by
  intro B σ H G n d a v φ ξ Q o dv s q
  unfold tripM at s
  dsimp only at s
  split at s
  · rename_i u w z
    cases dv with
    | tup h da =>
      cases da with
      | cons d1 r =>
        cases r with
        | cons d2 r =>
          cases r with
          | cons d3 r =>
            cases r
            exact ⟨_, _, rfl, sameT o.fm.sub h, rfl, _, _, rfl, _, _, rfl, _, _, rfl, rfl, q _ _ _ ⟨u, w, z, rfl, rfl⟩ (((o.setV d1).setV d2).setV d3) s⟩
  · obtain ⟨_, e, _⟩ := Mo.sat_lift s
    cases e
theorem for3 (i j l : Nat) {tg iter : Expr} {body : List Stmt} {pos : Pos} {xi : m (List D)} {P : A → List Sl} {a0 : A} {b : D → D → D → A → m (Fl A)} (hp : PassesOwn (model X.prog X.w) X.A X.env X.xe) (hi : IJ X EX tg iter g xi) (hg : PG X tg (gTup X.K 3 (gCons (gName i) (gCons (gName j) (gCons (gName l) gNil)))))
    (hb : ∀ u w v a, BJ X EX body ((((P a).set i (.val u)).set j (.val w)).set l (.val v)) (b u w v a) P) (h0 : Sub g (P a0)) (hc : X.calm = true := by rfl) (hs : ∀ x, foldedSetIterable iter X.env x = pure x := by intro _; rfl) :
    PS X (.For tg iter body [] pos) (tbJ X EX g (xi >>= fun ds => loopM (fun d a => tripM d fun u w v => b u w v a) ds a0) P) :=
  for_core hp hc hi hg (fun d a g' y ⟨u, w, v, e1, e2⟩ => by subst e1 e2; exact hb u w v a) gsem3 h0 hs
abbrev forM3 (x : m (List D)) (a0 : A) (b : D → D → D → A → m (Fl A)) : m (Fl A) := x >>= fun ds => loopM (fun d a => tripM d fun u w v => b u w v a) ds a0
end
end DD
namespace DD
open PySem PySem.Spec PyProof.Rows L2
/-! ### two new lists at once -/
section
variable {m : Type → Type} [Mo m] {X : Cx} {EX : XK} {g : List Sl}
theorem sj_parOO (i j : Nat) {y z : Str} {a b : Expr} {px py pt pos : Pos} {kt k2 pt2} {x1 x2 : m (List D)} (hN : X.N.Nodup) (ha : LJ X EX a g x1) (hb : LJ X EX b g x2) (hij : i ≠ j := by decide) (hi : X.N[i]? = some y := by rfl) (hj : X.N[j]? = some z := by rfl) (hc : X.calm = true := by rfl)
    (hx : X.env.scope.names.lookup y = some .local := by rfl) (hy : X.env.scope.names.lookup z = some .local := by rfl)
    (hw : swappedStores [.Tuple [.Name y px, .Name z py] kt pt] (.Tuple [a, b] k2 pt2) X.env = pure (some [y, z]) := by kernel_rfl) (hs : swapsWithSole [.Tuple [.Name y px, .Name z py] kt pt] (.Tuple [a, b] k2 pt2) pos.line X.env = pure false := by kernel_rfl)
    (hs1 : starEach [a, b] X.env = (false, eval a X.env) :: starEach [b] X.env := by rfl) (hs2 : starEach [b] X.env = (false, eval b X.env) :: starEach [] X.env := by rfl) :
    SJ X EX (.Assign [.Tuple [.Name y px, .Name z py] kt pt] (.Tuple [a, b] k2 pt2) pos) g (x1 >>= fun d => x2 >>= fun e => pure (d, e)) (fun de => (g.set i (.own de.1)).set j (.own de.2)) :=
  (ps_par hc hN hi hj hij hx hy (pa_cons ha (pa_cons hb pa_nil hs2) hs1) hw hs).weak fun De σ H ⟨B, G, n, φ, ξ, o, s, q, xw⟩ => ⟨B, G, n, _, ξ, o, Mo.sat_bind s, fun p1 xs1 H1 G1 ds n1 o1 g1 hb1 hg1 hh1 hf1 da1 s1 => by
    have hbg : B.G p1 = none := by
      cases e : B.G p1 with
      | none => rfl
      | some z => rw [o1.fm.old _ _ e] at hg1; cases hg1
    have sd : Side B g σ G1 p1 := ⟨hb1, hbg, hg1, hf1⟩
    refine ⟨B.pin p1 (.lst xs1), G1, n1, _, ξ, o1.pin sd hh1, Mo.sat_bind s1, fun p2 xs2 H2 G2 es n2 o2 g2 hb2 hg2 hh2 hf2 da2 s2 => ?_, fun e n' H' G' c od hx fm ex => xw e n' H' G' c od hx (fm.unpin o1.fm hb1) ex⟩
    have hne : p2 ≠ p1 := fun e => by
      subst e
      have h9 : upd B.H p2 (.lst xs1) p2 = none := hb2
      rw [upd_same] at h9
      cases h9
    have hb2' : B.H p2 = none := by
      have h9 : upd B.H p1 (.lst xs1) p2 = none := hb2
      rw [upd_ne hne] at h9
      exact h9
    have h1 : H2 p1 = some (.lst xs1) := o2.fm.keep p1 _ upd_same (o1.fm.side hb1)
    have h2 : G2 p1 = none := o2.fm.new p1 (by show upd B.H p1 _ p1 ≠ none; rw [upd_same]; simp) hbg
    have o3 := o2.unpin o1.fm hb1
    have o4 := o3.setO (i := i) hb1 h2 h1 hf1 (da1.mono g2)
    refine ⟨.ref p1, .ref p2, rfl, q (ds, es) _ H2 G2 n2 (o4.setO (i := j) hb2' hg2 hh2 (fun k es' f e1 e2 => ?_) da2) (g1.trans g2) (Mo.sat_pure s2)⟩
    by_cases hk : i = k
    · subst hk
      by_cases hl : i < σ.length
      · rw [List.getElem?_set_self hl] at e2
        cases e2
        exact hne.symm
      · rw [List.getElem?_eq_none (by rw [List.length_set]; omega)] at e2
        cases e2
    · rw [List.getElem?_set_ne hk] at e1 e2
      exact hf2 k es' f e1 e2, xw⟩
end
/-! the same by a tuple that is built and taken apart (names that a comprehension reads) -/
section
variable {m : Type → Type} [Mo m] {X : Cx} {EX : XK} {g : List Sl}
theorem sj_tupVL (i j : Nat) {tg a b : Expr} {pos : Pos} {k2 pt2} {x1 : m D} {x2 : m (List D)} (ha : EJ X EX a g x1) (hb : LJ X EX b g x2) (hg : PG X tg (gTup X.K 2 (gCons (gName i) (gCons (gName j) gNil)))) (hs : swapsWithSole [tg] (.Tuple [a, b] k2 pt2) pos.line X.env = pure false := by kernel_rfl) (hw : swappedStores [tg] (.Tuple [a, b] k2 pt2) X.env = pure none := by kernel_rfl)
    (h1 : (assignEach [tg] X.env).map (·.2) = [assign tg X.env] := by rfl) (hs1 : starEach [a, b] X.env = (false, eval a X.env) :: starEach [b] X.env := by rfl) (hs2 : starEach [b] X.env = (false, eval b X.env) :: starEach [] X.env := by rfl) :
    SJ X EX (.Assign [tg] (.Tuple [a, b] k2 pt2) pos) g (x1 >>= fun d => x2 >>= fun e => pure (d, e)) (fun de => (g.set i (.val de.1)).set j (.own de.2)) :=
  (ps_asg (pe_tup (pa_cons ha (pa_cons hb pa_nil hs2) hs1)) hg hs hw h1).weak fun De σ H ⟨B, G, n, φ, ξ, o, s, q, xw⟩ => te_one o s (fun v H1 G1 d n1 o1 g1 d1 s1 => ⟨B, G1, n1, _, ξ, o1, Mo.sat_bind s1, fun p xs H2 G2 es n2 o2 g2 hb' hg' hh hf da s2 =>
    ⟨(by show 2 ≤ sizeLine; decide), fun t ht => ⟨t, _, rfl, .inl (.inl upd_same), rfl, _, _, rfl, _, _, rfl, rfl, q (d, es) _ _ G2 n2 (((o2.raw ht).setV (d1.mono g2)).setO hb' hg' (by rw [upd_ne (fun e => by rw [← e, hh] at ht; cases ht)]; exact hh) (fun k es' f e1 e2 => by
      by_cases hk : i = k
      · subst hk
        by_cases hl : i < g.length
        · rw [List.getElem?_set_self hl] at e1; cases e1
        · rw [List.getElem?_eq_none (by rw [List.length_set]; omega)] at e1; cases e1
      · rw [List.getElem?_set_ne hk] at e1 e2
        exact hf k es' f e1 e2) da) (g1.trans g2) (Mo.sat_pure s2)⟩⟩, xw⟩) xw
theorem sj_tupLL (i j : Nat) {tg a b : Expr} {pos : Pos} {k2 pt2} {x1 x2 : m (List D)} (ha : LJ X EX a g x1) (hb : LJ X EX b g x2) (hg : PG X tg (gTup X.K 2 (gCons (gName i) (gCons (gName j) gNil)))) (hs : swapsWithSole [tg] (.Tuple [a, b] k2 pt2) pos.line X.env = pure false := by kernel_rfl) (hw : swappedStores [tg] (.Tuple [a, b] k2 pt2) X.env = pure none := by kernel_rfl)
    (h1 : (assignEach [tg] X.env).map (·.2) = [assign tg X.env] := by rfl) (hs1 : starEach [a, b] X.env = (false, eval a X.env) :: starEach [b] X.env := by rfl) (hs2 : starEach [b] X.env = (false, eval b X.env) :: starEach [] X.env := by rfl) :
    SJ X EX (.Assign [tg] (.Tuple [a, b] k2 pt2) pos) g (x1 >>= fun d => x2 >>= fun e => pure (d, e)) (fun de => (g.set i (.own de.1)).set j (.own de.2)) :=
  (ps_asg (pe_tup (pa_cons ha (pa_cons hb pa_nil hs2) hs1)) hg hs hw h1).weak fun De σ H ⟨B, G, n, φ, ξ, o, s, q, xw⟩ => ⟨B, G, n, _, ξ, o, Mo.sat_bind s, fun p1 xs1 H1 G1 ds n1 o1 g1 hb1 hg1 hh1 hf1 da1 s1 => by
    have hbg : B.G p1 = none := by
      cases e : B.G p1 with
      | none => rfl
      | some z => rw [o1.fm.old _ _ e] at hg1; cases hg1
    have sd : Side B g σ G1 p1 := ⟨hb1, hbg, hg1, hf1⟩
    refine ⟨B.pin p1 (.lst xs1), G1, n1, _, ξ, o1.pin sd hh1, Mo.sat_bind s1, fun p2 xs2 H2 G2 es n2 o2 g2 hb2 hg2 hh2 hf2 da2 s2 => ?_, fun e n' H' G' c od hx fm ex => xw e n' H' G' c od hx (fm.unpin o1.fm hb1) ex⟩
    have hne : p2 ≠ p1 := fun e => by
      subst e
      have h9 : upd B.H p2 (.lst xs1) p2 = none := hb2
      rw [upd_same] at h9
      cases h9
    have hb2' : B.H p2 = none := by
      have h9 : upd B.H p1 (.lst xs1) p2 = none := hb2
      rw [upd_ne hne] at h9
      exact h9
    have h1 : H2 p1 = some (.lst xs1) := o2.fm.keep p1 _ upd_same (o1.fm.side hb1)
    have h2 : G2 p1 = none := o2.fm.new p1 (by show upd B.H p1 _ p1 ≠ none; rw [upd_same]; simp) hbg
    have o3 := o2.unpin o1.fm hb1
    refine ⟨(by show 2 ≤ sizeLine; decide), fun t ht => ?_⟩
    have ht1 : p1 ≠ t := fun e => by rw [← e, h1] at ht; cases ht
    have ht2 : p2 ≠ t := fun e => by rw [← e, hh2] at ht; cases ht
    have o4 := (o3.raw ht (u := .tup [V.ref p1, V.ref p2])).setO (i := i) hb1 h2 (by rw [upd_ne ht1]; exact h1) hf1 (da1.mono g2)
    refine ⟨t, _, rfl, .inl (.inl upd_same), rfl, _, _, rfl, _, _, rfl, rfl, q (ds, es) _ _ G2 n2 (o4.setO (i := j) hb2' hg2 (by rw [upd_ne ht2]; exact hh2) (fun k es' f e1 e2 => ?_) da2) (g1.trans g2) (Mo.sat_pure s2)⟩
    by_cases hk : i = k
    · subst hk
      by_cases hl : i < σ.length
      · rw [List.getElem?_set_self hl] at e2
        cases e2
        exact hne.symm
      · rw [List.getElem?_eq_none (by rw [List.length_set]; omega)] at e2
        cases e2
    · rw [List.getElem?_set_ne hk] at e1 e2
      exact hf2 k es' f e1 e2, xw⟩
end
/-! ### dicts as constants -/
section
variable {m : Type → Type} [Mo m] {X : Cx} {EX : XK} {g : List Sl}
theorem ej_dict0 {pos : Pos} : EJ (m := m) X EX (.Dict [] [] pos) g (pure (.dict [])) :=
  (pe_dnewK).weak fun σ H Q ⟨B, G, n, φ, ξ, o, s, q, xw⟩ p hp => by
    obtain ⟨o2, g2⟩ := o.alloc (u := .dK []) hp
    exact q _ _ _ _ n o2 g2 (.dct (kvs := []) upd_same (by simp)) (Mo.sat_pure s)
theorem ej_dict1 {x : Str} {i : Int} {k1 k2 : Nat} {p1 p2 pos : Pos} : EJ (m := m) X EX (.Dict [some (.Constant (.str x) k1 p1)] [.Constant (.int i) k2 p2] pos) g (pure (.dict [(.str x, .int i)])) :=
  (pe_disp (pps_cons pe_str pe_int pps_nil) rfl rfl (by simp) (by simp)).weak fun σ H Q ⟨B, G, n, φ, ξ, o, s, q, xw⟩ p hp => by
    refine ⟨upd_same, [(.inr x, .int i)], rfl, by simp, ?_⟩
    rw [upd_upd]
    obtain ⟨o2, g2⟩ := o.alloc (u := .dK (mergeK [] [(.inr x, .int i)])) hp
    exact q _ _ _ _ n o2 g2 (.dct (kvs := [(.inr x, .int i)]) upd_same (by intro p hp; rw [List.mem_singleton.mp hp]; rfl)) (Mo.sat_pure s)
end
end DD
namespace DD
open PySem PySem.Spec PyProof.Rows
/-! ### t[::-1] of a tuple -/
section
variable {prog : Program} {w : World} {A : Around} {E : Value → Shared → Prop} {s : Shared}
theorem sliceApplied_rev {sl : Addr} {vl vu vs : Value} {n : Nat} {Q : Int × Int × Nat → Shared → Prop} (hs : s.heap.IsSliceOf sl vl vu vs) (pl : IsPart vl none) (pu : IsPart vu none) (ps : IsPart vs (some (-1)))
    (h : Q ((n : Int) - 1, -1, n) s) : wpAny (model prog w) A (Builtin.Slice.sliceApplied (.ref sl) (pure (n : Int))) Q E s := by
  obtain ⟨os, hos, hcs, hds⟩ := id hs
  unfold Builtin.Slice.sliceApplied Builtin.Slice.sliceFields
  refine wpAny_bind (wpAny_bind (wpAny_field hos hds (x := vl) rfl (wpAny_bind (wpAny_field hos hds (x := vu) rfl (wpAny_bind (wpAny_field hos hds (x := vs) rfl (wpAny_pure ?_)))))))
  refine wpAny_bind (HT.slicePart_ ps ?_)
  show wpAny _ _ (if ((-1 : Int) == 0) = true then _ else _) _ _ s
  rw [if_neg (by decide)]
  refine wpAny_bind (HT.slicePart_ pl (wpAny_bind (HT.slicePart_ pu (wpAny_bind (wpAny_pure ?_)))))
  show wpAny _ _ (pure ((n : Int) - 1, (-1 : Int), Builtin.Slice.slicePlaces ((n : Int) - 1) (-1) (-1))) _ _ s
  have e : Builtin.Slice.slicePlaces ((n : Int) - 1) (-1) (-1) = n := by
    unfold Builtin.Slice.slicePlaces
    rw [if_neg (by decide), show (- (-1) : Int) = 1 from rfl, Int.ediv_one]
    split <;> omega
  rw [e]
  exact wpAny_pure h
theorem fmap_congr {α β : Type} {f g : α → Option β} : ∀ l : List α, (∀ x ∈ l, f x = g x) → l.filterMap f = l.filterMap g
  | [], _ => rfl
  | x :: l, h => by rw [List.filterMap_cons, List.filterMap_cons, h x List.mem_cons_self, fmap_congr l fun y hy => h y (List.mem_cons_of_mem _ hy)]
theorem pick_rev (xs : Array Value) : ((List.range xs.size).filterMap fun (m : Nat) => xs[(((xs.size : Int) - 1) + (m : Int) * (-1)).toNat]?).toArray = xs.toList.reverse.toArray := by
  congr 1
  have e : ∀ m ∈ List.range xs.size, xs[(((xs.size : Int) - 1) + (m : Int) * (-1)).toNat]? = xs.toList.reverse[m]? := fun m hm => by
    have hm' := List.mem_range.mp hm
    rw [show (((xs.size : Int) - 1) + (m : Int) * (-1)).toNat = xs.size - 1 - m by omega, List.getElem?_reverse (by simpa using hm')]
    simp
  rw [fmap_congr _ e]
  have : ∀ (l : List Value), (List.range l.length).filterMap (fun m => l[m]?) = l := by
    intro l
    induction l with
    | nil => rfl
    | cons x l ih =>
      rw [List.length_cons, List.range_succ_eq_map, List.filterMap_cons]
      simp only [List.getElem?_cons_zero, List.filterMap_map, Function.comp_def, List.getElem?_cons_succ]
      rw [ih]
  have h2 := this xs.toList.reverse
  rw [List.length_reverse, Array.length_toList] at h2
  exact h2
theorem getItem_tuple_rev {t sl : Addr} {items : Array Value} {vl vu vs : Value} {Q : Value → Shared → Prop} (ht : IsTup s.heap t items) (hs : s.heap.IsSliceOf sl vl vu vs) (pl : IsPart vl none) (pu : IsPart vu none) (ps : IsPart vs (some (-1)))
    (h : Q (.ref s.heap.objs.size) { s with heap := s.heap.push { cls := .type "tuple", data := .seq items.toList.reverse.toArray } })
    (hsz : items.size ≤ sizeLine) : wpAny (model prog w) A (getItem (.ref t) (.ref sl)) Q E s := by
  have htake : sizeOk (.seq items.toList.reverse.toArray) := by
    show items.toList.reverse.toArray.size ≤ sizeLine
    rw [List.size_toArray, List.length_reverse, Array.length_toList]
    exact hsz
  obtain ⟨os, hos, hcs, hds⟩ := id hs
  have hTs : s.TypeIs (.ref sl) "slice" := ⟨os, hos, hcs⟩
  unfold getItem
  try with_reducible refine wpAny_holding ?_
  first | refine wpAny_bind (wpAny_pure ?_) | skip
  refine wpAny_bind (wpAny_sequenceKey ht.typeIs (by decide) ?_)
  refine wpAny_bind (wpAny_callSpecial?_slot (name := Str.ofString "__getitem__") ht.typeIs PyProof.Rows.slot_tuple_getitem
    (wpAny_call_entry PyProof.Rows.slot_tuple_getitem ht.typeIs PyProof.Rows.entry_tuple_getitem ?_ (PyProof.Rows.args_tuple_getitem _ _)))
  show wpAny _ _ (Builtin.Tuple.tupleItemsOf (.ref t) >>= _) _ _ s
  refine wpAny_bind (tupleItemsOf_ ht ?_)
  refine wpAny_bind (wpAny_typeOf hTs ?_)
  rw [if_pos (by decide)]
  refine wpAny_bind (sliceApplied_rev hs pl pu ps ?_)
  have hno : ¬ ((((items.size : Int) - 1) == 0 && (-1 : Int) == 1 && items.size == items.size) = true) := by simp
  show wpAny _ _ (if (((items.size : Int) - 1) == 0 && (-1 : Int) == 1 && items.size == items.size) = true then _ else _) _ _ s
  rw [if_neg hno, pick_rev]
  first
    | exact wpAny_bind (m := Builtin.Tuple.tupleExact _) (wpAny_newObj_type (wpAny_pure ⟨_, rfl, wpAny_pure h⟩) htake)
    | exact wpAny_bind (m := Builtin.Tuple.tupleExact _) (wpAny_newObj_type (wpAny_bind (wpAny_pure (wpAny_pure ⟨_, rfl, wpAny_pure h⟩))) htake)
    | exact wpAny_bind (wpAny_bind (m := Builtin.Tuple.tupleExact _) (wpAny_newObj_type (wpAny_pure (wpAny_pure ⟨_, rfl, wpAny_pure h⟩)) htake))
    | exact wpAny_bind (wpAny_bind (m := Builtin.Tuple.tupleExact _) (wpAny_newObj_type (wpAny_pure ⟨_, rfl, wpAny_pure h⟩) htake))
end
open L2
section
variable {X : Cx}
def tRevT (K : PySem.W.Frag) (te : TE) : TE := fun σ H Q => te σ H fun x H1 => ∃ a xs, x = .ref a ∧ ((SqL K H1 a xs ∧ ∀ p, H1 p = none → Q (.ref p) (upd H1 p (.lst xs.reverse))) ∨ (SqT K H1 a xs ∧ ∀ p, H1 p = none → Q (.ref p) (upd H1 p (.tup xs.reverse))))
theorem pe_revT {e : Expr} {te : TE} {k : Nat} {p1 p2 p3 pos : Pos} (he : PE X e te) : PE X (.Subscript e (.Slice none none (some (.UnaryOp .USub (.Constant (.int 1) k p1) p2)) p3) pos) (tRevT X.K te) := by
  refine ⟨fun pins s σ H Q I h => ?_⟩
  refine Subscript_ (thn (he.run pins s σ H _ I h) fun v s1 ⟨x, H1, I1, r1, q1⟩ => ?_)
  obtain ⟨a, xs, ex, hq⟩ := q1
  subst ex
  cases r1
  have hst : PO X (some (.UnaryOp .USub (.Constant (.int 1) k p1) p2)) (tPart (tUn (rU fun i => .int (-i)) (tC (.int 1)))) := po_some (pe_un un_neg pe_int)
  refine wpAny_Slice (thn (po_none.run pins s1 σ H1 (fun o H2 => o = none ∧ H2 = H1) I1 ⟨rfl, rfl⟩) fun vl s2 ⟨l, H2, I2, pl, el, e2⟩ => ?_)
  subst el e2
  refine thn (po_none.run pins s2 σ H2 (fun o H3 => o = none ∧ H3 = H2) I2 ⟨rfl, rfl⟩) fun vu s3 ⟨u, H3, I3, pu, eu, e3⟩ => ?_
  subst eu e3
  refine thn (hst.run pins s3 σ H3 (fun o H4 => o = some (-1) ∧ H4 = H3) I3 ⟨1, rfl, -1, rfl, rfl, rfl⟩) fun vs s4 ⟨o, H4, I4, ps, eo, e4⟩ => ?_
  subst eo e4
  have I5 : Inv X pins σ H4 { s4 with heap := s4.heap.push { cls := .type "slice", data := .fields #[vl, vu, vs] } } := I4.kept (t' := s4.toks) fun b ob q => Heap.get?_push_of_some _ q
  show wpAny (model X.prog X.w) X.A (subscriptTail e (.Slice none none (some (.UnaryOp .USub (.Constant (.int 1) k p1) p2)) p3) (.ref a) (.ref s4.heap.objs.size)) (EP X pins σ Q) X.xe { s4 with heap := s4.heap.push { cls := .type "slice", data := .fields #[vl, vu, vs] } }
  rcases hq with ⟨hx, q⟩ | ⟨hx, q⟩
  · obtain ⟨its, r, ht, hz⟩ := I5.list hx
    have hlen := r.length
    refine tail_any (ops := [.ref a, .ref s4.heap.objs.size]) ht.isList.typeIs (PySem.slot_list_getitem.lookup) ?_ (by with_unfolding_all rfl)
    refine wpAny_getItem_list_slice ht.isList (Heap.IsSliceOf.new _ vl vu vs) pl pu ps (by decide) ?_ (by rw [List.size_toArray]; omega)
    rw [PySem.W.krv_pick]
    refine ⟨.ref _, _, I5.laid (t' := s4.toks) (o := .lst xs.reverse) (fun b ob q => Heap.get?_push_of_some _ q) (Nat.le_refl _) ?_, rfl, q _ (I5.hok.fresh (Nat.le_refl _))⟩
    exact ⟨by rw [List.length_reverse]; exact hz, _, 0, r.reverse, Heap.get?_push_size _ rfl⟩
  · obtain ⟨its, r, ht, hz⟩ := I5.tuple hx
    have hlen := r.length
    refine tail_any (ops := [.ref a, .ref s4.heap.objs.size]) ht.typeIs (PyProof.Rows.slot_tuple_getitem.lookup) ?_ (by with_unfolding_all rfl)
    refine getItem_tuple_rev ht (Heap.IsSliceOf.new _ vl vu vs) pl pu ps ?_ (by rw [List.size_toArray]; omega)
    refine ⟨.ref _, _, I5.laid (t' := s4.toks) (o := .tup xs.reverse) (fun b ob q => Heap.get?_push_of_some _ q) (Nat.le_refl _) ?_, rfl, q _ (I5.hok.fresh (Nat.le_refl _))⟩
    exact ⟨by rw [List.length_reverse]; exact hz, _, r.reverse, IsTup.new _ _⟩
end
def revD : D → Option D
  | .list xs => some (.list xs.reverse)
  | .tuple xs => some (.tuple xs.reverse)
  | _ => none
/-- str of an int -/
def strD : D → Option D
  | .int i => if i.natAbs < 10 ^ 60 then some (.str (Str.ofString (toString i))) else none
  | .str x => some (.str x)
  | _ => none
theorem log60 {i : Int} (h : i.natAbs < 10 ^ 60) : i.natAbs.log2 < 1920 := by
  by_cases h0 : i.natAbs = 0
  · rw [h0]; decide
  · exact Nat.lt_of_lt_of_le ((Nat.log2_lt h0).mpr (Nat.lt_of_lt_of_le h (show 10 ^ 60 ≤ 2 ^ 200 by decide))) (by decide)
section
variable {m : Type → Type} [Mo m] {X : Cx} {EX : XK} {g : List Sl} {K : PySem.W.Frag}
theorem ej_rev {e : Expr} {k : Nat} {p1 p2 p3 pos : Pos} {x : m D} (h : EJ X EX e g x) : EJ X EX (.Subscript e (.Slice none none (some (.UnaryOp .USub (.Constant (.int 1) k p1) p2)) p3) pos) g (x >>= fun d => Mo.lift (revD d)) :=
  (pe_revT h).weak fun σ H Q ⟨B, G, n, φ, ξ, o, s, q, xw⟩ => te_one o s (fun v H1 G1 d n1 o1 g1 d1 s1 => by
    obtain ⟨z, ez, pz⟩ := Mo.sat_lift s1
    unfold revD at ez
    split at ez
    · cases ez
      obtain ⟨a, xs, rfl, ha, da⟩ := d1.toL
      refine ⟨a, xs, rfl, .inl ⟨.of (o1.fm.sub _ _ ha), fun p hp => ?_⟩⟩
      obtain ⟨o2, g2⟩ := o1.alloc (u := .lst xs.reverse) hp
      exact q _ _ _ _ n1 o2 (g1.trans g2) (.lst upd_same (da.reverse.mono g2)) pz
    · cases ez
      obtain ⟨a, xs, rfl, ha, da⟩ := d1.toT
      refine ⟨a, xs, rfl, .inr ⟨sameT o1.fm.sub ha, fun p hp => ?_⟩⟩
      obtain ⟨o2, g2⟩ := o1.alloc (u := .tup xs.reverse) hp
      exact q _ _ _ _ n1 o2 (g1.trans g2) (.tup (.inl (.inl upd_same)) (da.reverse.mono g2)) pz
    · cases ez) xw
theorem rc_str : RC1 K (callOr (fun xs H Q => ∃ i : Int, xs = [V.int i] ∧ i.natAbs.log2 < 1920 ∧ Q (.str (toString i)) H) (fun xs H Q => ∃ a, xs = [V.str a] ∧ Q (.str a) H)) strD := by
  intro x dx z H G Q hx hs e q
  unfold strD at e
  split at e
  · split at e
    · rename_i hi
      cases e
      cases hx
      exact .inl ⟨_, rfl, log60 hi, q _ H G (Gr.refl hs) (.str _)⟩
    · cases e
  · cases e
    cases hx
    exact .inr ⟨_, rfl, q _ H G (Gr.refl hs) (.str _)⟩
  · cases e
theorem call_strD : CallR X (.type "str") (callOr (fun xs H Q => ∃ i : Int, xs = [V.int i] ∧ i.natAbs.log2 < 1920 ∧ Q (.str (toString i)) H) (fun xs H Q => ∃ a, xs = [V.str a] ∧ Q (.str a) H)) := call_or call_str_int SkE.call_str_str
/-- xs + ys of lists: a new list -/
def catO : D → D → Option (List D)
  | .list a, .list b => if a.length + b.length ≤ 1000000 then some (a ++ b) else none
  | _, _ => none
theorem lj_cat {a b : Expr} {pos : Pos} {x y : m D} (ha : EJ X EX a g x) (hb : EJ X EX b g y) : LJ X EX (.BinOp a .Add b pos) g (x >>= fun d => y >>= fun e => Mo.lift (catO d e)) :=
  (pe_op op_cat ha hb).weak fun σ H Q ⟨B, G, n, φ, ξ, o, s, q, xw⟩ => te_one o s (fun v H1 G1 d n1 o1 g1 d1 s1 => te_one o1 s1 (fun w H2 G2 e n2 o2 g2 d2 s2 => by
    obtain ⟨out, eo, po⟩ := Mo.sat_lift s2
    unfold catO at eo
    split at eo
    · rename_i as bs
      split at eo
      · rename_i hl
        cases eo
        obtain ⟨a, xs, rfl, ha', da⟩ := (d1.mono g2).toL
        obtain ⟨b, ys, rfl, hb', db⟩ := d2.toL
        refine ⟨a, b, xs, ys, rfl, rfl, o2.fm.sub _ _ ha', o2.fm.sub _ _ hb', ?_, fun p hp => ?_⟩
        · rw [da.length, db.length]; exact le_line hl
        · obtain ⟨f1, f2⟩ := o2.fresh hp
          exact q p _ _ G2 _ n2 (o2.raw hp) (g1.trans g2) f1 (o2.free hp) upd_same f2 (da.append db) po
      · cases eo
    · cases eo) xw) xw
end
section
variable {m : Type → Type} [Mo m] {X : Cx} {EX : XK} {g : List Sl}
/-- three names at once, the first a list of its own -/
theorem sj_par3O (i j l : Nat) {y z u : Str} {a b c : Expr} {px py pz pt pos : Pos} {kt k2 pt2} {x1 : m (List D)} {x2 x3 : m D} (hN : X.N.Nodup) (ha : LJ X EX a g x1) (hb : EJ X EX b g x2) (hcc : EJ X EX c g x3) (hij : i ≠ j := by decide) (hil : i ≠ l := by decide) (hjl : j ≠ l := by decide) (hi : X.N[i]? = some y := by rfl) (hj : X.N[j]? = some z := by rfl) (hl : X.N[l]? = some u := by rfl) (hc : X.calm = true := by rfl)
    (hx : X.env.scope.names.lookup y = some .local := by rfl) (hy : X.env.scope.names.lookup z = some .local := by rfl) (hz : X.env.scope.names.lookup u = some .local := by rfl)
    (hw : swappedStores [.Tuple [.Name y px, .Name z py, .Name u pz] kt pt] (.Tuple [a, b, c] k2 pt2) X.env = pure (some [y, z, u]) := by kernel_rfl) (hs : swapsWithSole [.Tuple [.Name y px, .Name z py, .Name u pz] kt pt] (.Tuple [a, b, c] k2 pt2) pos.line X.env = pure false := by kernel_rfl)
    (hs1 : starEach [a, b, c] X.env = (false, eval a X.env) :: starEach [b, c] X.env := by rfl) (hs2 : starEach [b, c] X.env = (false, eval b X.env) :: starEach [c] X.env := by rfl) (hs3 : starEach [c] X.env = (false, eval c X.env) :: starEach [] X.env := by rfl) :
    SJ X EX (.Assign [.Tuple [.Name y px, .Name z py, .Name u pz] kt pt] (.Tuple [a, b, c] k2 pt2) pos) g (x1 >>= fun d => x2 >>= fun e => x3 >>= fun f => pure (d, e, f)) (fun de => ((g.set i (.own de.1)).set j (.val de.2.1)).set l (.val de.2.2)) :=
  (ps_par3 hc hN hi hj hl hij hil hjl hx hy hz (pa_cons ha (pa_cons hb (pa_cons hcc pa_nil hs3) hs2) hs1) hw hs).weak fun De σ H ⟨B, G, n, φ, ξ, o, s, q, xw⟩ => ⟨B, G, n, _, ξ, o, Mo.sat_bind s, fun p1 xs1 H1 G1 ds n1 o1 g1 hb1 hg1 hh1 hf1 da1 s1 => by
    have hbg : B.G p1 = none := by
      cases e : B.G p1 with
      | none => rfl
      | some z => rw [o1.fm.old _ _ e] at hg1; cases hg1
    have sd : Side B g σ G1 p1 := ⟨hb1, hbg, hg1, hf1⟩
    have xw' : Xw X (B.pin p1 (.lst xs1)) EX ξ := fun e n' H' G' c od hx fm ex => xw e n' H' G' c od hx (fm.unpin o1.fm hb1) ex
    refine te_one (o1.pin sd hh1) s1 (fun w H2 G2 e n2 o2 g2 d2 s2 => te_one o2 s2 (fun w3 H3 G3 f n3 o3 g3 d3 s3 => ?_) xw') xw'
    have h1 : H3 p1 = some (.lst xs1) := o3.fm.keep p1 _ upd_same (o1.fm.side hb1)
    have h2 : G3 p1 = none := o3.fm.new p1 (by show upd B.H p1 _ p1 ≠ none; rw [upd_same]; simp) hbg
    have o4 := (o3.unpin o1.fm hb1).setO (i := i) hb1 h2 h1 hf1 (da1.mono (g2.trans g3))
    exact ⟨.ref p1, w, w3, rfl, q (ds, e, f) _ H3 G3 n3 ((o4.setV (d2.mono g3)).setV d3) (g1.trans (g2.trans g3)) (Mo.sat_pure s3)⟩, xw⟩
abbrev par3LM (x : m (List D)) (y z : m D) : m (List D × D × D) := x >>= fun d => y >>= fun e => z >>= fun f => pure (d, e, f)
/-- x[k1], x[k2] = (e1, e2), x a list of one's own -/
theorem sj_put2 (i : Nat) {ds : List D} {y : Str} {py py2 p2 p3 pt pt2 pos : Pos} {kt ke : Nat} {k1 k2 e1 e2 : Expr} {x1 x2 z1 : m D} {z2 : List D → m D} (h1 : EJ X EX e1 g x1) (h2 : EJ X EX e2 g x2) (hk1 : EJ X EX k1 g z1) (hk2 : ∀ es, EJ X EX k2 (g.set i (.own es)) (z2 es)) (hg : g[i]? = some (Sl.own ds) := by rfl) (hN : X.N[i]? = some y := by rfl) (hv : Vis X.env.scope y := by first | exact Or.inl rfl | exact Or.inr (Or.inl rfl) | exact Or.inr (Or.inr rfl))
    (hd : (y == ("__debug__" : Str)) = false := by decide) (hcd : (y == ("__classdict__" : Str)) = false := by decide)
    (ha1 : ∀ v, assign (.Subscript (.Name y py) k1 p2) X.env v = (do
      let ov ← holding [v] (eval (.Name y py) X.env)
      let iv ← holding [v, ov] (eval k1 X.env)
      standAt p2
      holding [v, ov, iv] (setItem ov iv v)
      release [v, ov, iv] []) := by intro _; rfl)
    (ha2 : ∀ v, assign (.Subscript (.Name y py2) k2 p3) X.env v = (do
      let ov ← holding [v] (eval (.Name y py2) X.env)
      let iv ← holding [v, ov] (eval k2 X.env)
      standAt p3
      holding [v, ov, iv] (setItem ov iv v)
      release [v, ov, iv] []) := by intro _; rfl)
    (hs : swapsWithSole [.Tuple [.Subscript (.Name y py) k1 p2, .Subscript (.Name y py2) k2 p3] kt pt] (.Tuple [e1, e2] ke pt2) pos.line X.env = pure false := by kernel_rfl) (hw : swappedStores [.Tuple [.Subscript (.Name y py) k1 p2, .Subscript (.Name y py2) k2 p3] kt pt] (.Tuple [e1, e2] ke pt2) X.env = pure none := by kernel_rfl)
    (ho : (assignEach [.Tuple [.Subscript (.Name y py) k1 p2, .Subscript (.Name y py2) k2 p3] kt pt] X.env).map (·.2) = [assign (.Tuple [.Subscript (.Name y py) k1 p2, .Subscript (.Name y py2) k2 p3] kt pt) X.env] := by rfl)
    (hs1 : starEach [e1, e2] X.env = (false, eval e1 X.env) :: starEach [e2] X.env := by rfl) (hs2 : starEach [e2] X.env = (false, eval e2 X.env) :: starEach [] X.env := by rfl) (hcm : X.calm = true := by rfl) :
    SJ X EX (.Assign [.Tuple [.Subscript (.Name y py) k1 p2, .Subscript (.Name y py2) k2 p3] kt pt] (.Tuple [e1, e2] ke pt2) pos) g (x1 >>= fun a => x2 >>= fun b => z1 >>= fun j1 => Mo.lift (putD ds j1 a) >>= fun es => z2 es >>= fun j2 => Mo.lift (putD es j2 b)) (fun fs => g.set i (.own fs)) :=
  (ps_asg (pe_tup (pa_cons h1 (pa_cons h2 pa_nil hs2) hs1)) (pg_tup hcm (pgs_cons (pg_sub (pe_var hN hv hd hcd) hk1 set_list ha1) (pgs_cons (pg_sub (pe_var hN hv hd hcd) (pe_u hk2) set_list ha2) pgs_nil))) hs hw ho).weak fun De σ H ⟨B, G, n, φ, ξ, o, s, q, xw⟩ => te_one o s (fun v H1 G1 d n1 o1 g1 d1 s1 => te_one o1 s1 (fun w H2 G2 e n2 o2 g2 d2 s2 => by
    refine ⟨(by show 2 ≤ sizeLine; decide), fun t ht => ⟨t, _, rfl, .inl (.inl upd_same), rfl, ?_⟩⟩
    have o3 := o2.raw ht (u := .tup [v, w])
    obtain ⟨a, xs, f1, f2, f3⟩ := own_at o3 hg
    refine ⟨_, _, rfl, .ref a, f1, te_one o3 s2 (fun w1 H4 G4 j1 n4 o4 g4 d4 s4 => ?_) xw⟩
    obtain ⟨es, ee, pe⟩ := Mo.sat_lift (Mo.sat_bind s4)
    obtain ⟨a', xs', f1', f2', f3'⟩ := own_at o4 hg
    rw [f1] at f1'
    cases f1'
    unfold putD at ee
    cases j1 with
    | int j1 =>
      obtain ⟨t1, et1, rfl⟩ := Option.map_eq_some_iff.mp ee
      cases d4
      have o5 := o4.write hg f1 (f3'.set ((d1.mono g2).mono g4) t1)
      refine ⟨a, xs', j1, t1, rfl, rfl, f2', by rw [f3'.length]; exact et1, ?_⟩
      have hil : i < g.length := by
        rcases Nat.lt_or_ge i g.length with h | h
        · exact h
        · rw [List.getElem?_eq_none h] at hg; cases hg
      have hg' : (g.set i (Sl.own (ds.set t1 d)))[i]? = some (Sl.own (ds.set t1 d)) := List.getElem?_set_self hil
      refine ⟨_, _, rfl, .ref a, f1, _, te_one o5 pe (fun w5 H6 G6 j2 n6 o6 g6 d6 s6 => ?_) xw⟩
      obtain ⟨fs, ef, pf⟩ := Mo.sat_lift s6
      obtain ⟨a', ys, h1', h2', h3'⟩ := own_at o6 hg'
      rw [f1] at h1'
      cases h1'
      unfold putD at ef
      cases j2 with
      | int j2 =>
        obtain ⟨t2, et2, rfl⟩ := Option.map_eq_some_iff.mp ef
        cases d6
        have o7 := o6.write hg' f1 (h3'.set ((d2.mono g4).mono g6) t2)
        rw [List.set_set] at o7
        exact ⟨a, ys, j2, t2, rfl, rfl, h2', by rw [h3'.length]; exact et2, rfl, q _ _ _ G6 n6 o7 ((g1.trans g2).trans (g4.trans g6)) pf⟩
      | _ => cases ef
    | _ => cases ee) xw) xw
abbrev put2M (ds : List D) (x1 x2 z1 : m D) (z2 : List D → m D) : m (List D) := x1 >>= fun a => x2 >>= fun b => z1 >>= fun j1 => Mo.lift (putD ds j1 a) >>= fun es => z2 es >>= fun j2 => Mo.lift (putD es j2 b)
abbrev catM (x y : m D) : m (List D) := x >>= fun d => y >>= fun e => Mo.lift (catO d e)
end
/-! ### sep.join(texts) -/
def strOnly : D → Option Str
  | .str x => some x
  | _ => none
def joinD (a : Str) (d : D) : Option D := (itemsD d).bind fun xs => (strsOf xs).bind fun ss => if (ss.map (·.length)).sum + ss.length * a.length ≤ 1000000 then some (.str (Str.join a ss)) else none
section
variable {m : Type → Type} [Mo m] {X : Cx} {EX : XK} {g : List Sl}
abbrev joinM (x y : m D) : m D := x >>= fun a => Mo.lift (strOnly a) >>= fun s => y >>= fun d => Mo.lift (joinD s d)
theorem ej_join {o e : Expr} {apos pos : Pos} {x y : m D} (ho : EJ X EX o g x) (he : EJ X EX e g y) (hs : starEach [e] X.env = [(false, eval e X.env)] := by rfl) (hbase : attributeBase o "join" X.env (eval o X.env) = eval o X.env := by rfl) (hline : (apos.endLine == pos.line) = true := by rfl) :
    EJ X EX (.Call (.Attribute o "join" apos) [e] [] pos) g (joinM x y) :=
  (pe_join ho he hs hbase hline).weak fun σ H Q ⟨B, G, n, φ, ξ, o, s, q, xw⟩ => te_one o s (fun v H1 G1 a n1 o1 g1 d1 s1 => by
    obtain ⟨st, es, ps⟩ := Mo.sat_lift (Mo.sat_bind s1)
    cases a with
    | str x0 =>
      obtain rfl : x0 = st := Option.some.inj es
      obtain rfl := d1.toS
      refine ⟨⟨_, rfl⟩, te_one o1 ps (fun w H2 G2 d n2 o2 g2 d2 s2 => ?_) xw⟩
      obtain ⟨z, ez, pz⟩ := Mo.sat_lift s2
      obtain ⟨xs, e1, e2⟩ := Option.bind_eq_some_iff.mp ez
      obtain ⟨ss, e3, e4⟩ := Option.bind_eq_some_iff.mp e2
      split at e4
      · rename_i hl
        cases e4
        obtain ⟨p, vs, ev, sq, da⟩ := d2.seq e1
        obtain rfl := strs_da da e3
        refine ⟨x0, p, ss, rfl, by rw [ev], ?_, by omega, ?_⟩
        · rcases sq with sq | sq
          · exact .inr (sameT o2.fm.sub sq)
          · exact .inl (o2.fm.sub.seq sq)
        · rw [TL.join_eq]
          exact q _ H2 G2 _ n2 o2 (g1.trans g2) (.str _) pz
      · cases e4
    | _ => cases es) xw
end
/-! ### repr of any data: n nodes, depth k; dicts of constants -/
mutual
def repB : D → Bool
  | .none => true
  | .bool _ => true
  | .int i => decide (i.natAbs < 10 ^ 60)
  | .str x => decide ((PyData.str x).shown.length ≤ 250)
  | .list xs => repAll xs
  | .tuple xs => repAll xs
  | .dict kvs => decide ((PyData.dict kvs).shown.length ≤ 90) && (PyData.dict kvs).showable && decide ((PyData.dict kvs).depth ≤ 1)
def repAll : List D → Bool
  | [] => true
  | x :: xs => repB x && repAll xs
end
theorem int_len60 {i : Int} (h : i.natAbs < 10 ^ 60) : (Str.ofString (toString i)).length ≤ 61 := by
  rw [PySem.ofString_length, Int.toString_eq_repr, Int.repr_eq_if]
  split
  · exact Nat.le_trans ((Nat.length_repr_le_iff (k := 60) (by decide)).mpr (by omega)) (by decide)
  · rw [String.length_append]
    have := (Nat.length_repr_le_iff (n := (-i).toNat) (k := 60) (by decide)).mpr (by omega)
    have e : ("-" : String).length = 1 := by decide
    omega
mutual
theorem rep_len : ∀ d : D, repB d = true → d.shown.length + 2 ≤ 300 * nodes d ∧ d.showable = true
  | .none, _ => ⟨by decide, rfl⟩
  | .bool b, _ => ⟨by cases b <;> decide, rfl⟩
  | .int i, h => by
    have h' : i.natAbs < 10 ^ 60 := of_decide_eq_true h
    refine ⟨?_, decide_eq_true (log60 h')⟩
    have := int_len60 h'
    show (Str.ofString (toString i)).length + 2 ≤ 300 * 1
    omega
  | .str x, h => by
    have h' : (PyData.str x).shown.length ≤ 250 := of_decide_eq_true h
    refine ⟨?_, rfl⟩
    show (PyData.str x).shown.length + 2 ≤ 300 * 1
    omega
  | .list xs, h => by
    obtain ⟨h1, h2⟩ := repAll_len xs h
    refine ⟨?_, h2⟩
    show (listText (PyData.shownAll xs)).length + 2 ≤ 300 * (nodesAll xs + 1)
    have := list_len (PyData.shownAll xs)
    omega
  | .tuple xs, h => by
    obtain ⟨h1, h2⟩ := repAll_len xs h
    refine ⟨?_, h2⟩
    show (tupleText (PyData.shownAll xs)).length + 2 ≤ 300 * (nodesAll xs + 1)
    have := tup_len (PyData.shownAll xs)
    omega
  | .dict kvs, h => by
    have h' : ((PyData.dict kvs).shown.length ≤ 90 ∧ (PyData.dict kvs).showable = true) ∧ (PyData.dict kvs).depth ≤ 1 := by
      have : (decide ((PyData.dict kvs).shown.length ≤ 90) && (PyData.dict kvs).showable && decide ((PyData.dict kvs).depth ≤ 1)) = true := h
      simpa using this
    refine ⟨?_, h'.1.2⟩
    show (PyData.dict kvs).shown.length + 2 ≤ 300 * 1
    omega
theorem repAll_len : ∀ xs : List D, repAll xs = true → piled (PyData.shownAll xs) ≤ 300 * nodesAll xs ∧ PyData.showableAll xs = true
  | [], _ => ⟨by simp [PyData.shownAll, piled], rfl⟩
  | x :: xs, h => by
    have h' : repB x = true ∧ repAll xs = true := by
      have : (repB x && repAll xs) = true := h
      simpa using this
    obtain ⟨a1, a2⟩ := rep_len x h'.1
    obtain ⟨b1, b2⟩ := repAll_len xs h'.2
    refine ⟨?_, ?_⟩
    · show piled (x.shown :: PyData.shownAll xs) ≤ 300 * (nodes x + nodesAll xs)
      rw [piled_cons]
      omega
    · show (x.showable && PyData.showableAll xs) = true
      rw [a2, b2]
      rfl
end
/-- what repr can show: n nodes, depth k -/
structure Rp (n k : Nat) (d : D) : Prop where
  b : repB d = true
  n : nodes d ≤ n
  k : d.depth ≤ k
structure RpA (n k : Nat) (ds : List D) : Prop where
  b : repAll ds = true
  n : nodesAll ds ≤ n
  k : PyData.depthAll ds ≤ k
theorem Rp.repr {n k : Nat} {d : D} (h : Rp n k d) (hn : n ≤ 3300) (hk : k ≤ 50) : reprD d = some (.str d.shown) := by
  obtain ⟨a, b⟩ := rep_len d h.b
  have := h.n
  have := h.k
  unfold reprD
  rw [if_pos ⟨b, by omega, by omega⟩]
theorem Rp.le {n k n' k' : Nat} {d : D} (h : Rp n k d) (hn : n ≤ n') (hk : k ≤ k') : Rp n' k' d := ⟨h.b, Nat.le_trans h.n hn, Nat.le_trans h.k hk⟩
theorem Rp.int {i : Int} (h : i.natAbs < 10 ^ 60) : Rp 1 0 (.int i) := ⟨decide_eq_true h, Nat.le_refl _, by simp [PyData.depth]⟩
theorem Rp.none : Rp 1 0 .none := ⟨rfl, Nat.le_refl _, by simp [PyData.depth]⟩
theorem Rp.bool (b : Bool) : Rp 1 0 (.bool b) := ⟨rfl, Nat.le_refl _, by simp [PyData.depth]⟩
theorem Rp.str {x : Str} (h : (PyData.str x).shown.length ≤ 250) : Rp 1 0 (.str x) := ⟨decide_eq_true h, Nat.le_refl _, by simp [PyData.depth]⟩
theorem RpA.nil : RpA 0 0 [] := ⟨rfl, Nat.le_refl _, by simp [PyData.depthAll]⟩
theorem RpA.cons {n k n' k' : Nat} {d : D} {ds : List D} (h : Rp n k d) (t : RpA n' k' ds) : RpA (n + n') (max k k') (d :: ds) :=
  ⟨by show (repB d && repAll ds) = true; rw [h.b, t.b]; rfl, by show nodes d + nodesAll ds ≤ _; have := h.n; have := t.n; omega, by have := h.k; have := t.k; simp only [PyData.depthAll]; omega⟩
theorem RpA.map {γ : Type} {n k : Nat} {F : γ → D} : ∀ xs : List γ, (∀ x ∈ xs, Rp n k (F x)) → RpA (xs.length * n) k (xs.map F)
  | [], _ => ⟨rfl, by simp [nodesAll], by simp [PyData.depthAll]⟩
  | x :: xs, h => by
    have := RpA.cons (h x List.mem_cons_self) (RpA.map xs fun y hy => h y (List.mem_cons_of_mem _ hy))
    exact ⟨this.b, by have := this.n; rw [List.length_cons, Nat.succ_mul]; simp only [List.map_cons]; omega, by have := this.k; simp only [List.map_cons]; omega⟩
theorem RpA.le {n k n' k' : Nat} {ds : List D} (h : RpA n k ds) (hn : n ≤ n') (hk : k ≤ k') : RpA n' k' ds := ⟨h.b, Nat.le_trans h.n hn, Nat.le_trans h.k hk⟩
theorem RpA.tup {n k : Nat} {ds : List D} (h : RpA n k ds) : Rp (n + 1) (k + 1) (.tuple ds) := ⟨h.b, by show nodesAll ds + 1 ≤ _; have := h.n; omega, by show PyData.depthAll ds + 1 ≤ _; have := h.k; omega⟩
theorem RpA.lst {n k : Nat} {ds : List D} (h : RpA n k ds) : Rp (n + 1) (k + 1) (.list ds) := ⟨h.b, by show nodesAll ds + 1 ≤ _; have := h.n; omega, by show PyData.depthAll ds + 1 ≤ _; have := h.k; omega⟩
theorem Rp.all {n k : Nat} {d : D} {ds : List D} (h : Rp n k d) (e : d = .tuple ds ∨ d = .list ds) : RpA (n - 1) (k - 1) ds := by
  rcases e with rfl | rfl
  · exact ⟨h.b, by have : nodesAll ds + 1 ≤ n := h.n; omega, by have : PyData.depthAll ds + 1 ≤ k := h.k; omega⟩
  · exact ⟨h.b, by have : nodesAll ds + 1 ≤ n := h.n; omega, by have : PyData.depthAll ds + 1 ≤ k := h.k; omega⟩
theorem RpA.mem {n k : Nat} : ∀ {ds : List D}, RpA n k ds → ∀ d ∈ ds, Rp n k d
  | x :: xs, h, d, hd => by
    have hb : repB x = true ∧ repAll xs = true := by
      have : (repB x && repAll xs) = true := h.b
      simpa using this
    have hn : nodes x + nodesAll xs ≤ n := h.n
    have hk : max x.depth (PyData.depthAll xs) ≤ k := by have := h.k; simpa only [PyData.depthAll] using this
    rcases List.mem_cons.mp hd with rfl | hd
    · exact ⟨hb.1, by omega, by omega⟩
    · exact RpA.mem (ds := xs) ⟨hb.2, by omega, by omega⟩ d hd
theorem nodes_pos (d : D) : 1 ≤ nodes d := by cases d <;> simp [nodes]
theorem RpA.len {n k : Nat} : ∀ {ds : List D}, RpA n k ds → ds.length ≤ n
  | [], _ => Nat.zero_le _
  | x :: xs, h => by
    have hn : nodes x + nodesAll xs ≤ n := h.n
    have hb : repB x = true ∧ repAll xs = true := by
      have : (repB x && repAll xs) = true := h.b
      simpa using this
    have hk : max x.depth (PyData.depthAll xs) ≤ k := by have := h.k; simpa only [PyData.depthAll] using this
    have := RpA.len (n := n - 1) (k := k) (ds := xs) ⟨hb.2, by have := nodes_pos x; omega, by omega⟩
    have := nodes_pos x
    simp only [List.length_cons]
    omega
theorem repAll_append : ∀ (a b : List D), repAll (a ++ b) = (repAll a && repAll b)
  | [], b => rfl
  | x :: a, b => by show (repB x && repAll (a ++ b)) = _; rw [repAll_append a b, ← Bool.and_assoc]; rfl
theorem nodesAll_append : ∀ (a b : List D), nodesAll (a ++ b) = nodesAll a + nodesAll b
  | [], b => by simp [nodesAll]
  | x :: a, b => by show nodes x + nodesAll (a ++ b) = nodes x + nodesAll a + nodesAll b; rw [nodesAll_append a b]; omega
theorem depthAll_append : ∀ (a b : List D), PyData.depthAll (a ++ b) = max (PyData.depthAll a) (PyData.depthAll b)
  | [], b => by simp [PyData.depthAll]
  | x :: a, b => by rw [List.cons_append]; simp only [PyData.depthAll]; rw [depthAll_append a b]; omega
theorem RpA.append {n k n' k' : Nat} {a b : List D} (h : RpA n k a) (t : RpA n' k' b) : RpA (n + n') (max k k') (a ++ b) :=
  ⟨by rw [repAll_append, h.b, t.b]; rfl, by rw [nodesAll_append]; have := h.n; have := t.n; omega, by rw [depthAll_append]; have := h.k; have := t.k; omega⟩
theorem RpA.part {n k : Nat} {a b c : List D} (h : RpA n k (a ++ b ++ c)) : RpA n k b := by
  have h1 := h.b
  have h2 := h.n
  have h3 := h.k
  rw [repAll_append, repAll_append] at h1
  rw [nodesAll_append, nodesAll_append] at h2
  rw [depthAll_append, depthAll_append] at h3
  simp only [Bool.and_eq_true] at h1
  exact ⟨h1.1.2, by omega, by omega⟩
theorem RpA.take {n k : Nat} {ds : List D} (h : RpA n k ds) (i : Nat) : RpA n k (ds.take i) := RpA.part (a := []) (c := ds.drop i) (by rw [List.nil_append, List.take_append_drop]; exact h)
theorem RpA.drop {n k : Nat} {ds : List D} (h : RpA n k ds) (i : Nat) : RpA n k (ds.drop i) := RpA.part (a := ds.take i) (c := []) (by rw [List.append_nil, List.take_append_drop]; exact h)
theorem RpA.reverse {n k : Nat} : ∀ {ds : List D}, RpA n k ds → RpA n k ds.reverse
  | [], h => h
  | x :: xs, h => by
    rw [List.reverse_cons]
    have h1 := h.b
    have h2 : nodes x + nodesAll xs ≤ n := h.n
    have h3 : max x.depth (PyData.depthAll xs) ≤ k := by have := h.k; simpa only [PyData.depthAll] using this
    have hb : repB x = true ∧ repAll xs = true := by
      have : (repB x && repAll xs) = true := h1
      simpa using this
    have ih := RpA.reverse (ds := xs) (n := nodesAll xs) (k := k) ⟨hb.2, Nat.le_refl _, by omega⟩
    have := ih.append (RpA.cons (n := nodes x) (k := k) (d := x) ⟨hb.1, Nat.le_refl _, by omega⟩ RpA.nil)
    exact this.le (by omega) (by omega)
theorem RpA.each {n k : Nat} {ds : List D} (h : ∀ d ∈ ds, Rp n k d) : RpA (ds.length * n) k ds := by
  have := RpA.map (F := id) ds h
  rwa [List.map_id] at this
theorem Rp.tI {r : List Int} {n : Nat} (h : ∀ x ∈ r, x.natAbs < 10 ^ 60) (hn : r.length ≤ n) : Rp (n + 1) 1 (tI r) := (RpA.map (n := 1) (k := 0) r fun x hx => Rp.int (h x hx)).tup.le (by omega) (Nat.le_refl _)
theorem Rp.tT {rows : List (List Int)} {n k : Nat} (h : ∀ r ∈ rows, ∀ x ∈ r, x.natAbs < 10 ^ 60) (hk : ∀ r ∈ rows, r.length ≤ k) (hn : rows.length ≤ n) : Rp (n * (k + 1) + 1) 2 (tT rows) := (RpA.map (n := k + 1) (k := 1) rows fun r hr => Rp.tI (h r hr) (hk r hr)).tup.le (by have := Nat.mul_le_mul_right (k + 1) hn; omega) (Nat.le_refl _)
theorem cut_hiA {r : List D} {j : Int} (h0 : 0 ≤ j) : sliceD (.tuple r) (some j) none = some (.tuple (r.drop j.toNat)) := by
  show some (PyData.tuple (cutD r (some j) none)) = _
  unfold cutD
  have e : HT.sIx r.length 0 (some j) = min j.toNat r.length := by
    show (if j < 0 then (j + (r.length : Int)).toNat else min j.toNat r.length) = _
    rw [if_neg (by omega)]
  rw [e, HT.sIx_none, List.take_of_length_le (by simp)]
  congr 2
  rcases Nat.le_total j.toNat r.length with h | h
  · rw [Nat.min_eq_left h]
  · rw [Nat.min_eq_right h, List.drop_of_length_le h, List.drop_of_length_le (Nat.le_refl _)]
/-- an item of a list by a drawn place -/
theorem get_mem {ds : List D} {r : Int} (h0 : 0 ≤ r) (h1 : r < ds.length) : ∃ d ∈ ds, getD (.list ds) (.int r) = some d := by
  obtain ⟨n, rfl⟩ : ∃ n : Nat, r = (n : Int) := ⟨r.toNat, by omega⟩
  have hn : n < ds.length := by omega
  exact ⟨ds[n], List.getElem_mem hn, atI_at rfl (List.getElem?_eq_getElem hn)⟩
theorem get_memT {ds : List D} {r : Int} (h0 : 0 ≤ r) (h1 : r < ds.length) : ∃ d ∈ ds, getD (.tuple ds) (.int r) = some d := by
  obtain ⟨n, rfl⟩ : ∃ n : Nat, r = (n : Int) := ⟨r.toNat, by omega⟩
  have hn : n < ds.length := by omega
  exact ⟨ds[n], List.getElem_mem hn, atI_at rfl (List.getElem?_eq_getElem hn)⟩
theorem ne_nilA (xs : List D) : neD (.list xs) (.list []) = some (.bool !xs.isEmpty) := by
  show (if SeqAt.shaped (.list xs) = true ∧ SeqAt.shaped (.list []) = true then some (PyData.bool (!PyData.eqv (.list xs) (.list []))) else (lensD (.list xs) (.list [])).map fun k => .bool (!k)) = _
  cases xs with
  | nil => kernel_rfl
  | cons x xs =>
    split
    · simp [PyData.eqv, PyData.eqvAll]
    · rfl
theorem eq_nilA (xs : List D) : eqD (.list xs) (.list []) = some (.bool xs.isEmpty) := by
  show (if SeqAt.shaped (.list xs) = true ∧ SeqAt.shaped (.list []) = true then some (PyData.bool (PyData.eqv (.list xs) (.list []))) else (lensD (.list xs) (.list [])).map fun k => .bool k) = _
  cases xs with
  | nil => kernel_rfl
  | cons x xs =>
    split
    · simp [PyData.eqv, PyData.eqvAll]
    · rfl
theorem ne_nilU (xs : List D) : neD (.tuple xs) (.tuple []) = some (.bool !xs.isEmpty) := by
  show (if SeqAt.shaped (.tuple xs) = true ∧ SeqAt.shaped (.tuple []) = true then some (PyData.bool (!PyData.eqv (.tuple xs) (.tuple []))) else (lensD (.tuple xs) (.tuple [])).map fun k => .bool (!k)) = _
  cases xs with
  | nil => kernel_rfl
  | cons x xs =>
    split
    · simp [PyData.eqv, PyData.eqvAll]
    · rfl
end DD
namespace DD
open PySem PySem.Spec PyProof.Rows L2
section
variable {m : Type → Type} [Mo m] {X : Cx} {EX : XK} {g : List Sl}
/-- a, b = ([..], e): the first a list of its own -/
theorem sj_parOV (i j : Nat) {y z : Str} {a b : Expr} {px py pt pos : Pos} {kt k2 pt2} {x1 : m (List D)} {x2 : m D} (hN : X.N.Nodup) (ha : LJ X EX a g x1) (hb : EJ X EX b g x2) (hij : i ≠ j := by decide) (hi : X.N[i]? = some y := by rfl) (hj : X.N[j]? = some z := by rfl) (hc : X.calm = true := by rfl)
    (hx : X.env.scope.names.lookup y = some .local := by rfl) (hy : X.env.scope.names.lookup z = some .local := by rfl)
    (hw : swappedStores [.Tuple [.Name y px, .Name z py] kt pt] (.Tuple [a, b] k2 pt2) X.env = pure (some [y, z]) := by kernel_rfl) (hs : swapsWithSole [.Tuple [.Name y px, .Name z py] kt pt] (.Tuple [a, b] k2 pt2) pos.line X.env = pure false := by kernel_rfl)
    (hs1 : starEach [a, b] X.env = (false, eval a X.env) :: starEach [b] X.env := by rfl) (hs2 : starEach [b] X.env = (false, eval b X.env) :: starEach [] X.env := by rfl) :
    SJ X EX (.Assign [.Tuple [.Name y px, .Name z py] kt pt] (.Tuple [a, b] k2 pt2) pos) g (x1 >>= fun d => x2 >>= fun e => pure (d, e)) (fun de => (g.set i (.own de.1)).set j (.val de.2)) :=
  (ps_par hc hN hi hj hij hx hy (pa_cons ha (pa_cons hb pa_nil hs2) hs1) hw hs).weak fun De σ H ⟨B, G, n, φ, ξ, o, s, q, xw⟩ => ⟨B, G, n, _, ξ, o, Mo.sat_bind s, fun p1 xs1 H1 G1 ds n1 o1 g1 hb1 hg1 hh1 hf1 da1 s1 => by
    have hbg : B.G p1 = none := by
      cases e : B.G p1 with
      | none => rfl
      | some z => rw [o1.fm.old _ _ e] at hg1; cases hg1
    have sd : Side B g σ G1 p1 := ⟨hb1, hbg, hg1, hf1⟩
    have xw' : Xw X (B.pin p1 (.lst xs1)) EX ξ := fun e n' H' G' c od hx fm ex => xw e n' H' G' c od hx (fm.unpin o1.fm hb1) ex
    refine te_one (o1.pin sd hh1) s1 (fun w H2 G2 e n2 o2 g2 d2 s2 => ?_) xw'
    have h1 : H2 p1 = some (.lst xs1) := o2.fm.keep p1 _ upd_same (o1.fm.side hb1)
    have h2 : G2 p1 = none := o2.fm.new p1 (by show upd B.H p1 _ p1 ≠ none; rw [upd_same]; simp) hbg
    have o4 := (o2.unpin o1.fm hb1).setO (i := i) hb1 h2 h1 hf1 (da1.mono g2)
    exact ⟨.ref p1, w, rfl, q (ds, e) _ H2 G2 n2 (o4.setV d2) (g1.trans g2) (Mo.sat_pure s2)⟩, xw⟩
/-- x[k] , y = (e1, e2), x a list of one's own -/
theorem sj_putV (i j : Nat) {ds : List D} {y z : Str} {py pz p2 pt pt2 pos : Pos} {kt ke : Nat} {k e1 e2 : Expr} {x1 x2 zk : m D} (hN' : X.N.Nodup) (h1 : EJ X EX e1 g x1) (h2 : EJ X EX e2 g x2) (hk : EJ X EX k g zk) (hij : i ≠ j := by decide) (hg : g[i]? = some (Sl.own ds) := by rfl) (hN : X.N[i]? = some y := by rfl) (hj : X.N[j]? = some z := by rfl) (hlz : Loc X.env.scope z := by first | exact Or.inl rfl | exact Or.inr rfl) (hfz : X.fn z = true ∨ X.env.scope.names.lookup z = some .local := by first | exact Or.inr rfl | exact Or.inl rfl) (hv : Vis X.env.scope y := by first | exact Or.inl rfl | exact Or.inr (Or.inl rfl) | exact Or.inr (Or.inr rfl))
    (hd : (y == ("__debug__" : Str)) = false := by decide) (hcd : (y == ("__classdict__" : Str)) = false := by decide)
    (ha1 : ∀ v, assign (.Subscript (.Name y py) k p2) X.env v = (do
      let ov ← holding [v] (eval (.Name y py) X.env)
      let iv ← holding [v, ov] (eval k X.env)
      standAt p2
      holding [v, ov, iv] (setItem ov iv v)
      release [v, ov, iv] []) := by intro _; rfl)
    (hs : swapsWithSole [.Tuple [.Subscript (.Name y py) k p2, .Name z pz] kt pt] (.Tuple [e1, e2] ke pt2) pos.line X.env = pure false := by kernel_rfl) (hw : swappedStores [.Tuple [.Subscript (.Name y py) k p2, .Name z pz] kt pt] (.Tuple [e1, e2] ke pt2) X.env = pure none := by kernel_rfl)
    (ho : (assignEach [.Tuple [.Subscript (.Name y py) k p2, .Name z pz] kt pt] X.env).map (·.2) = [assign (.Tuple [.Subscript (.Name y py) k p2, .Name z pz] kt pt) X.env] := by rfl)
    (hs1 : starEach [e1, e2] X.env = (false, eval e1 X.env) :: starEach [e2] X.env := by rfl) (hs2 : starEach [e2] X.env = (false, eval e2 X.env) :: starEach [] X.env := by rfl) (hcm : X.calm = true := by rfl) :
    SJ X EX (.Assign [.Tuple [.Subscript (.Name y py) k p2, .Name z pz] kt pt] (.Tuple [e1, e2] ke pt2) pos) g (x1 >>= fun a => x2 >>= fun b => zk >>= fun j1 => Mo.lift (putD ds j1 a) >>= fun es => pure (es, b)) (fun p => (g.set i (.own p.1)).set j (.val p.2)) :=
  (ps_asg (pe_tup (pa_cons h1 (pa_cons h2 pa_nil hs2) hs1)) (pg_tup hcm (pgs_cons (pg_sub (pe_var hN hv hd hcd) hk set_list ha1) (pgs_cons (pg_name (i := j) hN' hj hlz hfz) pgs_nil))) hs hw ho).weak fun De σ H ⟨B, G, n, φ, ξ, o, s, q, xw⟩ => te_one o s (fun v H1 G1 d n1 o1 g1 d1 s1 => te_one o1 s1 (fun w H2 G2 e n2 o2 g2 d2 s2 => by
    refine ⟨(by show 2 ≤ sizeLine; decide), fun t ht => ⟨t, _, rfl, .inl (.inl upd_same), rfl, ?_⟩⟩
    have o3 := o2.raw ht (u := .tup [v, w])
    obtain ⟨a, xs, f1, f2, f3⟩ := own_at o3 hg
    refine ⟨_, _, rfl, .ref a, f1, te_one o3 s2 (fun w1 H4 G4 j1 n4 o4 g4 d4 s4 => ?_) xw⟩
    obtain ⟨es, ee, pe⟩ := Mo.sat_lift (Mo.sat_bind s4)
    obtain ⟨a', xs', f1', f2', f3'⟩ := own_at o4 hg
    rw [f1] at f1'
    cases f1'
    unfold putD at ee
    cases j1 with
    | int j1 =>
      obtain ⟨t1, et1, rfl⟩ := Option.map_eq_some_iff.mp ee
      cases d4
      have o5 := o4.write hg f1 (f3'.set ((d1.mono g2).mono g4) t1)
      exact ⟨a, xs', j1, t1, rfl, rfl, f2', by rw [f3'.length]; exact et1, _, _, rfl, rfl, q (ds.set t1 d, e) _ _ G4 n4 (o5.setV (d2.mono g4)) ((g1.trans g2).trans g4) (Mo.sat_pure pe)⟩
    | _ => cases ee) xw) xw
/-- what pop takes out, and what is left -/
def popD (ds : List D) (k : D) : Option (D × List D) := match k with
  | .int j => if 0 ≤ j ∧ j < 2 ^ 62 then (ds[j.toNat]?).map fun d => (d, ds.eraseIdx j.toNat) else none
  | _ => none
theorem DaAll.eraseIdx {K : PySem.W.Frag} {G : Hp} : ∀ {vs : List V} {ds : List D} (n : Nat), DaAll K G vs ds → DaAll K G (vs.eraseIdx n) (ds.eraseIdx n)
  | _, _, _, .nil => .nil
  | _, _, 0, .cons _ b => b
  | _, _, n + 1, .cons a b => .cons a (DaAll.eraseIdx n b)
/-- x.append(y.pop(e)), two lists of one's own -/
theorem sj_appendPop (i j : Nat) {ds fs : List D} {y z : Str} {py pz apos cpos apos2 cpos2 pos : Pos} {e : Expr} {x : m D} (h : EJ X EX e g x) (hij : i ≠ j := by decide) (hg : g[i]? = some (Sl.own ds) := by rfl) (hgj : g[j]? = some (Sl.own fs) := by rfl) (hN : X.N[i]? = some y := by rfl) (hNj : X.N[j]? = some z := by rfl) (hv : Vis X.env.scope y := by first | exact Or.inl rfl | exact Or.inr (Or.inl rfl) | exact Or.inr (Or.inr rfl)) (hvj : Vis X.env.scope z := by first | exact Or.inl rfl | exact Or.inr (Or.inl rfl) | exact Or.inr (Or.inr rfl))
    (hd : (y == ("__debug__" : Str)) = false := by decide) (hcd : (y == ("__classdict__" : Str)) = false := by decide) (hdj : (z == ("__debug__" : Str)) = false := by decide) (hcdj : (z == ("__classdict__" : Str)) = false := by decide)
    (hbase2 : attributeBase (.Name z pz) "pop" X.env (eval (.Name z pz) X.env) = eval (.Name z pz) X.env := by rfl)
    (hfew2 : ((backTo cpos2 (starEach [e] X.env)).all (fun x => !x.1) && (backToKw cpos2 (keywordEach [] X.env)).all (fun x => x.1.isSome) && decide ([e].length + ([] : List Keyword).length + (if ([] : List Keyword).isEmpty then 0 else 1) < 30)) = true := by rfl)
    (hline2 : (apos2.endLine == cpos2.line) = true := by rfl) (hs2 : starEach [e] X.env = (false, eval e X.env) :: starEach [] X.env := by rfl) (hpl2 : (backTo cpos2 (starEach [] X.env)).any (·.1) = false := by rfl)
    (hbase : attributeBase (.Name y py) "append" X.env (eval (.Name y py) X.env) = eval (.Name y py) X.env := by rfl)
    (hfew : ((backTo cpos (starEach [.Call (.Attribute (.Name z pz) "pop" apos2) [e] [] cpos2] X.env)).all (fun x => !x.1) && (backToKw cpos (keywordEach [] X.env)).all (fun x => x.1.isSome) && decide ([Expr.Call (.Attribute (.Name z pz) "pop" apos2) [e] [] cpos2].length + ([] : List Keyword).length + (if ([] : List Keyword).isEmpty then 0 else 1) < 30)) = true := by rfl)
    (hline : (apos.endLine == cpos.line) = true := by rfl) (hs : starEach [.Call (.Attribute (.Name z pz) "pop" apos2) [e] [] cpos2] X.env = (false, eval (.Call (.Attribute (.Name z pz) "pop" apos2) [e] [] cpos2) X.env) :: starEach [] X.env := by rfl) (hpl : (backTo cpos (starEach [] X.env)).any (·.1) = false := by rfl)
    (hw : swapsWith (.Call (.Attribute (.Name y py) "append" apos) [.Call (.Attribute (.Name z pz) "pop" apos2) [e] [] cpos2] [] cpos) none pos.line X.env = pure false := by rfl) :
    SJ X EX (.Expr (.Call (.Attribute (.Name y py) "append" apos) [.Call (.Attribute (.Name z pz) "pop" apos2) [e] [] cpos2] [] cpos) pos) g (x >>= fun k => Mo.lift (popD fs k) >>= fun p => Mo.lift (fits ds.length) >>= fun _ => pure p) (fun p => (g.set j (.own p.2)).set i (.own (ds ++ [p.1]))) :=
  (ps_expr (pe_bm PySem.F.plainAttrs_list PySem.F.slot_list_append PySem.F.type_list_append mt_append (pe_var hN hv hd hcd) (pa_cons (pe_bm PySem.F.plainAttrs_list PySem.F.slot_list_pop PySem.F.type_list_pop mt_popAt (pe_var hNj hvj hdj hcdj) (pa_cons h pa_nil hs2) hbase2 hfew2 hline2 hs2 hpl2) pa_nil hs) hbase hfew hline hs hpl) hw).weak fun De σ H ⟨B, G, n, φ, ξ, o, s, q, xw⟩ => by
    obtain ⟨a, xs, e1, e2, e3⟩ := own_at o hg
    obtain ⟨b, ys, f1, f2, f3⟩ := own_at o hgj
    refine ⟨.ref a, e1, .inl ⟨rfl, xs, .inl (.inl e2)⟩, .ref b, f1, .inl ⟨rfl, ys, .inl (.inl f2)⟩, te_one o s (fun v H1 G1 d n1 o1 g1 d1 s1 => ?_) xw⟩
    obtain ⟨p, ep, s2⟩ := Mo.sat_lift (Mo.sat_bind s1)
    obtain ⟨u, eu, s3⟩ := Mo.sat_lift (Mo.sat_bind s2)
    obtain ⟨b', ys', f1', f2', f3'⟩ := own_at o1 hgj
    rw [f1] at f1'
    cases f1'
    unfold popD at ep
    cases d with
    | int k =>
      have ep' : (if 0 ≤ k ∧ k < 2 ^ 62 then (fs[k.toNat]?).map fun d => (d, fs.eraseIdx k.toNat) else none) = some p := ep
      split at ep'
      · rename_i hk
        obtain ⟨d, hd0, rfl⟩ := Option.map_eq_some_iff.mp ep'
        cases d1
        obtain ⟨w, hw1, hw2⟩ := f3'.get hd0
        have hlt : k.toNat < ys'.length := (List.getElem?_eq_some_iff.mp hw1).1
        refine ⟨b, ys', k, k.toNat, w, rfl, rfl, f2', by omega, by omega, ?_, hw1, ?_⟩
        · have hb : (decide (0 ≤ k) && decide (k < (ys'.length : Int))) = true := by simp; omega
          unfold seqIndex?
          simp only
          rw [if_neg (show ¬ k < 0 by omega)]
          exact if_pos hb
        have o2 := o1.write hgj f1 (f3'.eraseIdx k.toNat)
        have hil : i < g.length := by
          rcases Nat.lt_or_ge i g.length with h | h
          · exact h
          · rw [List.getElem?_eq_none h] at hg; cases hg
        have hg2 : (g.set j (Sl.own (fs.eraseIdx k.toNat)))[i]? = some (Sl.own ds) := by rw [List.getElem?_set_ne (Ne.symm hij)]; exact hg
        obtain ⟨a', xs', e1', e2', e3'⟩ := own_at o2 hg2
        rw [e1] at e1'
        cases e1'
        exact ⟨a, xs', w, rfl, rfl, e2', by rw [e3'.length]; exact fits_lt eu, q (d, fs.eraseIdx k.toNat) _ _ G1 n1 (o2.write hg2 e1 (e3'.append (.one hw2))) g1 (Mo.sat_pure s3)⟩
      · cases ep'
    | _ => cases ep
abbrev popM (fs ds : List D) (x : m D) : m (D × List D) := x >>= fun k => Mo.lift (popD fs k) >>= fun p => Mo.lift (fits ds.length) >>= fun _ => pure p
abbrev parLV (x : m (List D)) (y : m D) : m (List D × D) := x >>= fun d => y >>= fun e => pure (d, e)
abbrev putVM (ds : List D) (x1 x2 zk : m D) : m (List D × D) := x1 >>= fun a => x2 >>= fun b => zk >>= fun j1 => Mo.lift (putD ds j1 a) >>= fun es => pure (es, b)
end
/-! ### sorted of ints -/
def insI (x : Int) : List Int → List Int
  | [] => [x]
  | y :: l => if x ≤ y then x :: y :: l else y :: insI x l
def sortI : List Int → List Int
  | [] => []
  | x :: l => insI x (sortI l)
theorem insI_perm (x : Int) : ∀ l, (insI x l).Perm (x :: l)
  | [] => .refl _
  | y :: l => by
    unfold insI
    split
    · exact .refl _
    · exact ((insI_perm x l).cons y).trans (.swap x y l)
theorem sortI_perm : ∀ l, (sortI l).Perm l
  | [] => .refl _
  | x :: l => (insI_perm x (sortI l)).trans ((sortI_perm l).cons x)
theorem insI_sorted (x : Int) : ∀ l, l.Pairwise (· ≤ ·) → (insI x l).Pairwise (· ≤ ·)
  | [], _ => List.pairwise_singleton _ _
  | y :: l, h => by
    unfold insI
    split
    · rename_i hxy
      refine List.pairwise_cons.mpr ⟨fun z hz => ?_, h⟩
      rcases List.mem_cons.mp hz with rfl | hz
      · exact hxy
      · exact Int.le_trans hxy ((List.pairwise_cons.mp h).1 z hz)
    · rename_i hxy
      obtain ⟨h1, h2⟩ := List.pairwise_cons.mp h
      refine List.pairwise_cons.mpr ⟨fun z hz => ?_, insI_sorted x l h2⟩
      rcases List.mem_cons.mp ((insI_perm x l).mem_iff.mp hz) with rfl | hz
      · omega
      · exact h1 z hz
theorem sortI_sorted : ∀ l, (sortI l).Pairwise (· ≤ ·)
  | [] => .nil
  | x :: l => insI_sorted x _ (sortI_sorted l)
def sortD : D → Option D
  | .list ds => (intsD ds).map fun ns => .list ((sortI ns).map .int)
  | _ => none
theorem sorted_unique : ∀ {a b : List Int}, a.Perm b → a.Pairwise (· ≤ ·) → b.Pairwise (· ≤ ·) → a = b
  | [], b, h, _, _ => (List.nil_perm.mp h).symm ▸ rfl
  | x :: a, [], h, _, _ => by cases h.eq_nil
  | x :: a, y :: b, h, ha, hb => by
    obtain ⟨a1, a2⟩ := List.pairwise_cons.mp ha
    obtain ⟨b1, b2⟩ := List.pairwise_cons.mp hb
    have hxy : x = y := by
      have h1 : x ∈ y :: b := h.mem_iff.mp (List.mem_cons_self ..)
      have h2 : y ∈ x :: a := h.mem_iff.mpr (List.mem_cons_self ..)
      rcases List.mem_cons.mp h1 with h1 | h1
      · exact h1
      · rcases List.mem_cons.mp h2 with h2 | h2
        · exact h2.symm
        · have := a1 y h2
          have := b1 x h1
          omega
    subst hxy
    rw [sorted_unique (List.Perm.cons_inv h) a2 b2]
theorem DaAll.intsV {K : PySem.W.Frag} {G : Hp} : ∀ {ns : List Int} {xs : List V}, DaAll K G xs (ns.map PyData.int) → xs = ns.map V.int
  | [], _, .nil => rfl
  | n :: ns, _, .cons (.int _) b => by rw [DaAll.intsV b]; rfl
theorem DaAll.ofInts {K : PySem.W.Frag} {G : Hp} : ∀ (ns : List Int), DaAll K G (ns.map V.int) (ns.map PyData.int)
  | [] => .nil
  | n :: ns => .cons (.int _) (DaAll.ofInts ns)
theorem rc_sorted {K : PySem.W.Frag} : RC1 K (rSortedI K) sortD := by
  intro x dx z H G Q hx hs e q
  unfold sortD at e
  split at e
  · rename_i ds
    obtain ⟨ns, en, rfl⟩ := Option.map_eq_some_iff.mp e
    obtain ⟨a, xs, rfl, ha, da⟩ := hx.toL
    rw [ints_map en] at da
    rw [da.intsV] at ha
    refine ⟨a, ns, rfl, .of (hs _ _ ha), fun ns' p hp hw hl => ?_⟩
    rw [sorted_unique (hp.trans (sortI_perm ns).symm) hw (sortI_sorted ns)]
    have gr := Gr.alloc (u := .lst ((sortI ns).map V.int)) hs hl
    exact q _ _ _ gr (.lst upd_same (DaAll.ofInts _))
  · cases e
end DD
namespace DD
open PySem PySem.Spec PyProof.Rows L2 StX
/-! ### a, *b = t -/
theorem tail_walk {prog : Program} {w : World} {A : Around} (hh : A.handled = none) (I ax : Addr) (hne : ax ≠ I) (items : Array Value) (h1 : 1 ≤ items.size) :
    Walks prog w A I [I, ax] [I] (items.size - 1) (fun i v => items[i + 1]? = some v) (fun i h => h.IsTupleIter I ax (i + 1) ∧ h.IsTuple ax items) where
  sub := (Walks.tuple (prog := prog) (w := w) (A := A) hh I ax hne items).sub
  frame := fun i h h' st => (Walks.tuple (prog := prog) (w := w) (A := A) hh I ax hne items).frame (i + 1) h h' st
  item := fun i s Q E hi st hQ => (Walks.tuple (prog := prog) (w := w) (A := A) hh I ax hne items).item (i + 1) s Q E (by omega) st hQ
  done := fun s Q E st hQ => (Walks.tuple (prog := prog) (w := w) (A := A) hh I ax hne items).done s Q E (by rw [show items.size - 1 + 1 = items.size by omega] at st; exact st) hQ
  self := fun i s Q E st hQ => (Walks.tuple (prog := prog) (w := w) (A := A) hh I ax hne items).self (i + 1) s Q E st hQ
section
variable {X : Cx}
theorem pg_star {x y : Str} {px py ps pos : Pos} {k : Nat} {t : TGs} (hc : X.calm = true) (h : PGs X [.Name x px, .Name y py] t) :
    PG X (.Tuple [.Name x px, .Starred (.Name y py) ps] k pos) (fun v σ H Q => ∃ a z xs, v = .ref a ∧ SqT X.K H a (z :: xs) ∧ ∀ l, H l = none → t [z, .ref l] σ (upd H l (.lst xs)) Q) := by
  refine ⟨fun pins s σ H v u Q I r hw => ?_⟩
  obtain ⟨a, z, xs, e1, hq, hw⟩ := hw
  subst e1
  cases r
  obtain ⟨its, rv, ht, hz⟩ := I.tuple hq
  have hh := I.ok.hd hc
  cases rv with
  | @cons z' u0 xs' us r0 rr =>
  have ht : s.heap.IsTuple a (u0 :: us).toArray := ht
  have hlt : a ≠ s.heap.objs.size := by obtain ⟨o, ho, _⟩ := ht; exact Nat.ne_of_lt (Heap.lt_size ho)
  rw [arm_assign_Tuple]
  refine wpAny_bind (wpAny_standAt ?_)
  show wpAny _ _ (assignInOrder ((assignEach [.Name x px, .Name y py] X.env).map (·.2)) =<< holding [.ref a] (unpackItems (.ref a) 2 (some 1))) _ _ s
  refine wpAny_bind (wpAny_holding ?_)
  unfold unpackItems
  unfold notIterableAtAll
  refine wpAny_bind (wpAny_bind (wpAny_specialOf ht.typeIs F.slot_tuple_iter.lookup ?_))
  refine wpAny_pure ?_
  simp only [Bool.false_eq_true, if_false]
  refine wpAny_bind (wpAny_holding (wpAny_pyIter_tuple ht ?_))
  refine wpAny_bind (wpAny_holding (wpAny_draw_tuple hlt 1 0 _ _ ⟨_, Heap.get?_push_size _ rfl, rfl, rfl⟩ (ht.push _) (by simp) fun h₁ hit₁ hs₁ => ?_))
  have hf : List.take 1 (List.drop 0 (u0 :: us).toArray.toList) = [u0] := rfl
  rw [hf, if_neg (by simp)]
  have W := (tail_walk (prog := X.prog) (w := X.w) (A := X.A.in1) hh s.heap.objs.size a hlt (u0 :: us).toArray (by simp)).toS
  have hsz : (u0 :: us).toArray.size - 1 ≤ sizeLine := by
    have := rr.length
    simp only [List.length_cons] at hz
    simp
    omega
  have hbig : s.heap.objs.size < h₁.objs.size := by obtain ⟨o, ho, _⟩ := hit₁; exact Heap.lt_size ho
  have ha1 : a < s.heap.objs.size := by obtain ⟨o, ho, _⟩ := ht; exact Heap.lt_size ho
  refine wpAny_bind (wpAny_holding (wpAny_collect_iter (T := "tuple_iterator") (.inr (.inr (.inr rfl))) W (fun i s h => h.1.typeIs) ⟨hit₁, (ht.push _).extBut hs₁.extBut hlt⟩ (fun b hb => ?_) (by simp) (fun s2 acc mv hacc => ?_) hsz))
  · simp only [List.mem_cons, List.not_mem_nil, or_false] at hb
    show b < h₁.objs.size
    rcases hb with rfl | rfl
    · exact hbig
    · exact Nat.lt_trans ha1 hbig
  have eacc : acc.toList = us := by
    obtain ⟨h1, h2⟩ := hacc
    have hsz2 : acc.toList.length = us.length := by simpa using h1
    refine List.ext_getElem hsz2 fun i hi hi2 => ?_
    have h3 := h2 i (acc.toList[i]) (by simp)
    simp [hi2] at h3
    rw [h3]
    simp
  rw [eacc]
  have hkept : ∀ b u, s.heap.get? b = some u → s2.heap.get? b = some u := fun b u e => by
    have hb : b ≠ s.heap.objs.size := Nat.ne_of_lt (Heap.lt_size e)
    exact mv.heap b u (by simpa using hb) (hs₁.extBut b u hb (Heap.get?_push_of_some _ e))
  have hs2 : s2 = { s with heap := s2.heap, toks := s2.toks } := by
    have h1 := mv.gens
    have h2 := mv.drawn
    have h3 := mv.os
    cases s2
    simp only at h1 h2 h3
    subst h1 h2 h3
    rfl
  have I1 : Inv X pins σ H { s with heap := s2.heap, toks := s2.toks } := I.kept hkept
  rw [if_neg (by simp)]
  have htk : List.take (us.length - (2 - 1 - 1)) us = us := by simp
  have hdr : List.drop (us.length - (2 - 1 - 1)) us = [] := by simp
  rw [htk, hdr]
  have hul : us.length ≤ sizeLine := by simpa using hsz
  refine wpAny_bind (wpAny_newList (wpAny_pure ?_) hul)
  have I2 : Inv X pins σ (upd H s2.heap.objs.size (.lst xs)) { s with heap := s2.heap.push ({ cls := .type "list", data := .seq us.toArray } : Obj), toks := s2.toks } := I1.laid (fun b u e => Heap.get?_push_of_some _ e) (Nat.le_refl _) ⟨by rw [rr.length]; exact hul, us, _, rr, Heap.get?_push_size _ rfl⟩
  have hfin := h.run pins _ σ _ [z, .ref s2.heap.objs.size] [u0, .ref s2.heap.objs.size] Q I2 (.cons r0 (.cons rfl .nil)) (hw _ (I1.hok.fresh (Nat.le_refl _)))
  rw [hs2]
  exact hfin
end
/-- what is first, and the rest -/
def headD : D → Option (D × List D)
  | .tuple (d :: ds) => some (d, ds)
  | _ => none
section
variable {m : Type → Type} [Mo m] {A : Type} {X : Cx} {EX : XK} {g : List Sl}
abbrev unpS (x : m D) : m (D × List D) := x >>= fun d => Mo.lift (headD d)
theorem sj_unpS (i j : Nat) {y z : Str} {py pz ps pt pos : Pos} {kt : Nat} {e : Expr} {x : m D} (hN : X.N.Nodup) (h : EJ X EX e g x) (hi : X.N[i]? = some y := by rfl) (hj : X.N[j]? = some z := by rfl) (hy : Loc X.env.scope y := by first | exact Or.inl rfl | exact Or.inr rfl) (hz : Loc X.env.scope z := by first | exact Or.inl rfl | exact Or.inr rfl)
    (hfy : X.fn y = true ∨ X.env.scope.names.lookup y = some .local := by first | exact Or.inr rfl | exact Or.inl rfl) (hfz : X.fn z = true ∨ X.env.scope.names.lookup z = some .local := by first | exact Or.inr rfl | exact Or.inl rfl) (hc : X.calm = true := by rfl)
    (hs : swapsWithSole [.Tuple [.Name y py, .Starred (.Name z pz) ps] kt pt] e pos.line X.env = pure false := by kernel_rfl) (hw : swappedStores [.Tuple [.Name y py, .Starred (.Name z pz) ps] kt pt] e X.env = pure none := by kernel_rfl)
    (h1 : (assignEach [.Tuple [.Name y py, .Starred (.Name z pz) ps] kt pt] X.env).map (·.2) = [assign (.Tuple [.Name y py, .Starred (.Name z pz) ps] kt pt) X.env] := by rfl) :
    SJ X EX (.Assign [.Tuple [.Name y py, .Starred (.Name z pz) ps] kt pt] e pos) g (unpS x) (fun p => (g.set i (.val p.1)).set j (.val (.list p.2))) :=
  (ps_asg h (pg_star hc (pgs_cons (pg_name (i := i) hN hi hy hfy) (pgs_cons (pg_name (i := j) hN hj hz hfz) pgs_nil))) hs hw h1).weak fun De σ H ⟨B, G, n, φ, ξ, o, s, q, xw⟩ => te_one o s (fun v H1 G1 d n1 o1 g1 d1 s1 => by
    obtain ⟨p, ep, s2⟩ := Mo.sat_lift s1
    unfold headD at ep
    split at ep
    · cases ep
      cases d1 with
      | tup hh da =>
        cases da with
        | @cons v1 vs1 w1 ws1 e1 r =>
          refine ⟨_, _, _, rfl, sameT o1.fm.sub hh, fun l hl => ?_⟩
          have gr := Gr.alloc (u := .lst vs1) o1.fm.sub hl
          exact ⟨_, _, rfl, _, _, rfl, rfl, q _ _ _ _ n1 (((o1.gr gr).setV (e1.mono gr.g)).setV (.lst upd_same (r.mono gr.g))) (g1.trans gr.g) s2⟩
    · cases ep) xw
theorem bj_dead {ss : List Stmt} {P : A → List Sl} : BJ X EX ss g (Mo.lift none : m (Fl A)) P :=
  ⟨fun pins s σ H D I ⟨B, G, n, φ, ξ, o, st, _⟩ => by obtain ⟨_, e, _⟩ := Mo.sat_lift st; cases e⟩
theorem fj_dead {ss : List Stmt} {fall : Bool} : FJ X EX fall ss g (Mo.lift none : m D) :=
  ⟨fun pins s σ H D I ⟨B, G, n, φ, ξ, o, st, _⟩ => by obtain ⟨_, e, _⟩ := Mo.sat_lift st; cases e⟩
end
/-! ### defs with a star parameter -/
def FnS (P : Program) (w : World) (K : PySem.W.Frag) (mg : Str → Option Value) (base : Heap) (k : Nat) (f : Addr) (sp : Sp) : Prop := ∀ (A : Around) (outer : List Env) (s : Shared) (H : Hp) (us : List Value) (vs : List V) (Q : VK) (E : XK), Room k A → A.guards = some [] → Env0 P w K mg base A outer s H → Vals vs us → sp vs H Q E →
  codeAny (model P w) A (.call (.ref f) ⟨us, []⟩) (CR CX0 outer P w H s Q E) s
section
variable {P : Program} {w : World} {K : PySem.W.Frag} {mg : Str → Option Value} {base : Heap} {k : Nat}
theorem fns_of {x qual : Str} {st : Stmt} {f : Addr} {fd : FuncData} {N ps : List Str} {pv : Str} {sp : Sp} (F : Fun K x qual st f fd) (S : FnScope N (ps ++ [pv]) (defScope st))
    (hbd : ∀ (kV doc pm : Value) (an : Option Addr) (cdv ct : Value) (us rest : List Value), us.length = ps.length → bindArgs (PySem.W.fnOf x qual (defArgs st) (defBody st) (defScope st) .none kV doc pm an cdv ct) ⟨us ++ rest, []⟩ = (newTuple rest >>= fun t => pure (ps.zip us ++ [(pv, t)])))
    (hb : ∀ (cdv : Value) (A : Around) (outer : List Env) (s : Shared) (H : Hp) (vs : List V) (Q : VK) (E : XK), Room k (A.deeper (envOfC qual (defScope st) s.heap.objs.size f cdv)) → A.guards = some [] → sp vs H Q E →
      ∃ t, PSs (cxOf CX0 P w K mg base N qual (defScope st) f cdv A outer s H E).nox (defBody st) t ∧ t { nx := fun _ H' => Q .non H', rt := Q } (start N vs) H) :
    FnS P w K mg base (k + 1) f (fun vs H Q E => ∃ ws rest, vs = ws ++ rest ∧ ws.length = ps.length ∧ rest.length ≤ sizeLine ∧ ∀ p, H p = none → sp (ws ++ [V.ref p]) (upd H p (.tup rest)) Q E) := by
  obtain ⟨oc, od, kV, doc, pm, an, cdv, ct, osl, rfl, lk, hcd⟩ := F.ex
  intro A outer s H us vs Q E hr gu e0 r hsp
  obtain ⟨ws, rest, rfl, hl, hz, hq⟩ := hsp
  obtain ⟨u1, u2, rfl, r1, r2⟩ := vals_split r
  have hn : H s.heap.objs.size = none := e0.hok.fresh (Nat.le_refl _)
  have hl1 : u1.length = ps.length := by rw [← r1.length]; exact hl
  have hl2 : u2.length ≤ sizeLine := by rw [← r2.length]; exact hz
  refine run_bnd lk hcd S hr e0 (G := fun xs H2 => ∃ p, H p = none ∧ xs = ws ++ [V.ref p] ∧ H2 = upd H p (.tup rest)) (fun A' Ex Q' h => ?_) fun s2 H2 xs ⟨p, hp, ex, eH⟩ hr' => ?_
  · rw [hbd kV doc pm an cdv ct u1 u2 hl1]
    refine wpAny_bind (wpAny_newTuple (wpAny_pure ?_) hl2)
    have new : ObjOk P w (upd H s.heap.objs.size (.tup rest)) (s.heap.push ({ cls := .type "tuple", data := .seq u2.toArray } : Obj)) s.heap.objs.size (.tup rest) := ⟨hz, u2, r2, ⟨_, Heap.get?_push_size _ rfl, rfl, _, rfl⟩⟩
    have un := un_laid (fs := frs outer) (s := s) (o := ({ cls := .type "tuple", data := .seq u2.toArray } : Obj)) (u := .tup rest) hn
    have z := h _ _ (ws ++ [V.ref s.heap.objs.size]) (u1 ++ [Value.ref s.heap.objs.size]) (env0_laid e0 new) un rfl (fun e s' z => z) (r1.append (.cons rfl .nil)) (by rw [List.length_append, List.length_append, hl] <;> rfl) ⟨_, hn, rfl, rfl⟩
    rw [List.zip_append hl1.symm] at z
    exact z
  · subst ex eH
    obtain ⟨t, ht, h2⟩ := hb cdv A outer s2 _ _ Q E hr' gu (hq p hp)
    exact ⟨t, ht.nox, h2⟩
def valsOf : List Sl → Option (List D)
  | [] => some []
  | .val d :: r => (valsOf r).map (d :: ·)
  | _ => none
theorem ArgsOk.vals {B : Bs} {G : Hp} : ∀ {vs : List V} {as : List Sl} {ds : List D}, ArgsOk K B G vs as → valsOf as = some ds → DaAll K G vs ds
  | _, _, _, .nil, e => by cases e; exact .nil
  | _, _, _, .cons (a := .val d) h r, e => by
    obtain ⟨es, h1, rfl⟩ := Option.map_eq_some_iff.mp e
    exact .cons h (ArgsOk.vals r h1)
variable {m : Type → Type} [Mo m]
def arS (F : D → D → m D) : List Sl → m D
  | .val a :: r => Mo.lift ((valsOf r).bind small) >>= fun ds => F a (.tuple ds)
  | _ => Mo.lift none
theorem fn_arS {x qual : Str} {st : Stmt} {f : Addr} {fd : FuncData} {N : List Str} {p1 pv : Str} {F : D → D → m D} (Fu : Fun K x qual st f fd) (S : FnScope N ([p1] ++ [pv]) (defScope st))
    (hbd : ∀ (kV doc pm : Value) (an : Option Addr) (cdv ct : Value) (us rest : List Value), us.length = [p1].length → bindArgs (PySem.W.fnOf x qual (defArgs st) (defBody st) (defScope st) .none kV doc pm an cdv ct) ⟨us ++ rest, []⟩ = (newTuple rest >>= fun t => pure ([p1].zip us ++ [(pv, t)])))
    (hb : ∀ (a0 a1 : D) (cdv : Value) (A : Around) (outer : List Env) (s : Shared) (H : Hp) (E : XK), Room k (A.deeper (envOfC qual (defScope st) s.heap.objs.size f cdv)) → A.guards = some [] →
      FJ (cxOf CX0 P w K mg base N qual (defScope st) f cdv A outer s H E).nox E0 true (defBody st) ([Sl.val a0, Sl.val a1] ++ List.replicate (N.length - 2) .any) (F a0 a1)) : FnS P w K mg base (k + 1) f (spJ K (arS F)) := by
  have base := fns_of (sp := spJ K (ar2 F)) Fu S hbd fun cdv A outer s H vs Q E hr gu ⟨G, n, dk, as, φ, a, fm, st, q⟩ => by
    unfold ar2 at st
    split at st
    · exact ⟨_, hb _ _ cdv A outer s H E hr gu, ⟨H, G, dk⟩, G, n, φ, fun _ _ => False, ok_start a fm, st, q, fun _ σ' H' G' n' f' p => q .non H' G' .none n' f' .non p, fun _ _ _ _ _ _ z => z.elim⟩
    · obtain ⟨_, e, _⟩ := Mo.sat_lift st
      cases e
  intro A outer s H us vs Q E hr gu e0 r ⟨G, n, dk, as, φ, a, fm, st, q⟩
  refine base A outer s H us vs Q E hr gu e0 r ?_
  unfold arS at st
  split at st
  · rename_i a0 ra
    obtain ⟨ds, e1, s2⟩ := Mo.sat_lift (Mo.sat_bind st)
    obtain ⟨es, e2, e3⟩ := Option.bind_eq_some_iff.mp e1
    cases a with
    | cons h0 hr2 =>
    rename_i v0 vs2
    have hsm : es = ds ∧ es.length ≤ 1000000 := by
      unfold small at e3
      split at e3
      · rename_i hlen; cases e3; exact ⟨rfl, hlen⟩
      · cases e3
    obtain ⟨rfl, hlen⟩ := hsm
    have hall := hr2.vals e2
    refine ⟨[v0], vs2, rfl, rfl, by rw [hall.length]; exact le_line hlen, fun p hp => ?_⟩
    have gr := Gr.alloc (u := .tup vs2) fm.sub hp
    have fm2 : Fm ⟨H, G, dk⟩ (upd H p (.tup vs2)) (upd G p (.tup vs2)) n := fm.grow gr.h gr.g gr.sub gr.new
    refine ⟨upd G p (.tup vs2), n, dk, [.val a0, .val (.tuple es)], φ, .cons (h0.mono gr.g) (.cons (.tup (.inl (.inl upd_same)) (hall.mono gr.g)) .nil), fm2.at_call, s2, fun v H' G' d n' f' dv pf => ?_⟩
    exact q v H' G' d n' (Fm.back (ok_start (K := K) (N := []) (vs := []) (as := []) .nil fm2) (.inr rfl) f').1.fm dv pf
  · obtain ⟨_, e, _⟩ := Mo.sat_lift st
    cases e
structure DefS (P : Program) (w : World) (K : PySem.W.Frag) (mg : Str → Option Value) (base : Heap) (k : Nat) (x : Str) (sp : Sp) : Prop where
  ex : ∃ f, FnS P w K mg base k f sp ∧ mg x = some (.ref f) ∧ PySem.W.keepIn K (.ref f) = true
end
section
variable {m : Type → Type} [Mo m] {X : Cx} {EX : XK} {g : List Sl} {k : Nat} {f : Addr}
theorem call_s {pins : List (Addr × Obj)} {σ : L2.St} {H : Hp} {s : Shared} {Q : VK} {us : List Value} {vs : List V} {sp : Sp} (F : FnS X.prog X.w X.K X.mg X.base k f sp) (hr : Room k X.A) (gu : X.A.guards = some [])
    (I : Inv X pins σ H s) (r : Vals vs us) (h : sp vs H Q E0) : wpAny (model X.prog X.w) X.A (call (.ref f) us) (EP X pins σ Q) X.xe s := by
  refine wpAny_call (codeAny_mono (F X.A X.stack s H us vs Q E0 hr gu I.env0 r h) fun z s' hq => ?_)
  cases z with
  | error e => exact False.elim hq
  | ok fl =>
    cases fl with
    | ret u => exact I.after hq
    | next => exact False.elim hq
    | brk => exact False.elim hq
    | cont => exact False.elim hq
theorem pe_s {x : Str} {p pos : Pos} {e : Expr} {es : List Expr} {t : TA} {sp : Sp} (F : FnS X.prog X.w X.K X.mg X.base k f sp) (hr : Room k X.A) (gu : X.A.guards = some []) (hg : Gl X x) (hm : X.mg x = some (.ref f)) (hk : PySem.W.keepIn X.K (.ref f) = true)
    (ha : PA X (e :: es) t) (hd : (x == ("__debug__" : Str)) = false) (he : starEach (e :: es) X.env = (false, eval e X.env) :: starEach es X.env) (hpl : (backTo pos (starEach es X.env)).any (·.1) = false) : PE X (.Call (.Name x p) (e :: es) [] pos) (fun σ H Q => t σ H fun vs H1 => sp vs H1 Q E0) :=
  ⟨fun pins s σ H Q I h => wpAny_Call_Name_kw (ld_glob I hg hm (PySem.W.callWith_K (h₀ := X.base) I.ok.mod.kin hk (thn (ha.run pos pins s σ H _ I h) fun us s1 ⟨vs, H1, I1, r, q⟩ => ⟨I1.kIn, call_s F hr gu I1 r q⟩) he hpl) hd)⟩
theorem ej_callS {x : Str} {p pos : Pos} {e : Expr} {es : List Expr} {F : List Sl → m D} {y : m (List Sl)} [Calm m] (Fn : DefS X.prog X.w X.K X.mg X.base k x (spJ X.K F)) (hr : Room k X.A) (gu : X.A.guards = some [])
    (ha : AJ X EX (e :: es) g y) (hg : Gl X x := by rfl) (hd : (x == ("__debug__" : Str)) = false := by decide) (he : starEach (e :: es) X.env = (false, eval e X.env) :: starEach es X.env := by rfl) (hpl : (backTo pos (starEach es X.env)).any (·.1) = false := by rfl) :
    EJ X EX (.Call (.Name x p) (e :: es) [] pos) g (y >>= F) := by
  obtain ⟨f, h1, h2, h3⟩ := Fn.ex
  exact (pe_s h1 hr gu hg h2 h3 ha hd he hpl).weak fun σ H Q ⟨B, G, n, φ, ξ, o, s, q, xw⟩ => ⟨B, G, n, _, ξ, o, Mo.sat_bind s, fun vs H1 G1 as n1 o1 g1 a1 s1 =>
    ⟨G1, n1, B.dk, as, φ, ArgsOk.base (B := B) (B' := ⟨H1, G1, B.dk⟩) rfl a1, o1.fm.at_call, Calm.calm s1, fun v H' G' d n' f' dv p => by
      obtain ⟨o2, g2⟩ := Fm.back o1 (.inr rfl) f'
      exact q v H' G' d n' o2 (g1.trans g2) dv p⟩, xw⟩
theorem ej_callSU {m' : Type → Type} [Mo m'] [Calm m'] [Up m' m] {x : Str} {p pos : Pos} {e : Expr} {es : List Expr} {F : List Sl → m' D} {y : m (List Sl)} (Fn : DefS X.prog X.w X.K X.mg X.base k x (spJ X.K F)) (hr : Room k X.A) (gu : X.A.guards = some [])
    (ha : AJ X EX (e :: es) g y) (hg : Gl X x := by rfl) (hd : (x == ("__debug__" : Str)) = false := by decide) (he : starEach (e :: es) X.env = (false, eval e X.env) :: starEach es X.env := by rfl) (hpl : (backTo pos (starEach es X.env)).any (·.1) = false := by rfl) :
    EJ X EX (.Call (.Name x p) (e :: es) [] pos) g (y >>= fun as => Up.up (m' := m') (F as)) := by
  obtain ⟨f, h1, h2, h3⟩ := Fn.ex
  exact (pe_s h1 hr gu hg h2 h3 ha hd he hpl).weak fun σ H Q ⟨B, G, n, φ, ξ, o, s, q, xw⟩ => ⟨B, G, n, _, ξ, o, Mo.sat_bind s, fun vs H1 G1 as n1 o1 g1 a1 s1 =>
    ⟨G1, n1, B.dk, as, φ, ArgsOk.base (B := B) (B' := ⟨H1, G1, B.dk⟩) rfl a1, o1.fm.at_call, Calm.calm (Up.sat_up s1), fun v H' G' d n' f' dv p => by
      obtain ⟨o2, g2⟩ := Fm.back o1 (.inr rfl) f'
      exact q v H' G' d n' o2 (g1.trans g2) dv p⟩, xw⟩
end
end DD
namespace DD
open PySem PySem.Spec PyProof.Rows L2
section
variable {m : Type → Type} [Mo m] {A : Type} {X : Cx} {EX : XK} {g : List Sl}
abbrev trg1M (x : m D) : m D := x >>= fun d => Mo.lift (lrgO1 d) >>= fun ds => pure (.tuple ds)
/-- tuple(range(e)) -/
theorem ej_trg1 {a : Expr} {p pos p2 pos2 : Pos} {x : m D} (hm : X.mg "tuple" = none) (hmr : X.mg "range" = none) (h : EJ X EX a g x) (hc : X.calm = true := by rfl) (hg : Gl X "tuple" := by rfl) (hgr : Gl X "range" := by rfl) (na : starEach [a] X.env = (false, eval a X.env) :: starEach [] X.env := by rfl)
    (nb : starEach [.Call (.Name "range" p2) [a] [] pos2] X.env = (false, eval (.Call (.Name "range" p2) [a] [] pos2) X.env) :: starEach [] X.env := by rfl) : EJ X EX (.Call (.Name "tuple" p) [.Call (.Name "range" p2) [a] [] pos2] [] pos) g (trg1M x) :=
  (pe_tupRg hc hg hm (prg_1 hgr hmr h na) nb).weak fun σ H Q ⟨B, G, n, φ, ξ, o, s, q, xw⟩ => te_one o s (fun v H1 G1 d n1 o1 g1 d1 s1 => by
    obtain ⟨ds, ed, pd⟩ := Mo.sat_lift (Mo.sat_bind s1)
    cases d with
    | int j =>
      cases d1
      have ed' : (if 0 ≤ j ∧ j ≤ 1000000 then some (rangeL 0 j.toNat) else none) = some ds := ed
      split at ed'
      · rename_i hj
        cases ed'
        refine ⟨j, rfl, RgOk.of_le (by decide) (by omega) (by decide) hj.1, fun l hl => ?_⟩
        have gr := Gr.alloc (u := .tup (rgV 0 j)) o1.fm.sub hl
        have := rg_da (K := X.K) (G := G1) 0 j
        rw [Int.sub_zero] at this
        exact q _ _ _ _ n1 (o1.gr gr) (g1.trans gr.g) (.tup (.inl (.inl upd_same)) (this.mono gr.g)) (Mo.sat_pure pd)
      · cases ed'
    | _ => cases ed) xw
/-- x or y, the value itself -/
def truD : D → Option Bool
  | .none => some false
  | .bool b => some b
  | .int i => some (!(i == 0))
  | _ => none
abbrev orV (x y : m D) : m D := x >>= fun d => Mo.lift (truD d) >>= fun k => if k = true then pure d else y
theorem ej_orV {a b : Expr} {rest : List Expr} {pos : Pos} {x y : m D} (ha : EJ X EX a g x) (hb : EJ X EX (.BoolOp .Or (b :: rest) pos) g y) : EJ X EX (.BoolOp .Or (a :: b :: rest) pos) g (orV x y) :=
  (pe_orT ha hb).weak fun σ H Q ⟨B, G, n, φ, ξ, o, s, q, xw⟩ => te_one o s (fun v H1 G1 d n1 o1 g1 d1 s1 => by
    obtain ⟨b, eb, s2⟩ := Mo.sat_lift (Mo.sat_bind s1)
    refine ⟨b, ?_, ?_⟩
    · unfold truD at eb
      split at eb
      · cases eb; cases d1; exact (rfl : false = false)
      · cases eb; cases d1; exact (rfl : _ = _)
      · cases eb; cases d1; exact (rfl : _ = _)
      · cases eb
    · cases b with
      | true =>
        rw [if_pos rfl] at s2 ⊢
        exact q _ H1 G1 _ n1 o1 g1 d1 (Mo.sat_pure s2)
      | false =>
        rw [if_neg Bool.false_ne_true] at s2 ⊢
        exact ⟨B, G1, n1, φ, ξ, o1, s2, fun v H2 G2 e n2 o2 g2 d2 p2 => q v H2 G2 e n2 o2 (g1.trans g2) d2 p2, xw⟩) xw
/-! ### while -/
def whileM (t : A → m Bool) (b : A → m (Fl A)) : Nat → A → m (Fl A)
  | 0, _ => Mo.lift none
  | n + 1, a => t a >>= fun k => if k = true then b a >>= fun z => (match z with | .nx a' => whileM t b n a' | .rt v => pure (.rt v)) else pure (.nx a)
theorem pt_any {c : Expr} {tc : A → TT} (h : ∀ a, PT X c (tc a)) : PT X c (fun σ H Q => ∃ a, tc a σ H Q) := ⟨fun pins s σ H Q I ⟨a, ha⟩ => (h a).run pins s σ H Q I ha⟩
theorem while_j (fuel : Nat) {c : Expr} {body : List Stmt} {pos : Pos} {P : A → List Sl} {a0 : A} {t : A → m Bool} {b : A → m (Fl A)} (hp : PassesOwn (model X.prog X.w) X.A X.env X.xe) (hc : ∀ a, TJ X EX c (P a) (t a)) (hb : ∀ a, BJ X EX body (P a) (b a) P) (h0 : Sub g (P a0)) :
    PS X (.While c body [] pos) (tbJ X EX g (whileM t b fuel a0) P) :=
  (ps_while hp (pt_any hc) (pss_any hb)).weak fun De σ H ⟨B, G, n, φ, ξ, o, s, q1, q2, xw⟩ => by
    refine ⟨fun k σ' H' => ∃ a G' n', Ok X.K B (P a) σ' H' G' n' ∧ Same G G' ∧ Mo.sat (whileM t b k a) n' φ ξ, ⟨fuel, a0, G, n, o.forget h0, Same.refl _, s⟩, fun k σ' H' ⟨a, G', n', o', g', s'⟩ => ?_⟩
    cases k with
    | zero => obtain ⟨_, e, _⟩ := Mo.sat_lift s'; cases e
    | succ k =>
      refine ⟨a, B, G', n', _, ξ, o', Mo.sat_bind s', fun bk H1 G1 n1 o1 g1 s1 => ?_, xw⟩
      cases bk with
      | true =>
        rw [if_pos rfl]
        rw [if_pos rfl] at s1
        refine ⟨fun σ2 H2 => ∃ a G' n', Ok X.K B (P a) σ2 H2 G' n' ∧ Same G G' ∧ Mo.sat (whileM t b k a) n' φ ξ, fun σ2 H2 hN => ⟨k, Nat.lt_succ_self k, hN⟩, a, B, G1, n1, _, ξ, o1, Mo.sat_bind s1, fun a2 σ2 H2 G2 n2 o2 g2 p2 => ⟨a2, G2, n2, o2, (g'.trans g1).trans g2, p2⟩, fun v H2 G2 d n2 f2 d2 p2 => q2 v H2 G2 d n2 f2 d2 (Mo.sat_pure p2), xw⟩
      | false =>
        rw [if_neg Bool.false_ne_true]
        rw [if_neg Bool.false_ne_true] at s1
        exact q1 a σ' H1 G1 n1 o1 (g'.trans g1) (Mo.sat_pure s1)
end
end DD
namespace DD
open PySem PySem.Spec PyProof.Rows L2
/-- the empty set that set(..) begins with -/
abbrev noneS (w : World) : Obj := { cls := .type "set", dict := none, data := .set #[] 0 (.fresh 0 0 (!w.params.followText "set-order")) }
section
variable {P : Program} {w : World} {A : Around} {E : Value → Shared → Prop} {s : Shared}
/-- what stands behind set(l), l a list of ints -/
abbrev SetMade (w : World) (s : Shared) (ns : List Int) (h' : Heap) (c : Nat) : Prop := SetR w h' s.heap.objs.size (fun j => decide (j ∈ ns)) c ∧ c ≤ ns.length ∧ ∀ b o, s.heap.get? b = some o → h'.get? b = some o
set_option maxHeartbeats 3200000 in
theorem set_lst {l : Addr} {items : Array Value} (ns : List Int) {Q : Value → Shared → Prop} (hh : A.handled = none) (hl : s.heap.IsList l items) (hit : IntsAre items.toList ns) (hb : ns.length + 1 < scanBound)
    (h : ∀ (h' : Heap) (tk c : Nat), SetMade w s ns h' c → Q (.ref s.heap.objs.size) { s with heap := h', toks := tk }) : wpAny (model P w) A (call (.type "set") [.ref l]) Q E s := by
  have hisz : items.size = ns.length := by rw [← IntsAre.length hit, Array.length_toList]
  obtain ⟨c, tl, hmro⟩ := F.called_set.mro
  have hmade := F.called_set.made
  have hsub := F.called_set.sub
  refine wpAny_call (codeAny_of_tree ?_)
  show wpAny _ _ (callAny (.type "set") _) _ _ _
  refine wpAny_pure ⟨Code.quiet_builtin _ (by decide +kernel), codeAny_builtin F.entry_type_call ?_⟩
  rw [Around.under_plain (weight_type_call_type "set" [.ref l] []) rfl]
  have h1 := F.called_set.notType
  have h2 := F.called_set.canCreate
  have hct := F.typeCall_set_1 (.ref l)
  repeat (any_goals (first | assumption | wp_step))
  refine codeAny_mono (code_set_led1 (.ref l) (E := E) (Q₁ := fun obj s₁ => obj = .ref s.heap.objs.size ∧ s₁ = { s with heap := s.heap.push (noneS w) }) ⟨rfl, rfl⟩) fun r s₁ hr => ?_
  match r, hr with
  | .error e, hr => exact hr
  | .ok .next, hr => exact hr.elim
  | .ok .brk, hr => exact hr.elim
  | .ok .cont, hr => exact hr.elim
  | .ok (.ret obj), hr =>
    obtain ⟨rfl, rfl⟩ := hr
    have hS : (s.heap.push (noneS w)).get? s.heap.objs.size = some (noneS w) := Heap.get?_push_size _ rfl
    have hT : Shared.TypeIs { s with heap := s.heap.push (noneS w) } (.ref s.heap.objs.size) "set" := ⟨_, hS, rfl⟩
    have hli := F.called_set.init.lookup
    have hbi := F.called_set.init.bind (.ref s.heap.objs.size)
    repeat (any_goals (first | assumption | wp_step))
    refine codeAny_mono (codeAny_call_builtin (R := wants (fun r s₂ => r = .none ∧ ∃ h' tk c, s₂ = { s with heap := h', toks := tk } ∧ SetMade w s ns h' c) E) F.called_set.init.plain F.entry_set_init (check_set_init_1 hT ?hi)) fun r₂ s₂ hr₂ => ?_
    case hi =>
      obtain ⟨⟨ocls, odict, odata, oslots⟩, hol, hcl, nl, hdl⟩ := hl
      simp only at hcl hdl
      subst hcl hdl
      have hol' : (s.heap.push (noneS w)).get? l = some { cls := .type "list", dict := odict, data := .seq items nl, slots := oslots } := Heap.get?_push_of_some _ hol
      have hsls := F.sub_list_set
      have hslf := F.sub_list_frozenset
      have hne : (Value.type "list" == Value.type "dict") = false := by decide
      have hl1 : (s.heap.push (noneS w)).IsList l items := ⟨_, hol', rfl, nl, rfl⟩
      unfold Builtin.«set.__init__» noKeywords Builtin.Frozenset.updateFrom
      generalize hPI : pyIter = PI
      wp_walk
      subst hPI
      refine wpAny_pyIter_list hl1 (wpAny_bind (wpAny_runValue ?_))
      have hlS : l < s.heap.objs.size := Heap.lt_size hol
      have hz : (s.heap.push (noneS w)).objs.size = s.heap.objs.size + 1 := Heap.size_push ..
      refine set_update_ints ((Walks.list (by simp [hh]) _ l (by rw [hz]; exact Nat.ne_of_lt (Nat.lt_succ_of_lt hlS)) items).toS) s.heap.objs.size (by rw [hz]; simp only [List.mem_cons, List.not_mem_nil, or_false, not_or]; exact ⟨Nat.ne_of_lt (Nat.lt_succ_self _), Nat.ne_of_gt hlS⟩) ns hisz hb (fun i v hv => ?_) (items.size - 0) 0 _ (by omega) (Nat.zero_le _) ⟨⟨_, Heap.get?_push_size _ rfl, rfl, rfl⟩, hl1.push _⟩
        ⟨0, Nat.le_refl 0, setR_new_at (Heap.get?_push_of_some _ hS)⟩ fun s' c' hm hc' hS' => ?_
      · have hi : i < ns.length := by rw [← hisz]; exact (Array.getElem?_eq_some_iff.mp hv).1
        obtain ⟨t, e⟩ := IntsAre.int_at hit i v (by rw [Array.getElem?_toList]; exact hv)
        exact ⟨ns[i], t, List.getElem?_eq_getElem hi, by rw [e, List.getD_eq_getElem?_getD, List.getElem?_eq_getElem hi] <;> rfl⟩
      · obtain ⟨h', g2, d', tk', os'⟩ := s'
        obtain rfl : g2 = s.gens := hm.gens
        obtain rfl : d' = s.drawn := hm.drawn
        obtain rfl : os' = s.os := hm.os
        show wpAny _ _ _ _ _ _
        refine wpAny_pure ?_
        show wpAny _ _ (ret Value.none) _ _ _
        rw [hisz] at hc'
        refine wpAny_pure ⟨rfl, h', tk', c', rfl, hS', hc', fun b o e => ?_⟩
        have hb0 : b < s.heap.objs.size := Heap.lt_size e
        exact hm.heap b o (by rw [hz]; simp only [List.mem_cons, List.not_mem_nil, or_false, not_or]; exact ⟨Nat.ne_of_lt hb0, Nat.ne_of_lt (Nat.lt_succ_of_lt hb0)⟩) (Heap.get?_push_of_some _ (Heap.get?_push_of_some _ e))
    match r₂, hr₂ with
    | .error e, hr₂ => exact hr₂
    | .ok .next, hr₂ => exact hr₂.elim
    | .ok .brk, hr₂ => exact hr₂.elim
    | .ok .cont, hr₂ => exact hr₂.elim
    | .ok (.ret r), hr₂ =>
      obtain ⟨rfl, h', tk, c', rfl, hm⟩ := hr₂
      repeat (any_goals (first | assumption | wp_step))
      exact h _ _ _ hm
end
end DD
namespace DD
open PySem PySem.Spec PyProof.Rows L2
/-- set(l), l a list of ints -/
def rSetL (K : PySem.W.Frag) (w : World) : List V → Hp → VK → Prop := fun vs H Q => ∃ (l : Addr) (ns : List Int), vs = [V.ref l] ∧ SqL K H l (ns.map V.int) ∧ ns.length < 63 ∧ ∀ p c, c ≤ ns.length → H p = none → Q (.ref p) (upd H p (SetO w p (fun j => decide (j ∈ ns)) c))
section
variable {X : Cx}
theorem cr_setL (hc : X.calm = true) : CallR X (.type "set") (rSetL X.K X.w) := by
  intro pins s σ H vs us Q I r h
  obtain ⟨l, ns, rfl, hq, hn, q⟩ := h
  rw [Vals.ref1 r]
  obtain ⟨its, rv, pl, hz⟩ := I.list hq
  refine set_lst ns (I.ok.hd hc) pl.isList (by simpa using rv.ints) (by unfold scanBound; omega) fun h' tk c hm => ?_
  have I1 : Inv X pins σ H { s with heap := h', toks := tk } := I.kept hm.2.2
  have J : Inv X pins σ (upd H s.heap.objs.size (SetO X.w s.heap.objs.size (fun j => decide (j ∈ ns)) c)) { s with heap := h', toks := tk } := I.laid hm.2.2 (Nat.le_refl _) (setO_new hm.1)
  exact ⟨.ref _, _, J, rfl, q _ c hm.2.1 (I.hok.fresh (Nat.le_refl _))⟩
end
/-- sorted, each once -/
def dedI : List Int → List Int
  | [] => []
  | x :: l => if decide (x ∈ l) = true then dedI l else x :: dedI l
theorem mem_dedI {x : Int} : ∀ {l : List Int}, x ∈ dedI l ↔ x ∈ l
  | [] => Iff.rfl
  | y :: l => by
    unfold dedI
    split
    · rename_i h
      rw [mem_dedI, List.mem_cons]
      constructor
      · exact Or.inr
      · rintro (rfl | z)
        · exact of_decide_eq_true h
        · exact z
    · rw [List.mem_cons, List.mem_cons, mem_dedI]
theorem nd_dedI : ∀ l : List Int, (dedI l).Nodup
  | [] => List.nodup_nil
  | x :: l => by
    unfold dedI
    split
    · exact nd_dedI l
    · rename_i h
      exact List.nodup_cons.mpr ⟨fun z => h (decide_eq_true (mem_dedI.mp z)), nd_dedI l⟩
def sortSetD : D → Option (List D)
  | .list ds => (intsD ds).bind fun ns => if ns.length < 63 then some ((sortI (dedI ns)).map .int) else none
  | _ => none
theorem lt_unique {a b : List Int} (ha : a.Pairwise (· < ·)) (hb : b.Pairwise (· < ·)) (h : ∀ k, k ∈ a ↔ k ∈ b) : a = b := by
  refine sorted_unique ((List.perm_ext_iff_of_nodup (ha.imp fun h => Int.ne_of_lt h) (hb.imp fun h => Int.ne_of_lt h)).mpr h) (ha.imp Int.le_of_lt) (hb.imp Int.le_of_lt)
theorem sort_lt (ns : List Int) : (sortI (dedI ns)).Pairwise (· < ·) := by
  have h1 := sortI_sorted (dedI ns)
  have h2 : (sortI (dedI ns)).Nodup := (sortI_perm _).nodup_iff.mpr (nd_dedI ns)
  exact (List.pairwise_and_iff.mpr ⟨h1, h2⟩).imp fun ⟨a, b⟩ => by omega
section
variable {m : Type → Type} [Mo m] {X : Cx} {EX : XK} {g : List Sl}
abbrev sortSetM (x : m D) : m D := x >>= fun d => Mo.lift (sortSetD d) >>= fun ds => pure (.list ds)
/-- sorted(set(e)) -/
theorem ej_sortSet {p p2 pos pos2 : Pos} {a : Expr} {x : m D} (hm : X.mg "sorted" = none) (hm2 : X.mg "set" = none) (ha : EJ X EX a g x) (hc : X.calm = true := by rfl) (hg : Gl X "sorted" := by rfl) (hg2 : Gl X "set" := by rfl)
    (hs : starEach [a] X.env = (false, eval a X.env) :: starEach [] X.env := by rfl) (hs2 : starEach [.Call (.Name "set" p2) [a] [] pos2] X.env = (false, eval (.Call (.Name "set" p2) [a] [] pos2) X.env) :: starEach [] X.env := by rfl) :
    EJ X EX (.Call (.Name "sorted" p) [.Call (.Name "set" p2) [a] [] pos2] [] pos) g (x >>= fun d => Mo.lift (sortSetD d) >>= fun ds => pure (.list ds)) :=
  (pe_callB (cr_sortedSet hc) hg hm (by decide +kernel) (pa_cons (pe_callTy (cr_setL hc) hg2 hm2 (by decide +kernel) (pa_cons ha pa_nil hs) (by decide) (by decide) hs rfl) pa_nil hs2) (by decide) (by decide) hs2 rfl).weak fun σ H Q ⟨B, G, n, φ, ξ, o, s, q, xw⟩ => te_one o s (fun v H1 G1 d n1 o1 g1 d1 s1 => by
    obtain ⟨ds, ed, pd⟩ := Mo.sat_lift (Mo.sat_bind s1)
    unfold sortSetD at ed
    split at ed
    · rename_i es
      obtain ⟨ns, en, ed2⟩ := Option.bind_eq_some_iff.mp ed
      split at ed2
      · rename_i hlen
        cases ed2
        obtain ⟨l, xs, rfl, hl, da⟩ := d1.toL
        rw [ints_map en] at da
        rw [da.intsV] at hl
        refine ⟨l, ns, rfl, .of (o1.fm.sub _ _ hl), hlen, fun t c hcc ht => ⟨t, _, c, rfl, upd_same, by omega, fun out r h1 h2 h3 hr => ?_⟩⟩
        have o2 := o1.raw ht (u := SetO X.w t (fun j => decide (j ∈ ns)) c)
        have e : out = sortI (dedI ns) := lt_unique h1 (sort_lt ns) fun k => by
          rw [h2 k, decide_eq_true_eq, (sortI_perm _).mem_iff, mem_dedI]
        subst e
        have gr := Gr.alloc (u := .lst ((sortI (dedI ns)).map V.int)) o2.fm.sub hr
        exact q _ _ _ _ n1 (o2.gr gr) (g1.trans gr.g) (.lst upd_same (DaAll.ofInts _)) (Mo.sat_pure pd)
      · cases ed2
    · cases ed) xw
end
end DD
namespace DD
open PySem PySem.Spec PyProof.Rows L2
def top (i : Nat) : Stmt := PySem.Challenge.pw_darkdrawers_k08_whole_merged_drawers.main.body.getD i (.Pass ⟨0, 0, 0, 0⟩)
section
variable {P : Program} {w : World} {K : PySem.W.Frag} {mg : Str → Option Value} {base : Heap}
abbrev s__law_deck : Stmt := top 33
theorem sc__law_deck : FnScope ["_law_script", "_law_cell"] ["_law_script"] (defScope s__law_deck) := ⟨rfl, rfl, rfl, by decide +kernel, rfl, by decide +kernel, by decide +kernel⟩
theorem ok__law_deck {f : Addr} {fd : FuncData} (F : Fun K "_law_deck" "_law_deck" s__law_deck f fd) (ma : mg "abs" = none) : FnG P w K mg base 1 f fd ["_law_script"] (spDeck K) := by
  have sc := sc__law_deck
  refine fng_of F sc (fun vs H Q E ⟨a, ns, e, _⟩ => by rw [e]; rfl) fun cdv A outer s H vs Q E hr gu ⟨a, ns, e, hS, q⟩ => ?_
  subst e
  exact ⟨deckT K 63, pss_one (ps_ret (pe_lst (pa_cons (pe_lc (own := [("_law_cell", 1)]) rfl sc.nd (pi_list (pe_slice sl_list (pv 0) po_none (po_some pe_int))) (blk_of (by kernel_rfl))
    (fun _ _ _ _ _ => pg_name (i := 1) sc.nd rfl (.inl rfl)) (fun _ _ _ _ _ => pts_nil) (fun _ _ _ _ _ => pe_callB call_abs rfl ma boot_abs (pa_cons (pv 1) pa_nil))) (pa_cons pe_int pa_nil)))), deck_ok (by decide) (by decide) (Nat.lt_succ_self 1) rfl hS q⟩
abbrev s__law_draw : Stmt := top 34
theorem sc__law_draw : FnScope ["_law_deck_here", "_law_limit", "_law_cell", "_law_index"] ["_law_deck_here", "_law_limit"] (defScope s__law_draw) := ⟨rfl, rfl, rfl, by decide +kernel, rfl, by decide +kernel, by decide +kernel⟩
theorem ok__law_draw {f : Addr} {fd : FuncData} (F : Fun K "_law_draw" "_law_draw" s__law_draw f fd) (ml : mg "len" = none) : FnG P w K mg base 1 f fd ["_law_deck_here", "_law_limit"] spDraw := by
  have sc := sc__law_draw
  refine fng_of F sc (fun vs H Q E ⟨a, b, n, many, e, _⟩ => by rw [e]; rfl) fun cdv A outer s H vs Q E hr gu ⟨a, b, n, many, e, dk, m0, m1, hn, q⟩ => ?_
  subst e
  exact ⟨drawT1 K, pss_cons (ps_asg (pe_op op_add (pe_ix ix_list (pv 0) pe_int (fun _ _ => rfl)) pe_int) (pg_sub (pv 0) pe_int set_list))
    (pss_cons (ps_asg (pe_tup (pa_cons pe_int (pa_cons (pe_un un_neg pe_int) pa_nil))) (pg_tup rfl (pgs_cons (pg_name (i := 2) sc.nd rfl (.inl rfl)) (pgs_cons (pg_name (i := 3) sc.nd rfl (.inl rfl)) pgs_nil))))
    (pss_cons (ps_if (pt_cmpR op_gt (pe_callB call_len_seq rfl ml PySem.boot_len (pa_cons (pe_ix ix_list (pv 0) pe_int (fun _ _ => rfl)) pa_nil)) pe_int (nomark _))
        (pss_cons (ps_set (i := 3) sc.nd rfl (Or.inl rfl) (pe_op op_mod (pe_ix ix_list (pv 0) pe_int (fun _ _ => rfl)) (pe_callB call_len_seq rfl ml PySem.boot_len (pa_cons (pe_ix ix_list (pv 0) pe_int (fun _ _ => rfl)) pa_nil)))) (pss_one (ps_set (i := 2) sc.nd rfl (Or.inl rfl) (pe_ix ix_list (pe_ix ix_list (pv 0) pe_int (fun _ _ => rfl)) (pv 3) (fun _ _ => rfl))))) pss_nil)
    (pss_cons (ps_if (pt_cmpR op_ge (pv 2) (pe_op op_pow pe_int pe_int) (nomark _))
        (pss_cons (ps_asg (pe_op op_fdiv (pv 2) (pv 1)) (pg_sub (pe_ix ix_list (pv 0) pe_int (fun _ _ => rfl)) (pv 3) set_list)) (pss_one (ps_ret (pe_op op_mod (pv 2) (pv 1))))) pss_nil)
    (pss_one (ps_ret (pe_op op_mod (pe_op op_fdiv (pe_op op_mod (pe_op op_pow (pe_op op_add (pe_op op_add (pe_op op_mod (pv 2) pe_int) (pe_op op_mul pe_int (pe_ix ix_list (pv 0) pe_int (fun _ _ => rfl)))) pe_int) pe_int) pe_int) pe_int) (pv 1))))))), draw1_ok dk m0 m1 hn q⟩
abbrev s_is_number : Stmt := top 7
theorem sc_is_number : FnScope ["value", "low", "high"] ["value", "low", "high"] (defScope s_is_number) := ⟨rfl, rfl, rfl, by decide +kernel, rfl, by decide +kernel, by decide +kernel⟩
def m_is_number (p_value p_low p_high : D) : Option D := (andD (isiM "int" (pure p_value)) (andD (op1 notD (isiM "bool" (pure p_value))) (chain3 leD leD (pure p_low) (pure p_value) (pure p_high))))
def M_is_number : List Sl → Option D := ar3 m_is_number
theorem ok_is_number {f : Addr} {fd : FuncData} (F : Fun K "is_number" "is_number" s_is_number f fd) (hy : SysAt base) (mb_bool : mg "bool" = none) (mb_int : mg "int" = none) (mb_isinstance : mg "isinstance" = none) : FnG P w K mg base 1 f fd ["value", "low", "high"] (spJ K M_is_number) := by
  have sc := sc_is_number
  exact fn_ar3 F sc rfl fun p_value p_low p_high cdv A outer s H E hr gu => (fj_ret (ej_and (ej_isi "int" (ej_vk 0) mb_isinstance mb_int) (ej_and (ej_not (ej_isi "bool" (ej_vk 0) mb_isinstance mb_bool)) (ej_one (ej_chain op_le rd_le op_le rd_le (ej_vk 1) (ej_vk 0) (ej_vk 2))))))
abbrev s_totals_of : Stmt := top 11
theorem sc_totals_of : FnScope ["stock", "counts"] ["stock"] (defScope s_totals_of) := ⟨rfl, rfl, rfl, by decide +kernel, rfl, by decide +kernel, by decide +kernel⟩
def m_totals_of (p_stock : D) : Option D := (op1 tupleD (lstM (comp1 (zipSM (pure p_stock)) (fun c1 => (op1 sumD (pure c1))))))
def M_totals_of : List Sl → Option D := ar1 m_totals_of
theorem ok_totals_of {f : Addr} {fd : FuncData} (F : Fun K "totals_of" "totals_of" s_totals_of f fd) (hy : SysAt base) (mb_sum : mg "sum" = none) (mb_tuple : mg "tuple" = none) (mb_zip : mg "zip" = none) : FnG P w K mg base 1 f fd ["stock"] (spJ K M_totals_of) := by
  have sc := sc_totals_of
  exact fn_ar1 F sc rfl fun p_stock cdv A outer s H E hr gu => (fj_ret (ej_callT call_tuple_of rc_tuple mb_tuple (ej_l (LcP.expr (lj_lc1 [("counts", 1)] 1 sc.nd (ij_zipS mb_zip (ej_vk 0)) (blk_of (by kernel_rfl)) (fun _ _ _ _ _ => pg_name (i := 1) sc.nd rfl (by first | exact Or.inl rfl | exact Or.inr rfl)) (fun _ _ _ _ _ c1 => (ej_call1 (call_sumD rfl) rc_sum mb_sum (ej_vk 1))))))))
abbrev s_sizes_of : Stmt := top 12
theorem sc_sizes_of : FnScope ["stock", "drawer"] ["stock"] (defScope s_sizes_of) := ⟨rfl, rfl, rfl, by decide +kernel, rfl, by decide +kernel, by decide +kernel⟩
def m_sizes_of (p_stock : D) : Option D := (op1 tupleD (lstM (comp1 (seqM (pure p_stock)) (fun c2 => (op1 sumD (pure c2))))))
def M_sizes_of : List Sl → Option D := ar1 m_sizes_of
theorem ok_sizes_of {f : Addr} {fd : FuncData} (F : Fun K "sizes_of" "sizes_of" s_sizes_of f fd) (hy : SysAt base) (mb_sum : mg "sum" = none) (mb_tuple : mg "tuple" = none) : FnG P w K mg base 1 f fd ["stock"] (spJ K M_sizes_of) := by
  have sc := sc_sizes_of
  exact fn_ar1 F sc rfl fun p_stock cdv A outer s H E hr gu => (fj_ret (ej_callT call_tuple_of rc_tuple mb_tuple (ej_l (LcP.expr (lj_lc1 [("drawer", 1)] 1 sc.nd (ij_seq (ej_vk 0)) (blk_of (by kernel_rfl)) (fun _ _ _ _ _ => pg_name (i := 1) sc.nd rfl (by first | exact Or.inl rfl | exact Or.inr rfl)) (fun _ _ _ _ _ c2 => (ej_call1 (call_sumD rfl) rc_sum mb_sum (ej_vk 1))))))))
abbrev s_contains : Stmt := top 15
theorem sc_contains : FnScope ["counts", "collection", "number", "needed"] ["counts", "collection"] (defScope s_contains) := ⟨rfl, rfl, rfl, by decide +kernel, rfl, by decide +kernel, by decide +kernel⟩
def m_contains (p_counts p_collection : D) : Option D := (op1 allD (lstM (comp2 (zip2M (pure p_counts) (pure p_collection)) (fun c3 c4 => (op2 geD (pure c3) (pure c4))))))
def M_contains : List Sl → Option D := ar2 m_contains
theorem ok_contains {f : Addr} {fd : FuncData} (F : Fun K "contains" "contains" s_contains f fd) (hy : SysAt base) (mb_all : mg "all" = none) (mb_zip : mg "zip" = none) : FnG P w K mg base 1 f fd ["counts", "collection"] (spJ K M_contains) := by
  have sc := sc_contains
  exact fn_ar2 F sc rfl fun p_counts p_collection cdv A outer s H E hr gu => (fj_ret (ej_call1 (cr_all rfl) rc_all mb_all (ej_l (LcP.expr (lj_lc2 [("number", 2), ("needed", 3)] 2 3 sc.nd (ij_zip2 mb_zip (ej_vk 0) (ej_vk 1)) (blk_of (by kernel_rfl)) (fun _ _ _ _ _ => pg_tup rfl (pgs_cons (pg_name (i := 2) sc.nd rfl (by first | exact Or.inl rfl | exact Or.inr rfl)) (pgs_cons (pg_name (i := 3) sc.nd rfl (by first | exact Or.inl rfl | exact Or.inr rfl)) pgs_nil))) (fun _ _ _ _ _ c3 c4 => (ej_cmp op_ge rd_ge (ej_vk 2) (ej_vk 3))))))))
abbrev s_spoilings_of : Stmt := top 17
theorem sc_spoilings_of : FnScope ["collections", "found", "collection", "kinds", "kind", "needed", "begun"] ["collections"] (defScope s_spoilings_of) := ⟨rfl, rfl, rfl, by decide +kernel, rfl, by decide +kernel, by decide +kernel⟩
def m_spoilings_of (p_collections : D) : Option D := ((lstM (consM (tupM (pure [])) (pure []))) >>= fun v5 => (forM1 (seqM (pure p_collections)) v5 (fun x7 (a6 : D) => ((lstM (comp2i (enumM (pure x7)) (fun c9 c10 => (cmp2 gtD (pure c10) (pure (.int 0)))) (fun c9 c10 => (pure c9)))) >>= fun v8 => ((comp11 (seqM (pure a6)) (fun c12 => (seqM (pure v8))) (fun c12 c13 => (tupSM (starM (pure c12) (consM (pure c13) (pure [])))))) >>= fun v11 => (pure (.nx (PyData.list v11)))))) >>= fun f => thenM f fun (a14 : D) => (op1 tupleD (pure a14))))
def M_spoilings_of : List Sl → Option D := ar1 m_spoilings_of
theorem ok_spoilings_of {f : Addr} {fd : FuncData} (F : Fun K "spoilings_of" "spoilings_of" s_spoilings_of f fd) (hy : SysAt base) (mb_enumerate : mg "enumerate" = none) (mb_tuple : mg "tuple" = none) : FnG P w K mg base 1 f fd ["collections"] (spJ K M_spoilings_of) := by
  have sc := sc_spoilings_of
  exact fn_ar1 F sc rfl fun p_collections cdv A outer s H E hr gu => (fj_seq (sj_set 1 sc.nd (ej_l (lj_lst (dj_cons (ej_tup dj_nil) dj_nil)))) (fun v5 => (fj_of_for (for1 2 (P := fun (a6 : D) => [.val p_collections, .val a6, .any, .any, .any, .any, .any]) (a0 := v5) PassesOwn.never (ij_seq (ej_vk 0)) (pg_name (i := 2) sc.nd rfl (by first | exact Or.inl rfl | exact Or.inr rfl)) (fun x7 a6 => (bj_seq (sj_set 3 sc.nd (ej_l (LcP.expr (lj_lc2i [("kind", 4), ("needed", 5)] 4 5 sc.nd (ij_enum mb_enumerate (ej_vk 2)) (blk_of (by kernel_rfl)) (fun _ _ _ _ _ => pg_tup rfl (pgs_cons (pg_name (i := 4) sc.nd rfl (by first | exact Or.inl rfl | exact Or.inr rfl)) (pgs_cons (pg_name (i := 5) sc.nd rfl (by first | exact Or.inl rfl | exact Or.inr rfl)) pgs_nil))) (fun _ _ _ _ _ c9 c10 => (tj_cmp op_gt rd_gt (ej_vk 5) ej_int)) (fun _ _ _ _ _ c9 c10 => (ej_vk 4)))))) (fun v8 => (bj_seq (sj_lcV 1 sc.nd (lj_lc11 [("begun", 6), ("kind", 4)] 6 4 sc.nd (ij_seq (ej_vk 1)) (blk_of (by kernel_rfl)) (fun _ _ _ _ _ => pg_name (i := 6) sc.nd rfl (by first | exact Or.inl rfl | exact Or.inr rfl)) (fun _ _ _ _ _ c12 => (ij_seq (ej_vk 3))) (fun _ _ _ _ _ => pg_name (i := 4) sc.nd rfl (by first | exact Or.inl rfl | exact Or.inr rfl)) (fun _ _ _ _ _ c12 c13 => (ej_tupS (dj_star (ej_vk 6) (dj_cons (ej_vk 4) dj_nil))))) (by kernel_rfl)) (fun v11 => (bj_nil (a := (PyData.list v11)) ⟨.inr rfl, .inr rfl, .inl rfl, .inl rfl, .inl rfl, .inl rfl, .inl rfl, trivial⟩)))))) ⟨.inr rfl, .inr rfl, .inl rfl, .inl rfl, .inl rfl, .inl rfl, .inl rfl, trivial⟩) (fun a14 => (fj_ret (ej_callT call_tuple_of rc_tuple mb_tuple (ej_vk 1)))))))
abbrev s_caps_of : Stmt := top 18
theorem sc_caps_of : FnScope ["collections", "spoiling", "found", "collection", "kind", "cap"] ["collections", "spoiling"] (defScope s_caps_of) := ⟨rfl, rfl, rfl, by decide +kernel, rfl, by decide +kernel, by decide +kernel⟩
def m_caps_of (p_collections p_spoiling : D) : Option D := ((repM (consM (pure .none) (pure [])) (op1 lenD (op2 getD (pure p_collections) (pure (.int 0))))) >>= fun v15 => (forM2 (zip2M (pure p_collections) (pure p_spoiling)) v15 (fun x17 x18 (a16 : List D) => ((op2 subD (op2 getD (pure x17) (pure x18)) (pure (.int 1))) >>= fun v19 => (((rdM (iteM (cmp2 isD (op2 getD (pure (PyData.list a16)) (pure x18)) (pure .none)) (pure v19) (op2 min2D (op2 getD (pure (PyData.list a16)) (pure x18)) (pure v19)))) >>= fun d => (pure x18) >>= fun j => Mo.lift (putD a16 j d)) >>= fun v20 => (pure (.nx v20))))) >>= fun f => thenM f fun (a21 : List D) => (op1 tupleD (pure (PyData.list a21)))))
def M_caps_of : List Sl → Option D := ar2 m_caps_of
theorem ok_caps_of {f : Addr} {fd : FuncData} (F : Fun K "caps_of" "caps_of" s_caps_of f fd) (hy : SysAt base) (mb_len : mg "len" = none) (mb_min : mg "min" = none) (mb_tuple : mg "tuple" = none) (mb_zip : mg "zip" = none) : FnG P w K mg base 1 f fd ["collections", "spoiling"] (spJ K M_caps_of) := by
  have sc := sc_caps_of
  exact fn_ar2 F sc rfl fun p_collections p_spoiling cdv A outer s H E hr gu => (fj_seq (sj_setO 2 sc.nd (lj_rep (lj_lst (dj_cons ej_non dj_nil)) (ej_call1 call_lenD' rc_len mb_len (ej_ix ix_seq rd_ix (ej_vk 0) ej_int (fun _ _ => rfl))))) (fun v15 => (fj_of_for (for2 3 4 (P := fun (a16 : List D) => [.val p_collections, .val p_spoiling, .own a16, .any, .any, .any]) (a0 := v15) PassesOwn.never (ij_zip2 mb_zip (ej_vk 0) (ej_vk 1)) (pg_tup rfl (pgs_cons (pg_name (i := 3) sc.nd rfl (by first | exact Or.inl rfl | exact Or.inr rfl)) (pgs_cons (pg_name (i := 4) sc.nd rfl (by first | exact Or.inl rfl | exact Or.inr rfl)) pgs_nil))) (fun x17 x18 a16 => (bj_seq (sj_set 5 sc.nd (ej_bin op_sub rd_sub (ej_ix ix_seq rd_ix (ej_vk 3) (ej_vk 4) (fun _ _ => rfl)) ej_int)) (fun v19 => (bj_seq (sj_put 2 (ej_rd (ej_if (tj_cmp op_isN rd_is (ej_ix ix_seq rd_ix (ej_vk 2) (ej_vk 4) (fun _ _ => rfl)) ej_non) (ej_vk 5) (ej_call2 (call_min2 rfl) rc_min2 mb_min (ej_ix ix_seq rd_ix (ej_vk 2) (ej_vk 4) (fun _ _ => rfl)) (ej_vk 5)))) (ej_vk 4)) (fun v20 => (bj_nil (a := v20) ⟨.inr rfl, .inr rfl, .inr rfl, .inl rfl, .inl rfl, .inl rfl, trivial⟩)))))) ⟨.inr rfl, .inr rfl, .inr rfl, .inl rfl, .inl rfl, .inl rfl, trivial⟩) (fun a21 => (fj_fr 2 (fj_ret (ej_callT call_tuple_of rc_tuple mb_tuple (ej_vk 2))))))))
abbrev s_room_in : Stmt := top 20
theorem sc_room_in : FnScope ["stock", "caps", "drawers", "found", "kind", "cap", "many", "drawer"] ["stock", "caps", "drawers"] (defScope s_room_in) := ⟨rfl, rfl, rfl, by decide +kernel, rfl, by decide +kernel, by decide +kernel⟩
def m_room_in (p_stock p_caps p_drawers : D) : Option D := ((pure (.int 0)) >>= fun v22 => (forM2 (enumM (pure p_caps)) v22 (fun x24 x25 (a23 : D) => ((op1 sumD (lstM (comp1 (seqM (pure p_drawers)) (fun c27 => (op2 getD (op2 getD (pure p_stock) (pure c27)) (pure x24)))))) >>= fun v26 => (((iteM (cmp2 isD (pure x25) (pure .none)) (pure v26) (op2 min2D (pure v26) (pure x25))) >>= fun d => Mo.lift (addI a23 d)) >>= fun v28 => (pure (.nx v28))))) >>= fun f => thenM f fun (a29 : D) => (pure a29)))
def M_room_in : List Sl → Option D := ar3 m_room_in
theorem ok_room_in {f : Addr} {fd : FuncData} (F : Fun K "room_in" "room_in" s_room_in f fd) (hy : SysAt base) (mb_enumerate : mg "enumerate" = none) (mb_min : mg "min" = none) (mb_sum : mg "sum" = none) : FnG P w K mg base 1 f fd ["stock", "caps", "drawers"] (spJ K M_room_in) := by
  have sc := sc_room_in
  exact fn_ar3 F sc rfl fun p_stock p_caps p_drawers cdv A outer s H E hr gu => (fj_seq (sj_set 3 sc.nd ej_int) (fun v22 => (fj_of_for (for2 4 5 (P := fun (a23 : D) => [.val p_stock, .val p_caps, .val p_drawers, .val a23, .any, .any, .any, .any]) (a0 := v22) PassesOwn.never (ij_enum mb_enumerate (ej_vk 1)) (pg_tup rfl (pgs_cons (pg_name (i := 4) sc.nd rfl (by first | exact Or.inl rfl | exact Or.inr rfl)) (pgs_cons (pg_name (i := 5) sc.nd rfl (by first | exact Or.inl rfl | exact Or.inr rfl)) pgs_nil))) (fun x24 x25 a23 => (bj_seq (sj_set 6 sc.nd (ej_call1 (call_sumD rfl) rc_sum mb_sum (ej_l (LcP.expr (lj_lc1 [("drawer", 7)] 7 sc.nd (ij_seq (ej_vk 2)) (blk_of (by kernel_rfl)) (fun _ _ _ _ _ => pg_name (i := 7) sc.nd rfl (by first | exact Or.inl rfl | exact Or.inr rfl)) (fun _ _ _ _ _ c27 => (ej_ix ix_seq rd_ix (ej_ix ix_seq rd_ix (ej_vk 0) (ej_vk 7) (fun _ _ => rfl)) (ej_vk 4) (fun _ _ => rfl)))))))) (fun v26 => (bj_seq (sj_aug 3 sc.nd ip_add rd_addI (ej_if (tj_cmp op_isN rd_is (ej_vk 5) ej_non) (ej_vk 6) (ej_call2 (call_min2 rfl) rc_min2 mb_min (ej_vk 6) (ej_vk 5)))) (fun v28 => (bj_nil (a := v28) ⟨.inr rfl, .inr rfl, .inr rfl, .inr rfl, .inl rfl, .inl rfl, .inl rfl, .inl rfl, trivial⟩)))))) ⟨.inr rfl, .inr rfl, .inr rfl, .inr rfl, .inl rfl, .inl rfl, .inl rfl, .inl rfl, trivial⟩) (fun a29 => (fj_ret (ej_vk 3))))))
abbrev s_sets_of : Stmt := top 22
theorem sc_sets_of : FnScope ["count", "found", "drawer", "some"] ["count"] (defScope s_sets_of) := ⟨rfl, rfl, rfl, by decide +kernel, rfl, by decide +kernel, by decide +kernel⟩
def m_sets_of (p_count : D) : Option D := ((lstM (consM (tupM (pure [])) (pure []))) >>= fun v30 => (forM1 (rng1 (pure p_count)) v30 (fun x32 (a31 : D) => ((op2 addD (pure a31) (lstM (comp1 (seqM (pure a31)) (fun c34 => (tupSM (starM (pure c34) (consM (pure x32) (pure [])))))))) >>= fun v33 => (pure (.nx v33)))) >>= fun f => thenM f fun (a35 : D) => (pure a35)))
def M_sets_of : List Sl → Option D := ar1 m_sets_of
theorem ok_sets_of {f : Addr} {fd : FuncData} (F : Fun K "sets_of" "sets_of" s_sets_of f fd) (hy : SysAt base) (mb_range : mg "range" = none) : FnG P w K mg base 1 f fd ["count"] (spJ K M_sets_of) := by
  have sc := sc_sets_of
  exact fn_ar1 F sc rfl fun p_count cdv A outer s H E hr gu => (fj_seq (sj_set 1 sc.nd (ej_l (lj_lst (dj_cons (ej_tup dj_nil) dj_nil)))) (fun v30 => (fj_of_for (for1 2 (P := fun (a31 : D) => [.val p_count, .val a31, .any, .any]) (a0 := v30) PassesOwn.never (ij_range1 mb_range (ej_vk 0)) (pg_name (i := 2) sc.nd rfl (by first | exact Or.inl rfl | exact Or.inr rfl)) (fun x32 a31 => (bj_seq (sj_set 1 sc.nd (ej_bin op_addD rd_add (ej_vk 1) (ej_l (LcP.expr (lj_lc1 [("some", 3)] 3 sc.nd (ij_seq (ej_vk 1)) (blk_of (by kernel_rfl)) (fun _ _ _ _ _ => pg_name (i := 3) sc.nd rfl (by first | exact Or.inl rfl | exact Or.inr rfl)) (fun _ _ _ _ _ c34 => (ej_tupS (dj_star (ej_vk 3) (dj_cons (ej_vk 2) dj_nil))))))))) (fun v33 => (bj_nil (a := v33) ⟨.inr rfl, .inr rfl, .inl rfl, .inl rfl, trivial⟩)))) ⟨.inr rfl, .inr rfl, .inl rfl, .inl rfl, trivial⟩) (fun a35 => (fj_ret (ej_vk 1))))))
abbrev s_with_number : Stmt := top 24
theorem sc_with_number : FnScope ["row", "place", "number"] ["row", "place", "number"] (defScope s_with_number) := ⟨rfl, rfl, rfl, by decide +kernel, rfl, by decide +kernel, by decide +kernel⟩
def m_with_number (p_row p_place p_number : D) : Option D := (tupSM (starM (slcM (pure p_row) (pure none) (partM (pure p_place))) (consM (pure p_number) (starM (slcM (pure p_row) (partM (op2 addD (pure p_place) (pure (.int 1)))) (pure none)) (pure [])))))
def M_with_number : List Sl → Option D := ar3 m_with_number
theorem ok_with_number {f : Addr} {fd : FuncData} (F : Fun K "with_number" "with_number" s_with_number f fd) (hy : SysAt base) : FnG P w K mg base 1 f fd ["row", "place", "number"] (spJ K M_with_number) := by
  have sc := sc_with_number
  exact fn_ar3 F sc rfl fun p_row p_place p_number cdv A outer s H E hr gu => (fj_ret (ej_tupS (dj_star (ej_slice (ej_vk 0) oj_none (oj_some (ej_vk 1))) (dj_cons (ej_vk 2) (dj_star (ej_slice (ej_vk 0) (oj_some (ej_bin op_addD rd_add (ej_vk 1) ej_int)) oj_none) dj_nil)))))
abbrev s_are_numbers : Stmt := top 8
theorem sc_are_numbers : FnScope ["value", "count", "high", "number"] ["value", "count", "high"] (defScope s_are_numbers) := ⟨rfl, rfl, rfl, by decide +kernel, rfl, by decide +kernel, by decide +kernel⟩
def m_are_numbers (p_value p_count p_high : D) : Option D := (iteM (orB (notB (tst (isiM "tuple" (pure p_value)))) (cmp2 neD (op1 lenD (pure p_value)) (pure p_count))) (pure (.bool false)) (op1 allD (lstM (comp1 (seqM (pure p_value)) (fun c36 => ((argV (pure c36) (argV (pure (.int 0)) (argV (pure p_high) (pure [])))) >>= M_is_number))))))
def M_are_numbers : List Sl → Option D := ar3 m_are_numbers
theorem ok_are_numbers {f : Addr} {fd : FuncData} (F : Fun K "are_numbers" "are_numbers" s_are_numbers f fd) (hy : SysAt base) (d_is_number : Def P w K mg base 1 "is_number" ["value", "low", "high"] (spJ K M_is_number)) (mb_all : mg "all" = none) (mb_isinstance : mg "isinstance" = none) (mb_len : mg "len" = none) (mb_tuple : mg "tuple" = none) : FnG P w K mg base 2 f fd ["value", "count", "high"] (spJ K M_are_numbers) := by
  have sc := sc_are_numbers
  exact fn_ar3 F sc rfl fun p_value p_count p_high cdv A outer s H E hr gu => (fj_ifr (tj_w (wj_or (tj_not (tj_val (ej_isi "tuple" (ej_vk 0) mb_isinstance mb_tuple))) (wj_or1 (tj_cmp (by exact op_neA hy (units_of hr)) rd_ne (ej_call1 call_lenD' rc_len mb_len (ej_vk 0)) (ej_vk 1))))) (fj_ret ej_bl) (fj_ret (ej_call1 (cr_all rfl) rc_all mb_all (ej_l (LcP.expr (lj_lc1 [("number", 3)] 3 sc.nd (ij_seq (ej_vk 0)) (blk_of (by kernel_rfl)) (fun _ _ _ _ _ => pg_name (i := 3) sc.nd rfl (by first | exact Or.inl rfl | exact Or.inr rfl)) (fun _ _ _ _ _ c36 => (ej_callD d_is_number (hr.mono (by decide)) gu (aj_cons (ej_vk 3) (aj_cons ej_int (aj_cons (ej_vk 2) aj_nil)))))))))))
abbrev s_merged : Stmt := top 13
theorem sc_merged : FnScope ["stock", "drawers", "first", "others", "whole", "total", "found", "index", "drawer"] ["stock", "drawers"] (defScope s_merged) := ⟨rfl, rfl, rfl, by decide +kernel, rfl, by decide +kernel, by decide +kernel⟩
def m_merged (p_stock p_drawers : D) : Option D := ((unpS (pure p_drawers)) >>= fun v37 => (((argV (lstM (comp1 (seqM (pure p_drawers)) (fun c39 => (op2 getD (pure p_stock) (pure c39))))) (pure [])) >>= M_totals_of) >>= fun v38 => (forM1 (seqM (pure v38)) () (fun x41 (a40 : Unit) => (iteM (cmp2 gtD (pure x41) (pure (.int 50))) (rtM (Mo.lift none)) (pure (.nx ())))) >>= fun f => thenM f fun (a42 : Unit) => ((comp2i (enumM (pure p_stock)) (fun c44 c45 => (cmp2 ninD (pure c44) (pure (PyData.list v37.2)))) (fun c44 c45 => (iteM (cmp2 eqD (pure c44) (pure v37.1)) (pure v38) (pure c45)))) >>= fun v43 => (op1 tupleD (pure (PyData.list v43)))))))
def M_merged : List Sl → Option D := arS m_merged
theorem ok_merged {f : Addr} {fd : FuncData} (F : Fun K "merged" "merged" s_merged f fd) (hy : SysAt base) (d_totals_of : Def P w K mg base 1 "totals_of" ["stock"] (spJ K M_totals_of)) (mb_enumerate : mg "enumerate" = none) (mb_tuple : mg "tuple" = none) {tc_MAX_COUNT : Tok} (mc_MAX_COUNT : mg "MAX_COUNT" = some (.int 50 tc_MAX_COUNT)) : FnS P w K mg base 2 f (spJ K M_merged) := by
  have sc := sc_merged
  exact fn_arS (p1 := "stock") (pv := "drawers") F sc (fun kV doc pm an cdv ct => StX.bind_star1 (B := fun us => bindArgs (PySem.W.fnOf "merged" "merged" (defArgs s_merged) (defBody s_merged) (defScope s_merged) .none kV doc pm an cdv ct) ⟨us, []⟩) (fun _ => rfl) (fun _ _ _ => rfl)) fun p_stock p_drawers cdv A outer s H E hr gu => (fj_seq (sj_unpS 2 3 sc.nd (ej_vk 1)) (fun v37 => (fj_seq (sj_set 4 sc.nd (ej_callD d_totals_of (hr.mono (by decide)) gu (aj_cons (ej_l (LcP.expr (lj_lc1 [("drawer", 8)] 8 sc.nd (ij_seq (ej_vk 1)) (blk_of (by kernel_rfl)) (fun _ _ _ _ _ => pg_name (i := 8) sc.nd rfl (by first | exact Or.inl rfl | exact Or.inr rfl)) (fun _ _ _ _ _ c39 => (ej_ix ix_seq rd_ix (ej_vk 0) (ej_vk 8) (fun _ _ => rfl)))))) aj_nil))) (fun v38 => (fj_of_for (for1 5 (P := fun (a40 : Unit) => [.val p_stock, .val p_drawers, .val v37.1, .val (PyData.list v37.2), .val v38, .any, .any, .any, .any]) (a0 := ()) PassesOwn.never (ij_seq (ej_vk 4)) (pg_name (i := 5) sc.nd rfl (by first | exact Or.inl rfl | exact Or.inr rfl)) (fun x41 a40 => (bj_ifr (tj_cmp op_gt rd_gt (ej_vk 5) (ej_gint mc_MAX_COUNT)) fj_dead (bj_nil (a := ()) ⟨.inr rfl, .inr rfl, .inr rfl, .inr rfl, .inr rfl, .inl rfl, .inl rfl, .inl rfl, .inl rfl, trivial⟩))) ⟨.inr rfl, .inr rfl, .inr rfl, .inr rfl, .inr rfl, .inl rfl, .inl rfl, .inl rfl, .inl rfl, trivial⟩) (fun a42 => (fj_seq (sj_lcV 6 sc.nd (lj_lc2i [("index", 7), ("drawer", 8)] 7 8 sc.nd (ij_enum mb_enumerate (ej_vk 0)) (blk_of (by kernel_rfl)) (fun _ _ _ _ _ => pg_tup rfl (pgs_cons (pg_name (i := 7) sc.nd rfl (by first | exact Or.inl rfl | exact Or.inr rfl)) (pgs_cons (pg_name (i := 8) sc.nd rfl (by first | exact Or.inl rfl | exact Or.inr rfl)) pgs_nil))) (fun _ _ _ _ _ c44 c45 => (tj_cmp (by exact op_ninB hy (units65 hr)) rd_nin (ej_vk 7) (ej_vk 3))) (fun _ _ _ _ _ c44 c45 => (ej_if (tj_cmp (by exact op_eqA hy (units_of hr)) rd_eq (ej_vk 7) (ej_vk 2)) (ej_vk 4) (ej_vk 8)))) (by kernel_rfl)) (fun v43 => (fj_ret (ej_callT call_tuple_of rc_tuple mb_tuple (ej_vk 6)))))))))))
abbrev s_fulfilled_by : Stmt := top 16
theorem sc_fulfilled_by : FnScope ["collections", "counts", "index", "collection"] ["collections", "counts"] (defScope s_fulfilled_by) := ⟨rfl, rfl, rfl, by decide +kernel, rfl, by decide +kernel, by decide +kernel⟩
def m_fulfilled_by (p_collections p_counts : D) : Option D := (forM2 (enumM (pure p_collections)) () (fun x47 x48 (a46 : Unit) => (iteM (tst ((argV (pure p_counts) (argV (pure x48) (pure []))) >>= M_contains)) (rtM (pure x47)) (pure (.nx ())))) >>= fun f => thenM f fun (a49 : Unit) => (pure .none))
def M_fulfilled_by : List Sl → Option D := ar2 m_fulfilled_by
theorem ok_fulfilled_by {f : Addr} {fd : FuncData} (F : Fun K "fulfilled_by" "fulfilled_by" s_fulfilled_by f fd) (hy : SysAt base) (d_contains : Def P w K mg base 1 "contains" ["counts", "collection"] (spJ K M_contains)) (mb_enumerate : mg "enumerate" = none) : FnG P w K mg base 2 f fd ["collections", "counts"] (spJ K M_fulfilled_by) := by
  have sc := sc_fulfilled_by
  exact fn_ar2 F sc rfl fun p_collections p_counts cdv A outer s H E hr gu => (fj_of_for (for2 2 3 (P := fun (a46 : Unit) => [.val p_collections, .val p_counts, .any, .any]) (a0 := ()) PassesOwn.never (ij_enum mb_enumerate (ej_vk 0)) (pg_tup rfl (pgs_cons (pg_name (i := 2) sc.nd rfl (by first | exact Or.inl rfl | exact Or.inr rfl)) (pgs_cons (pg_name (i := 3) sc.nd rfl (by first | exact Or.inl rfl | exact Or.inr rfl)) pgs_nil))) (fun x47 x48 a46 => (bj_ifr (tj_val (ej_callD d_contains (hr.mono (by decide)) gu (aj_cons (ej_vk 1) (aj_cons (ej_vk 3) aj_nil)))) (fj_ret (ej_vk 2)) (bj_nil (a := ()) ⟨.inr rfl, .inr rfl, .inl rfl, .inl rfl, trivial⟩))) ⟨.inr rfl, .inr rfl, .inl rfl, .inl rfl, trivial⟩) (fun a49 => (fj_ret ej_non)))
abbrev s_takes_more : Stmt := top 21
theorem sc_takes_more : FnScope ["stock", "caps", "plan", "drawers", "drawer"] ["stock", "caps", "plan", "drawers"] (defScope s_takes_more) := ⟨rfl, rfl, rfl, by decide +kernel, rfl, by decide +kernel, by decide +kernel⟩
def m_takes_more (p_stock p_caps p_plan p_drawers : D) : Option D := (op2 gtD (op1 sumD (lstM (comp1 (seqM (pure p_drawers)) (fun c50 => (op2 getD (pure p_plan) (pure c50)))))) ((argV (pure p_stock) (argV (pure p_caps) (argV (pure p_drawers) (pure [])))) >>= M_room_in))
def M_takes_more : List Sl → Option D := ar4 m_takes_more
theorem ok_takes_more {f : Addr} {fd : FuncData} (F : Fun K "takes_more" "takes_more" s_takes_more f fd) (hy : SysAt base) (d_room_in : Def P w K mg base 1 "room_in" ["stock", "caps", "drawers"] (spJ K M_room_in)) (mb_sum : mg "sum" = none) : FnG P w K mg base 2 f fd ["stock", "caps", "plan", "drawers"] (spJ K M_takes_more) := by
  have sc := sc_takes_more
  exact fn_ar4 F sc rfl fun p_stock p_caps p_plan p_drawers cdv A outer s H E hr gu => (fj_ret (ej_cmp op_gt rd_gt (ej_call1 (call_sumD rfl) rc_sum mb_sum (ej_l (LcP.expr (lj_lc1 [("drawer", 4)] 4 sc.nd (ij_seq (ej_vk 3)) (blk_of (by kernel_rfl)) (fun _ _ _ _ _ => pg_name (i := 4) sc.nd rfl (by first | exact Or.inl rfl | exact Or.inr rfl)) (fun _ _ _ _ _ c50 => (ej_ix ix_seq rd_ix (ej_vk 2) (ej_vk 4) (fun _ _ => rfl))))))) (ej_callD d_room_in (hr.mono (by decide)) gu (aj_cons (ej_vk 0) (aj_cons (ej_vk 1) (aj_cons (ej_vk 3) aj_nil))))))
abbrev s_after_taking : Stmt := top 25
theorem sc_after_taking : FnScope ["task", "drawer", "kind", "count", "stock", "caps", "plan", "rest"] ["task", "drawer", "kind", "count"] (defScope s_after_taking) := ⟨rfl, rfl, rfl, by decide +kernel, rfl, by decide +kernel, by decide +kernel⟩
def m_after_taking (p_task p_drawer p_kind p_count : D) : Option D := ((unp3 (pure p_task)) >>= fun v51 => (((argV (pure v51.1) (argV (pure p_drawer) (argV ((argV (op2 getD (pure v51.1) (pure p_drawer)) (argV (pure p_kind) (argV (pure (.int 0)) (pure [])))) >>= M_with_number) (pure [])))) >>= M_with_number) >>= fun v52 => ((cmp2 isnD (op2 getD (pure v51.2.1) (pure p_kind)) (pure .none)) >>= fun k => (if k = true then (((argV (pure v51.2.1) (argV (pure p_kind) (argV (op2 subD (op2 getD (pure v51.2.1) (pure p_kind)) (pure p_count)) (pure [])))) >>= M_with_number) >>= fun v54 => (pure (.nx v54))) else (pure (.nx v51.2.1))) >>= fun f => thenM f fun (a53 : D) => (tupM (consM (pure v52) (consM (pure a53) (consM ((argV (pure v51.2.2) (argV (pure p_drawer) (argV (op2 subD (op2 getD (pure v51.2.2) (pure p_drawer)) (pure p_count)) (pure [])))) >>= M_with_number) (pure []))))))))
def M_after_taking : List Sl → Option D := ar4 m_after_taking
theorem ok_after_taking {f : Addr} {fd : FuncData} (F : Fun K "after_taking" "after_taking" s_after_taking f fd) (hy : SysAt base) (d_with_number : Def P w K mg base 1 "with_number" ["row", "place", "number"] (spJ K M_with_number)) : FnG P w K mg base 2 f fd ["task", "drawer", "kind", "count"] (spJ K M_after_taking) := by
  have sc := sc_after_taking
  exact fn_ar4 F sc rfl fun p_task p_drawer p_kind p_count cdv A outer s H E hr gu => (fj_seq (sj_unp3 4 5 6 (ej_vk 0) (pg_tup rfl (pgs_cons (pg_name (i := 4) sc.nd rfl (by first | exact Or.inl rfl | exact Or.inr rfl)) (pgs_cons (pg_name (i := 5) sc.nd rfl (by first | exact Or.inl rfl | exact Or.inr rfl)) (pgs_cons (pg_name (i := 6) sc.nd rfl (by first | exact Or.inl rfl | exact Or.inr rfl)) pgs_nil))))) (fun v51 => (fj_seq (sj_set 7 sc.nd (ej_callD d_with_number (hr.mono (by decide)) gu (aj_cons (ej_vk 4) (aj_cons (ej_vk 1) (aj_cons (ej_callD d_with_number (hr.mono (by decide)) gu (aj_cons (ej_ix ix_seq rd_ix (ej_vk 4) (ej_vk 1) (fun _ _ => rfl)) (aj_cons (ej_vk 2) (aj_cons ej_int aj_nil)))) aj_nil))))) (fun v52 => (fj_if (P := fun (a53 : D) => [.val p_task, .val p_drawer, .val p_kind, .val p_count, .val v51.1, .val a53, .val v51.2.2, .val v52]) (tj_cmp op_notN rd_isn (ej_ix ix_seq rd_ix (ej_vk 5) (ej_vk 2) (fun _ _ => rfl)) ej_non) (bj_seq (sj_set 5 sc.nd (ej_callD d_with_number (hr.mono (by decide)) gu (aj_cons (ej_vk 5) (aj_cons (ej_vk 2) (aj_cons (ej_bin op_sub rd_sub (ej_ix ix_seq rd_ix (ej_vk 5) (ej_vk 2) (fun _ _ => rfl)) (ej_vk 3)) aj_nil))))) (fun v54 => (bj_nil (a := v54) ⟨.inr rfl, .inr rfl, .inr rfl, .inr rfl, .inr rfl, .inr rfl, .inr rfl, .inr rfl, trivial⟩))) (bj_nil (a := v51.2.1) ⟨.inr rfl, .inr rfl, .inr rfl, .inr rfl, .inr rfl, .inr rfl, .inr rfl, .inr rfl, trivial⟩) (fun a53 => (fj_ret (ej_tup (dj_cons (ej_vk 7) (dj_cons (ej_vk 5) (dj_cons (ej_callD d_with_number (hr.mono (by decide)) gu (aj_cons (ej_vk 6) (aj_cons (ej_vk 1) (aj_cons (ej_bin op_sub rd_sub (ej_ix ix_seq rd_ix (ej_vk 6) (ej_vk 1) (fun _ _ => rfl)) (ej_vk 3)) aj_nil)))) dj_nil)))))))))))
abbrev s_most_taken : Stmt := top 26
theorem sc_most_taken : FnScope ["task", "drawer", "kind", "stock", "caps", "plan", "most", "without", "others", "room", "other"] ["task", "drawer", "kind"] (defScope s_most_taken) := ⟨rfl, rfl, rfl, by decide +kernel, rfl, by decide +kernel, by decide +kernel⟩
def m_most_taken (p_task p_drawer p_kind : D) : Option D := ((unp3 (pure p_task)) >>= fun v55 => ((op2 min2D (op2 getD (op2 getD (pure v55.1) (pure p_drawer)) (pure p_kind)) (op2 getD (pure v55.2.2) (pure p_drawer))) >>= fun v56 => (iteM (cmp2 isD (op2 getD (pure v55.2.1) (pure p_kind)) (pure .none)) (pure v56) (((argV (pure v55.2.1) (argV (pure p_kind) (argV (pure (.int 0)) (pure [])))) >>= M_with_number) >>= fun v57 => (forM1 (seqM ((argV (op1 lenD (pure v55.1)) (pure [])) >>= M_sets_of)) v56 (fun x59 (a58 : D) => ((cmp2 ninD (pure p_drawer) (pure x59)) >>= fun k => (if k = true then ((op2 addD (op2 getD (pure v55.2.1) (pure p_kind)) ((argV (pure v55.1) (argV (pure v57) (argV (pure x59) (pure [])))) >>= M_room_in)) >>= fun v61 => ((op2 min2D (pure a58) (op2 subD (pure v61) (op1 sumD (lstM (comp1 (seqM (pure x59)) (fun c63 => (op2 getD (pure v55.2.2) (pure c63)))))))) >>= fun v62 => (pure (.nx v62)))) else (pure (.nx a58))) >>= fun f => thenB f fun (a60 : D) => (pure (.nx a60)))) >>= fun f => thenM f fun (a64 : D) => (pure a64))))))
def M_most_taken : List Sl → Option D := ar3 m_most_taken
theorem ok_most_taken {f : Addr} {fd : FuncData} (F : Fun K "most_taken" "most_taken" s_most_taken f fd) (hy : SysAt base) (d_room_in : Def P w K mg base 1 "room_in" ["stock", "caps", "drawers"] (spJ K M_room_in)) (d_sets_of : Def P w K mg base 1 "sets_of" ["count"] (spJ K M_sets_of)) (d_with_number : Def P w K mg base 1 "with_number" ["row", "place", "number"] (spJ K M_with_number)) (mb_len : mg "len" = none) (mb_min : mg "min" = none) (mb_sum : mg "sum" = none) : FnG P w K mg base 2 f fd ["task", "drawer", "kind"] (spJ K M_most_taken) := by
  have sc := sc_most_taken
  exact fn_ar3 F sc rfl fun p_task p_drawer p_kind cdv A outer s H E hr gu => (fj_seq (sj_unp3 3 4 5 (ej_vk 0) (pg_tup rfl (pgs_cons (pg_name (i := 3) sc.nd rfl (by first | exact Or.inl rfl | exact Or.inr rfl)) (pgs_cons (pg_name (i := 4) sc.nd rfl (by first | exact Or.inl rfl | exact Or.inr rfl)) (pgs_cons (pg_name (i := 5) sc.nd rfl (by first | exact Or.inl rfl | exact Or.inr rfl)) pgs_nil))))) (fun v55 => (fj_seq (sj_set 6 sc.nd (ej_call2 (call_min2 rfl) rc_min2 mb_min (ej_ix ix_seq rd_ix (ej_ix ix_seq rd_ix (ej_vk 3) (ej_vk 1) (fun _ _ => rfl)) (ej_vk 2) (fun _ _ => rfl)) (ej_ix ix_seq rd_ix (ej_vk 5) (ej_vk 1) (fun _ _ => rfl)))) (fun v56 => (fj_ifr (tj_cmp op_isN rd_is (ej_ix ix_seq rd_ix (ej_vk 4) (ej_vk 2) (fun _ _ => rfl)) ej_non) (fj_ret (ej_vk 6)) (fj_seq (sj_set 7 sc.nd (ej_callD d_with_number (hr.mono (by decide)) gu (aj_cons (ej_vk 4) (aj_cons (ej_vk 2) (aj_cons ej_int aj_nil))))) (fun v57 => (fj_of_for (for1 8 (P := fun (a58 : D) => [.val p_task, .val p_drawer, .val p_kind, .val v55.1, .val v55.2.1, .val v55.2.2, .val a58, .val v57, .any, .any, .any]) (a0 := v56) PassesOwn.never (ij_seq (ej_callD d_sets_of (hr.mono (by decide)) gu (aj_cons (ej_call1 call_lenD' rc_len mb_len (ej_vk 3)) aj_nil))) (pg_name (i := 8) sc.nd rfl (by first | exact Or.inl rfl | exact Or.inr rfl)) (fun x59 a58 => (bj_if (P := fun (a60 : D) => [.val p_task, .val p_drawer, .val p_kind, .val v55.1, .val v55.2.1, .val v55.2.2, .val a60, .val v57, .val x59, .any, .any]) (tj_cmp (by exact op_ninB hy (units65 hr)) rd_nin (ej_vk 1) (ej_vk 8)) (bj_seq (sj_set 9 sc.nd (ej_bin op_addD rd_add (ej_ix ix_seq rd_ix (ej_vk 4) (ej_vk 2) (fun _ _ => rfl)) (ej_callD d_room_in (hr.mono (by decide)) gu (aj_cons (ej_vk 3) (aj_cons (ej_vk 7) (aj_cons (ej_vk 8) aj_nil)))))) (fun v61 => (bj_seq (sj_set 6 sc.nd (ej_call2 (call_min2 rfl) rc_min2 mb_min (ej_vk 6) (ej_bin op_sub rd_sub (ej_vk 9) (ej_call1 (call_sumD rfl) rc_sum mb_sum (ej_l (LcP.expr (lj_lc1 [("other", 10)] 10 sc.nd (ij_seq (ej_vk 8)) (blk_of (by kernel_rfl)) (fun _ _ _ _ _ => pg_name (i := 10) sc.nd rfl (by first | exact Or.inl rfl | exact Or.inr rfl)) (fun _ _ _ _ _ c63 => (ej_ix ix_seq rd_ix (ej_vk 5) (ej_vk 10) (fun _ _ => rfl)))))))))) (fun v62 => (bj_nil (a := v62) ⟨.inr rfl, .inr rfl, .inr rfl, .inr rfl, .inr rfl, .inr rfl, .inr rfl, .inr rfl, .inr rfl, .inl rfl, .inl rfl, trivial⟩))))) (bj_nil (a := a58) ⟨.inr rfl, .inr rfl, .inr rfl, .inr rfl, .inr rfl, .inr rfl, .inr rfl, .inr rfl, .inr rfl, .inl rfl, .inl rfl, trivial⟩) (fun a60 => (bj_nil (a := a60) ⟨.inr rfl, .inr rfl, .inr rfl, .inr rfl, .inr rfl, .inr rfl, .inr rfl, .inr rfl, .inl rfl, .inl rfl, .inl rfl, trivial⟩)))) ⟨.inr rfl, .inr rfl, .inr rfl, .inr rfl, .inr rfl, .inr rfl, .inr rfl, .inr rfl, .inl rfl, .inl rfl, .inl rfl, trivial⟩) (fun a64 => (fj_ret (ej_vk 6)))))))))))
abbrev s__law_counts : Stmt := top 35
theorem sc__law_counts : FnScope ["_law_deck_here", "_law_kinds", "_law_most", "_law_k"] ["_law_deck_here", "_law_kinds", "_law_most"] (defScope s__law_counts) := ⟨rfl, rfl, rfl, by decide +kernel, rfl, by decide +kernel, by decide +kernel⟩
def m__law_counts (p_kinds p_most : D) : W D := (op1 tupleD (lstM (comp1 (rng1 (pure p_kinds)) (fun c65 => (op2 mulD ((argK (argV (op2 addD (pure p_most) (pure (.int 1))) (pure []))) >>= drawW) (op2 getD (lstM (consM (pure (.int 0)) (consM (pure (.int 1)) (consM (pure (.int 1)) (consM (pure (.int 1)) (pure [])))))) ((argK (argV (pure (.int 4)) (pure []))) >>= drawW)))))))
def M__law_counts : List Sl → W D := dk2 m__law_counts
theorem ok__law_counts {f : Addr} {fd : FuncData} (F : Fun K "_law_counts" "_law_counts" s__law_counts f fd) (hy : SysAt base) (d__law_draw : Def P w K mg base 1 "_law_draw" ["_law_deck_here", "_law_limit"] (spJ K drawW)) (mb_range : mg "range" = none) (mb_tuple : mg "tuple" = none) : FnG P w K mg base 2 f fd ["_law_deck_here", "_law_kinds", "_law_most"] (spJ K M__law_counts) := by
  have sc := sc__law_counts
  exact fn_dk2 F sc rfl fun p_kinds p_most cdv A outer s H E hr gu => (fj_ret (ej_callT call_tuple_of rc_tuple mb_tuple (ej_l (LcP.expr (lj_lc1 [("_law_k", 3)] 3 sc.nd (ij_range1 mb_range (ej_vk 1)) (blk_of (by kernel_rfl)) (fun _ _ _ _ _ => pg_name (i := 3) sc.nd rfl (by first | exact Or.inl rfl | exact Or.inr rfl)) (fun _ _ _ _ _ c65 => (ej_bin op_mulD rd_mul (ej_callD d__law_draw (hr.mono (by decide)) gu (aj_dk 0 (aj_cons (ej_bin op_addD rd_add (ej_vk 2) ej_int) aj_nil))) (ej_ix ix_seq rd_ix (ej_l (lj_lst (dj_cons ej_int (dj_cons ej_int (dj_cons ej_int (dj_cons ej_int dj_nil)))))) (ej_callD d__law_draw (hr.mono (by decide)) gu (aj_dk 0 (aj_cons ej_int aj_nil))) (fun _ _ => rfl)))))))))
abbrev s_stock_error : Stmt := top 9
theorem sc_stock_error : FnScope ["value", "index", "drawer"] ["value"] (defScope s_stock_error) := ⟨rfl, rfl, rfl, by decide +kernel, rfl, by decide +kernel, by decide +kernel⟩
def m_stock_error (p_value : D) : Option D := (iteM (orB (notB (tst (isiM "tuple" (pure p_value)))) (notB (tst (chain3 leD leD (pure (.int 1)) (op1 lenD (pure p_value)) (pure (.int 4)))))) (tupM (consM (pure .none) (consM (pure (.str "stock")) (pure [])))) (iteM (orB (notB (tst (isiM "tuple" (op2 getD (pure p_value) (pure (.int 0)))))) (notB (tst (chain3 leD leD (pure (.int 1)) (op1 lenD (op2 getD (pure p_value) (pure (.int 0)))) (pure (.int 4)))))) (tupM (consM (pure (.int 0)) (consM (pure (.str "drawer")) (pure [])))) (forM2 (enumM (pure p_value)) () (fun x67 x68 (a66 : Unit) => (iteM (notB (tst ((argV (pure x68) (argV (op1 lenD (op2 getD (pure p_value) (pure (.int 0)))) (argV (pure (.int 50)) (pure [])))) >>= M_are_numbers))) (rtM (tupM (consM (pure x67) (consM (pure (.str "drawer")) (pure []))))) (pure (.nx ())))) >>= fun f => thenM f fun (a69 : Unit) => (pure .none))))
def M_stock_error : List Sl → Option D := ar1 m_stock_error
theorem ok_stock_error {f : Addr} {fd : FuncData} (F : Fun K "stock_error" "stock_error" s_stock_error f fd) (hy : SysAt base) (d_are_numbers : Def P w K mg base 2 "are_numbers" ["value", "count", "high"] (spJ K M_are_numbers)) (mb_enumerate : mg "enumerate" = none) (mb_isinstance : mg "isinstance" = none) (mb_len : mg "len" = none) (mb_tuple : mg "tuple" = none) {tc_MAX_COUNT : Tok} (mc_MAX_COUNT : mg "MAX_COUNT" = some (.int 50 tc_MAX_COUNT)) {tc_MAX_DRAWERS : Tok} (mc_MAX_DRAWERS : mg "MAX_DRAWERS" = some (.int 4 tc_MAX_DRAWERS)) {tc_MAX_KINDS : Tok} (mc_MAX_KINDS : mg "MAX_KINDS" = some (.int 4 tc_MAX_KINDS)) : FnG P w K mg base 3 f fd ["value"] (spJ K M_stock_error) := by
  have sc := sc_stock_error
  exact fn_ar1 F sc rfl fun p_value cdv A outer s H E hr gu => (fj_ifr (tj_w (wj_or (tj_not (tj_val (ej_isi "tuple" (ej_vk 0) mb_isinstance mb_tuple))) (wj_or1 (tj_not (tj_chain op_le rd_le op_le rd_le ej_int (ej_call1 call_lenD' rc_len mb_len (ej_vk 0)) (ej_gint mc_MAX_DRAWERS)))))) (fj_ret (ej_tup (dj_cons ej_non (dj_cons ej_str dj_nil)))) (fj_ifr (tj_w (wj_or (tj_not (tj_val (ej_isi "tuple" (ej_ix ix_seq rd_ix (ej_vk 0) ej_int (fun _ _ => rfl)) mb_isinstance mb_tuple))) (wj_or1 (tj_not (tj_chain op_le rd_le op_le rd_le ej_int (ej_call1 call_lenD' rc_len mb_len (ej_ix ix_seq rd_ix (ej_vk 0) ej_int (fun _ _ => rfl))) (ej_gint mc_MAX_KINDS)))))) (fj_ret (ej_tup (dj_cons ej_int (dj_cons ej_str dj_nil)))) (fj_of_for (for2 1 2 (P := fun (a66 : Unit) => [.val p_value, .any, .any]) (a0 := ()) PassesOwn.never (ij_enum mb_enumerate (ej_vk 0)) (pg_tup rfl (pgs_cons (pg_name (i := 1) sc.nd rfl (by first | exact Or.inl rfl | exact Or.inr rfl)) (pgs_cons (pg_name (i := 2) sc.nd rfl (by first | exact Or.inl rfl | exact Or.inr rfl)) pgs_nil))) (fun x67 x68 a66 => (bj_ifr (tj_not (tj_val (ej_callD d_are_numbers (hr.mono (by decide)) gu (aj_cons (ej_vk 2) (aj_cons (ej_call1 call_lenD' rc_len mb_len (ej_ix ix_seq rd_ix (ej_vk 0) ej_int (fun _ _ => rfl))) (aj_cons (ej_gint mc_MAX_COUNT) aj_nil)))))) (fj_ret (ej_tup (dj_cons (ej_vk 1) (dj_cons ej_str dj_nil)))) (bj_nil (a := ()) ⟨.inr rfl, .inl rfl, .inl rfl, trivial⟩))) ⟨.inr rfl, .inl rfl, .inl rfl, trivial⟩) (fun a69 => (fj_ret ej_non)))))
abbrev s_find_excess : Stmt := top 23
theorem sc_find_excess : FnScope ["stock", "caps", "plan", "drawers"] ["stock", "caps", "plan"] (defScope s_find_excess) := ⟨rfl, rfl, rfl, by decide +kernel, rfl, by decide +kernel, by decide +kernel⟩
def m_find_excess (p_stock p_caps p_plan : D) : Option D := (forM1 (seqM ((argV (op1 lenD (pure p_stock)) (pure [])) >>= M_sets_of)) () (fun x71 (a70 : Unit) => (iteM (tst ((argV (pure p_stock) (argV (pure p_caps) (argV (pure p_plan) (argV (pure x71) (pure []))))) >>= M_takes_more)) (rtM (pure x71)) (pure (.nx ())))) >>= fun f => thenM f fun (a72 : Unit) => (pure .none))
def M_find_excess : List Sl → Option D := ar3 m_find_excess
theorem ok_find_excess {f : Addr} {fd : FuncData} (F : Fun K "find_excess" "find_excess" s_find_excess f fd) (hy : SysAt base) (d_sets_of : Def P w K mg base 1 "sets_of" ["count"] (spJ K M_sets_of)) (d_takes_more : Def P w K mg base 2 "takes_more" ["stock", "caps", "plan", "drawers"] (spJ K M_takes_more)) (mb_len : mg "len" = none) : FnG P w K mg base 3 f fd ["stock", "caps", "plan"] (spJ K M_find_excess) := by
  have sc := sc_find_excess
  exact fn_ar3 F sc rfl fun p_stock p_caps p_plan cdv A outer s H E hr gu => (fj_of_for (for1 3 (P := fun (a70 : Unit) => [.val p_stock, .val p_caps, .val p_plan, .any]) (a0 := ()) PassesOwn.never (ij_seq (ej_callD d_sets_of (hr.mono (by decide)) gu (aj_cons (ej_call1 call_lenD' rc_len mb_len (ej_vk 0)) aj_nil))) (pg_name (i := 3) sc.nd rfl (by first | exact Or.inl rfl | exact Or.inr rfl)) (fun x71 a70 => (bj_ifr (tj_val (ej_callD d_takes_more (hr.mono (by decide)) gu (aj_cons (ej_vk 0) (aj_cons (ej_vk 1) (aj_cons (ej_vk 2) (aj_cons (ej_vk 3) aj_nil)))))) (fj_ret (ej_vk 3)) (bj_nil (a := ()) ⟨.inr rfl, .inr rfl, .inr rfl, .inl rfl, trivial⟩))) ⟨.inr rfl, .inr rfl, .inr rfl, .inl rfl, trivial⟩) (fun a72 => (fj_ret ej_non)))
abbrev s_draw_within : Stmt := top 27
theorem sc_draw_within : FnScope ["stock", "caps", "plan", "task", "found", "drawer", "row", "own", "kind", "count"] ["stock", "caps", "plan"] (defScope s_draw_within) := ⟨rfl, rfl, rfl, by decide +kernel, rfl, by decide +kernel, by decide +kernel⟩
def m_draw_within (p_stock p_caps p_plan : D) : Option D := ((parM (tupM (consM (pure p_stock) (consM (pure p_caps) (consM (pure p_plan) (pure []))))) (pure [])) >>= fun v73 => (forM2 (enumM (pure p_stock)) (v73.1, v73.2) (fun x75 x76 (a74 : D × List D) => ((pure []) >>= fun v77 => (forM1 (rng1 (op1 lenD (pure x76))) (a74.1, v77) (fun x79 (a78 : D × List D) => (((argV (pure a78.1) (argV (pure x75) (argV (pure x79) (pure [])))) >>= M_most_taken) >>= fun v80 => (((argV (pure a78.1) (argV (pure x75) (argV (pure x79) (argV (pure v80) (pure []))))) >>= M_after_taking) >>= fun v81 => (((pure v80) >>= fun d => Mo.lift (fits a78.2.length) >>= fun _ => pure d) >>= fun v82 => (pure (.nx (v81, (a78.2 ++ [v82])))))))) >>= fun f => thenB f fun (a83 : D × List D) => (((op1 tupleD (pure (PyData.list a83.2))) >>= fun d => Mo.lift (fits a74.2.length) >>= fun _ => pure d) >>= fun v84 => (pure (.nx (a83.1, (a74.2 ++ [v84])))))))) >>= fun f => thenM f fun (a85 : D × List D) => (op1 tupleD (pure (PyData.list a85.2)))))
def M_draw_within : List Sl → Option D := ar3 m_draw_within
theorem ok_draw_within {f : Addr} {fd : FuncData} (F : Fun K "draw_within" "draw_within" s_draw_within f fd) (hy : SysAt base) (d_after_taking : Def P w K mg base 2 "after_taking" ["task", "drawer", "kind", "count"] (spJ K M_after_taking)) (d_most_taken : Def P w K mg base 2 "most_taken" ["task", "drawer", "kind"] (spJ K M_most_taken)) (mb_enumerate : mg "enumerate" = none) (mb_len : mg "len" = none) (mb_range : mg "range" = none) (mb_tuple : mg "tuple" = none) : FnG P w K mg base 3 f fd ["stock", "caps", "plan"] (spJ K M_draw_within) := by
  have sc := sc_draw_within
  exact fn_ar3 F sc rfl fun p_stock p_caps p_plan cdv A outer s H E hr gu => (fj_seq (sj_parO 3 4 sc.nd (ej_tup (dj_cons (ej_vk 0) (dj_cons (ej_vk 1) (dj_cons (ej_vk 2) dj_nil)))) (lj_lst dj_nil)) (fun v73 => (fj_of_for (for2 5 6 (P := fun (a74 : D × List D) => [.val p_stock, .val p_caps, .val p_plan, .val a74.1, .own a74.2, .any, .any, .any, .any, .any]) (a0 := (v73.1, v73.2)) PassesOwn.never (ij_enum mb_enumerate (ej_vk 0)) (pg_tup rfl (pgs_cons (pg_name (i := 5) sc.nd rfl (by first | exact Or.inl rfl | exact Or.inr rfl)) (pgs_cons (pg_name (i := 6) sc.nd rfl (by first | exact Or.inl rfl | exact Or.inr rfl)) pgs_nil))) (fun x75 x76 a74 => (bj_seq (sj_setO 7 sc.nd (lj_lst dj_nil)) (fun v77 => (bj_of_for (for1 8 (P := fun (a78 : D × List D) => [.val p_stock, .val p_caps, .val p_plan, .val a78.1, .own a74.2, .val x75, .val x76, .own a78.2, .any, .any]) (a0 := (a74.1, v77)) PassesOwn.never (ij_range1 mb_range (ej_call1 call_lenD' rc_len mb_len (ej_vk 6))) (pg_name (i := 8) sc.nd rfl (by first | exact Or.inl rfl | exact Or.inr rfl)) (fun x79 a78 => (bj_seq (sj_set 9 sc.nd (ej_callD d_most_taken (hr.mono (by decide)) gu (aj_cons (ej_vk 3) (aj_cons (ej_vk 5) (aj_cons (ej_vk 8) aj_nil))))) (fun v80 => (bj_seq (sj_set 3 sc.nd (ej_callD d_after_taking (hr.mono (by decide)) gu (aj_cons (ej_vk 3) (aj_cons (ej_vk 5) (aj_cons (ej_vk 8) (aj_cons (ej_vk 9) aj_nil)))))) (fun v81 => (bj_seq (sj_append 7 (ej_vk 9)) (fun v82 => (bj_nil (a := (v81, (a78.2 ++ [v82]))) ⟨.inr rfl, .inr rfl, .inr rfl, .inr rfl, .inr rfl, .inr rfl, .inr rfl, .inr rfl, .inl rfl, .inl rfl, trivial⟩)))))))) ⟨.inr rfl, .inr rfl, .inr rfl, .inr rfl, .inr rfl, .inr rfl, .inr rfl, .inr rfl, .inl rfl, .inl rfl, trivial⟩) (fun a83 => (bj_fr 7 (bj_seq (sj_append 4 (ej_callT call_tuple_of rc_tuple mb_tuple (ej_vk 7))) (fun v84 => (bj_nil (a := (a83.1, (a74.2 ++ [v84]))) ⟨.inr rfl, .inr rfl, .inr rfl, .inr rfl, .inr rfl, .inl rfl, .inl rfl, .inl rfl, .inl rfl, .inl rfl, trivial⟩))))))))) ⟨.inr rfl, .inr rfl, .inr rfl, .inr rfl, .inr rfl, .inl rfl, .inl rfl, .inl rfl, .inl rfl, .inl rfl, trivial⟩) (fun a85 => (fj_fr 4 (fj_ret (ej_callT call_tuple_of rc_tuple mb_tuple (ej_vk 4))))))))
abbrev s_sure_total : Stmt := top 30
theorem sc_sure_total : FnScope ["stock", "collections", "drawers", "rooms", "spoiling"] ["stock", "collections"] (defScope s_sure_total) := ⟨rfl, rfl, rfl, by decide +kernel, rfl, by decide +kernel, by decide +kernel⟩
def m_sure_total (p_stock p_collections : D) : Option D := (iteM (cmp2 isD ((argV (pure p_collections) (argV ((argV (pure p_stock) (pure [])) >>= M_totals_of) (pure []))) >>= M_fulfilled_by) (pure .none)) (pure .none) ((op1 tupleD (lstM (lrg1M (op1 lenD (pure p_stock))))) >>= fun v86 => ((comp1 (seqM ((argV (pure p_collections) (pure [])) >>= M_spoilings_of)) (fun c88 => ((argV (pure p_stock) (argV ((argV (pure p_collections) (argV (pure c88) (pure []))) >>= M_caps_of) (argV (pure v86) (pure [])))) >>= M_room_in))) >>= fun v87 => (op2 addD (op1 maxD (pure (PyData.list v87))) (pure (.int 1))))))
def M_sure_total : List Sl → Option D := ar2 m_sure_total
theorem ok_sure_total {f : Addr} {fd : FuncData} (F : Fun K "sure_total" "sure_total" s_sure_total f fd) (hy : SysAt base) (d_caps_of : Def P w K mg base 1 "caps_of" ["collections", "spoiling"] (spJ K M_caps_of)) (d_fulfilled_by : Def P w K mg base 2 "fulfilled_by" ["collections", "counts"] (spJ K M_fulfilled_by)) (d_room_in : Def P w K mg base 1 "room_in" ["stock", "caps", "drawers"] (spJ K M_room_in)) (d_spoilings_of : Def P w K mg base 1 "spoilings_of" ["collections"] (spJ K M_spoilings_of)) (d_totals_of : Def P w K mg base 1 "totals_of" ["stock"] (spJ K M_totals_of)) (mb_len : mg "len" = none) (mb_list : mg "list" = none) (mb_max : mg "max" = none) (mb_range : mg "range" = none) (mb_tuple : mg "tuple" = none) : FnG P w K mg base 3 f fd ["stock", "collections"] (spJ K M_sure_total) := by
  have sc := sc_sure_total
  exact fn_ar2 F sc rfl fun p_stock p_collections cdv A outer s H E hr gu => (fj_ifr (tj_cmp op_isN rd_is (ej_callD d_fulfilled_by (hr.mono (by decide)) gu (aj_cons (ej_vk 1) (aj_cons (ej_callD d_totals_of (hr.mono (by decide)) gu (aj_cons (ej_vk 0) aj_nil)) aj_nil))) ej_non) (fj_ret ej_non) (fj_seq (sj_set 2 sc.nd (ej_callT call_tuple_of rc_tuple mb_tuple (ej_l (lj_lrg1 mb_list mb_range (ej_call1 call_lenD' rc_len mb_len (ej_vk 0)))))) (fun v86 => (fj_seq (sj_lcV 3 sc.nd (lj_lc1 [("spoiling", 4)] 4 sc.nd (ij_seq (ej_callD d_spoilings_of (hr.mono (by decide)) gu (aj_cons (ej_vk 1) aj_nil))) (blk_of (by kernel_rfl)) (fun _ _ _ _ _ => pg_name (i := 4) sc.nd rfl (by first | exact Or.inl rfl | exact Or.inr rfl)) (fun _ _ _ _ _ c88 => (ej_callD d_room_in (hr.mono (by decide)) gu (aj_cons (ej_vk 0) (aj_cons (ej_callD d_caps_of (hr.mono (by decide)) gu (aj_cons (ej_vk 1) (aj_cons (ej_vk 4) aj_nil))) (aj_cons (ej_vk 2) aj_nil)))))) (by kernel_rfl)) (fun v87 => (fj_ret (ej_bin op_addD rd_add (ej_call1 (call_maxD rfl) rc_max mb_max (ej_vk 3)) ej_int)))))))
abbrev s__law_stock : Stmt := top 36
theorem sc__law_stock : FnScope ["_law_deck_here", "_law_most", "_law_high", "_law_kinds", "_law_count", "_law_k"] ["_law_deck_here", "_law_most", "_law_high", "_law_kinds"] (defScope s__law_stock) := ⟨rfl, rfl, rfl, by decide +kernel, rfl, by decide +kernel, by decide +kernel⟩
def m__law_stock (p_most p_high p_kinds : D) : W D := ((op2 getD (lstM (consM (op2 addD (pure (.int 1)) ((argK (argV (pure p_most) (pure []))) >>= drawW)) (consM (pure p_most) (pure [])))) ((argK (argV (pure (.int 2)) (pure []))) >>= drawW)) >>= fun v89 => (op1 tupleD (lstM (comp1 (rng1 (pure v89)) (fun c90 => ((argK (argV (pure p_kinds) (argV (pure p_high) (pure [])))) >>= M__law_counts))))))
def M__law_stock : List Sl → W D := dk3 m__law_stock
theorem ok__law_stock {f : Addr} {fd : FuncData} (F : Fun K "_law_stock" "_law_stock" s__law_stock f fd) (hy : SysAt base) (d__law_counts : Def P w K mg base 2 "_law_counts" ["_law_deck_here", "_law_kinds", "_law_most"] (spJ K M__law_counts)) (d__law_draw : Def P w K mg base 1 "_law_draw" ["_law_deck_here", "_law_limit"] (spJ K drawW)) (mb_range : mg "range" = none) (mb_tuple : mg "tuple" = none) : FnG P w K mg base 3 f fd ["_law_deck_here", "_law_most", "_law_high", "_law_kinds"] (spJ K M__law_stock) := by
  have sc := sc__law_stock
  exact fn_dk3 F sc rfl fun p_most p_high p_kinds cdv A outer s H E hr gu => (fj_seq (sj_set 4 sc.nd (ej_ix ix_seq rd_ix (ej_l (lj_lst (dj_cons (ej_bin op_addD rd_add ej_int (ej_callD d__law_draw (hr.mono (by decide)) gu (aj_dk 0 (aj_cons (ej_vk 1) aj_nil)))) (dj_cons (ej_vk 1) dj_nil)))) (ej_callD d__law_draw (hr.mono (by decide)) gu (aj_dk 0 (aj_cons ej_int aj_nil))) (fun _ _ => rfl))) (fun v89 => (fj_ret (ej_callT call_tuple_of rc_tuple mb_tuple (ej_l (LcP.expr (lj_lc1 [("_law_k", 5)] 5 sc.nd (ij_range1 mb_range (ej_vk 4)) (blk_of (by kernel_rfl)) (fun _ _ _ _ _ => pg_name (i := 5) sc.nd rfl (by first | exact Or.inl rfl | exact Or.inr rfl)) (fun _ _ _ _ _ c90 => (ej_callD d__law_counts (hr.mono (by decide)) gu (aj_dk 0 (aj_cons (ej_vk 3) (aj_cons (ej_vk 2) aj_nil))))))))))))
abbrev s__law_wishes : Stmt := top 37
theorem sc__law_wishes : FnScope ["_law_deck_here", "_law_most", "_law_high", "_law_kinds", "_law_found", "_law_k", "_law_needed", "_law_spot"] ["_law_deck_here", "_law_most", "_law_high", "_law_kinds"] (defScope s__law_wishes) := ⟨rfl, rfl, rfl, by decide +kernel, rfl, by decide +kernel, by decide +kernel⟩
def m__law_wishes (p_most p_high p_kinds : D) : W D := ((pure []) >>= fun v91 => (forM1 (rng1 (op2 getD (lstM (consM (op2 addD (pure (.int 1)) ((argK (argV (pure p_most) (pure []))) >>= drawW)) (consM (pure p_most) (pure [])))) ((argK (argV (pure (.int 2)) (pure []))) >>= drawW))) v91 (fun x93 (a92 : List D) => ((parM ((argK (argV (pure p_kinds) (argV (pure p_high) (pure [])))) >>= M__law_counts) ((argK (argV (pure p_kinds) (pure []))) >>= drawW)) >>= fun v94 => ((cmp2 eqD (op1 maxD (pure v94.1)) (pure (.int 0))) >>= fun k => (if k = true then ((op2 addD (op2 addD (slcM (pure v94.1) (pure none) (partM (pure v94.2))) (tupM (consM (op2 addD (pure (.int 1)) ((argK (argV (pure p_high) (pure []))) >>= drawW)) (pure [])))) (slcM (pure v94.1) (partM (op2 addD (pure v94.2) (pure (.int 1)))) (pure none))) >>= fun v96 => (pure (.nx v96))) else (pure (.nx v94.1))) >>= fun f => thenB f fun (a95 : D) => (((pure a95) >>= fun d => Mo.lift (fits a92.length) >>= fun _ => pure d) >>= fun v97 => ((cmp2 eqD ((argK (argV (pure (.int 6)) (pure []))) >>= drawW) (pure (.int 0))) >>= fun k => (if k = true then (((rdM (op2 getD (pure (PyData.list (a92 ++ [v97]))) (pure (.int 0)))) >>= fun d => (op1 negD (pure (.int 1))) >>= fun j => Mo.lift (putD (a92 ++ [v97]) j d)) >>= fun v99 => (pure (.nx v99))) else (pure (.nx (a92 ++ [v97])))) >>= fun f => thenB f fun (a98 : List D) => (pure (.nx a98))))))) >>= fun f => thenM f fun (a100 : List D) => (op1 tupleD (pure (PyData.list a100)))))
def M__law_wishes : List Sl → W D := dk3 m__law_wishes
theorem ok__law_wishes {f : Addr} {fd : FuncData} (F : Fun K "_law_wishes" "_law_wishes" s__law_wishes f fd) (hy : SysAt base) (d__law_counts : Def P w K mg base 2 "_law_counts" ["_law_deck_here", "_law_kinds", "_law_most"] (spJ K M__law_counts)) (d__law_draw : Def P w K mg base 1 "_law_draw" ["_law_deck_here", "_law_limit"] (spJ K drawW)) (mb_max : mg "max" = none) (mb_range : mg "range" = none) (mb_tuple : mg "tuple" = none) : FnG P w K mg base 3 f fd ["_law_deck_here", "_law_most", "_law_high", "_law_kinds"] (spJ K M__law_wishes) := by
  have sc := sc__law_wishes
  exact fn_dk3 F sc rfl fun p_most p_high p_kinds cdv A outer s H E hr gu => (fj_seq (sj_setO 4 sc.nd (lj_lst dj_nil)) (fun v91 => (fj_of_for (for1 5 (P := fun (a92 : List D) => [.deck, .val p_most, .val p_high, .val p_kinds, .own a92, .any, .any, .any]) (a0 := v91) PassesOwn.never (ij_range1 mb_range (ej_ix ix_seq rd_ix (ej_l (lj_lst (dj_cons (ej_bin op_addD rd_add ej_int (ej_callD d__law_draw (hr.mono (by decide)) gu (aj_dk 0 (aj_cons (ej_vk 1) aj_nil)))) (dj_cons (ej_vk 1) dj_nil)))) (ej_callD d__law_draw (hr.mono (by decide)) gu (aj_dk 0 (aj_cons ej_int aj_nil))) (fun _ _ => rfl))) (pg_name (i := 5) sc.nd rfl (by first | exact Or.inl rfl | exact Or.inr rfl)) (fun x93 a92 => (bj_seq (sj_par 6 7 sc.nd (ej_callD d__law_counts (hr.mono (by decide)) gu (aj_dk 0 (aj_cons (ej_vk 3) (aj_cons (ej_vk 2) aj_nil)))) (ej_callD d__law_draw (hr.mono (by decide)) gu (aj_dk 0 (aj_cons (ej_vk 3) aj_nil)))) (fun v94 => (bj_if (P := fun (a95 : D) => [.deck, .val p_most, .val p_high, .val p_kinds, .own a92, .val x93, .val a95, .val v94.2]) (tj_cmp (by exact op_eqA hy (units_of hr)) rd_eq (ej_call1 (call_maxD rfl) rc_max mb_max (ej_vk 6)) ej_int) (bj_seq (sj_set 6 sc.nd (ej_bin op_addD rd_add (ej_bin op_addD rd_add (ej_slice (ej_vk 6) oj_none (oj_some (ej_vk 7))) (ej_tup (dj_cons (ej_bin op_addD rd_add ej_int (ej_callD d__law_draw (hr.mono (by decide)) gu (aj_dk 0 (aj_cons (ej_vk 2) aj_nil)))) dj_nil))) (ej_slice (ej_vk 6) (oj_some (ej_bin op_addD rd_add (ej_vk 7) ej_int)) oj_none))) (fun v96 => (bj_nil (a := v96) ⟨.inr rfl, .inr rfl, .inr rfl, .inr rfl, .inr rfl, .inr rfl, .inr rfl, .inr rfl, trivial⟩))) (bj_nil (a := v94.1) ⟨.inr rfl, .inr rfl, .inr rfl, .inr rfl, .inr rfl, .inr rfl, .inr rfl, .inr rfl, trivial⟩) (fun a95 => (bj_seq (sj_append 4 (ej_vk 6)) (fun v97 => (bj_if (P := fun (a98 : List D) => [.deck, .val p_most, .val p_high, .val p_kinds, .own a98, .val x93, .val a95, .val v94.2]) (tj_cmp (by exact op_eqA hy (units_of hr)) rd_eq (ej_callD d__law_draw (hr.mono (by decide)) gu (aj_dk 0 (aj_cons ej_int aj_nil))) ej_int) (bj_seq (sj_put 4 (ej_rd (ej_ix ix_seq rd_ix (ej_vk 4) ej_int (fun _ _ => rfl))) (ej_un un_neg ru_neg ej_int)) (fun v99 => (bj_nil (a := v99) ⟨.inr rfl, .inr rfl, .inr rfl, .inr rfl, .inr rfl, .inr rfl, .inr rfl, .inr rfl, trivial⟩))) (bj_nil (a := (a92 ++ [v97])) ⟨.inr rfl, .inr rfl, .inr rfl, .inr rfl, .inr rfl, .inr rfl, .inr rfl, .inr rfl, trivial⟩) (fun a98 => (bj_nil (a := a98) ⟨.inr rfl, .inr rfl, .inr rfl, .inr rfl, .inr rfl, .inl rfl, .inl rfl, .inl rfl, trivial⟩)))))))))) ⟨.inr rfl, .inr rfl, .inr rfl, .inr rfl, .inr rfl, .inl rfl, .inl rfl, .inl rfl, trivial⟩) (fun a100 => (fj_fr 4 (fj_ret (ej_callT call_tuple_of rc_tuple mb_tuple (ej_vk 4))))))))
abbrev s_is_stock : Stmt := top 10
theorem sc_is_stock : FnScope ["value"] ["value"] (defScope s_is_stock) := ⟨rfl, rfl, rfl, by decide +kernel, rfl, by decide +kernel, by decide +kernel⟩
def m_is_stock (p_value : D) : Option D := (op2 isD ((argV (pure p_value) (pure [])) >>= M_stock_error) (pure .none))
def M_is_stock : List Sl → Option D := ar1 m_is_stock
theorem ok_is_stock {f : Addr} {fd : FuncData} (F : Fun K "is_stock" "is_stock" s_is_stock f fd) (hy : SysAt base) (d_stock_error : Def P w K mg base 3 "stock_error" ["value"] (spJ K M_stock_error)) : FnG P w K mg base 4 f fd ["value"] (spJ K M_is_stock) := by
  have sc := sc_is_stock
  exact fn_ar1 F sc rfl fun p_value cdv A outer s H E hr gu => (fj_ret (ej_cmp op_isN rd_is (ej_callD d_stock_error (hr.mono (by decide)) gu (aj_cons (ej_vk 0) aj_nil)) ej_non))
abbrev s_find_certificate : Stmt := top 28
theorem sc_find_certificate : FnScope ["stock", "collections", "plan", "table", "spoiling", "caps", "drawers"] ["stock", "collections", "plan"] (defScope s_find_certificate) := ⟨rfl, rfl, rfl, by decide +kernel, rfl, by decide +kernel, by decide +kernel⟩
def m_find_certificate (p_stock p_collections p_plan : D) : Option D := ((pure []) >>= fun v101 => (forM1 (seqM ((argV (pure p_collections) (pure [])) >>= M_spoilings_of)) v101 (fun x103 (a102 : List D) => (((argV (pure p_collections) (argV (pure x103) (pure []))) >>= M_caps_of) >>= fun v104 => (((argV (pure p_stock) (argV (pure v104) (argV (pure p_plan) (pure [])))) >>= M_find_excess) >>= fun v105 => (iteM (cmp2 isD (pure v105) (pure .none)) (rtM (tupM (consM (pure (.str "draw")) (consM ((argV (pure p_stock) (argV (pure v104) (argV (pure p_plan) (pure [])))) >>= M_draw_within) (pure []))))) (((pure v105) >>= fun d => Mo.lift (fits a102.length) >>= fun _ => pure d) >>= fun v106 => (pure (.nx (a102 ++ [v106])))))))) >>= fun f => thenM f fun (a107 : List D) => (tupM (consM (pure (.str "table")) (consM (op1 tupleD (pure (PyData.list a107))) (pure []))))))
def M_find_certificate : List Sl → Option D := ar3 m_find_certificate
theorem ok_find_certificate {f : Addr} {fd : FuncData} (F : Fun K "find_certificate" "find_certificate" s_find_certificate f fd) (hy : SysAt base) (d_caps_of : Def P w K mg base 1 "caps_of" ["collections", "spoiling"] (spJ K M_caps_of)) (d_draw_within : Def P w K mg base 3 "draw_within" ["stock", "caps", "plan"] (spJ K M_draw_within)) (d_find_excess : Def P w K mg base 3 "find_excess" ["stock", "caps", "plan"] (spJ K M_find_excess)) (d_spoilings_of : Def P w K mg base 1 "spoilings_of" ["collections"] (spJ K M_spoilings_of)) (mb_tuple : mg "tuple" = none) : FnG P w K mg base 4 f fd ["stock", "collections", "plan"] (spJ K M_find_certificate) := by
  have sc := sc_find_certificate
  exact fn_ar3 F sc rfl fun p_stock p_collections p_plan cdv A outer s H E hr gu => (fj_seq (sj_setO 3 sc.nd (lj_lst dj_nil)) (fun v101 => (fj_of_for (for1 4 (P := fun (a102 : List D) => [.val p_stock, .val p_collections, .val p_plan, .own a102, .any, .any, .any]) (a0 := v101) PassesOwn.never (ij_seq (ej_callD d_spoilings_of (hr.mono (by decide)) gu (aj_cons (ej_vk 1) aj_nil))) (pg_name (i := 4) sc.nd rfl (by first | exact Or.inl rfl | exact Or.inr rfl)) (fun x103 a102 => (bj_seq (sj_set 5 sc.nd (ej_callD d_caps_of (hr.mono (by decide)) gu (aj_cons (ej_vk 1) (aj_cons (ej_vk 4) aj_nil)))) (fun v104 => (bj_seq (sj_set 6 sc.nd (ej_callD d_find_excess (hr.mono (by decide)) gu (aj_cons (ej_vk 0) (aj_cons (ej_vk 5) (aj_cons (ej_vk 2) aj_nil))))) (fun v105 => (bj_ifr (tj_cmp op_isN rd_is (ej_vk 6) ej_non) (fj_ret (ej_tup (dj_cons ej_str (dj_cons (ej_callD d_draw_within (hr.mono (by decide)) gu (aj_cons (ej_vk 0) (aj_cons (ej_vk 5) (aj_cons (ej_vk 2) aj_nil)))) dj_nil)))) (bj_seq (sj_append 3 (ej_vk 6)) (fun v106 => (bj_nil (a := (a102 ++ [v106])) ⟨.inr rfl, .inr rfl, .inr rfl, .inr rfl, .inl rfl, .inl rfl, .inl rfl, trivial⟩))))))))) ⟨.inr rfl, .inr rfl, .inr rfl, .inr rfl, .inl rfl, .inl rfl, .inl rfl, trivial⟩) (fun a107 => (fj_fr 3 (fj_ret (ej_tup (dj_cons ej_str (dj_cons (ej_callT call_tuple_of rc_tuple mb_tuple (ej_vk 3)) dj_nil)))))))))
abbrev s_sure_number : Stmt := top 31
theorem sc_sure_number : FnScope ["stock", "collections", "drawer"] ["stock", "collections", "drawer"] (defScope s_sure_number) := ⟨rfl, rfl, rfl, by decide +kernel, rfl, by decide +kernel, by decide +kernel⟩
def m_sure_number (p_stock p_collections p_drawer : D) : Option D := ((argV (tupM (consM (op2 getD (pure p_stock) (pure p_drawer)) (pure []))) (argV (pure p_collections) (pure []))) >>= M_sure_total)
def M_sure_number : List Sl → Option D := ar3 m_sure_number
theorem ok_sure_number {f : Addr} {fd : FuncData} (F : Fun K "sure_number" "sure_number" s_sure_number f fd) (hy : SysAt base) (d_sure_total : Def P w K mg base 3 "sure_total" ["stock", "collections"] (spJ K M_sure_total)) : FnG P w K mg base 4 f fd ["stock", "collections", "drawer"] (spJ K M_sure_number) := by
  have sc := sc_sure_number
  exact fn_ar3 F sc rfl fun p_stock p_collections p_drawer cdv A outer s H E hr gu => (fj_ret (ej_callD d_sure_total (hr.mono (by decide)) gu (aj_cons (ej_tup (dj_cons (ej_ix ix_seq rd_ix (ej_vk 0) (ej_vk 2) (fun _ _ => rfl)) dj_nil)) (aj_cons (ej_vk 1) aj_nil))))
abbrev s_is_sure : Stmt := top 29
theorem sc_is_sure : FnScope ["stock", "collections", "plan"] ["stock", "collections", "plan"] (defScope s_is_sure) := ⟨rfl, rfl, rfl, by decide +kernel, rfl, by decide +kernel, by decide +kernel⟩
def m_is_sure (p_stock p_collections p_plan : D) : Option D := (op2 eqD (op2 getD ((argV (pure p_stock) (argV (pure p_collections) (argV (pure p_plan) (pure [])))) >>= M_find_certificate) (pure (.int 0))) (pure (.str "table")))
def M_is_sure : List Sl → Option D := ar3 m_is_sure
theorem ok_is_sure {f : Addr} {fd : FuncData} (F : Fun K "is_sure" "is_sure" s_is_sure f fd) (hy : SysAt base) (d_find_certificate : Def P w K mg base 4 "find_certificate" ["stock", "collections", "plan"] (spJ K M_find_certificate)) : FnG P w K mg base 5 f fd ["stock", "collections", "plan"] (spJ K M_is_sure) := by
  have sc := sc_is_sure
  exact fn_ar3 F sc rfl fun p_stock p_collections p_plan cdv A outer s H E hr gu => (fj_ret (ej_cmp (by exact op_eqA hy (units_of hr)) rd_eq (ej_ix ix_seq rd_ix (ej_callD d_find_certificate (hr.mono (by decide)) gu (aj_cons (ej_vk 0) (aj_cons (ej_vk 1) (aj_cons (ej_vk 2) aj_nil)))) ej_int (fun _ _ => rfl)) ej_str))
abbrev s__law_kept_right : Stmt := top 38
theorem sc__law_kept_right : FnScope ["_law_stock_here", "_law_other", "_law_wishes_here", "_law_named", "_law_caps"] ["_law_stock_here", "_law_other", "_law_wishes_here"] (defScope s__law_kept_right) := ⟨rfl, rfl, rfl, by decide +kernel, rfl, by decide +kernel, by decide +kernel⟩
def m__law_kept_right (p_stock_here p_other p_wishes_here : D) : Option D := (iteM (orB (notB (tst ((argV (pure p_other) (pure [])) >>= M_is_stock))) (cmp2 neD ((argV (pure p_other) (pure [])) >>= M_totals_of) ((argV (pure p_stock_here) (pure [])) >>= M_totals_of))) (pure (.bool false)) (iteM (cmp2 neD ((argV (pure p_other) (argV (pure p_wishes_here) (pure []))) >>= M_sure_total) ((argV (pure p_stock_here) (argV (pure p_wishes_here) (pure []))) >>= M_sure_total)) (pure (.bool false)) (forM1 (seqM (slcM ((argV (pure p_wishes_here) (pure [])) >>= M_spoilings_of) (pure none) (partM (pure (.int 9))))) () (fun x109 (a108 : Unit) => (((argV (pure p_wishes_here) (argV (pure x109) (pure []))) >>= M_caps_of) >>= fun v110 => (iteM (cmp2 neD ((argV (pure p_stock_here) (argV (pure v110) (argV (trg1M (op1 lenD (pure p_stock_here))) (pure [])))) >>= M_room_in) ((argV (pure p_other) (argV (pure v110) (argV (trg1M (op1 lenD (pure p_other))) (pure [])))) >>= M_room_in)) (rtM (pure (.bool false))) (pure (.nx ()))))) >>= fun f => thenM f fun (a111 : Unit) => (pure (.bool true)))))
def M__law_kept_right : List Sl → Option D := ar3 m__law_kept_right
theorem ok__law_kept_right {f : Addr} {fd : FuncData} (F : Fun K "_law_kept_right" "_law_kept_right" s__law_kept_right f fd) (hy : SysAt base) (d_caps_of : Def P w K mg base 1 "caps_of" ["collections", "spoiling"] (spJ K M_caps_of)) (d_is_stock : Def P w K mg base 4 "is_stock" ["value"] (spJ K M_is_stock)) (d_room_in : Def P w K mg base 1 "room_in" ["stock", "caps", "drawers"] (spJ K M_room_in)) (d_spoilings_of : Def P w K mg base 1 "spoilings_of" ["collections"] (spJ K M_spoilings_of)) (d_sure_total : Def P w K mg base 3 "sure_total" ["stock", "collections"] (spJ K M_sure_total)) (d_totals_of : Def P w K mg base 1 "totals_of" ["stock"] (spJ K M_totals_of)) (mb_len : mg "len" = none) (mb_range : mg "range" = none) (mb_tuple : mg "tuple" = none) : FnG P w K mg base 5 f fd ["_law_stock_here", "_law_other", "_law_wishes_here"] (spJ K M__law_kept_right) := by
  have sc := sc__law_kept_right
  exact fn_ar3 F sc rfl fun p_stock_here p_other p_wishes_here cdv A outer s H E hr gu => (fj_ifr (tj_w (wj_or (tj_not (tj_val (ej_callD d_is_stock (hr.mono (by decide)) gu (aj_cons (ej_vk 1) aj_nil)))) (wj_or1 (tj_cmp (by exact op_neA hy (units_of hr)) rd_ne (ej_callD d_totals_of (hr.mono (by decide)) gu (aj_cons (ej_vk 1) aj_nil)) (ej_callD d_totals_of (hr.mono (by decide)) gu (aj_cons (ej_vk 0) aj_nil)))))) (fj_ret ej_bl) (fj_ifr (tj_cmp (by exact op_neA hy (units_of hr)) rd_ne (ej_callD d_sure_total (hr.mono (by decide)) gu (aj_cons (ej_vk 1) (aj_cons (ej_vk 2) aj_nil))) (ej_callD d_sure_total (hr.mono (by decide)) gu (aj_cons (ej_vk 0) (aj_cons (ej_vk 2) aj_nil)))) (fj_ret ej_bl) (fj_of_for (for1 3 (P := fun (a108 : Unit) => [.val p_stock_here, .val p_other, .val p_wishes_here, .any, .any]) (a0 := ()) PassesOwn.never (ij_seq (ej_slice (ej_callD d_spoilings_of (hr.mono (by decide)) gu (aj_cons (ej_vk 2) aj_nil)) oj_none (oj_some ej_int))) (pg_name (i := 3) sc.nd rfl (by first | exact Or.inl rfl | exact Or.inr rfl)) (fun x109 a108 => (bj_seq (sj_set 4 sc.nd (ej_callD d_caps_of (hr.mono (by decide)) gu (aj_cons (ej_vk 2) (aj_cons (ej_vk 3) aj_nil)))) (fun v110 => (bj_ifr (tj_cmp (by exact op_neA hy (units_of hr)) rd_ne (ej_callD d_room_in (hr.mono (by decide)) gu (aj_cons (ej_vk 0) (aj_cons (ej_vk 4) (aj_cons (ej_trg1 mb_tuple mb_range (ej_call1 call_lenD' rc_len mb_len (ej_vk 0))) aj_nil)))) (ej_callD d_room_in (hr.mono (by decide)) gu (aj_cons (ej_vk 1) (aj_cons (ej_vk 4) (aj_cons (ej_trg1 mb_tuple mb_range (ej_call1 call_lenD' rc_len mb_len (ej_vk 1))) aj_nil))))) (fj_ret ej_bl) (bj_nil (a := ()) ⟨.inr rfl, .inr rfl, .inr rfl, .inl rfl, .inl rfl, trivial⟩))))) ⟨.inr rfl, .inr rfl, .inr rfl, .inl rfl, .inl rfl, trivial⟩) (fun a111 => (fj_ret ej_bl)))))
abbrev s__law_divided_right : Stmt := top 39
theorem sc__law_divided_right : FnScope ["_law_deck_here", "_law_stock_here", "_law_wishes_here", "_law_one", "_law_last", "_law_other", "_law_sizes", "_law_plan", "_law_wide", "_law_total", "_law_part", "_law_size", "_law_k"] ["_law_deck_here", "_law_stock_here", "_law_wishes_here", "_law_one", "_law_last"] (defScope s__law_divided_right) := ⟨rfl, rfl, rfl, by decide +kernel, rfl, by decide +kernel, by decide +kernel⟩
def m__law_divided_right (p_stock_here p_wishes_here p_one p_last : D) : W D := ((parM ((argV (pure p_stock_here) (argV (pure p_one) (argV (pure p_last) (pure [])))) >>= fun as => upW (M_merged as)) ((argV (pure p_stock_here) (pure [])) >>= fun as => upW (M_sizes_of as))) >>= fun v112 => ((comp1 (seqM (pure v112.2)) (fun c114 => ((argK (argV (op2 addD (pure c114) (pure (.int 1))) (pure []))) >>= drawW))) >>= fun v113 => (((rdM (op2 getD (lstM (consM (op2 getD (pure (PyData.list v113)) (pure p_one)) (consM (op2 getD (pure v112.2) (pure p_one)) (pure [])))) ((argK (argV (pure (.int 2)) (pure []))) >>= drawW))) >>= fun d => (pure p_one) >>= fun j => Mo.lift (putD v113 j d)) >>= fun v115 => ((rdLM (comp1i (rng1 (op1 lenD (pure (PyData.list v115)))) (fun c117 => (cmp2 neD (pure c117) (pure p_last))) (fun c117 => (op2 addD (op2 getD (pure (PyData.list v115)) (pure c117)) (op2 mulD (op2 getD (pure (PyData.list v115)) (pure p_last)) (op1 intD (op2 eqD (pure c117) (pure p_one)))))))) >>= fun v116 => (iteM (notB (tst ((argV (pure v112.1) (argV (pure p_wishes_here) (argV (op1 tupleD (pure (PyData.list v116))) (pure [])))) >>= fun as => upW (M_is_sure as)))) (pure (.bool true)) ((rdM (op2 addD (op2 getD (pure (PyData.list v115)) (pure p_one)) (op2 getD (pure (PyData.list v115)) (pure p_last)))) >>= fun v118 => (forM1 (rng2 (op2 max2D (pure (.int 0)) (op2 subD (pure v118) (op2 getD (pure v112.2) (pure p_last)))) (op2 addD (op2 min2D (pure v118) (op2 getD (pure v112.2) (pure p_one))) (pure (.int 1)))) v115 (fun x120 (a119 : List D) => ((put2M a119 (pure x120) (op2 subD (pure v118) (pure x120)) (pure p_one) (fun v121 => (pure p_last))) >>= fun v122 => (iteM (notB (tst ((argV (pure p_stock_here) (argV (pure p_wishes_here) (argV (op1 tupleD (pure (PyData.list v122))) (pure [])))) >>= fun as => upW (M_is_sure as)))) (rtM (pure (.bool false))) (pure (.nx v122))))) >>= fun f => thenM f fun (a123 : List D) => (pure (.bool true)))))))))
def M__law_divided_right : List Sl → W D := dk4 m__law_divided_right
theorem ok__law_divided_right {f : Addr} {fd : FuncData} (F : Fun K "_law_divided_right" "_law_divided_right" s__law_divided_right f fd) (hy : SysAt base) (d__law_draw : Def P w K mg base 1 "_law_draw" ["_law_deck_here", "_law_limit"] (spJ K drawW)) (d_is_sure : Def P w K mg base 5 "is_sure" ["stock", "collections", "plan"] (spJ K M_is_sure)) (d_merged : DefS P w K mg base 2 "merged" (spJ K M_merged)) (d_sizes_of : Def P w K mg base 1 "sizes_of" ["stock"] (spJ K M_sizes_of)) (mb_int : mg "int" = none) (mb_len : mg "len" = none) (mb_max : mg "max" = none) (mb_min : mg "min" = none) (mb_range : mg "range" = none) (mb_tuple : mg "tuple" = none) : FnG P w K mg base 6 f fd ["_law_deck_here", "_law_stock_here", "_law_wishes_here", "_law_one", "_law_last"] (spJ K M__law_divided_right) := by
  have sc := sc__law_divided_right
  exact fn_dk4 F sc rfl fun p_stock_here p_wishes_here p_one p_last cdv A outer s H E hr gu => (fj_seq (sj_par 5 6 sc.nd (ej_callSU d_merged (hr.mono (by decide)) gu (aj_cons (ej_vk 1) (aj_cons (ej_vk 3) (aj_cons (ej_vk 4) aj_nil)))) (ej_callDU d_sizes_of (hr.mono (by decide)) gu (aj_cons (ej_vk 1) aj_nil))) (fun v112 => (fj_seq (sj_setO 7 sc.nd (LcP.expr (lj_lc1 [("_law_size", 11)] 11 sc.nd (ij_seq (ej_vk 6)) (blk_of (by kernel_rfl)) (fun _ _ _ _ _ => pg_name (i := 11) sc.nd rfl (by first | exact Or.inl rfl | exact Or.inr rfl)) (fun _ _ _ _ _ c114 => (ej_callD d__law_draw (hr.mono (by decide)) gu (aj_dk 0 (aj_cons (ej_bin op_addD rd_add (ej_vk 11) ej_int) aj_nil))))))) (fun v113 => (fj_seq (sj_put 7 (ej_rd (ej_ix ix_seq rd_ix (ej_l (lj_lst (dj_cons (ej_ix ix_seq rd_ix (ej_vk 7) (ej_vk 3) (fun _ _ => rfl)) (dj_cons (ej_ix ix_seq rd_ix (ej_vk 6) (ej_vk 3) (fun _ _ => rfl)) dj_nil)))) (ej_callD d__law_draw (hr.mono (by decide)) gu (aj_dk 0 (aj_cons ej_int aj_nil))) (fun _ _ => rfl))) (ej_vk 3)) (fun v115 => (fj_seq (sj_lcV 8 sc.nd (lcp_rd (lj_lc1i [("_law_k", 12)] 12 sc.nd (ij_range1 mb_range (ej_call1 call_lenD' rc_len mb_len (ej_vk 7))) (blk_of (by kernel_rfl)) (fun _ _ _ _ _ => pg_name (i := 12) sc.nd rfl (by first | exact Or.inl rfl | exact Or.inr rfl)) (fun _ _ _ _ _ c117 => (tj_cmp (by exact op_neA hy (units_of hr)) rd_ne (ej_vk 12) (ej_vk 4))) (fun _ _ _ _ _ c117 => (ej_bin op_addD rd_add (ej_ix ix_seq rd_ix (ej_vk 7) (ej_vk 12) (fun _ _ => rfl)) (ej_bin op_mulD rd_mul (ej_ix ix_seq rd_ix (ej_vk 7) (ej_vk 4) (fun _ _ => rfl)) (ej_callT call_int1 rc_int mb_int (ej_cmp (by exact op_eqA hy (units_of hr)) rd_eq (ej_vk 12) (ej_vk 3)))))))) (by kernel_rfl)) (fun v116 => (fj_ifr (tj_not (tj_val (ej_callDU d_is_sure (hr.mono (by decide)) gu (aj_cons (ej_vk 5) (aj_cons (ej_vk 2) (aj_cons (ej_callT call_tuple_of rc_tuple mb_tuple (ej_vk 8)) aj_nil)))))) (fj_ret ej_bl) (fj_seq (sj_set 9 sc.nd (ej_rd (ej_bin op_addD rd_add (ej_ix ix_seq rd_ix (ej_vk 7) (ej_vk 3) (fun _ _ => rfl)) (ej_ix ix_seq rd_ix (ej_vk 7) (ej_vk 4) (fun _ _ => rfl))))) (fun v118 => (fj_of_for (for1 10 (P := fun (a119 : List D) => [.deck, .val p_stock_here, .val p_wishes_here, .val p_one, .val p_last, .val v112.1, .val v112.2, .own a119, .val (PyData.list v116), .val v118, .any, .any, .any]) (a0 := v115) PassesOwn.never (ij_range2 mb_range (ej_call2 (call_max2 rfl) rc_max2 mb_max ej_int (ej_bin op_sub rd_sub (ej_vk 9) (ej_ix ix_seq rd_ix (ej_vk 6) (ej_vk 4) (fun _ _ => rfl)))) (ej_bin op_addD rd_add (ej_call2 (call_min2 rfl) rc_min2 mb_min (ej_vk 9) (ej_ix ix_seq rd_ix (ej_vk 6) (ej_vk 3) (fun _ _ => rfl))) ej_int)) (pg_name (i := 10) sc.nd rfl (by first | exact Or.inl rfl | exact Or.inr rfl)) (fun x120 a119 => (bj_seq (sj_put2 7 (ej_vk 10) (ej_bin op_sub rd_sub (ej_vk 9) (ej_vk 10)) (ej_vk 3) (fun v121 => (ej_vk 4))) (fun v122 => (bj_ifr (tj_rd (tj_not (tj_val (ej_callDU d_is_sure (hr.mono (by decide)) gu (aj_cons (ej_vk 1) (aj_cons (ej_vk 2) (aj_cons (ej_callT call_tuple_of rc_tuple mb_tuple (ej_vk 7)) aj_nil))))))) (fj_ret ej_bl) (bj_nil (a := v122) ⟨.inr rfl, .inr rfl, .inr rfl, .inr rfl, .inr rfl, .inr rfl, .inr rfl, .inr rfl, .inr rfl, .inr rfl, .inl rfl, .inl rfl, .inl rfl, trivial⟩))))) ⟨.inr rfl, .inr rfl, .inr rfl, .inr rfl, .inr rfl, .inr rfl, .inr rfl, .inr rfl, .inr rfl, .inr rfl, .inl rfl, .inl rfl, .inl rfl, trivial⟩) (fun a123 => (fj_ret ej_bl))))))))))))))
abbrev s__law_whole_right : Stmt := top 40
theorem sc__law_whole_right : FnScope ["_law_stock_here", "_law_wishes_here", "_law_whole", "_law_enough", "_law_size", "_law_number"] ["_law_stock_here", "_law_wishes_here"] (defScope s__law_whole_right) := ⟨rfl, rfl, rfl, by decide +kernel, rfl, by decide +kernel, by decide +kernel⟩
def m__law_whole_right (p_stock_here p_wishes_here : D) : Option D := ((parM (pure p_stock_here) ((argV (pure p_stock_here) (argV (pure p_wishes_here) (pure []))) >>= M_sure_total)) >>= fun v124 => ((whileM (fun (a125 : D) => (cmp2 gtD (op1 lenD (pure a125)) (pure (.int 1)))) (fun (a125 : D) => (((argV (pure a125) (argV (pure (.int 0)) (argV (pure (.int 1)) (pure [])))) >>= M_merged) >>= fun v126 => (pure (.nx v126)))) 8 v124.1) >>= fun f => thenM f fun (a127 : D) => ((op1 sumD ((argV (pure p_stock_here) (pure [])) >>= M_sizes_of)) >>= fun v128 => (iteM (cmp2 neD ((argV (pure a127) (argV (pure p_wishes_here) (argV (pure (.int 0)) (pure [])))) >>= M_sure_number) (pure v124.2)) (pure (.bool false)) (forM1 (seqM (sortSetM (op2 addD (lstM (consM (pure (.int 0)) (consM (pure v128) (consM (op2 divD (pure v128) (pure (.int 2))) (pure []))))) (lstM (consM (op2 max2D (pure (.int 0)) (op2 subD (orV (pure v124.2) (pure (.int 0))) (pure (.int 1)))) (consM (orV (pure v124.2) (pure (.int 0))) (pure []))))))) () (fun x130 (a129 : Unit) => (iteM (cmp2 neD ((argV (pure a127) (argV (pure p_wishes_here) (argV (tupM (consM (pure x130) (pure []))) (pure [])))) >>= M_is_sure) (andD (op2 isnD (pure v124.2) (pure .none)) (op2 geD (pure x130) (pure v124.2)))) (rtM (pure (.bool false))) (pure (.nx ())))) >>= fun f => thenM f fun (a131 : Unit) => (pure (.bool true)))))))
def M__law_whole_right : List Sl → Option D := ar2 m__law_whole_right
theorem ok__law_whole_right {f : Addr} {fd : FuncData} (F : Fun K "_law_whole_right" "_law_whole_right" s__law_whole_right f fd) (hy : SysAt base) (d_is_sure : Def P w K mg base 5 "is_sure" ["stock", "collections", "plan"] (spJ K M_is_sure)) (d_merged : DefS P w K mg base 2 "merged" (spJ K M_merged)) (d_sizes_of : Def P w K mg base 1 "sizes_of" ["stock"] (spJ K M_sizes_of)) (d_sure_number : Def P w K mg base 4 "sure_number" ["stock", "collections", "drawer"] (spJ K M_sure_number)) (d_sure_total : Def P w K mg base 3 "sure_total" ["stock", "collections"] (spJ K M_sure_total)) (mb_len : mg "len" = none) (mb_max : mg "max" = none) (mb_set : mg "set" = none) (mb_sorted : mg "sorted" = none) (mb_sum : mg "sum" = none) : FnG P w K mg base 6 f fd ["_law_stock_here", "_law_wishes_here"] (spJ K M__law_whole_right) := by
  have sc := sc__law_whole_right
  exact fn_ar2 F sc rfl fun p_stock_here p_wishes_here cdv A outer s H E hr gu => (fj_seq (sj_par 2 3 sc.nd (ej_vk 0) (ej_callD d_sure_total (hr.mono (by decide)) gu (aj_cons (ej_vk 0) (aj_cons (ej_vk 1) aj_nil)))) (fun v124 => (fj_of_for (while_j 8 (P := fun (a125 : D) => [.val p_stock_here, .val p_wishes_here, .val a125, .val v124.2, .any, .any]) (a0 := v124.1) PassesOwn.never (fun a125 => (tj_cmp op_gt rd_gt (ej_call1 call_lenD' rc_len mb_len (ej_vk 2)) ej_int)) (fun a125 => (bj_seq (sj_set 2 sc.nd (ej_callS d_merged (hr.mono (by decide)) gu (aj_cons (ej_vk 2) (aj_cons ej_int (aj_cons ej_int aj_nil))))) (fun v126 => (bj_nil (a := v126) ⟨.inr rfl, .inr rfl, .inr rfl, .inr rfl, .inl rfl, .inl rfl, trivial⟩)))) ⟨.inr rfl, .inr rfl, .inr rfl, .inr rfl, .inl rfl, .inl rfl, trivial⟩) (fun a127 => (fj_seq (sj_set 4 sc.nd (ej_call1 (call_sumD rfl) rc_sum mb_sum (ej_callD d_sizes_of (hr.mono (by decide)) gu (aj_cons (ej_vk 0) aj_nil)))) (fun v128 => (fj_ifr (tj_cmp (by exact op_neA hy (units_of hr)) rd_ne (ej_callD d_sure_number (hr.mono (by decide)) gu (aj_cons (ej_vk 2) (aj_cons (ej_vk 1) (aj_cons ej_int aj_nil)))) (ej_vk 3)) (fj_ret ej_bl) (fj_of_for (for1 5 (P := fun (a129 : Unit) => [.val p_stock_here, .val p_wishes_here, .val a127, .val v124.2, .val v128, .any]) (a0 := ()) PassesOwn.never (ij_seq (ej_sortSet mb_sorted mb_set (ej_bin op_addD rd_add (ej_l (lj_lst (dj_cons ej_int (dj_cons (ej_vk 4) (dj_cons (ej_bin op_fdiv rd_div (ej_vk 4) ej_int) dj_nil))))) (ej_l (lj_lst (dj_cons (ej_call2 (call_max2 rfl) rc_max2 mb_max ej_int (ej_bin op_sub rd_sub (ej_orV (ej_vk 3) (ej_one ej_int)) ej_int)) (dj_cons (ej_orV (ej_vk 3) (ej_one ej_int)) dj_nil))))))) (pg_name (i := 5) sc.nd rfl (by first | exact Or.inl rfl | exact Or.inr rfl)) (fun x130 a129 => (bj_ifr (tj_cmp (by exact op_neA hy (units_of hr)) rd_ne (ej_callD d_is_sure (hr.mono (by decide)) gu (aj_cons (ej_vk 2) (aj_cons (ej_vk 1) (aj_cons (ej_tup (dj_cons (ej_vk 5) dj_nil)) aj_nil)))) (ej_and (ej_cmp op_notN rd_isn (ej_vk 3) ej_non) (ej_one (ej_cmp op_ge rd_ge (ej_vk 5) (ej_vk 3))))) (fj_ret ej_bl) (bj_nil (a := ()) ⟨.inr rfl, .inr rfl, .inr rfl, .inr rfl, .inr rfl, .inl rfl, trivial⟩))) ⟨.inr rfl, .inr rfl, .inr rfl, .inr rfl, .inr rfl, .inl rfl, trivial⟩) (fun a131 => (fj_ret ej_bl))))))))))
abbrev s_law : Stmt := top 41
theorem sc_law : FnScope ["_law_script", "_law_deck_here", "_law_turn", "_law_kinds", "_law_high", "_law_stock_here", "_law_wishes_here", "_law_one", "_law_last", "_law_again"] ["_law_script"] (defScope s_law) := ⟨rfl, rfl, rfl, by decide +kernel, rfl, by decide +kernel, by decide +kernel⟩
def m_law : W D := (forM1 (rng1 (pure (.int 6))) () (fun x133 (a132 : Unit) => ((parM (op2 addD (pure (.int 1)) ((argK (argV (pure (.int 3)) (pure []))) >>= drawW)) (op2 getD (lstM (consM (pure (.int 3)) (consM (pure (.int 6)) (consM (pure (.int 12)) (pure []))))) (op2 modD (pure x133) (pure (.int 3))))) >>= fun v134 => (((argK (argV (pure (.int 4)) (argV (pure v134.2) (argV (pure v134.1) (pure []))))) >>= M__law_stock) >>= fun v135 => ((cmp2 eqD (op1 lenD (pure v135)) (pure (.int 1))) >>= fun k => (if k = true then ((op2 addD (pure v135) (tupM (consM (op2 mulD (tupM (consM (pure (.int 0)) (pure []))) (pure v134.1)) (pure [])))) >>= fun v137 => (pure (.nx v137))) else (pure (.nx v135))) >>= fun f => thenB f fun (a136 : D) => (((argK (argV (pure (.int 3)) (argV (pure v134.2) (argV (pure v134.1) (pure []))))) >>= M__law_wishes) >>= fun v138 => (((argK (argV (op1 lenD (pure a136)) (pure []))) >>= drawW) >>= fun v139 => ((op2 modD (op2 addD (op2 addD (pure v139) (pure (.int 1))) ((argK (argV (op2 subD (op1 lenD (pure a136)) (pure (.int 1))) (pure []))) >>= drawW)) (op1 lenD (pure a136))) >>= fun v140 => (iteM (notB (tst ((argV (pure a136) (argV ((argV (pure a136) (argV (pure v139) (argV (pure v140) (pure [])))) >>= fun as => upW (M_merged as)) (argV (pure v138) (pure [])))) >>= fun as => upW (M__law_kept_right as)))) (rtM (pure (.bool false))) (forM1 (rng1 (pure (.int 3))) () (fun x142 (a141 : Unit) => (iteM (notB (tst ((argK (argV (pure a136) (argV (pure v138) (argV (pure v139) (argV (pure v140) (pure [])))))) >>= M__law_divided_right))) (rtM (pure (.bool false))) (pure (.nx ())))) >>= fun f => thenB f fun (a143 : Unit) => (iteM (notB (tst ((argV (pure a136) (argV (pure v138) (pure []))) >>= fun as => upW (M__law_whole_right as)))) (rtM (pure (.bool false))) (iteM (andB (cmp2 ltD (op1 lenD (pure a136)) (pure (.int 4))) (notB (tst ((argV (pure a136) (argV (op2 addD (pure a136) (tupM (consM (op2 mulD (tupM (consM (pure (.int 0)) (pure []))) (pure v134.1)) (pure [])))) (argV (pure v138) (pure [])))) >>= fun as => upW (M__law_kept_right as))))) (rtM (pure (.bool false))) (pure (.nx ()))))))))))))) >>= fun f => thenM f fun (a144 : Unit) => (pure (.bool true)))
theorem ok_law {f : Addr} {fd : FuncData} (F : Fun K "law" "law" s_law f fd) (hy : SysAt base) (d__law_divided_right : Def P w K mg base 6 "_law_divided_right" ["_law_deck_here", "_law_stock_here", "_law_wishes_here", "_law_one", "_law_last"] (spJ K M__law_divided_right)) (d__law_draw : Def P w K mg base 1 "_law_draw" ["_law_deck_here", "_law_limit"] (spJ K drawW)) (d__law_kept_right : Def P w K mg base 5 "_law_kept_right" ["_law_stock_here", "_law_other", "_law_wishes_here"] (spJ K M__law_kept_right)) (d__law_stock : Def P w K mg base 3 "_law_stock" ["_law_deck_here", "_law_most", "_law_high", "_law_kinds"] (spJ K M__law_stock)) (d__law_whole_right : Def P w K mg base 6 "_law_whole_right" ["_law_stock_here", "_law_wishes_here"] (spJ K M__law_whole_right)) (d__law_wishes : Def P w K mg base 3 "_law_wishes" ["_law_deck_here", "_law_most", "_law_high", "_law_kinds"] (spJ K M__law_wishes)) (d_merged : DefS P w K mg base 2 "merged" (spJ K M_merged)) (mb_len : mg "len" = none) (mb_range : mg "range" = none) (d__law_deck : Def P w K mg base 1 "_law_deck" ["_law_script"] (spDeck K)) (hM : Mo.sat m_law 0 (fun d _ => d = .bool true) (fun _ _ => False)) : FnG P w K mg base 7 f fd ["_law_script"] (spLaw K) := by
  have sc := sc_law
  obtain ⟨fk, fkd, h1, h2, h3, h4⟩ := d__law_deck.ex
  exact law_j (M := m_law) F sc (h1.mono (by decide)) h4 h2 rfl rfl rfl
    (fun cdv A outer s H E hr gu => ps_set (i := 1) sc.nd rfl (by first | exact Or.inl rfl | exact Or.inr rfl) (pe_g h1 (hr.mono (by decide)) gu (by rfl) h2 h3 h4 (pa_cons (pv 0) pa_nil) (by decide) (by rfl) (by rfl)))
    (fun cdv A outer s H E hr gu => (fj_of_for (for1 2 (P := fun (a132 : Unit) => [.any, .deck, .any, .any, .any, .any, .any, .any, .any, .any]) (a0 := ()) PassesOwn.never (ij_range1 mb_range ej_int) (pg_name (i := 2) sc.nd rfl (by first | exact Or.inl rfl | exact Or.inr rfl)) (fun x133 a132 => (bj_seq (sj_par 3 4 sc.nd (ej_bin op_addD rd_add ej_int (ej_callD d__law_draw (hr.mono (by decide)) gu (aj_dk 1 (aj_cons ej_int aj_nil)))) (ej_ix ix_seq rd_ix (ej_l (lj_lst (dj_cons ej_int (dj_cons ej_int (dj_cons ej_int dj_nil))))) (ej_bin op_mod rd_mod (ej_vk 2) ej_int) (fun _ _ => rfl))) (fun v134 => (bj_seq (sj_set 5 sc.nd (ej_callD d__law_stock (hr.mono (by decide)) gu (aj_dk 1 (aj_cons ej_int (aj_cons (ej_vk 4) (aj_cons (ej_vk 3) aj_nil)))))) (fun v135 => (bj_if (P := fun (a136 : D) => [.any, .deck, .val x133, .val v134.1, .val v134.2, .val a136, .any, .any, .any, .any]) (tj_cmp (by exact op_eqA hy (units_of hr)) rd_eq (ej_call1 call_lenD' rc_len mb_len (ej_vk 5)) ej_int) (bj_seq (sj_set 5 sc.nd (ej_bin op_addD rd_add (ej_vk 5) (ej_tup (dj_cons (ej_bin op_mulD rd_mul (ej_tup (dj_cons ej_int dj_nil)) (ej_vk 3)) dj_nil)))) (fun v137 => (bj_nil (a := v137) ⟨.inl rfl, .inr rfl, .inr rfl, .inr rfl, .inr rfl, .inr rfl, .inl rfl, .inl rfl, .inl rfl, .inl rfl, trivial⟩))) (bj_nil (a := v135) ⟨.inl rfl, .inr rfl, .inr rfl, .inr rfl, .inr rfl, .inr rfl, .inl rfl, .inl rfl, .inl rfl, .inl rfl, trivial⟩) (fun a136 => (bj_seq (sj_set 6 sc.nd (ej_callD d__law_wishes (hr.mono (by decide)) gu (aj_dk 1 (aj_cons ej_int (aj_cons (ej_vk 4) (aj_cons (ej_vk 3) aj_nil)))))) (fun v138 => (bj_seq (sj_set 7 sc.nd (ej_callD d__law_draw (hr.mono (by decide)) gu (aj_dk 1 (aj_cons (ej_call1 call_lenD' rc_len mb_len (ej_vk 5)) aj_nil)))) (fun v139 => (bj_seq (sj_set 8 sc.nd (ej_bin op_mod rd_mod (ej_bin op_addD rd_add (ej_bin op_addD rd_add (ej_vk 7) ej_int) (ej_callD d__law_draw (hr.mono (by decide)) gu (aj_dk 1 (aj_cons (ej_bin op_sub rd_sub (ej_call1 call_lenD' rc_len mb_len (ej_vk 5)) ej_int) aj_nil)))) (ej_call1 call_lenD' rc_len mb_len (ej_vk 5)))) (fun v140 => (bj_ifr (tj_not (tj_val (ej_callDU d__law_kept_right (hr.mono (by decide)) gu (aj_cons (ej_vk 5) (aj_cons (ej_callSU d_merged (hr.mono (by decide)) gu (aj_cons (ej_vk 5) (aj_cons (ej_vk 7) (aj_cons (ej_vk 8) aj_nil)))) (aj_cons (ej_vk 6) aj_nil)))))) (fj_ret ej_bl) (bj_of_for (for1 9 (P := fun (a141 : Unit) => [.any, .deck, .val x133, .val v134.1, .val v134.2, .val a136, .val v138, .val v139, .val v140, .any]) (a0 := ()) PassesOwn.never (ij_range1 mb_range ej_int) (pg_name (i := 9) sc.nd rfl (by first | exact Or.inl rfl | exact Or.inr rfl)) (fun x142 a141 => (bj_ifr (tj_not (tj_val (ej_callD d__law_divided_right (hr.mono (by decide)) gu (aj_dk 1 (aj_cons (ej_vk 5) (aj_cons (ej_vk 6) (aj_cons (ej_vk 7) (aj_cons (ej_vk 8) aj_nil)))))))) (fj_ret ej_bl) (bj_nil (a := ()) ⟨.inl rfl, .inr rfl, .inr rfl, .inr rfl, .inr rfl, .inr rfl, .inr rfl, .inr rfl, .inr rfl, .inl rfl, trivial⟩))) ⟨.inl rfl, .inr rfl, .inr rfl, .inr rfl, .inr rfl, .inr rfl, .inr rfl, .inr rfl, .inr rfl, .inl rfl, trivial⟩) (fun a143 => (bj_ifr (tj_not (tj_val (ej_callDU d__law_whole_right (hr.mono (by decide)) gu (aj_cons (ej_vk 5) (aj_cons (ej_vk 6) aj_nil))))) (fj_ret ej_bl) (bj_ifr (tj_w (wj_and (tj_cmp op_lt rd_lt (ej_call1 call_lenD' rc_len mb_len (ej_vk 5)) ej_int) (wj_and1 (tj_not (tj_val (ej_callDU d__law_kept_right (hr.mono (by decide)) gu (aj_cons (ej_vk 5) (aj_cons (ej_bin op_addD rd_add (ej_vk 5) (ej_tup (dj_cons (ej_bin op_mulD rd_mul (ej_tup (dj_cons ej_int dj_nil)) (ej_vk 3)) dj_nil))) (aj_cons (ej_vk 6) aj_nil))))))))) (fj_ret ej_bl) (bj_nil (a := ()) ⟨.inl rfl, .inr rfl, .inl rfl, .inl rfl, .inl rfl, .inl rfl, .inl rfl, .inl rfl, .inl rfl, .inl rfl, trivial⟩))))))))))))))))))) ⟨.inl rfl, .inr rfl, .inl rfl, .inl rfl, .inl rfl, .inl rfl, .inl rfl, .inl rfl, .inl rfl, .inl rfl, trivial⟩) (fun a144 => (fj_ret ej_bl)))) hM
end
theorem all_mk {l : PySem.W.OpenLaw} {w : World} {K : PySem.W.Frag} {h : Heap} {mg : Str → Option Value} {fa : Addr} (X : K.In h) (G : h.Ns mainGlobals mg) (hfa : mg "law" = some (.ref fa)) (hM : Mo.sat m_law 0 (fun d _ => d = .bool true) (fun _ _ => False))
    {f0 : Addr} {od0 an0 : Option Addr} {sl0 : Array (Option Value)} {oc0 kV0 dc0 pm0 cd0 ct0 : Value} (a0 : PySem.W.nsIn K mainGlobals "is_number" = some (some (.ref f0))) (l0 : K.lookup f0 = some ⟨oc0, od0, .func (PySem.W.fnOf "is_number" "is_number" (defArgs s_is_number) (defBody s_is_number) (defScope s_is_number) .none kV0 dc0 pm0 an0 cd0 ct0), sl0⟩) (c0 : PySem.W.codeIn K cd0 "is_number" = true) (k0 : PySem.W.keepIn K (.ref f0) = true)
    {f1 : Addr} {od1 an1 : Option Addr} {sl1 : Array (Option Value)} {oc1 kV1 dc1 pm1 cd1 ct1 : Value} (a1 : PySem.W.nsIn K mainGlobals "totals_of" = some (some (.ref f1))) (l1 : K.lookup f1 = some ⟨oc1, od1, .func (PySem.W.fnOf "totals_of" "totals_of" (defArgs s_totals_of) (defBody s_totals_of) (defScope s_totals_of) .none kV1 dc1 pm1 an1 cd1 ct1), sl1⟩) (c1 : PySem.W.codeIn K cd1 "totals_of" = true) (k1 : PySem.W.keepIn K (.ref f1) = true)
    {f2 : Addr} {od2 an2 : Option Addr} {sl2 : Array (Option Value)} {oc2 kV2 dc2 pm2 cd2 ct2 : Value} (a2 : PySem.W.nsIn K mainGlobals "sizes_of" = some (some (.ref f2))) (l2 : K.lookup f2 = some ⟨oc2, od2, .func (PySem.W.fnOf "sizes_of" "sizes_of" (defArgs s_sizes_of) (defBody s_sizes_of) (defScope s_sizes_of) .none kV2 dc2 pm2 an2 cd2 ct2), sl2⟩) (c2 : PySem.W.codeIn K cd2 "sizes_of" = true) (k2 : PySem.W.keepIn K (.ref f2) = true)
    {f3 : Addr} {od3 an3 : Option Addr} {sl3 : Array (Option Value)} {oc3 kV3 dc3 pm3 cd3 ct3 : Value} (a3 : PySem.W.nsIn K mainGlobals "contains" = some (some (.ref f3))) (l3 : K.lookup f3 = some ⟨oc3, od3, .func (PySem.W.fnOf "contains" "contains" (defArgs s_contains) (defBody s_contains) (defScope s_contains) .none kV3 dc3 pm3 an3 cd3 ct3), sl3⟩) (c3 : PySem.W.codeIn K cd3 "contains" = true) (k3 : PySem.W.keepIn K (.ref f3) = true)
    {f4 : Addr} {od4 an4 : Option Addr} {sl4 : Array (Option Value)} {oc4 kV4 dc4 pm4 cd4 ct4 : Value} (a4 : PySem.W.nsIn K mainGlobals "spoilings_of" = some (some (.ref f4))) (l4 : K.lookup f4 = some ⟨oc4, od4, .func (PySem.W.fnOf "spoilings_of" "spoilings_of" (defArgs s_spoilings_of) (defBody s_spoilings_of) (defScope s_spoilings_of) .none kV4 dc4 pm4 an4 cd4 ct4), sl4⟩) (c4 : PySem.W.codeIn K cd4 "spoilings_of" = true) (k4 : PySem.W.keepIn K (.ref f4) = true)
    {f5 : Addr} {od5 an5 : Option Addr} {sl5 : Array (Option Value)} {oc5 kV5 dc5 pm5 cd5 ct5 : Value} (a5 : PySem.W.nsIn K mainGlobals "caps_of" = some (some (.ref f5))) (l5 : K.lookup f5 = some ⟨oc5, od5, .func (PySem.W.fnOf "caps_of" "caps_of" (defArgs s_caps_of) (defBody s_caps_of) (defScope s_caps_of) .none kV5 dc5 pm5 an5 cd5 ct5), sl5⟩) (c5 : PySem.W.codeIn K cd5 "caps_of" = true) (k5 : PySem.W.keepIn K (.ref f5) = true)
    {f6 : Addr} {od6 an6 : Option Addr} {sl6 : Array (Option Value)} {oc6 kV6 dc6 pm6 cd6 ct6 : Value} (a6 : PySem.W.nsIn K mainGlobals "room_in" = some (some (.ref f6))) (l6 : K.lookup f6 = some ⟨oc6, od6, .func (PySem.W.fnOf "room_in" "room_in" (defArgs s_room_in) (defBody s_room_in) (defScope s_room_in) .none kV6 dc6 pm6 an6 cd6 ct6), sl6⟩) (c6 : PySem.W.codeIn K cd6 "room_in" = true) (k6 : PySem.W.keepIn K (.ref f6) = true)
    {f7 : Addr} {od7 an7 : Option Addr} {sl7 : Array (Option Value)} {oc7 kV7 dc7 pm7 cd7 ct7 : Value} (a7 : PySem.W.nsIn K mainGlobals "sets_of" = some (some (.ref f7))) (l7 : K.lookup f7 = some ⟨oc7, od7, .func (PySem.W.fnOf "sets_of" "sets_of" (defArgs s_sets_of) (defBody s_sets_of) (defScope s_sets_of) .none kV7 dc7 pm7 an7 cd7 ct7), sl7⟩) (c7 : PySem.W.codeIn K cd7 "sets_of" = true) (k7 : PySem.W.keepIn K (.ref f7) = true)
    {f8 : Addr} {od8 an8 : Option Addr} {sl8 : Array (Option Value)} {oc8 kV8 dc8 pm8 cd8 ct8 : Value} (a8 : PySem.W.nsIn K mainGlobals "with_number" = some (some (.ref f8))) (l8 : K.lookup f8 = some ⟨oc8, od8, .func (PySem.W.fnOf "with_number" "with_number" (defArgs s_with_number) (defBody s_with_number) (defScope s_with_number) .none kV8 dc8 pm8 an8 cd8 ct8), sl8⟩) (c8 : PySem.W.codeIn K cd8 "with_number" = true) (k8 : PySem.W.keepIn K (.ref f8) = true)
    {f9 : Addr} {od9 an9 : Option Addr} {sl9 : Array (Option Value)} {oc9 kV9 dc9 pm9 cd9 ct9 : Value} (a9 : PySem.W.nsIn K mainGlobals "_law_deck" = some (some (.ref f9))) (l9 : K.lookup f9 = some ⟨oc9, od9, .func (PySem.W.fnOf "_law_deck" "_law_deck" (defArgs s__law_deck) (defBody s__law_deck) (defScope s__law_deck) .none kV9 dc9 pm9 an9 cd9 ct9), sl9⟩) (c9 : PySem.W.codeIn K cd9 "_law_deck" = true) (k9 : PySem.W.keepIn K (.ref f9) = true)
    {f10 : Addr} {od10 an10 : Option Addr} {sl10 : Array (Option Value)} {oc10 kV10 dc10 pm10 cd10 ct10 : Value} (a10 : PySem.W.nsIn K mainGlobals "_law_draw" = some (some (.ref f10))) (l10 : K.lookup f10 = some ⟨oc10, od10, .func (PySem.W.fnOf "_law_draw" "_law_draw" (defArgs s__law_draw) (defBody s__law_draw) (defScope s__law_draw) .none kV10 dc10 pm10 an10 cd10 ct10), sl10⟩) (c10 : PySem.W.codeIn K cd10 "_law_draw" = true) (k10 : PySem.W.keepIn K (.ref f10) = true)
    {f11 : Addr} {od11 an11 : Option Addr} {sl11 : Array (Option Value)} {oc11 kV11 dc11 pm11 cd11 ct11 : Value} (a11 : PySem.W.nsIn K mainGlobals "are_numbers" = some (some (.ref f11))) (l11 : K.lookup f11 = some ⟨oc11, od11, .func (PySem.W.fnOf "are_numbers" "are_numbers" (defArgs s_are_numbers) (defBody s_are_numbers) (defScope s_are_numbers) .none kV11 dc11 pm11 an11 cd11 ct11), sl11⟩) (c11 : PySem.W.codeIn K cd11 "are_numbers" = true) (k11 : PySem.W.keepIn K (.ref f11) = true)
    {f12 : Addr} {od12 an12 : Option Addr} {sl12 : Array (Option Value)} {oc12 kV12 dc12 pm12 cd12 ct12 : Value} (a12 : PySem.W.nsIn K mainGlobals "merged" = some (some (.ref f12))) (l12 : K.lookup f12 = some ⟨oc12, od12, .func (PySem.W.fnOf "merged" "merged" (defArgs s_merged) (defBody s_merged) (defScope s_merged) .none kV12 dc12 pm12 an12 cd12 ct12), sl12⟩) (c12 : PySem.W.codeIn K cd12 "merged" = true) (k12 : PySem.W.keepIn K (.ref f12) = true)
    {f13 : Addr} {od13 an13 : Option Addr} {sl13 : Array (Option Value)} {oc13 kV13 dc13 pm13 cd13 ct13 : Value} (a13 : PySem.W.nsIn K mainGlobals "fulfilled_by" = some (some (.ref f13))) (l13 : K.lookup f13 = some ⟨oc13, od13, .func (PySem.W.fnOf "fulfilled_by" "fulfilled_by" (defArgs s_fulfilled_by) (defBody s_fulfilled_by) (defScope s_fulfilled_by) .none kV13 dc13 pm13 an13 cd13 ct13), sl13⟩) (c13 : PySem.W.codeIn K cd13 "fulfilled_by" = true) (k13 : PySem.W.keepIn K (.ref f13) = true)
    {f14 : Addr} {od14 an14 : Option Addr} {sl14 : Array (Option Value)} {oc14 kV14 dc14 pm14 cd14 ct14 : Value} (a14 : PySem.W.nsIn K mainGlobals "takes_more" = some (some (.ref f14))) (l14 : K.lookup f14 = some ⟨oc14, od14, .func (PySem.W.fnOf "takes_more" "takes_more" (defArgs s_takes_more) (defBody s_takes_more) (defScope s_takes_more) .none kV14 dc14 pm14 an14 cd14 ct14), sl14⟩) (c14 : PySem.W.codeIn K cd14 "takes_more" = true) (k14 : PySem.W.keepIn K (.ref f14) = true)
    {f15 : Addr} {od15 an15 : Option Addr} {sl15 : Array (Option Value)} {oc15 kV15 dc15 pm15 cd15 ct15 : Value} (a15 : PySem.W.nsIn K mainGlobals "after_taking" = some (some (.ref f15))) (l15 : K.lookup f15 = some ⟨oc15, od15, .func (PySem.W.fnOf "after_taking" "after_taking" (defArgs s_after_taking) (defBody s_after_taking) (defScope s_after_taking) .none kV15 dc15 pm15 an15 cd15 ct15), sl15⟩) (c15 : PySem.W.codeIn K cd15 "after_taking" = true) (k15 : PySem.W.keepIn K (.ref f15) = true)
    {f16 : Addr} {od16 an16 : Option Addr} {sl16 : Array (Option Value)} {oc16 kV16 dc16 pm16 cd16 ct16 : Value} (a16 : PySem.W.nsIn K mainGlobals "most_taken" = some (some (.ref f16))) (l16 : K.lookup f16 = some ⟨oc16, od16, .func (PySem.W.fnOf "most_taken" "most_taken" (defArgs s_most_taken) (defBody s_most_taken) (defScope s_most_taken) .none kV16 dc16 pm16 an16 cd16 ct16), sl16⟩) (c16 : PySem.W.codeIn K cd16 "most_taken" = true) (k16 : PySem.W.keepIn K (.ref f16) = true)
    {f17 : Addr} {od17 an17 : Option Addr} {sl17 : Array (Option Value)} {oc17 kV17 dc17 pm17 cd17 ct17 : Value} (a17 : PySem.W.nsIn K mainGlobals "_law_counts" = some (some (.ref f17))) (l17 : K.lookup f17 = some ⟨oc17, od17, .func (PySem.W.fnOf "_law_counts" "_law_counts" (defArgs s__law_counts) (defBody s__law_counts) (defScope s__law_counts) .none kV17 dc17 pm17 an17 cd17 ct17), sl17⟩) (c17 : PySem.W.codeIn K cd17 "_law_counts" = true) (k17 : PySem.W.keepIn K (.ref f17) = true)
    {f18 : Addr} {od18 an18 : Option Addr} {sl18 : Array (Option Value)} {oc18 kV18 dc18 pm18 cd18 ct18 : Value} (a18 : PySem.W.nsIn K mainGlobals "stock_error" = some (some (.ref f18))) (l18 : K.lookup f18 = some ⟨oc18, od18, .func (PySem.W.fnOf "stock_error" "stock_error" (defArgs s_stock_error) (defBody s_stock_error) (defScope s_stock_error) .none kV18 dc18 pm18 an18 cd18 ct18), sl18⟩) (c18 : PySem.W.codeIn K cd18 "stock_error" = true) (k18 : PySem.W.keepIn K (.ref f18) = true)
    {f19 : Addr} {od19 an19 : Option Addr} {sl19 : Array (Option Value)} {oc19 kV19 dc19 pm19 cd19 ct19 : Value} (a19 : PySem.W.nsIn K mainGlobals "find_excess" = some (some (.ref f19))) (l19 : K.lookup f19 = some ⟨oc19, od19, .func (PySem.W.fnOf "find_excess" "find_excess" (defArgs s_find_excess) (defBody s_find_excess) (defScope s_find_excess) .none kV19 dc19 pm19 an19 cd19 ct19), sl19⟩) (c19 : PySem.W.codeIn K cd19 "find_excess" = true) (k19 : PySem.W.keepIn K (.ref f19) = true)
    {f20 : Addr} {od20 an20 : Option Addr} {sl20 : Array (Option Value)} {oc20 kV20 dc20 pm20 cd20 ct20 : Value} (a20 : PySem.W.nsIn K mainGlobals "draw_within" = some (some (.ref f20))) (l20 : K.lookup f20 = some ⟨oc20, od20, .func (PySem.W.fnOf "draw_within" "draw_within" (defArgs s_draw_within) (defBody s_draw_within) (defScope s_draw_within) .none kV20 dc20 pm20 an20 cd20 ct20), sl20⟩) (c20 : PySem.W.codeIn K cd20 "draw_within" = true) (k20 : PySem.W.keepIn K (.ref f20) = true)
    {f21 : Addr} {od21 an21 : Option Addr} {sl21 : Array (Option Value)} {oc21 kV21 dc21 pm21 cd21 ct21 : Value} (a21 : PySem.W.nsIn K mainGlobals "sure_total" = some (some (.ref f21))) (l21 : K.lookup f21 = some ⟨oc21, od21, .func (PySem.W.fnOf "sure_total" "sure_total" (defArgs s_sure_total) (defBody s_sure_total) (defScope s_sure_total) .none kV21 dc21 pm21 an21 cd21 ct21), sl21⟩) (c21 : PySem.W.codeIn K cd21 "sure_total" = true) (k21 : PySem.W.keepIn K (.ref f21) = true)
    {f22 : Addr} {od22 an22 : Option Addr} {sl22 : Array (Option Value)} {oc22 kV22 dc22 pm22 cd22 ct22 : Value} (a22 : PySem.W.nsIn K mainGlobals "_law_stock" = some (some (.ref f22))) (l22 : K.lookup f22 = some ⟨oc22, od22, .func (PySem.W.fnOf "_law_stock" "_law_stock" (defArgs s__law_stock) (defBody s__law_stock) (defScope s__law_stock) .none kV22 dc22 pm22 an22 cd22 ct22), sl22⟩) (c22 : PySem.W.codeIn K cd22 "_law_stock" = true) (k22 : PySem.W.keepIn K (.ref f22) = true)
    {f23 : Addr} {od23 an23 : Option Addr} {sl23 : Array (Option Value)} {oc23 kV23 dc23 pm23 cd23 ct23 : Value} (a23 : PySem.W.nsIn K mainGlobals "_law_wishes" = some (some (.ref f23))) (l23 : K.lookup f23 = some ⟨oc23, od23, .func (PySem.W.fnOf "_law_wishes" "_law_wishes" (defArgs s__law_wishes) (defBody s__law_wishes) (defScope s__law_wishes) .none kV23 dc23 pm23 an23 cd23 ct23), sl23⟩) (c23 : PySem.W.codeIn K cd23 "_law_wishes" = true) (k23 : PySem.W.keepIn K (.ref f23) = true)
    {f24 : Addr} {od24 an24 : Option Addr} {sl24 : Array (Option Value)} {oc24 kV24 dc24 pm24 cd24 ct24 : Value} (a24 : PySem.W.nsIn K mainGlobals "is_stock" = some (some (.ref f24))) (l24 : K.lookup f24 = some ⟨oc24, od24, .func (PySem.W.fnOf "is_stock" "is_stock" (defArgs s_is_stock) (defBody s_is_stock) (defScope s_is_stock) .none kV24 dc24 pm24 an24 cd24 ct24), sl24⟩) (c24 : PySem.W.codeIn K cd24 "is_stock" = true) (k24 : PySem.W.keepIn K (.ref f24) = true)
    {f25 : Addr} {od25 an25 : Option Addr} {sl25 : Array (Option Value)} {oc25 kV25 dc25 pm25 cd25 ct25 : Value} (a25 : PySem.W.nsIn K mainGlobals "find_certificate" = some (some (.ref f25))) (l25 : K.lookup f25 = some ⟨oc25, od25, .func (PySem.W.fnOf "find_certificate" "find_certificate" (defArgs s_find_certificate) (defBody s_find_certificate) (defScope s_find_certificate) .none kV25 dc25 pm25 an25 cd25 ct25), sl25⟩) (c25 : PySem.W.codeIn K cd25 "find_certificate" = true) (k25 : PySem.W.keepIn K (.ref f25) = true)
    {f26 : Addr} {od26 an26 : Option Addr} {sl26 : Array (Option Value)} {oc26 kV26 dc26 pm26 cd26 ct26 : Value} (a26 : PySem.W.nsIn K mainGlobals "sure_number" = some (some (.ref f26))) (l26 : K.lookup f26 = some ⟨oc26, od26, .func (PySem.W.fnOf "sure_number" "sure_number" (defArgs s_sure_number) (defBody s_sure_number) (defScope s_sure_number) .none kV26 dc26 pm26 an26 cd26 ct26), sl26⟩) (c26 : PySem.W.codeIn K cd26 "sure_number" = true) (k26 : PySem.W.keepIn K (.ref f26) = true)
    {f27 : Addr} {od27 an27 : Option Addr} {sl27 : Array (Option Value)} {oc27 kV27 dc27 pm27 cd27 ct27 : Value} (a27 : PySem.W.nsIn K mainGlobals "is_sure" = some (some (.ref f27))) (l27 : K.lookup f27 = some ⟨oc27, od27, .func (PySem.W.fnOf "is_sure" "is_sure" (defArgs s_is_sure) (defBody s_is_sure) (defScope s_is_sure) .none kV27 dc27 pm27 an27 cd27 ct27), sl27⟩) (c27 : PySem.W.codeIn K cd27 "is_sure" = true) (k27 : PySem.W.keepIn K (.ref f27) = true)
    {f28 : Addr} {od28 an28 : Option Addr} {sl28 : Array (Option Value)} {oc28 kV28 dc28 pm28 cd28 ct28 : Value} (a28 : PySem.W.nsIn K mainGlobals "_law_kept_right" = some (some (.ref f28))) (l28 : K.lookup f28 = some ⟨oc28, od28, .func (PySem.W.fnOf "_law_kept_right" "_law_kept_right" (defArgs s__law_kept_right) (defBody s__law_kept_right) (defScope s__law_kept_right) .none kV28 dc28 pm28 an28 cd28 ct28), sl28⟩) (c28 : PySem.W.codeIn K cd28 "_law_kept_right" = true) (k28 : PySem.W.keepIn K (.ref f28) = true)
    {f29 : Addr} {od29 an29 : Option Addr} {sl29 : Array (Option Value)} {oc29 kV29 dc29 pm29 cd29 ct29 : Value} (a29 : PySem.W.nsIn K mainGlobals "_law_divided_right" = some (some (.ref f29))) (l29 : K.lookup f29 = some ⟨oc29, od29, .func (PySem.W.fnOf "_law_divided_right" "_law_divided_right" (defArgs s__law_divided_right) (defBody s__law_divided_right) (defScope s__law_divided_right) .none kV29 dc29 pm29 an29 cd29 ct29), sl29⟩) (c29 : PySem.W.codeIn K cd29 "_law_divided_right" = true) (k29 : PySem.W.keepIn K (.ref f29) = true)
    {f30 : Addr} {od30 an30 : Option Addr} {sl30 : Array (Option Value)} {oc30 kV30 dc30 pm30 cd30 ct30 : Value} (a30 : PySem.W.nsIn K mainGlobals "_law_whole_right" = some (some (.ref f30))) (l30 : K.lookup f30 = some ⟨oc30, od30, .func (PySem.W.fnOf "_law_whole_right" "_law_whole_right" (defArgs s__law_whole_right) (defBody s__law_whole_right) (defScope s__law_whole_right) .none kV30 dc30 pm30 an30 cd30 ct30), sl30⟩) (c30 : PySem.W.codeIn K cd30 "_law_whole_right" = true) (k30 : PySem.W.keepIn K (.ref f30) = true)
    {f31 : Addr} {od31 an31 : Option Addr} {sl31 : Array (Option Value)} {oc31 kV31 dc31 pm31 cd31 ct31 : Value} (a31 : PySem.W.nsIn K mainGlobals "law" = some (some (.ref f31))) (l31 : K.lookup f31 = some ⟨oc31, od31, .func (PySem.W.fnOf "law" "law" (defArgs s_law) (defBody s_law) (defScope s_law) .none kV31 dc31 pm31 an31 cd31 ct31), sl31⟩) (c31 : PySem.W.codeIn K cd31 "law" = true) (k31 : PySem.W.keepIn K (.ref f31) = true)
    (z0 : PySem.W.nsIn K mainGlobals "abs" = some none)
    (z1 : PySem.W.nsIn K mainGlobals "all" = some none)
    (z2 : PySem.W.nsIn K mainGlobals "bool" = some none)
    (z3 : PySem.W.nsIn K mainGlobals "enumerate" = some none)
    (z4 : PySem.W.nsIn K mainGlobals "int" = some none)
    (z5 : PySem.W.nsIn K mainGlobals "isinstance" = some none)
    (z6 : PySem.W.nsIn K mainGlobals "len" = some none)
    (z7 : PySem.W.nsIn K mainGlobals "list" = some none)
    (z8 : PySem.W.nsIn K mainGlobals "max" = some none)
    (z9 : PySem.W.nsIn K mainGlobals "min" = some none)
    (z10 : PySem.W.nsIn K mainGlobals "range" = some none)
    (z11 : PySem.W.nsIn K mainGlobals "set" = some none)
    (z12 : PySem.W.nsIn K mainGlobals "sorted" = some none)
    (z13 : PySem.W.nsIn K mainGlobals "sum" = some none)
    (z14 : PySem.W.nsIn K mainGlobals "tuple" = some none)
    (z15 : PySem.W.nsIn K mainGlobals "zip" = some none)
    {tc0 : Tok} (y0 : PySem.W.nsIn K mainGlobals "MAX_COUNT" = some (some (.int 50 tc0)))
    {tc1 : Tok} (y1 : PySem.W.nsIn K mainGlobals "MAX_DRAWERS" = some (some (.int 4 tc1)))
    {tc2 : Tok} (y2 : PySem.W.nsIn K mainGlobals "MAX_KINDS" = some (some (.int 4 tc2)))
    : ∃ fd : FuncData, (∀ (s : Shared) (v : Value), BindsTo s fd ⟨[v], []⟩ [("_law_script", v)]) ∧ ∀ base : Heap, K.In base → base.Ns mainGlobals mg → SysAt base → FnG l.prog w K mg base 7 fa fd ["_law_script"] (spLaw K) := by
  have e := hfa.symm.trans (PySem.W.mg_of X G a31)
  cases e
  have F0 := fun_mk (st := s_is_number) l0 c0 k0
  have b0 := F0.binds (ps := ["value", "low", "high"]) fun _ _ _ _ _ _ us hl => match us, hl with | [_, _, _], _ => rfl
  have e0 := PySem.W.mg_of X G a0
  have F1 := fun_mk (st := s_totals_of) l1 c1 k1
  have b1 := F1.binds (ps := ["stock"]) fun _ _ _ _ _ _ us hl => match us, hl with | [_], _ => rfl
  have e1 := PySem.W.mg_of X G a1
  have F2 := fun_mk (st := s_sizes_of) l2 c2 k2
  have b2 := F2.binds (ps := ["stock"]) fun _ _ _ _ _ _ us hl => match us, hl with | [_], _ => rfl
  have e2 := PySem.W.mg_of X G a2
  have F3 := fun_mk (st := s_contains) l3 c3 k3
  have b3 := F3.binds (ps := ["counts", "collection"]) fun _ _ _ _ _ _ us hl => match us, hl with | [_, _], _ => rfl
  have e3 := PySem.W.mg_of X G a3
  have F4 := fun_mk (st := s_spoilings_of) l4 c4 k4
  have b4 := F4.binds (ps := ["collections"]) fun _ _ _ _ _ _ us hl => match us, hl with | [_], _ => rfl
  have e4 := PySem.W.mg_of X G a4
  have F5 := fun_mk (st := s_caps_of) l5 c5 k5
  have b5 := F5.binds (ps := ["collections", "spoiling"]) fun _ _ _ _ _ _ us hl => match us, hl with | [_, _], _ => rfl
  have e5 := PySem.W.mg_of X G a5
  have F6 := fun_mk (st := s_room_in) l6 c6 k6
  have b6 := F6.binds (ps := ["stock", "caps", "drawers"]) fun _ _ _ _ _ _ us hl => match us, hl with | [_, _, _], _ => rfl
  have e6 := PySem.W.mg_of X G a6
  have F7 := fun_mk (st := s_sets_of) l7 c7 k7
  have b7 := F7.binds (ps := ["count"]) fun _ _ _ _ _ _ us hl => match us, hl with | [_], _ => rfl
  have e7 := PySem.W.mg_of X G a7
  have F8 := fun_mk (st := s_with_number) l8 c8 k8
  have b8 := F8.binds (ps := ["row", "place", "number"]) fun _ _ _ _ _ _ us hl => match us, hl with | [_, _, _], _ => rfl
  have e8 := PySem.W.mg_of X G a8
  have F9 := fun_mk (st := s__law_deck) l9 c9 k9
  have b9 := F9.binds (ps := ["_law_script"]) fun _ _ _ _ _ _ us hl => match us, hl with | [_], _ => rfl
  have e9 := PySem.W.mg_of X G a9
  have F10 := fun_mk (st := s__law_draw) l10 c10 k10
  have b10 := F10.binds (ps := ["_law_deck_here", "_law_limit"]) fun _ _ _ _ _ _ us hl => match us, hl with | [_, _], _ => rfl
  have e10 := PySem.W.mg_of X G a10
  have F11 := fun_mk (st := s_are_numbers) l11 c11 k11
  have b11 := F11.binds (ps := ["value", "count", "high"]) fun _ _ _ _ _ _ us hl => match us, hl with | [_, _, _], _ => rfl
  have e11 := PySem.W.mg_of X G a11
  have F12 := fun_mk (st := s_merged) l12 c12 k12
  have e12 := PySem.W.mg_of X G a12
  have F13 := fun_mk (st := s_fulfilled_by) l13 c13 k13
  have b13 := F13.binds (ps := ["collections", "counts"]) fun _ _ _ _ _ _ us hl => match us, hl with | [_, _], _ => rfl
  have e13 := PySem.W.mg_of X G a13
  have F14 := fun_mk (st := s_takes_more) l14 c14 k14
  have b14 := F14.binds (ps := ["stock", "caps", "plan", "drawers"]) fun _ _ _ _ _ _ us hl => match us, hl with | [_, _, _, _], _ => rfl
  have e14 := PySem.W.mg_of X G a14
  have F15 := fun_mk (st := s_after_taking) l15 c15 k15
  have b15 := F15.binds (ps := ["task", "drawer", "kind", "count"]) fun _ _ _ _ _ _ us hl => match us, hl with | [_, _, _, _], _ => rfl
  have e15 := PySem.W.mg_of X G a15
  have F16 := fun_mk (st := s_most_taken) l16 c16 k16
  have b16 := F16.binds (ps := ["task", "drawer", "kind"]) fun _ _ _ _ _ _ us hl => match us, hl with | [_, _, _], _ => rfl
  have e16 := PySem.W.mg_of X G a16
  have F17 := fun_mk (st := s__law_counts) l17 c17 k17
  have b17 := F17.binds (ps := ["_law_deck_here", "_law_kinds", "_law_most"]) fun _ _ _ _ _ _ us hl => match us, hl with | [_, _, _], _ => rfl
  have e17 := PySem.W.mg_of X G a17
  have F18 := fun_mk (st := s_stock_error) l18 c18 k18
  have b18 := F18.binds (ps := ["value"]) fun _ _ _ _ _ _ us hl => match us, hl with | [_], _ => rfl
  have e18 := PySem.W.mg_of X G a18
  have F19 := fun_mk (st := s_find_excess) l19 c19 k19
  have b19 := F19.binds (ps := ["stock", "caps", "plan"]) fun _ _ _ _ _ _ us hl => match us, hl with | [_, _, _], _ => rfl
  have e19 := PySem.W.mg_of X G a19
  have F20 := fun_mk (st := s_draw_within) l20 c20 k20
  have b20 := F20.binds (ps := ["stock", "caps", "plan"]) fun _ _ _ _ _ _ us hl => match us, hl with | [_, _, _], _ => rfl
  have e20 := PySem.W.mg_of X G a20
  have F21 := fun_mk (st := s_sure_total) l21 c21 k21
  have b21 := F21.binds (ps := ["stock", "collections"]) fun _ _ _ _ _ _ us hl => match us, hl with | [_, _], _ => rfl
  have e21 := PySem.W.mg_of X G a21
  have F22 := fun_mk (st := s__law_stock) l22 c22 k22
  have b22 := F22.binds (ps := ["_law_deck_here", "_law_most", "_law_high", "_law_kinds"]) fun _ _ _ _ _ _ us hl => match us, hl with | [_, _, _, _], _ => rfl
  have e22 := PySem.W.mg_of X G a22
  have F23 := fun_mk (st := s__law_wishes) l23 c23 k23
  have b23 := F23.binds (ps := ["_law_deck_here", "_law_most", "_law_high", "_law_kinds"]) fun _ _ _ _ _ _ us hl => match us, hl with | [_, _, _, _], _ => rfl
  have e23 := PySem.W.mg_of X G a23
  have F24 := fun_mk (st := s_is_stock) l24 c24 k24
  have b24 := F24.binds (ps := ["value"]) fun _ _ _ _ _ _ us hl => match us, hl with | [_], _ => rfl
  have e24 := PySem.W.mg_of X G a24
  have F25 := fun_mk (st := s_find_certificate) l25 c25 k25
  have b25 := F25.binds (ps := ["stock", "collections", "plan"]) fun _ _ _ _ _ _ us hl => match us, hl with | [_, _, _], _ => rfl
  have e25 := PySem.W.mg_of X G a25
  have F26 := fun_mk (st := s_sure_number) l26 c26 k26
  have b26 := F26.binds (ps := ["stock", "collections", "drawer"]) fun _ _ _ _ _ _ us hl => match us, hl with | [_, _, _], _ => rfl
  have e26 := PySem.W.mg_of X G a26
  have F27 := fun_mk (st := s_is_sure) l27 c27 k27
  have b27 := F27.binds (ps := ["stock", "collections", "plan"]) fun _ _ _ _ _ _ us hl => match us, hl with | [_, _, _], _ => rfl
  have e27 := PySem.W.mg_of X G a27
  have F28 := fun_mk (st := s__law_kept_right) l28 c28 k28
  have b28 := F28.binds (ps := ["_law_stock_here", "_law_other", "_law_wishes_here"]) fun _ _ _ _ _ _ us hl => match us, hl with | [_, _, _], _ => rfl
  have e28 := PySem.W.mg_of X G a28
  have F29 := fun_mk (st := s__law_divided_right) l29 c29 k29
  have b29 := F29.binds (ps := ["_law_deck_here", "_law_stock_here", "_law_wishes_here", "_law_one", "_law_last"]) fun _ _ _ _ _ _ us hl => match us, hl with | [_, _, _, _, _], _ => rfl
  have e29 := PySem.W.mg_of X G a29
  have F30 := fun_mk (st := s__law_whole_right) l30 c30 k30
  have b30 := F30.binds (ps := ["_law_stock_here", "_law_wishes_here"]) fun _ _ _ _ _ _ us hl => match us, hl with | [_, _], _ => rfl
  have e30 := PySem.W.mg_of X G a30
  have F31 := fun_mk (st := s_law) l31 c31 k31
  have mb_abs := PySem.W.mg_none_of X G z0
  have mb_all := PySem.W.mg_none_of X G z1
  have mb_bool := PySem.W.mg_none_of X G z2
  have mb_enumerate := PySem.W.mg_none_of X G z3
  have mb_int := PySem.W.mg_none_of X G z4
  have mb_isinstance := PySem.W.mg_none_of X G z5
  have mb_len := PySem.W.mg_none_of X G z6
  have mb_list := PySem.W.mg_none_of X G z7
  have mb_max := PySem.W.mg_none_of X G z8
  have mb_min := PySem.W.mg_none_of X G z9
  have mb_range := PySem.W.mg_none_of X G z10
  have mb_set := PySem.W.mg_none_of X G z11
  have mb_sorted := PySem.W.mg_none_of X G z12
  have mb_sum := PySem.W.mg_none_of X G z13
  have mb_tuple := PySem.W.mg_none_of X G z14
  have mb_zip := PySem.W.mg_none_of X G z15
  have mc_MAX_COUNT := PySem.W.mg_of X G y0
  have mc_MAX_DRAWERS := PySem.W.mg_of X G y1
  have mc_MAX_KINDS := PySem.W.mg_of X G y2
  refine ⟨PySem.W.fnOf "law" "law" (defArgs s_law) (defBody s_law) (defScope s_law) .none kV31 dc31 pm31 an31 cd31 ct31, fun s v => .of_eq rfl, fun base _ _ hy => ?_⟩
  have d_is_number : Def l.prog w K mg base 1 "is_number" ["value", "low", "high"] (spJ K M_is_number) := ⟨f0, _, ok_is_number F0 hy mb_bool mb_int mb_isinstance, e0, k0, b0⟩
  have d_totals_of : Def l.prog w K mg base 1 "totals_of" ["stock"] (spJ K M_totals_of) := ⟨f1, _, ok_totals_of F1 hy mb_sum mb_tuple mb_zip, e1, k1, b1⟩
  have d_sizes_of : Def l.prog w K mg base 1 "sizes_of" ["stock"] (spJ K M_sizes_of) := ⟨f2, _, ok_sizes_of F2 hy mb_sum mb_tuple, e2, k2, b2⟩
  have d_contains : Def l.prog w K mg base 1 "contains" ["counts", "collection"] (spJ K M_contains) := ⟨f3, _, ok_contains F3 hy mb_all mb_zip, e3, k3, b3⟩
  have d_spoilings_of : Def l.prog w K mg base 1 "spoilings_of" ["collections"] (spJ K M_spoilings_of) := ⟨f4, _, ok_spoilings_of F4 hy mb_enumerate mb_tuple, e4, k4, b4⟩
  have d_caps_of : Def l.prog w K mg base 1 "caps_of" ["collections", "spoiling"] (spJ K M_caps_of) := ⟨f5, _, ok_caps_of F5 hy mb_len mb_min mb_tuple mb_zip, e5, k5, b5⟩
  have d_room_in : Def l.prog w K mg base 1 "room_in" ["stock", "caps", "drawers"] (spJ K M_room_in) := ⟨f6, _, ok_room_in F6 hy mb_enumerate mb_min mb_sum, e6, k6, b6⟩
  have d_sets_of : Def l.prog w K mg base 1 "sets_of" ["count"] (spJ K M_sets_of) := ⟨f7, _, ok_sets_of F7 hy mb_range, e7, k7, b7⟩
  have d_with_number : Def l.prog w K mg base 1 "with_number" ["row", "place", "number"] (spJ K M_with_number) := ⟨f8, _, ok_with_number F8 hy, e8, k8, b8⟩
  have d__law_deck : Def l.prog w K mg base 1 "_law_deck" ["_law_script"] (spDeck K) := ⟨f9, _, ok__law_deck F9 mb_abs, e9, k9, b9⟩
  have d__law_draw : Def l.prog w K mg base 1 "_law_draw" ["_law_deck_here", "_law_limit"] (spJ K drawW) := ⟨f10, _, drawn (ok__law_draw F10 mb_len), e10, k10, b10⟩
  have d_are_numbers : Def l.prog w K mg base 2 "are_numbers" ["value", "count", "high"] (spJ K M_are_numbers) := ⟨f11, _, ok_are_numbers F11 hy d_is_number mb_all mb_isinstance mb_len mb_tuple, e11, k11, b11⟩
  have d_merged : DefS l.prog w K mg base 2 "merged" (spJ K M_merged) := ⟨f12, ok_merged F12 hy d_totals_of mb_enumerate mb_tuple mc_MAX_COUNT, e12, k12⟩
  have d_fulfilled_by : Def l.prog w K mg base 2 "fulfilled_by" ["collections", "counts"] (spJ K M_fulfilled_by) := ⟨f13, _, ok_fulfilled_by F13 hy d_contains mb_enumerate, e13, k13, b13⟩
  have d_takes_more : Def l.prog w K mg base 2 "takes_more" ["stock", "caps", "plan", "drawers"] (spJ K M_takes_more) := ⟨f14, _, ok_takes_more F14 hy d_room_in mb_sum, e14, k14, b14⟩
  have d_after_taking : Def l.prog w K mg base 2 "after_taking" ["task", "drawer", "kind", "count"] (spJ K M_after_taking) := ⟨f15, _, ok_after_taking F15 hy d_with_number, e15, k15, b15⟩
  have d_most_taken : Def l.prog w K mg base 2 "most_taken" ["task", "drawer", "kind"] (spJ K M_most_taken) := ⟨f16, _, ok_most_taken F16 hy d_room_in d_sets_of d_with_number mb_len mb_min mb_sum, e16, k16, b16⟩
  have d__law_counts : Def l.prog w K mg base 2 "_law_counts" ["_law_deck_here", "_law_kinds", "_law_most"] (spJ K M__law_counts) := ⟨f17, _, ok__law_counts F17 hy d__law_draw mb_range mb_tuple, e17, k17, b17⟩
  have d_stock_error : Def l.prog w K mg base 3 "stock_error" ["value"] (spJ K M_stock_error) := ⟨f18, _, ok_stock_error F18 hy d_are_numbers mb_enumerate mb_isinstance mb_len mb_tuple mc_MAX_COUNT mc_MAX_DRAWERS mc_MAX_KINDS, e18, k18, b18⟩
  have d_find_excess : Def l.prog w K mg base 3 "find_excess" ["stock", "caps", "plan"] (spJ K M_find_excess) := ⟨f19, _, ok_find_excess F19 hy d_sets_of d_takes_more mb_len, e19, k19, b19⟩
  have d_draw_within : Def l.prog w K mg base 3 "draw_within" ["stock", "caps", "plan"] (spJ K M_draw_within) := ⟨f20, _, ok_draw_within F20 hy d_after_taking d_most_taken mb_enumerate mb_len mb_range mb_tuple, e20, k20, b20⟩
  have d_sure_total : Def l.prog w K mg base 3 "sure_total" ["stock", "collections"] (spJ K M_sure_total) := ⟨f21, _, ok_sure_total F21 hy d_caps_of d_fulfilled_by d_room_in d_spoilings_of d_totals_of mb_len mb_list mb_max mb_range mb_tuple, e21, k21, b21⟩
  have d__law_stock : Def l.prog w K mg base 3 "_law_stock" ["_law_deck_here", "_law_most", "_law_high", "_law_kinds"] (spJ K M__law_stock) := ⟨f22, _, ok__law_stock F22 hy d__law_counts d__law_draw mb_range mb_tuple, e22, k22, b22⟩
  have d__law_wishes : Def l.prog w K mg base 3 "_law_wishes" ["_law_deck_here", "_law_most", "_law_high", "_law_kinds"] (spJ K M__law_wishes) := ⟨f23, _, ok__law_wishes F23 hy d__law_counts d__law_draw mb_max mb_range mb_tuple, e23, k23, b23⟩
  have d_is_stock : Def l.prog w K mg base 4 "is_stock" ["value"] (spJ K M_is_stock) := ⟨f24, _, ok_is_stock F24 hy d_stock_error, e24, k24, b24⟩
  have d_find_certificate : Def l.prog w K mg base 4 "find_certificate" ["stock", "collections", "plan"] (spJ K M_find_certificate) := ⟨f25, _, ok_find_certificate F25 hy d_caps_of d_draw_within d_find_excess d_spoilings_of mb_tuple, e25, k25, b25⟩
  have d_sure_number : Def l.prog w K mg base 4 "sure_number" ["stock", "collections", "drawer"] (spJ K M_sure_number) := ⟨f26, _, ok_sure_number F26 hy d_sure_total, e26, k26, b26⟩
  have d_is_sure : Def l.prog w K mg base 5 "is_sure" ["stock", "collections", "plan"] (spJ K M_is_sure) := ⟨f27, _, ok_is_sure F27 hy d_find_certificate, e27, k27, b27⟩
  have d__law_kept_right : Def l.prog w K mg base 5 "_law_kept_right" ["_law_stock_here", "_law_other", "_law_wishes_here"] (spJ K M__law_kept_right) := ⟨f28, _, ok__law_kept_right F28 hy d_caps_of d_is_stock d_room_in d_spoilings_of d_sure_total d_totals_of mb_len mb_range mb_tuple, e28, k28, b28⟩
  have d__law_divided_right : Def l.prog w K mg base 6 "_law_divided_right" ["_law_deck_here", "_law_stock_here", "_law_wishes_here", "_law_one", "_law_last"] (spJ K M__law_divided_right) := ⟨f29, _, ok__law_divided_right F29 hy d__law_draw d_is_sure d_merged d_sizes_of mb_int mb_len mb_max mb_min mb_range mb_tuple, e29, k29, b29⟩
  have d__law_whole_right : Def l.prog w K mg base 6 "_law_whole_right" ["_law_stock_here", "_law_wishes_here"] (spJ K M__law_whole_right) := ⟨f30, _, ok__law_whole_right F30 hy d_is_sure d_merged d_sizes_of d_sure_number d_sure_total mb_len mb_max mb_set mb_sorted mb_sum, e30, k30, b30⟩
  exact ok_law F31 hy d__law_divided_right d__law_draw d__law_kept_right d__law_stock d__law_whole_right d__law_wishes d_merged mb_len mb_range d__law_deck hM
end DD
set_option maxHeartbeats 1000000
namespace DD
open PySem PySem.Spec PyProof.Rows L2
theorem col_in {rows : List (List Int)} {k j : Nat} {m : Int} (hl : ∀ r ∈ rows, r.length = k) (hg : ∀ r ∈ rows, ∀ x ∈ r, 0 ≤ x ∧ x ≤ m) (hj : j < k) : 0 ≤ (col rows j).sum ∧ (col rows j).sum ≤ rows.length * m := by
  have := sum_in (B := m) (col rows j) fun x hx => by
    obtain ⟨r, hr, rfl⟩ := List.mem_map.mp hx
    exact getD_in (hg r hr) (by rw [hl r hr]; exact hj)
  rw [List.length_map] at this
  exact this
/-- counts contain a row -/
def cont (c r : List Int) : Bool := (c.zip r).all fun p => decide (p.2 ≤ p.1)
def fulf (rows : List (List Int)) (c : List Int) : Option Nat := firstN (cont c) rows
theorem cont_iff {c r : List Int} (h : c.length = r.length) : cont c r = true ↔ ∀ j, j < r.length → r.getD j 0 ≤ c.getD j 0 := by
  unfold cont
  rw [List.all_eq_true]
  constructor
  · intro hp j hj
    have := hp (c.getD j 0, r.getD j 0) (List.mem_iff_getElem.mpr ⟨j, by simp; omega, by simp [List.getD, hj, h]⟩)
    simpa using this
  · intro hp p hp2
    obtain ⟨j, hj, rfl⟩ := List.mem_iff_getElem.mp hp2
    have hj1 : j < r.length := by simp at hj; omega
    have := hp j hj1
    simpa [List.getD, hj1, h] using this
/-- the cap of kind j: the least number needed of it, less 1 -/
def capO (ps : List (List Int × Nat)) (j : Nat) : Option Int := ((ps.filter fun p => p.2 == j).map fun p => p.1.getD j 0 - 1).min?
theorem capO_snoc (ps : List (List Int × Nat)) (p : List Int × Nat) (j : Nat) : capO (ps ++ [p]) j = if p.2 = j then some (match capO ps j with | none => p.1.getD j 0 - 1 | some v => min v (p.1.getD j 0 - 1)) else capO ps j := by
  unfold capO
  by_cases h : p.2 = j
  · rw [if_pos h, List.filter_append, List.map_append]
    have : ([p].filter fun p => p.2 == j) = [p] := by simp [h]
    rw [this, List.map_cons, List.map_nil, min_snoc] <;> rfl
  · rw [if_neg h, List.filter_append]
    have : ([p].filter fun p => p.2 == j) = [] := by simp [h]
    rw [this, List.append_nil]
abbrev capsL (ps : List (List Int × Nat)) (k : Nat) : List D := (List.range k).map fun j => oD (capO ps j)
theorem caps_eq {k : Nat} {rows : List (List Int)} {named : List Nat} (h1 : 1 ≤ rows.length) (hl : ∀ r ∈ rows, r.length = k) (hk : k ≤ 1000) (hn : named.length = rows.length) (hin : ∀ x ∈ named, x < k) : m_caps_of (tT rows) (tN named) = some (.tuple (capsL (rows.zip named) k)) := by
  unfold m_caps_of
  have e0 : getD (tT rows) (.int 0) = some (tI rows[0]) := get_tup (F := tI) (i := 0) h1
  have ek : rows[0].length = k := hl _ (List.getElem_mem _)
  have er : repO [PyData.none] (.int (k : Nat)) = some (capsL [] k) := by
    rw [rep_ok (by omega) (by omega) (by simp)]
    congr 1
    refine List.ext_getElem (by simp) fun i h1 h2 => ?_
    simp [capO, oD]
  simp only [op2, op1, cmp2, chain3, tst, notB, andB, orB, andD, orD, iteM, consM, starM, smallM, tupM, tupSM, lstM, argV, argK, comp1, comp1i, comp2, comp2i, comp11, seqM, rng1, rng2, zipSM, zip2M, zip3M, enumM, repM, joinM, catM, par3LM, put2M, popM, parLV, putVM, unpS, trg1M, sortSetM, orV, lrg1M, par3M, rdM, rdLM, partM, slcM, isiM, rtM, forM1, forM2, forM3, parM, unp2, unp3, ob_pure, ob_some, ob_lift, Option.pure_def, add_int, sub_int, lt_int, le_int, gt_int, ge_int, eq_int, ne_int, min_int, max_int, neg_int, bool_bool, not_bool, is_none, isn_none, nn_int, nn_none, nn_tup, len_tup, len_lst, tup_lst, tup_tup, it_lst, it_tup, int_bool, int_int, oint_int, addI_int, subI_int, flat_tI, flat_int, flat_none, Option.bind_some, Option.map_some, Int.zero_add, thenB, thenM, List.nil_append, List.length_map, e0, ek, listOnly, er, zip_map (Nat.le_of_eq hn.symm)]
  rw [loop_pre (m := Option) (γ := List Int × Nat) (fun ps => capsL ps k) (rows.zip named) fun p x q e => ?_]
  · rfl
  · have hx := List.of_mem_zip (show (x.1, x.2) ∈ rows.zip named by rw [e]; simp)
    have hx1 : x.1.length = k := hl _ hx.1
    have hx2 : x.2 < k := hin _ hx.2
    have hg : getD (.list (capsL p k)) (.int (x.2 : Nat)) = some (oD (capO p x.2)) := by
      have := get_lst (F := fun j => oD (capO p j)) (xs := List.range k) (i := x.2) (by simpa using hx2)
      rw [this]
      simp
    simp only [pairM]
    rw [at_int (by omega)]
    simp only [op2, op1, cmp2, chain3, tst, notB, andB, orB, andD, orD, iteM, consM, starM, smallM, tupM, tupSM, lstM, argV, argK, comp1, comp1i, comp2, comp2i, comp11, seqM, rng1, rng2, zipSM, zip2M, zip3M, enumM, repM, joinM, catM, par3LM, put2M, popM, parLV, putVM, unpS, trg1M, sortSetM, orV, lrg1M, par3M, rdM, rdLM, partM, slcM, isiM, rtM, forM1, forM2, forM3, parM, unp2, unp3, ob_pure, ob_some, ob_lift, Option.pure_def, add_int, sub_int, lt_int, le_int, gt_int, ge_int, eq_int, ne_int, min_int, max_int, neg_int, bool_bool, not_bool, is_none, isn_none, nn_int, nn_none, nn_tup, len_tup, len_lst, tup_lst, tup_tup, it_lst, it_tup, int_bool, int_int, oint_int, addI_int, subI_int, flat_tI, flat_int, flat_none, Option.bind_some, Option.map_some, Int.zero_add, thenB, thenM, List.nil_append, List.length_map, hg]
    have hset : ∀ v : Int, capO (p ++ [x]) x.2 = some v → (putD (capsL p k) (.int (x.2 : Nat)) (.int v)) = some (capsL (p ++ [x]) k) := by
      intro v hv
      rw [put_at (by simpa using hx2)]
      congr 1
      refine List.ext_getElem (by simp) fun i h1 h2 => ?_
      have hi : i < k := by simpa using h2
      rw [List.getElem_set]
      by_cases z : x.2 = i
      · subst z
        simp [hv, oD]
      · simp [z, capO_snoc]
    cases hc : capO p x.2 with
    | none =>
      simp only [oD, nn_none, if_true, op2, op1, cmp2, chain3, tst, notB, andB, orB, andD, orD, iteM, consM, starM, smallM, tupM, tupSM, lstM, argV, argK, comp1, comp1i, comp2, comp2i, comp11, seqM, rng1, rng2, zipSM, zip2M, zip3M, enumM, repM, joinM, catM, par3LM, put2M, popM, parLV, putVM, unpS, trg1M, sortSetM, orV, lrg1M, par3M, rdM, rdLM, partM, slcM, isiM, rtM, forM1, forM2, forM3, parM, unp2, unp3, ob_pure, ob_some, ob_lift, Option.pure_def, add_int, sub_int, lt_int, le_int, gt_int, ge_int, eq_int, ne_int, min_int, max_int, neg_int, bool_bool, not_bool, is_none, isn_none, nn_int, nn_none, nn_tup, len_tup, len_lst, tup_lst, tup_tup, it_lst, it_tup, int_bool, int_int, oint_int, addI_int, subI_int, flat_tI, flat_int, flat_none, Option.bind_some, Option.map_some, Int.zero_add, thenB, thenM, List.nil_append, List.length_map]
      rw [hset _ (by rw [capO_snoc, if_pos rfl, hc])]
      rfl
    | some v =>
      simp only [oD, nn_int, Bool.false_eq_true, if_false, op2, op1, cmp2, chain3, tst, notB, andB, orB, andD, orD, iteM, consM, starM, smallM, tupM, tupSM, lstM, argV, argK, comp1, comp1i, comp2, comp2i, comp11, seqM, rng1, rng2, zipSM, zip2M, zip3M, enumM, repM, joinM, catM, par3LM, put2M, popM, parLV, putVM, unpS, trg1M, sortSetM, orV, lrg1M, par3M, rdM, rdLM, partM, slcM, isiM, rtM, forM1, forM2, forM3, parM, unp2, unp3, ob_pure, ob_some, ob_lift, Option.pure_def, add_int, sub_int, lt_int, le_int, gt_int, ge_int, eq_int, ne_int, min_int, max_int, neg_int, bool_bool, not_bool, is_none, isn_none, nn_int, nn_none, nn_tup, len_tup, len_lst, tup_lst, tup_tup, it_lst, it_tup, int_bool, int_int, oint_int, addI_int, subI_int, flat_tI, flat_int, flat_none, Option.bind_some, Option.map_some, Int.zero_add, thenB, thenM, List.nil_append, List.length_map]
      rw [hset _ (by rw [capO_snoc, if_pos rfl, hc])]
      rfl
/-- the caps, typed -/
def capsO (ps : List (List Int × Nat)) (k : Nat) : List (Option Int) := (List.range k).map (capO ps)
theorem caps_eqO {k : Nat} {rows : List (List Int)} {named : List Nat} (h1 : 1 ≤ rows.length) (hl : ∀ r ∈ rows, r.length = k) (hk : k ≤ 1000) (hn : named.length = rows.length) (hin : ∀ x ∈ named, x < k) : m_caps_of (tT rows) (tN named) = some (tO (capsO (rows.zip named) k)) := by
  rw [caps_eq h1 hl hk hn hin]
  show _ = some (PyData.tuple (((List.range k).map (capO (rows.zip named))).map oD))
  rw [List.map_map]
  rfl
/-- the kinds of which a row needs some -/
def ableN (r : List Int) : List Nat := (r.zipIdx.filter fun p => decide (0 < p.1)).map (·.2)
theorem mem_ableN {r : List Int} {j : Nat} : j ∈ ableN r ↔ j < r.length ∧ 0 < r.getD j 0 := by
  unfold ableN
  simp only [List.mem_map, List.mem_filter, decide_eq_true_eq, Prod.exists]
  constructor
  · rintro ⟨x, n, ⟨h1, h2⟩, rfl⟩
    have := List.mem_zipIdx h1
    refine ⟨by omega, ?_⟩
    have e : x = r[n]'(by omega) := by have := this.2.2; simpa using this
    rw [List.getD_eq_getElem?_getD, List.getElem?_eq_getElem (by omega)]
    simpa [e] using h2
  · rintro ⟨h1, h2⟩
    refine ⟨r[j], j, ⟨?_, ?_⟩, rfl⟩
    · rw [List.mem_iff_getElem]
      exact ⟨j, by simpa using h1, by simp⟩
    · rw [List.getD_eq_getElem?_getD, List.getElem?_eq_getElem h1] at h2
      simpa using h2
theorem ableN_len {r : List Int} : (ableN r).length ≤ r.length := by
  unfold ableN
  rw [List.length_map]
  have := List.length_filter_le (fun p : Int × Nat => decide (0 < p.1)) r.zipIdx
  rw [List.length_zipIdx] at this
  exact this
def spStep (acc : List (List Nat)) (r : List Int) : List (List Nat) := acc.flatMap fun b => (ableN r).map fun k => b ++ [k]
def spoilF (acc : List (List Nat)) (rows : List (List Int)) : List (List Nat) := rows.foldl spStep acc
abbrev spoil (rows : List (List Int)) : List (List Nat) := spoilF [[]] rows
theorem spStep_len {acc : List (List Nat)} {r : List Int} (h : r.length ≤ 4) : (spStep acc r).length ≤ acc.length * 4 := by
  unfold spStep
  induction acc with
  | nil => simp
  | cons b acc ih =>
    rw [List.flatMap_cons, List.length_append, List.length_map, List.length_cons, Nat.succ_mul]
    have := ableN_len (r := r)
    omega
theorem spoilF_len : ∀ (rows : List (List Int)) (acc : List (List Nat)), (∀ r ∈ rows, r.length ≤ 4) → (spoilF acc rows).length ≤ acc.length * 4 ^ rows.length
  | [], acc, _ => by simp [spoilF]
  | r :: rows, acc, h => by
    have h1 := spoilF_len rows (spStep acc r) fun x hx => h x (List.mem_cons_of_mem _ hx)
    have h2 := spStep_len (acc := acc) (h r List.mem_cons_self)
    show (spoilF (spStep acc r) rows).length ≤ _
    rw [List.length_cons, Nat.pow_succ]
    have h3 := Nat.mul_le_mul_right (4 ^ rows.length) h2
    rw [Nat.mul_assoc, Nat.mul_comm 4] at h3
    omega
theorem mem_spoilF : ∀ (rows : List (List Int)) (acc : List (List Nat)) (s : List Nat), s ∈ spoilF acc rows ↔ ∃ b ∈ acc, ∃ t : List Nat, s = b ++ t ∧ t.length = rows.length ∧ ∀ p ∈ rows.zip t, p.2 ∈ ableN p.1
  | [], acc, s => by
    show s ∈ acc ↔ _
    constructor
    · intro h
      exact ⟨s, h, [], by simp, rfl, by simp⟩
    · rintro ⟨b, hb, t, rfl, ht, _⟩
      obtain rfl : t = [] := List.eq_nil_of_length_eq_zero (by simpa using ht)
      rw [List.append_nil]
      exact hb
  | r :: rows, acc, s => by
    show s ∈ spoilF (spStep acc r) rows ↔ _
    rw [mem_spoilF rows (spStep acc r) s]
    constructor
    · rintro ⟨b, hb, t, rfl, ht, hp⟩
      obtain ⟨b', hb', hbb⟩ := List.mem_flatMap.mp hb
      obtain ⟨k, hk, rfl⟩ := List.mem_map.mp hbb
      refine ⟨b', hb', k :: t, by simp, by simp [ht], fun p hpm => ?_⟩
      rw [List.zip_cons_cons, List.mem_cons] at hpm
      rcases hpm with rfl | hpm
      · exact hk
      · exact hp p hpm
    · rintro ⟨b, hb, t, rfl, ht, hp⟩
      cases t with
      | nil => simp at ht
      | cons k t =>
        refine ⟨b ++ [k], List.mem_flatMap.mpr ⟨b, hb, List.mem_map.mpr ⟨k, hp (r, k) (by simp), rfl⟩⟩, t, by simp, by simpa using ht, fun p hpm => hp p (by rw [List.zip_cons_cons]; exact List.mem_cons_of_mem _ hpm)⟩
theorem mem_spoil {rows : List (List Int)} {s : List Nat} : s ∈ spoil rows ↔ s.length = rows.length ∧ ∀ p ∈ rows.zip s, p.2 ∈ ableN p.1 := by
  rw [mem_spoilF]
  constructor
  · rintro ⟨b, hb, t, rfl, h⟩
    rw [List.mem_singleton.mp hb]
    exact h
  · intro h
    exact ⟨[], List.mem_singleton.mpr rfl, s, rfl, h⟩
theorem spoil_snoc (rows : List (List Int)) (r : List Int) : spoil (rows ++ [r]) = spStep (spoil rows) r := by
  unfold spoil spoilF
  rw [List.foldl_append]
  rfl
theorem spoil_eq {rows : List (List Int)} (h4 : rows.length ≤ 4) (hk : ∀ r ∈ rows, r.length ≤ 4) : m_spoilings_of (tT rows) = some (.tuple ((spoil rows).map tN)) := by
  unfold m_spoilings_of
  simp only [op2, op1, cmp2, chain3, tst, notB, andB, orB, andD, orD, iteM, consM, starM, smallM, tupM, tupSM, lstM, argV, argK, comp1, comp1i, comp2, comp2i, comp11, seqM, rng1, rng2, zipSM, zip2M, zip3M, enumM, repM, joinM, catM, par3LM, put2M, popM, parLV, putVM, unpS, trg1M, sortSetM, orV, lrg1M, par3M, rdM, rdLM, partM, slcM, isiM, rtM, forM1, forM2, forM3, parM, unp2, unp3, ob_pure, ob_some, ob_lift, Option.pure_def, add_int, sub_int, lt_int, le_int, gt_int, ge_int, eq_int, ne_int, min_int, max_int, neg_int, bool_bool, not_bool, is_none, isn_none, nn_int, nn_none, nn_tup, len_tup, len_lst, tup_lst, tup_tup, it_lst, it_tup, int_bool, int_int, oint_int, addI_int, subI_int, flat_tI, flat_int, flat_none, Option.bind_some, Option.map_some, Int.zero_add, thenB, thenM, List.nil_append, List.length_map, ob_assoc]
  refine bindE (loop_pre (m := Option) (F := tI) (fun p => PyData.list ((spoil p).map tN)) rows fun p r q e => ?_) rfl
  have hr : r.length ≤ 4 := hk r (by rw [e]; simp)
  have hp4 : p.length < 4 := by have := congrArg List.length e; simp at this; omega
  have hpl : (spoil p).length ≤ 256 := by
    have h1 := spoilF_len p [[]] fun x hx => hk x (by rw [e]; simp [hx])
    have h2 : 4 ^ p.length ≤ 4 ^ 4 := Nat.pow_le_pow_right (by decide) (Nat.le_of_lt hp4)
    have h3 : (spoil p).length ≤ 1 * 4 ^ p.length := h1
    omega
  simp only [op2, op1, cmp2, chain3, tst, notB, andB, orB, andD, orD, iteM, consM, starM, smallM, tupM, tupSM, lstM, argV, argK, comp1, comp1i, comp2, comp2i, comp11, seqM, rng1, rng2, zipSM, zip2M, zip3M, enumM, repM, joinM, catM, par3LM, put2M, popM, parLV, putVM, unpS, trg1M, sortSetM, orV, lrg1M, par3M, rdM, rdLM, partM, slcM, isiM, rtM, forM1, forM2, forM3, parM, unp2, unp3, ob_pure, ob_some, ob_lift, Option.pure_def, add_int, sub_int, lt_int, le_int, gt_int, ge_int, eq_int, ne_int, min_int, max_int, neg_int, bool_bool, not_bool, is_none, isn_none, nn_int, nn_none, nn_tup, len_tup, len_lst, tup_lst, tup_tup, it_lst, it_tup, int_bool, int_int, oint_int, addI_int, subI_int, flat_tI, flat_int, flat_none, Option.bind_some, Option.map_some, Int.zero_add, thenB, thenM, List.nil_append, List.length_map, ob_assoc, enum_map]
  rw [small_ok (by simp; omega)]
  simp only [op2, op1, cmp2, chain3, tst, notB, andB, orB, andD, orD, iteM, consM, starM, smallM, tupM, tupSM, lstM, argV, argK, comp1, comp1i, comp2, comp2i, comp11, seqM, rng1, rng2, zipSM, zip2M, zip3M, enumM, repM, joinM, catM, par3LM, put2M, popM, parLV, putVM, unpS, trg1M, sortSetM, orV, lrg1M, par3M, rdM, rdLM, partM, slcM, isiM, rtM, forM1, forM2, forM3, parM, unp2, unp3, ob_pure, ob_some, ob_lift, Option.pure_def, add_int, sub_int, lt_int, le_int, gt_int, ge_int, eq_int, ne_int, min_int, max_int, neg_int, bool_bool, not_bool, is_none, isn_none, nn_int, nn_none, nn_tup, len_tup, len_lst, tup_lst, tup_tup, it_lst, it_tup, int_bool, int_int, oint_int, addI_int, subI_int, flat_tI, flat_int, flat_none, Option.bind_some, Option.map_some, Int.zero_add, thenB, thenM, List.nil_append, List.length_map, ob_assoc]
  refine bindE (lcA_filt2 (m := Option) (Ga := fun p : Int × Nat => .int (p.2 : Nat)) (Gb := fun p => .int p.1) (p := fun p => decide (0 < p.1)) (G := fun p => .int (p.2 : Nat)) (fun _ => rfl) r.zipIdx [] (fun p hp => rfl) fun p hp hpj => rfl) ?_
  have ea : ((r.zipIdx.filter fun p => decide (0 < p.1)).map fun p => PyData.int (p.2 : Nat)) = (ableN r).map fun k : Nat => PyData.int (k : Nat) := by
    unfold ableN
    rw [List.map_map]
    rfl
  rw [List.nil_append, ea]
  rw [small_ok (by rw [List.length_map]; omega)]
  simp only [op2, op1, cmp2, chain3, tst, notB, andB, orB, andD, orD, iteM, consM, starM, smallM, tupM, tupSM, lstM, argV, argK, comp1, comp1i, comp2, comp2i, comp11, seqM, rng1, rng2, zipSM, zip2M, zip3M, enumM, repM, joinM, catM, par3LM, put2M, popM, parLV, putVM, unpS, trg1M, sortSetM, orV, lrg1M, par3M, rdM, rdLM, partM, slcM, isiM, rtM, forM1, forM2, forM3, parM, unp2, unp3, ob_pure, ob_some, ob_lift, Option.pure_def, add_int, sub_int, lt_int, le_int, gt_int, ge_int, eq_int, ne_int, min_int, max_int, neg_int, bool_bool, not_bool, is_none, isn_none, nn_int, nn_none, nn_tup, len_tup, len_lst, tup_lst, tup_tup, it_lst, it_tup, int_bool, int_int, oint_int, addI_int, subI_int, flat_tI, flat_int, flat_none, Option.bind_some, Option.map_some, Int.zero_add, thenB, thenM, List.nil_append, List.length_map, ob_assoc]
  refine bindE (lc2_map (m := Option) (F := tN) (F2 := fun k : Nat => PyData.int (k : Nat)) (ys := fun _ => ableN r) (G := fun b k => tN (b ++ [k])) (spoil p) [] (fun _ _ => rfl) (fun b hb k hk2 => ?_) ?_) ?_
  · simp only [op2, op1, cmp2, chain3, tst, notB, andB, orB, andD, orD, iteM, consM, starM, smallM, tupM, tupSM, lstM, argV, argK, comp1, comp1i, comp2, comp2i, comp11, seqM, rng1, rng2, zipSM, zip2M, zip3M, enumM, repM, joinM, catM, par3LM, put2M, popM, parLV, putVM, unpS, trg1M, sortSetM, orV, lrg1M, par3M, rdM, rdLM, partM, slcM, isiM, rtM, forM1, forM2, forM3, parM, unp2, unp3, ob_pure, ob_some, ob_lift, Option.pure_def, add_int, sub_int, lt_int, le_int, gt_int, ge_int, eq_int, ne_int, min_int, max_int, neg_int, bool_bool, not_bool, is_none, isn_none, nn_int, nn_none, nn_tup, len_tup, len_lst, tup_lst, tup_tup, it_lst, it_tup, int_bool, int_int, oint_int, addI_int, subI_int, flat_tI, flat_int, flat_none, Option.bind_some, Option.map_some, Int.zero_add, thenB, thenM, List.nil_append, List.length_map, ob_assoc]
    have hb4 := (mem_spoil.mp hb).1
    rw [small_ok (by simp; omega)]
    simp [tN]
  · have : ((spoil p).flatMap fun _ => ableN r).length ≤ 256 * 4 := by
      rw [List.length_flatMap]
      have h1 := ableN_len (r := r)
      have h2 : ((spoil p).map fun _ => (ableN r).length).sum ≤ (spoil p).length * 4 := by
        generalize spoil p = l
        induction l with
        | nil => simp
        | cons x l ih => simp only [List.map_cons, List.sum_cons, List.length_cons, Nat.succ_mul]; omega
      omega
    simp only [List.length_nil]
    omega
  · rw [List.nil_append, spoil_snoc]
    unfold spStep
    rw [List.map_flatMap]
    simp [Function.comp_def]
/-- counts at most at the caps -/
def keptB (caps : List (Option Int)) (c : List Int) : Bool := (caps.zip c).all fun p => match p.1 with | none => true | some v => decide (p.2 ≤ v)
theorem kept_iff {caps : List (Option Int)} {c : List Int} {k : Nat} (h1 : caps.length = k) (h2 : c.length = k) : keptB caps c = true ↔ ∀ j v, j < k → caps.getD j none = some v → c.getD j 0 ≤ v := by
  unfold keptB
  rw [List.all_eq_true]
  constructor
  · intro h j v hj hv
    have := h (caps.getD j none, c.getD j 0) (List.mem_iff_getElem.mpr ⟨j, by simp; omega, by simp [List.getD, h1, h2, hj]⟩)
    simp only [hv] at this
    exact of_decide_eq_true this
  · intro h p hp
    obtain ⟨j, hj, rfl⟩ := List.mem_iff_getElem.mp hp
    have hj1 : j < caps.length := by simp at hj; omega
    have hj2 : j < c.length := by omega
    rw [List.getElem_zip]
    cases hq : caps[j] with
    | none => rfl
    | some v =>
      have := h j v (by omega) (by simp [List.getD, hj1, hq])
      simpa [List.getD, hj2] using this
theorem capO_le {ps : List (List Int × Nat)} {p : List Int × Nat} (h : p ∈ ps) : ∃ v, capO ps p.2 = some v ∧ v ≤ p.1.getD p.2 0 - 1 := by
  unfold capO
  have hm : p.1.getD p.2 0 - 1 ∈ ((ps.filter fun q => q.2 == p.2).map fun q => q.1.getD p.2 0 - 1) := List.mem_map.mpr ⟨p, List.mem_filter.mpr ⟨h, by simp⟩, rfl⟩
  generalize ((ps.filter fun q => q.2 == p.2).map fun q => q.1.getD p.2 0 - 1) = l at hm
  cases hl : l.min? with
  | none => rw [List.min?_eq_none_iff.mp hl] at hm; simp at hm
  | some v => exact ⟨v, rfl, (List.min?_eq_some_iff.mp hl).2 _ hm⟩
theorem capO_at {ps : List (List Int × Nat)} {j : Nat} {v : Int} (h : capO ps j = some v) : ∃ p ∈ ps, p.2 = j ∧ v = p.1.getD j 0 - 1 := by
  unfold capO at h
  obtain ⟨p, hp, e⟩ := List.mem_map.mp (List.min?_eq_some_iff.mp h).1
  have := List.mem_filter.mp hp
  exact ⟨p, this.1, by simpa using this.2, e.symm⟩
theorem capsO_len (ps : List (List Int × Nat)) (k : Nat) : (capsO ps k).length = k := by simp [capsO]
theorem capsO_at {ps : List (List Int × Nat)} {k j : Nat} (h : j < k) : (capsO ps k).getD j none = capO ps j := by simp [capsO, List.getD, h]
theorem fulf_none {rows : List (List Int)} {c : List Int} : fulf rows c = none ↔ ∀ r ∈ rows, cont c r = false := by
  unfold fulf firstN
  rw [Option.map_eq_none_iff, List.find?_eq_none]
  constructor
  · intro h r hr
    obtain ⟨i, hi, rfl⟩ := List.getElem_of_mem hr
    have := h (rows[i], i) (List.mem_iff_getElem.mpr ⟨i, by simpa using hi, by simp⟩)
    simpa using this
  · intro h p hp
    have := List.mem_zipIdx hp
    have hm : p.1 ∈ rows := this.2.2 ▸ List.getElem_mem _
    simp [h _ hm]
/-- counts fulfil nothing exactly if some spoiling's caps keep them -/
theorem spoiled {rows : List (List Int)} {c : List Int} {k : Nat} (hl : ∀ r ∈ rows, r.length = k) (hc : c.length = k) (h0 : ∀ x ∈ c, 0 ≤ x) : fulf rows c = none ↔ ∃ s ∈ spoil rows, keptB (capsO (rows.zip s) k) c = true := by
  rw [fulf_none]
  constructor
  · intro h
    have hch : ∀ rs : List (List Int), (∀ r ∈ rs, r ∈ rows) → ∃ s : List Nat, s.length = rs.length ∧ ∀ p ∈ rs.zip s, p.2 < k ∧ c.getD p.2 0 < p.1.getD p.2 0 := by
      intro rs
      induction rs with
      | nil => exact fun _ => ⟨[], rfl, by simp⟩
      | cons r rs ih =>
        intro hm
        obtain ⟨s, hs, hp⟩ := ih fun x hx => hm x (List.mem_cons_of_mem _ hx)
        have hr := hm r List.mem_cons_self
        have hj : ∃ j, j < k ∧ c.getD j 0 < r.getD j 0 := by
          have hcf := h r hr
          apply Classical.byContradiction
          intro hn
          have : cont c r = true := (cont_iff (by rw [hc, hl r hr])).mpr fun j hj => by
            apply Classical.byContradiction
            intro hlt
            exact hn ⟨j, by rw [← hl r hr]; exact hj, by omega⟩
          rw [this] at hcf
          cases hcf
        obtain ⟨j, hj1, hj2⟩ := hj
        refine ⟨j :: s, by simp [hs], fun p hpm => ?_⟩
        rw [List.zip_cons_cons, List.mem_cons] at hpm
        rcases hpm with rfl | hpm
        · exact ⟨hj1, hj2⟩
        · exact hp p hpm
    obtain ⟨s, hs, hp⟩ := hch rows fun r hr => hr
    refine ⟨s, mem_spoil.mpr ⟨hs, fun p hpm => ?_⟩, (kept_iff (capsO_len _ _) hc).mpr fun j v hj hv => ?_⟩
    · have hr : p.1 ∈ rows := (List.of_mem_zip (show (p.1, p.2) ∈ rows.zip s from hpm)).1
      have := hp p hpm
      have hcj := getD_in h0 (i := p.2) (by omega)
      exact mem_ableN.mpr ⟨by rw [hl _ hr]; exact this.1, by omega⟩
    · rw [capsO_at hj] at hv
      obtain ⟨p, hpm, rfl, rfl⟩ := capO_at hv
      have := hp p hpm
      omega
  · rintro ⟨s, hs, hk⟩ r hr
    obtain ⟨hsl, hsp⟩ := mem_spoil.mp hs
    obtain ⟨i, hi, rfl⟩ := List.getElem_of_mem hr
    have hpm : (rows[i], s[i]'(by omega)) ∈ rows.zip s := List.mem_iff_getElem.mpr ⟨i, by simp; omega, by simp⟩
    have hab := mem_ableN.mp (hsp _ hpm)
    have hlt : s[i]'(by omega) < k := by have := hab.1; rw [hl _ hr] at this; exact this
    obtain ⟨v, hv, hle⟩ := capO_le hpm
    have := (kept_iff (capsO_len _ _) hc).mp hk _ v hlt (by rw [capsO_at hlt]; exact hv)
    cases hcc : cont c rows[i] with
    | false => rfl
    | true =>
      have := (cont_iff (by rw [hc, hl _ hr])).mp hcc _ hab.1
      simp only at hle this
      omega
/-- how many of kind j stand in some drawers -/
def many (rows : List (List Int)) (ds : List Nat) (j : Nat) : Int := (ds.map fun d => (rows.getD d []).getD j 0).sum
def capped (m : Int) : Option Int → Int
  | none => m
  | some c => min m c
def room (rows : List (List Int)) (caps : List (Option Int)) (ds : List Nat) : Int := (caps.zipIdx.map fun q => capped (many rows ds q.2) q.1).sum
theorem many_eq {m : Type → Type} [Mo m] [MoL m] {rows : List (List Int)} {ds : List Nat} {k j : Nat} (hl : ∀ r ∈ rows, r.length = k) (hd : ∀ d ∈ ds, d < rows.length) (hj : j < k) :
    (lcA (m := m) (fun d => someM (Mo.lift (DD.getD (tT rows) d) >>= fun a => Mo.lift (DD.getD a (.int (j : Nat))))) (ds.map fun d : Nat => PyData.int (d : Nat)) []) = pure (ds.map fun d => .int ((rows.getD d []).getD j 0)) := by
  rw [lcA_mapP (G := fun d : Nat => .int ((rows.getD d []).getD j 0)) ds [] fun d hdm => ?_]
  · rfl
  · rw [get_row (hd d hdm), MoL.ls, MoL.pb, at_int (by rw [row_len hl (hd d hdm)]; exact hj), MoL.ls]
theorem sum_many (rows : List (List Int)) (ds : List Nat) (j : Nat) : sumD (.list (ds.map fun d => .int ((rows.getD d []).getD j 0))) = some (.int (many rows ds j)) := by
  have := sum_lI (ds.map fun d => (rows.getD d []).getD j 0)
  rw [List.map_map] at this
  exact this
theorem room_eq {rows : List (List Int)} {caps : List (Option Int)} {ds : List Nat} {k : Nat} (hl : ∀ r ∈ rows, r.length = k) (hc : caps.length = k) (hd : ∀ d ∈ ds, d < rows.length) (hs : ds.length ≤ 1000000) : m_room_in (tT rows) (tO caps) (tN ds) = some (.int (room rows caps ds)) := by
  unfold m_room_in
  simp only [op2, op1, cmp2, chain3, tst, notB, andB, orB, andD, orD, iteM, consM, starM, smallM, tupM, tupSM, lstM, argV, argK, comp1, comp1i, comp2, comp2i, comp11, seqM, rng1, rng2, zipSM, zip2M, zip3M, enumM, repM, joinM, catM, par3LM, put2M, popM, parLV, putVM, unpS, trg1M, sortSetM, orV, lrg1M, par3M, rdM, rdLM, partM, slcM, isiM, rtM, forM1, forM2, forM3, parM, unp2, unp3, ob_pure, ob_some, ob_lift, Option.pure_def, add_int, sub_int, lt_int, le_int, gt_int, ge_int, eq_int, ne_int, min_int, max_int, neg_int, bool_bool, not_bool, is_none, isn_none, nn_int, nn_none, nn_tup, len_tup, len_lst, tup_lst, tup_tup, it_lst, it_tup, int_bool, int_int, oint_int, addI_int, subI_int, flat_tI, flat_int, flat_none, Option.bind_some, Option.map_some, Int.zero_add, thenB, thenM, List.nil_append, List.length_map, ob_assoc, enum_map]
  refine bindE (loop_pre (m := Option) (F := fun p : Option Int × Nat => PyData.tuple [.int (p.2 : Nat), oD p.1]) (fun p => PyData.int (p.map fun q => capped (many rows ds q.2) q.1).sum) caps.zipIdx fun p x q e => ?_) rfl
  · have hx : x ∈ caps.zipIdx := by rw [e]; simp
    have hj : x.2 < k := by have := List.mem_zipIdx hx; omega
    simp only [pairM]
    rw [small_ok (by rw [List.length_map]; exact hs)]
    simp only [op2, op1, cmp2, chain3, tst, notB, andB, orB, andD, orD, iteM, consM, starM, smallM, tupM, tupSM, lstM, argV, argK, comp1, comp1i, comp2, comp2i, comp11, seqM, rng1, rng2, zipSM, zip2M, zip3M, enumM, repM, joinM, catM, par3LM, put2M, popM, parLV, putVM, unpS, trg1M, sortSetM, orV, lrg1M, par3M, rdM, rdLM, partM, slcM, isiM, rtM, forM1, forM2, forM3, parM, unp2, unp3, ob_pure, ob_some, ob_lift, Option.pure_def, add_int, sub_int, lt_int, le_int, gt_int, ge_int, eq_int, ne_int, min_int, max_int, neg_int, bool_bool, not_bool, is_none, isn_none, nn_int, nn_none, nn_tup, len_tup, len_lst, tup_lst, tup_tup, it_lst, it_tup, int_bool, int_int, oint_int, addI_int, subI_int, flat_tI, flat_int, flat_none, Option.bind_some, Option.map_some, Int.zero_add, thenB, thenM, List.nil_append, List.length_map, ob_assoc]
    refine bindE (many_eq (m := Option) hl hd hj) ?_
    simp only [op2, op1, cmp2, chain3, tst, notB, andB, orB, andD, orD, iteM, consM, starM, smallM, tupM, tupSM, lstM, argV, argK, comp1, comp1i, comp2, comp2i, comp11, seqM, rng1, rng2, zipSM, zip2M, zip3M, enumM, repM, joinM, catM, par3LM, put2M, popM, parLV, putVM, unpS, trg1M, sortSetM, orV, lrg1M, par3M, rdM, rdLM, partM, slcM, isiM, rtM, forM1, forM2, forM3, parM, unp2, unp3, ob_pure, ob_some, ob_lift, Option.pure_def, add_int, sub_int, lt_int, le_int, gt_int, ge_int, eq_int, ne_int, min_int, max_int, neg_int, bool_bool, not_bool, is_none, isn_none, nn_int, nn_none, nn_tup, len_tup, len_lst, tup_lst, tup_tup, it_lst, it_tup, int_bool, int_int, oint_int, addI_int, subI_int, flat_tI, flat_int, flat_none, Option.bind_some, Option.map_some, Int.zero_add, thenB, thenM, List.nil_append, List.length_map, ob_assoc, sum_many]
    rw [List.map_append, List.sum_append]
    cases hq : x.1 with
    | none => simp [oD, capped, nn_none, addI_int, hq]
    | some c => simp [oD, capped, nn_int, addI_int, hq, min_int]
theorem ableN_range (r : List Int) : ableN r = (List.range r.length).filter fun j => decide (0 < r.getD j 0) := by
  unfold ableN
  rw [zipIdx_range, List.filter_map, List.map_map]
  simp [Function.comp_def]
theorem spoil_len {k : Nat} {m : Int} {rows : List (List Int)} (ro : Wishes k m rows) (k4 : k ≤ 4) : (spoil rows).length ≤ 256 := by
  have h1 := spoilF_len rows [[]] fun r hr => by rw [ro.len r hr]; exact k4
  have h2 : 4 ^ rows.length ≤ 4 ^ 4 := Nat.pow_le_pow_right (by decide) ro.four
  have h3 : (spoil rows).length ≤ 1 * 4 ^ rows.length := h1
  omega
theorem spoil_lt {k : Nat} {m : Int} {rows : List (List Int)} {s : List Nat} (ro : Wishes k m rows) (hs : s ∈ spoil rows) : s.length = rows.length ∧ ∀ x ∈ s, x < k := by
  obtain ⟨hsl, hsa⟩ := mem_spoil.mp hs
  refine ⟨hsl, fun x hx => ?_⟩
  obtain ⟨i, hi, rfl⟩ := List.getElem_of_mem hx
  have hpm : (rows[i]'(by omega), s[i]) ∈ rows.zip s := List.mem_iff_getElem.mpr ⟨i, by simp; omega, by simp⟩
  have := (mem_ableN.mp (hsa _ hpm)).1
  rw [ro.len _ (List.getElem_mem _)] at this
  exact this
theorem spoil_ne {k : Nat} {m : Int} {rows : List (List Int)} (ro : Wishes k m rows) : ∃ s, s ∈ spoil rows := by
  have hch : ∀ rs : List (List Int), (∀ r ∈ rs, r ∈ rows) → ∃ s : List Nat, s.length = rs.length ∧ ∀ p ∈ rs.zip s, p.2 ∈ ableN p.1 := by
    intro rs
    induction rs with
    | nil => exact fun _ => ⟨[], rfl, by simp⟩
    | cons r rs ih =>
      intro hm
      obtain ⟨s, hs, hp⟩ := ih fun x hx => hm x (List.mem_cons_of_mem _ hx)
      obtain ⟨x, hx, hx0⟩ := ro.pos r (hm r List.mem_cons_self)
      obtain ⟨j, hj, rfl⟩ := List.getElem_of_mem hx
      refine ⟨j :: s, by simp [hs], fun p hpm => ?_⟩
      rw [List.zip_cons_cons, List.mem_cons] at hpm
      rcases hpm with rfl | hpm
      · exact mem_ableN.mpr ⟨hj, by simp [List.getD, hj, hx0]⟩
      · exact hp p hpm
  obtain ⟨s, hs, hp⟩ := hch rows fun r hr => hr
  exact ⟨s, mem_spoil.mpr ⟨hs, hp⟩⟩
theorem cap_in {k : Nat} {m : Int} {rows : List (List Int)} {s : List Nat} (ro : Wishes k m rows) (hs : s ∈ spoil rows) {j : Nat} {v : Int} (h : capO (rows.zip s) j = some v) : 0 ≤ v ∧ v < m := by
  obtain ⟨p, hpm, rfl, rfl⟩ := capO_at h
  have hr : p.1 ∈ rows := (List.of_mem_zip (show (p.1, p.2) ∈ rows.zip s from hpm)).1
  have ha := mem_ableN.mp ((mem_spoil.mp hs).2 p hpm)
  have := getD_in (ro.ge _ hr) ha.1
  omega
theorem caps_in {k : Nat} {m : Int} {rows : List (List Int)} {s : List Nat} (ro : Wishes k m rows) (hs : s ∈ spoil rows) : ∀ o v, o ∈ capsO (rows.zip s) k → o = some v → 0 ≤ v ∧ v < m := fun o v ho hv => by
  obtain ⟨j, hj, rfl⟩ := List.mem_map.mp ho
  exact cap_in ro hs hv
/-- the sets of drawers but the empty one -/
def setsL : Nat → List (List Nat)
  | 1 => [[0]]
  | 2 => [[0], [1], [0, 1]]
  | 3 => [[0], [1], [0, 1], [2], [0, 2], [1, 2], [0, 1, 2]]
  | 4 => [[0], [1], [0, 1], [2], [0, 2], [1, 2], [0, 1, 2], [3], [0, 3], [1, 3], [0, 1, 3], [2, 3], [0, 2, 3], [1, 2, 3], [0, 1, 2, 3]]
  | _ => []
theorem four_cases {n : Nat} (h0 : 1 ≤ n) (h4 : n ≤ 4) : n = 1 ∨ n = 2 ∨ n = 3 ∨ n = 4 := by omega
theorem sets_lt {n : Nat} (h0 : 1 ≤ n) (h4 : n ≤ 4) : ∀ s ∈ setsL n, s.length ≤ 4 ∧ s.Nodup ∧ ∀ d ∈ s, d < n := by
  rcases four_cases h0 h4 with rfl | rfl | rfl | rfl <;> decide
theorem sets_len {n : Nat} (h0 : 1 ≤ n) (h4 : n ≤ 4) : (setsL n).length ≤ 15 := by
  rcases four_cases h0 h4 with rfl | rfl | rfl | rfl <;> decide
theorem sets_one {n : Nat} (h0 : 1 ≤ n) (h4 : n ≤ 4) : ∀ i, i < n → [i] ∈ setsL n := by
  rcases four_cases h0 h4 with rfl | rfl | rfl | rfl <;> decide
/-- a plan takes more than the room from some drawers -/
def excB (stock : List (List Int)) (caps : List (Option Int)) (plan : List Int) (ds : List Nat) : Bool := decide (room stock caps ds < (ds.map fun d => plan.getD d 0).sum)
theorem plansum_eq {m : Type → Type} [Mo m] [MoL m] {plan : List Int} {ds : List Nat} (hd : ∀ d ∈ ds, d < plan.length) :
    (lcA (m := m) (fun d => someM (Mo.lift (DD.getD (tI plan) d))) (ds.map fun d : Nat => PyData.int (d : Nat)) []) = pure (ds.map fun d => .int (plan.getD d 0)) := by
  rw [lcA_mapP (G := fun d : Nat => .int (plan.getD d 0)) ds [] fun d hdm => ?_]
  · rfl
  · rw [at_int (hd d hdm), MoL.ls]
/-- each spoiling meets drawers with an excess -/
def sureB (stock rows : List (List Int)) (plan : List Int) (k : Nat) : Bool := (spoil rows).all fun s => (setsL stock.length).any fun ds => excB stock (capsO (rows.zip s) k) plan ds
theorem four {r : Int} (h0 : 0 ≤ r) (h1 : r < 4) : ∃ v : Int, getD (.list [.int 0, .int 1, .int 1, .int 1]) (.int r) = some (.int v) ∧ 0 ≤ v ∧ v ≤ 1 := by
  have : r = 0 ∨ r = 1 ∨ r = 2 ∨ r = 3 := by omega
  rcases this with rfl | rfl | rfl | rfl
  · exact ⟨0, rfl, by decide, by decide⟩
  · exact ⟨1, rfl, by decide, by decide⟩
  · exact ⟨1, rfl, by decide, by decide⟩
  · exact ⟨1, rfl, by decide, by decide⟩
theorem mul_small {a v : Int} (h0 : 0 ≤ a) (h1 : a ≤ 1000000) : mulD (.int a) (.int v) = some (.int (a * v)) := by
  exact mul_int (.inl ⟨by omega, by omega⟩)
theorem counts_ok {k most : Int} (k0 : 0 ≤ k) (k1 : k ≤ 4) (m0 : 0 ≤ most) (m1 : most ≤ 100) : Tri 8 (m__law_counts (.int k) (.int most)) (fun d => ∃ r : List Int, d = tI r ∧ r.length = k.toNat ∧ ∀ x ∈ r, 0 ≤ x ∧ x ≤ most) := by
  unfold m__law_counts
  refine (Tri.tupC (b := 0) (c := 2) (L := 4) (ds := rangeL 0 k.toNat) (P := fun d => ∃ r : Int, d = .int r ∧ (0 ≤ r ∧ r ≤ most)) (Tri.lift (range1_ok (by omega) (by omega)) rfl) (by rw [rangeL_length]; omega) (by decide) fun d _ => ?_).mono (by decide) ?_
  · simp only [op2, op1, cmp2, chain3, tst, notB, andB, orB, andD, orD, iteM, consM, starM, smallM, tupM, tupSM, lstM, argV, argK, comp1, comp1i, comp2, comp2i, comp11, seqM, rng1, rng2, zipSM, zip2M, zip3M, enumM, repM, joinM, catM, par3LM, put2M, popM, parLV, putVM, unpS, trg1M, sortSetM, orV, lrg1M, par3M, rdM, rdLM, partM, slcM, isiM, rtM, forM1, forM2, forM3, parM, unp2, unp3, wb_assoc, wb_pure]
    refine Tri.bindL (a := .int (most + 1)) rfl ?_
    refine Tri.dr (by omega) (by omega) fun a a0 a1 => ?_
    refine Tri.dr (by decide) (by decide) fun r r0 r1 => ?_
    obtain ⟨v, e, v0, v1⟩ := four r0 r1
    refine Tri.bindL e (Tri.lift (mul_small a0 (by omega)) ⟨a * v, rfl, Int.mul_nonneg a0 v0, ?_⟩)
    have : v = 0 ∨ v = 1 := by omega
    rcases this with rfl | rfl <;> omega
  · rintro d ⟨es, rfl, el, q⟩
    obtain ⟨rs, rfl, hr⟩ := ints_ex es q
    refine ⟨rs, rfl, ?_, hr⟩
    rw [List.length_map, rangeL_length] at el
    exact el
theorem wishes_okQ {k most q : Int} (k0 : 1 ≤ k) (k1 : k ≤ 4) (m0 : 1 ≤ most) (m1 : most ≤ 50) (q0 : 1 ≤ q) (q1 : q ≤ 4) : Tri 60 (m__law_wishes (.int q) (.int most) (.int k)) (fun d => ∃ rows, d = tT rows ∧ Wishes k.toNat most rows) := by
  unfold m__law_wishes
  simp only [op2, op1, cmp2, chain3, tst, notB, andB, orB, andD, orD, iteM, consM, starM, smallM, tupM, tupSM, lstM, argV, argK, comp1, comp1i, comp2, comp2i, comp11, seqM, rng1, rng2, zipSM, zip2M, zip3M, enumM, repM, joinM, catM, par3LM, put2M, popM, parLV, putVM, unpS, trg1M, sortSetM, orV, lrg1M, par3M, rdM, rdLM, partM, slcM, isiM, rtM, forM1, forM2, forM3, parM, unp2, unp3, wb_assoc, wb_pure]
  refine Tri.dr (by omega) (by omega) fun a a0 a1 => Tri.bindL (a := .int (1 + a)) rfl (Tri.dr (by decide) (by decide) fun r r0 r1 => ?_)
  have hc : ∃ c : Int, getD (.list [.int (1 + a), .int q]) (.int r) = some (.int c) ∧ 1 ≤ c ∧ c ≤ 4 := by
    have : r = 0 ∨ r = 1 := by omega
    rcases this with rfl | rfl
    · exact ⟨1 + a, rfl, by omega, by omega⟩
    · exact ⟨q, rfl, q0, q1⟩
  obtain ⟨c, ec, c0, c1⟩ := hc
  refine Tri.bindL ec (Tri.bindL (range1_ok (by omega) (by omega)) ?_)
  refine Tri.thM (b := 44) ((Tri.loopR (c := 11) (I := fun i acc => ∃ rows : List (List Int), acc = rows.map tI ∧ rows.length = i ∧ ∀ r ∈ rows, good k.toNat most r) (R := fun _ => False) ⟨[], rfl, rfl, by simp⟩ fun i acc hi ⟨rows, ea, el, hg⟩ => ?_).le (by omega)) fun acc ⟨rows, ea, el, hg⟩ => ?_
  · subst ea
    refine Tri.st (b := 8) (counts_ok (by omega) (by omega) (by omega) (by omega)) ?_
    rintro _ ⟨w, rfl, hl, hw⟩
    refine Tri.dr (by omega) (by omega) fun s s0 s1 => ?_
    obtain ⟨v, ev⟩ : ∃ v, w.max? = some v := by
      cases w with
      | nil => simp at hl; omega
      | cons x w => exact ⟨_, rfl⟩
    refine Tri.bindL (max_tI ev) (Tri.bindL (a := (v == 0)) (by rw [eq_int]; rfl) ?_)
    refine Tri.thB (b := 1) (I := fun d => ∃ w', d = tI w' ∧ good k.toNat most w') (Tri.ite (fun h => ?_) fun h => ?_) ?_
    · refine Tri.bindL (a := some s) rfl (Tri.bindL (cut_lo s0 (by omega)) (Tri.dr (by omega) (by omega) fun x x0 x1 => Tri.bindL (a := .int (1 + x)) rfl (Tri.bindL (add_tI (s := [1 + x]) (by simp; omega)) (Tri.bindL (a := .int (s + 1)) rfl (Tri.bindL (a := some (s + 1)) rfl (Tri.bindL (cut_hi (by omega) (by omega)) (Tri.bindL (add_tI (by simp; omega)) (Tri.nx ⟨_, rfl, ?_, ?_, ?_⟩))))))))
      · simp
        omega
      · intro y hy
        simp only [List.mem_append, List.mem_singleton] at hy
        rcases hy with (hy | rfl) | hy
        · exact hw y (List.mem_of_mem_take hy)
        · omega
        · exact hw y (List.mem_of_mem_drop hy)
      · exact ⟨1 + x, by simp, by omega⟩
    · have hv : v ∈ w := (List.max?_eq_some_iff.mp ev).1
      exact Tri.nx ⟨w, rfl, hl, hw, v, hv, by have := hw v hv; simp at h; omega⟩
    · rintro _ ⟨w', rfl, gw⟩
      refine Tri.bindL (a := ()) (by unfold fits; rw [if_pos (by rw [List.length_map]; omega)]) (Tri.dr (by decide) (by decide) fun x x0 x1 => Tri.bindL (a := (x == 0)) (by rw [eq_int]; rfl) ?_)
      have eall : rows.map tI ++ [tI w'] = (rows ++ [w']).map tI := by simp
      have gall : ∀ r ∈ rows ++ [w'], good k.toNat most r := fun r hr => by
        rcases List.mem_append.mp hr with hr | hr
        · exact hg r hr
        · rw [List.mem_singleton.mp hr]; exact gw
      rw [eall]
      refine Tri.thB (b := 0) (I := fun acc => ∃ rows' : List (List Int), acc = rows'.map tI ∧ rows'.length = i + 1 ∧ ∀ r ∈ rows', good k.toNat most r) (Tri.ite (fun h => ?_) fun h => Tri.nx ⟨_, rfl, by simp; omega, gall⟩) fun acc hacc => Tri.nx hacc
      obtain ⟨h0, t, et⟩ : ∃ h0 t, rows ++ [w'] = h0 :: t := by
        cases rows with
        | nil => exact ⟨_, _, rfl⟩
        | cons y ys => exact ⟨_, _, rfl⟩
      have hh0 : good k.toNat most h0 := gall h0 (by rw [et]; exact List.mem_cons_self)
      have lall : (rows ++ [w']).length = i + 1 := by simp; omega
      refine Tri.bindL (a := tI h0) (by rw [et]; exact atI_at (j := 0) rfl rfl) (Tri.bindL (flat_tI h0) (Tri.bindL (a := .int (-1)) rfl (Tri.bindL (a := ((rows ++ [w']).set i h0).map tI) ?_ (Tri.nx ⟨_, rfl, by rw [List.length_set]; exact lall, fun r hr => ?_⟩))))
      · show (ixN ((rows ++ [w']).map tI).length (-1)).map (fun j => ((rows ++ [w']).map tI).set j (tI h0)) = _
        rw [List.length_map, lall, ixN_last (by omega), List.map_set]
        rfl
      · rcases List.mem_or_eq_of_mem_set hr with hr | rfl
        · exact gall r hr
        · exact hh0
  · subst ea
    exact Tri.li rfl ⟨rows, rfl, ⟨by omega, by omega, fun r h => (hg r h).1, fun r h => (hg r h).2.1, fun r h => (hg r h).2.2⟩⟩
theorem wishes_ok {k most : Int} (k0 : 1 ≤ k) (k1 : k ≤ 4) (m0 : 1 ≤ most) (m1 : most ≤ 50) : Tri 60 (m__law_wishes (.int 4) (.int most) (.int k)) (fun d => ∃ rows, d = tT rows ∧ Wishes k.toNat most rows) := wishes_okQ k0 k1 m0 m1 (by decide) (by decide)
theorem contains_eq {c r : List Int} (h : c.length ≤ r.length) (hs : c.length ≤ 1000000) : m_contains (tI c) (tI r) = some (.bool (cont c r)) := by
  unfold m_contains
  simp only [op2, op1, cmp2, chain3, tst, notB, andB, orB, andD, orD, iteM, consM, starM, smallM, tupM, tupSM, lstM, argV, argK, comp1, comp1i, comp2, comp2i, comp11, seqM, rng1, rng2, zipSM, zip2M, zip3M, enumM, repM, joinM, catM, par3LM, put2M, popM, parLV, putVM, unpS, trg1M, sortSetM, orV, lrg1M, par3M, rdM, rdLM, partM, slcM, isiM, rtM, forM1, forM2, forM3, parM, unp2, unp3, ob_pure, ob_some, ob_lift, Option.pure_def, add_int, sub_int, lt_int, le_int, gt_int, ge_int, eq_int, ne_int, min_int, max_int, neg_int, bool_bool, not_bool, is_none, isn_none, nn_int, nn_none, nn_tup, len_tup, len_lst, tup_lst, tup_tup, it_lst, it_tup, int_bool, int_int, oint_int, addI_int, subI_int, flat_tI, flat_int, flat_none, Option.bind_some, Option.map_some, Int.zero_add, thenB, thenM, List.nil_append, List.length_map, ob_assoc, zip_map h]
  rw [small_ok (by simp; omega)]
  simp only [op2, op1, cmp2, chain3, tst, notB, andB, orB, andD, orD, iteM, consM, starM, smallM, tupM, tupSM, lstM, argV, argK, comp1, comp1i, comp2, comp2i, comp11, seqM, rng1, rng2, zipSM, zip2M, zip3M, enumM, repM, joinM, catM, par3LM, put2M, popM, parLV, putVM, unpS, trg1M, sortSetM, orV, lrg1M, par3M, rdM, rdLM, partM, slcM, isiM, rtM, forM1, forM2, forM3, parM, unp2, unp3, ob_pure, ob_some, ob_lift, Option.pure_def, add_int, sub_int, lt_int, le_int, gt_int, ge_int, eq_int, ne_int, min_int, max_int, neg_int, bool_bool, not_bool, is_none, isn_none, nn_int, nn_none, nn_tup, len_tup, len_lst, tup_lst, tup_tup, it_lst, it_tup, int_bool, int_int, oint_int, addI_int, subI_int, flat_tI, flat_int, flat_none, Option.bind_some, Option.map_some, Int.zero_add, thenB, thenM, List.nil_append, List.length_map, ob_assoc]
  refine bindE (lcA_map2 (m := Option) (Ga := fun p : Int × Int => .int p.1) (Gb := fun p => .int p.2) (G := fun p => .bool (decide (p.2 ≤ p.1))) (fun _ => rfl) (c.zip r) [] fun p hp => rfl) ?_
  simp only [List.nil_append]
  exact all_map (p := fun p : Int × Int => decide (p.2 ≤ p.1)) (c.zip r)
theorem fulf_eq {rows : List (List Int)} {c : List Int} (h : ∀ r ∈ rows, c.length ≤ r.length) (hs : c.length ≤ 1000000) : m_fulfilled_by (tT rows) (tI c) = some (oN (fulf rows c)) := by
  unfold m_fulfilled_by
  simp only [op2, op1, cmp2, chain3, tst, notB, andB, orB, andD, orD, iteM, consM, starM, smallM, tupM, tupSM, lstM, argV, argK, comp1, comp1i, comp2, comp2i, comp11, seqM, rng1, rng2, zipSM, zip2M, zip3M, enumM, repM, joinM, catM, par3LM, put2M, popM, parLV, putVM, unpS, trg1M, sortSetM, orV, lrg1M, par3M, rdM, rdLM, partM, slcM, isiM, rtM, forM1, forM2, forM3, parM, unp2, unp3, ob_pure, ob_some, ob_lift, Option.pure_def, add_int, sub_int, lt_int, le_int, gt_int, ge_int, eq_int, ne_int, min_int, max_int, neg_int, bool_bool, not_bool, is_none, isn_none, nn_int, nn_none, nn_tup, len_tup, len_lst, tup_lst, tup_tup, it_lst, it_tup, int_bool, int_int, oint_int, addI_int, subI_int, flat_tI, flat_int, flat_none, Option.bind_some, Option.map_some, Int.zero_add, thenB, thenM, List.nil_append, List.length_map, enum_map]
  refine bindE (loop_find (m := Option) (p := fun q : List Int × Nat => cont c q.1) (R := fun q => .int (q.2 : Nat)) rows.zipIdx fun q hq => ?_) ?_
  · have hr : q.1 ∈ rows := (List.mem_zipIdx hq).2.2 ▸ List.getElem_mem _
    have e : M_contains [.val (tI c), .val (tI q.1)] = some (.bool (cont c q.1)) := contains_eq (h _ hr) hs
    simp only [pairM, e, op2, op1, cmp2, chain3, tst, notB, andB, orB, andD, orD, iteM, consM, starM, smallM, tupM, tupSM, lstM, argV, argK, comp1, comp1i, comp2, comp2i, comp11, seqM, rng1, rng2, zipSM, zip2M, zip3M, enumM, repM, joinM, catM, par3LM, put2M, popM, parLV, putVM, unpS, trg1M, sortSetM, orV, lrg1M, par3M, rdM, rdLM, partM, slcM, isiM, rtM, forM1, forM2, forM3, parM, unp2, unp3, ob_pure, ob_some, ob_lift, Option.pure_def, add_int, sub_int, lt_int, le_int, gt_int, ge_int, eq_int, ne_int, min_int, max_int, neg_int, bool_bool, not_bool, is_none, isn_none, nn_int, nn_none, nn_tup, len_tup, len_lst, tup_lst, tup_tup, it_lst, it_tup, int_bool, int_int, oint_int, addI_int, subI_int, flat_tI, flat_int, flat_none, Option.bind_some, Option.map_some, Int.zero_add, thenB, thenM, List.nil_append, List.length_map]
  · unfold fulf firstN
    cases rows.zipIdx.find? fun q => cont c q.1 <;> rfl
theorem totals_eq {k : Nat} {rows : List (List Int)} (h1 : 1 ≤ rows.length) (h4 : rows.length ≤ 4) (hl : ∀ r ∈ rows, r.length = k) (hk : k ≤ 1000) : m_totals_of (tT rows) = some (tI (cols rows k)) := by
  unfold m_totals_of
  simp only [op2, op1, cmp2, chain3, tst, notB, andB, orB, andD, orD, iteM, consM, starM, smallM, tupM, tupSM, lstM, argV, argK, comp1, comp1i, comp2, comp2i, comp11, seqM, rng1, rng2, zipSM, zip2M, zip3M, enumM, repM, joinM, catM, par3LM, put2M, popM, parLV, putVM, unpS, trg1M, sortSetM, orV, lrg1M, par3M, rdM, rdLM, partM, slcM, isiM, rtM, forM1, forM2, forM3, parM, unp2, unp3, ob_pure, ob_some, ob_lift, itemsD, Option.bind_some]
  rw [zip_rows h1 h4 hl, ob_some, small_ok (by simp; omega), ob_some, lcA_mapM (List.range k) [] (F := fun i => tI (col rows i)) (G := fun i => .int (col rows i).sum) fun i _ => sum_tI _]
  simp only [ob_some, ob_pure, tupleD, List.nil_append, tI, cols, List.map_map, Function.comp_def]
theorem sizes_eq {rows : List (List Int)} (h4 : rows.length ≤ 1000) : m_sizes_of (tT rows) = some (tI (rows.map List.sum)) := by
  unfold m_sizes_of
  simp only [op2, op1, cmp2, chain3, tst, notB, andB, orB, andD, orD, iteM, consM, starM, smallM, tupM, tupSM, lstM, argV, argK, comp1, comp1i, comp2, comp2i, comp11, seqM, rng1, rng2, zipSM, zip2M, zip3M, enumM, repM, joinM, catM, par3LM, put2M, popM, parLV, putVM, unpS, trg1M, sortSetM, orV, lrg1M, par3M, rdM, rdLM, partM, slcM, isiM, rtM, forM1, forM2, forM3, parM, unp2, unp3, ob_pure, ob_some, ob_lift, itemsD]
  rw [small_ok (by simp; omega), ob_some, lcA_mapM rows [] (F := tI) (G := fun r => .int r.sum) fun r _ => sum_tI _]
  simp only [ob_some, ob_pure, tupleD, List.nil_append, tI, List.map_map, Function.comp_def]
/-! sums and rooms -/
theorem zipIdx_opt (r : List (Option Int)) : r.zipIdx = (List.range r.length).map fun i => (r.getD i none, i) := by
  refine List.ext_getElem (by simp) fun i h1 h2 => ?_
  have : i < r.length := by simpa using h1
  simp [List.getD, this]
theorem room_sum {stock : List (List Int)} {caps : List (Option Int)} {ds : List Nat} {k : Nat} (hc : caps.length = k) : room stock caps ds = ((List.range k).map fun j => capped (many stock ds j) (caps.getD j none)).sum := by
  unfold room
  rw [zipIdx_opt, List.map_map, hc]
  rfl
theorem sum_le_sum {γ : Type} {f g : γ → Int} : ∀ l : List γ, (∀ x ∈ l, f x ≤ g x) → (l.map f).sum ≤ (l.map g).sum
  | [], _ => by simp
  | x :: l, h => by
    rw [List.map_cons, List.map_cons, List.sum_cons, List.sum_cons]
    have := h x List.mem_cons_self
    have := sum_le_sum l fun y hy => h y (List.mem_cons_of_mem _ hy)
    omega
theorem sum_eq_ptw {γ : Type} {f g : γ → Int} : ∀ l : List γ, (∀ x ∈ l, f x ≤ g x) → (l.map g).sum ≤ (l.map f).sum → ∀ x ∈ l, f x = g x
  | [], _, _ => by simp
  | x :: l, h, hs => by
    rw [List.map_cons, List.map_cons, List.sum_cons, List.sum_cons] at hs
    have h1 := h x List.mem_cons_self
    have h2 := sum_le_sum l fun y hy => h y (List.mem_cons_of_mem _ hy)
    intro y hy
    rcases List.mem_cons.mp hy with rfl | hy
    · omega
    · exact sum_eq_ptw l (fun y hy => h y (List.mem_cons_of_mem _ hy)) (by omega) y hy
theorem mem_le_sum : ∀ (l : List Int) (x : Int), (∀ y ∈ l, 0 ≤ y) → x ∈ l → x ≤ l.sum
  | [], _, _, hx => by simp at hx
  | y :: l, x, h, hx => by
    have hn : 0 ≤ l.sum := by
      clear hx
      induction l with
      | nil => simp
      | cons z l ih => rw [List.sum_cons]; have := h z (by simp); have := ih fun w hw => h w (by rcases List.mem_cons.mp hw with rfl | hw <;> simp_all); omega
    rw [List.sum_cons]
    rcases List.mem_cons.mp hx with rfl | hx
    · omega
    · have := mem_le_sum l x (fun z hz => h z (List.mem_cons_of_mem _ hz)) hx
      have := h y List.mem_cons_self
      omega
theorem zero_sum {γ : Type} : ∀ l : List γ, (l.map fun _ => (0 : Int)).sum = 0
  | [] => rfl
  | _ :: l => by rw [List.map_cons, List.sum_cons, zero_sum l]; rfl
theorem capped_le (m : Int) (o : Option Int) : capped m o ≤ m := by cases o <;> simp [capped]; omega
theorem capped_mono {m m' : Int} (o : Option Int) (h : m ≤ m') : capped m o ≤ capped m' o := by cases o <;> simp only [capped] <;> omega
/-- the room of all drawers: all of it exactly if the caps keep the totals -/
theorem room_le {stock : List (List Int)} {caps : List (Option Int)} {ds : List Nat} {k : Nat} (hc : caps.length = k) : room stock caps ds ≤ ((List.range k).map fun j => many stock ds j).sum := by
  rw [room_sum hc]
  exact sum_le_sum _ fun j _ => capped_le _ _
theorem room_kept {stock : List (List Int)} {caps : List (Option Int)} {ds : List Nat} {c : List Int} {k : Nat} (hc : caps.length = k) (hl : c.length = k) (hm : ∀ j, j < k → c.getD j 0 = many stock ds j) : keptB caps c = true ↔ ((List.range k).map fun j => many stock ds j).sum ≤ room stock caps ds := by
  rw [kept_iff hc hl, room_sum hc]
  constructor
  · intro h
    refine sum_le_sum _ fun j hj => ?_
    have hj' := List.mem_range.mp hj
    cases ho : caps.getD j none with
    | none => simp [capped]
    | some v =>
      have := h j v hj' ho
      rw [hm j hj'] at this
      simp only [capped]
      omega
  · intro h j v hj hv
    have := sum_eq_ptw (List.range k) (fun j _ => capped_le (many stock ds j) (caps.getD j none)) h j (List.mem_range.mpr hj)
    rw [hv] at this
    rw [hm j hj]
    simp only [capped] at this
    omega
theorem many_mono {stock : List (List Int)} {i j : Nat} {ds : List Nat} (h0 : ∀ d ∈ ds, 0 ≤ (stock.getD d []).getD j 0) (hi : i ∈ ds) : many stock [i] j ≤ many stock ds j := by
  unfold many
  simp only [List.map_cons, List.map_nil, List.sum_cons, List.sum_nil, Int.add_zero]
  exact mem_le_sum _ _ (fun y hy => by obtain ⟨d, hd, rfl⟩ := List.mem_map.mp hy; exact h0 d hd) (List.mem_map.mpr ⟨i, hi, rfl⟩)
theorem getD_sum {r : List Int} {k : Nat} (h : r.length = k) : ((List.range k).map fun j => r.getD j 0).sum = r.sum := by
  congr 1
  refine List.ext_getElem (by simp [h]) fun i h1 h2 => ?_
  simp [List.getD, h2]
theorem stk_ge {m : Int} {k : Nat} {stock : List (List Int)} (st : Stk m k stock) {d j : Nat} (hd : d < stock.length) (hj : j < k) : 0 ≤ (stock.getD d []).getD j 0 ∧ (stock.getD d []).getD j 0 ≤ m := by
  have hr : stock.getD d [] ∈ stock := by simp [List.getD, hd]
  exact getD_in (st.ge _ hr) (by rw [st.len _ hr]; exact hj)
theorem room_ge {stock : List (List Int)} {caps : List (Option Int)} {ds : List Nat} {k : Nat} (hc : caps.length = k) (hm : ∀ j, j < k → ∀ d ∈ ds, 0 ≤ (stock.getD d []).getD j 0) (hcap : ∀ o v, o ∈ caps → o = some v → 0 ≤ v) : 0 ≤ room stock caps ds := by
  rw [room_sum hc]
  have hz := sum_le_sum (f := fun _ => (0 : Int)) (g := fun j => capped (many stock ds j) (caps.getD j none)) (List.range k) fun j hj => by
    have hj' := List.mem_range.mp hj
    have h0 : 0 ≤ many stock ds j := by
      unfold many
      have := sum_le_sum (f := fun _ => (0 : Int)) (g := fun d => (stock.getD d []).getD j 0) ds fun d hd => hm j hj' d hd
      rw [zero_sum] at this
      exact this
    have hmem : caps.getD j none ∈ caps := by simp [List.getD, show j < caps.length by omega]
    cases ho : caps.getD j none with
    | none => exact h0
    | some w => have := hcap _ w hmem ho; simp only [capped]; omega
  rw [zero_sum] at hz
  exact hz
/-- the rooms of all drawers, spoiling by spoiling -/
def rooms (stock rows : List (List Int)) (k : Nat) : List Int := (spoil rows).map fun s => room stock (capsO (rows.zip s) k) (List.range stock.length)
def sureT (stock rows : List (List Int)) (k : Nat) : Option Int := if (fulf rows (cols stock k)).isNone = true then none else (rooms stock rows k).max?.map (· + 1)
theorem rooms_max {k : Nat} {m : Int} {rows : List (List Int)} (ro : Wishes k m rows) (stock : List (List Int)) : ∃ v, (rooms stock rows k).max? = some v := by
  obtain ⟨s, hs⟩ := spoil_ne ro
  cases h : (rooms stock rows k).max? with
  | some v => exact ⟨v, rfl⟩
  | none =>
    have := List.max?_eq_none_iff.mp h
    unfold rooms at this
    rw [List.map_eq_nil_iff] at this
    rw [this] at hs
    simp at hs
theorem suret_eq {stock rows : List (List Int)} {k : Nat} {m m' : Int} (st : Stk m k stock) (ro : Wishes k m' rows) : m_sure_total (tT stock) (tT rows) = some (oD (sureT stock rows k)) := by
  have f1 := st.one
  have f4 := st.four
  have k4 := st.k4
  have e1 : M_totals_of [.val (tT stock)] = some (tI (cols stock k)) := totals_eq f1 f4 st.len (by omega)
  have e2 : M_fulfilled_by [.val (tT rows), .val (tI (cols stock k))] = some (oN (fulf rows (cols stock k))) := fulf_eq (fun r hr => by rw [ro.len r hr]; simp [cols]) (by simp [cols]; omega)
  have e3 : M_spoilings_of [.val (tT rows)] = some (.tuple ((spoil rows).map tN)) := spoil_eq ro.four fun r hr => by rw [ro.len r hr]; exact k4
  have e4 : lrgO1 (.int (stock.length : Nat)) = some ((List.range stock.length).map fun i : Nat => PyData.int (i : Nat)) := by
    rw [← range_map]
    show (if (0 : Int) ≤ (stock.length : Int) ∧ (stock.length : Int) ≤ 1000000 then _ else none) = _
    rw [if_pos ⟨by omega, by omega⟩, Int.toNat_natCast]
  obtain ⟨v, hv⟩ := rooms_max ro stock
  unfold m_sure_total sureT
  simp only [op2, op1, cmp2, chain3, tst, notB, andB, orB, andD, orD, iteM, consM, starM, smallM, tupM, tupSM, lstM, argV, argK, comp1, comp1i, comp2, comp2i, comp11, seqM, rng1, rng2, zipSM, zip2M, zip3M, enumM, repM, joinM, catM, par3LM, put2M, popM, parLV, putVM, unpS, trg1M, sortSetM, orV, lrg1M, par3M, rdM, rdLM, partM, slcM, isiM, rtM, forM1, forM2, forM3, parM, unp2, unp3, ob_pure, ob_some, ob_lift, Option.pure_def, add_int, sub_int, lt_int, le_int, gt_int, ge_int, eq_int, ne_int, min_int, max_int, neg_int, bool_bool, not_bool, is_none, isn_none, nn_int, nn_none, nn_tup, len_tup, len_lst, tup_lst, tup_tup, it_lst, it_tup, int_bool, int_int, oint_int, addI_int, subI_int, flat_tI, flat_int, flat_none, Option.bind_some, Option.map_some, Int.zero_add, thenB, thenM, List.nil_append, List.length_map, ob_assoc, e1, e2, oN_none]
  cases hn : (fulf rows (cols stock k)).isNone with
  | true => rfl
  | false =>
    simp only [Bool.false_eq_true, if_false, op2, op1, cmp2, chain3, tst, notB, andB, orB, andD, orD, iteM, consM, starM, smallM, tupM, tupSM, lstM, argV, argK, comp1, comp1i, comp2, comp2i, comp11, seqM, rng1, rng2, zipSM, zip2M, zip3M, enumM, repM, joinM, catM, par3LM, put2M, popM, parLV, putVM, unpS, trg1M, sortSetM, orV, lrg1M, par3M, rdM, rdLM, partM, slcM, isiM, rtM, forM1, forM2, forM3, parM, unp2, unp3, ob_pure, ob_some, ob_lift, Option.pure_def, add_int, sub_int, lt_int, le_int, gt_int, ge_int, eq_int, ne_int, min_int, max_int, neg_int, bool_bool, not_bool, is_none, isn_none, nn_int, nn_none, nn_tup, len_tup, len_lst, tup_lst, tup_tup, it_lst, it_tup, int_bool, int_int, oint_int, addI_int, subI_int, flat_tI, flat_int, flat_none, Option.bind_some, Option.map_some, Int.zero_add, thenB, thenM, List.nil_append, List.length_map, ob_assoc, e3, e4]
    rw [small_ok (by rw [List.length_map]; have := spoil_len ro k4; omega)]
    simp only [op2, op1, cmp2, chain3, tst, notB, andB, orB, andD, orD, iteM, consM, starM, smallM, tupM, tupSM, lstM, argV, argK, comp1, comp1i, comp2, comp2i, comp11, seqM, rng1, rng2, zipSM, zip2M, zip3M, enumM, repM, joinM, catM, par3LM, put2M, popM, parLV, putVM, unpS, trg1M, sortSetM, orV, lrg1M, par3M, rdM, rdLM, partM, slcM, isiM, rtM, forM1, forM2, forM3, parM, unp2, unp3, ob_pure, ob_some, ob_lift, Option.pure_def, add_int, sub_int, lt_int, le_int, gt_int, ge_int, eq_int, ne_int, min_int, max_int, neg_int, bool_bool, not_bool, is_none, isn_none, nn_int, nn_none, nn_tup, len_tup, len_lst, tup_lst, tup_tup, it_lst, it_tup, int_bool, int_int, oint_int, addI_int, subI_int, flat_tI, flat_int, flat_none, Option.bind_some, Option.map_some, Int.zero_add, thenB, thenM, List.nil_append, List.length_map, ob_assoc]
    refine bindE (lcA_mapP (m := Option) (F := tN) (G := fun s => .int (room stock (capsO (rows.zip s) k) (List.range stock.length))) (spoil rows) [] fun s hs => ?_) ?_
    · obtain ⟨hsl, hsk⟩ := spoil_lt ro hs
      have ec : M_caps_of [.val (tT rows), .val (tN s)] = some (tO (capsO (rows.zip s) k)) := caps_eqO ro.one ro.len (by omega) hsl hsk
      have er : M_room_in [.val (tT stock), .val (tO (capsO (rows.zip s) k)), .val (tN (List.range stock.length))] = some (.int (room stock (capsO (rows.zip s) k) (List.range stock.length))) := room_eq st.len (capsO_len _ _) (fun d hd => List.mem_range.mp hd) (by simp; omega)
      rw [ec, ob_some]
      exact er
    · rw [List.nil_append, int_map]
      show (maxD (.list ((rooms stock rows k).map PyData.int)) >>= fun d => addD d (.int 1)) = _
      rw [max_lI hv, hv]
      rfl
/-! all choices, one of each list -/
def prStep {α : Type} (acc : List (List α)) (l : List α) : List (List α) := acc.flatMap fun b => l.map fun x => b ++ [x]
def prodF {α : Type} (acc : List (List α)) (ss : List (List α)) : List (List α) := ss.foldl prStep acc
theorem prodF_snoc {α : Type} (acc ss : List (List α)) (l : List α) : prodF acc (ss ++ [l]) = prStep (prodF acc ss) l := by
  unfold prodF
  rw [List.foldl_append]
  rfl
theorem mem_prodF {α : Type} : ∀ (ss : List (List α)) (acc : List (List α)) (s : List α), s ∈ prodF acc ss ↔ ∃ b ∈ acc, ∃ t : List α, s = b ++ t ∧ t.length = ss.length ∧ ∀ p ∈ ss.zip t, p.2 ∈ p.1
  | [], acc, s => by
    show s ∈ acc ↔ _
    constructor
    · intro h
      exact ⟨s, h, [], by simp, rfl, by simp⟩
    · rintro ⟨b, hb, t, rfl, ht, _⟩
      obtain rfl : t = [] := List.eq_nil_of_length_eq_zero (by simpa using ht)
      rw [List.append_nil]
      exact hb
  | r :: ss, acc, s => by
    show s ∈ prodF (prStep acc r) ss ↔ _
    rw [mem_prodF ss (prStep acc r) s]
    constructor
    · rintro ⟨b, hb, t, rfl, ht, hp⟩
      obtain ⟨b', hb', hbb⟩ := List.mem_flatMap.mp hb
      obtain ⟨k, hk, rfl⟩ := List.mem_map.mp hbb
      refine ⟨b', hb', k :: t, by simp, by simp [ht], fun p hpm => ?_⟩
      rw [List.zip_cons_cons, List.mem_cons] at hpm
      rcases hpm with rfl | hpm
      · exact hk
      · exact hp p hpm
    · rintro ⟨b, hb, t, rfl, ht, hp⟩
      cases t with
      | nil => simp at ht
      | cons k t =>
        refine ⟨b ++ [k], List.mem_flatMap.mpr ⟨b, hb, List.mem_map.mpr ⟨k, hp (r, k) (by simp), rfl⟩⟩, t, by simp, by simpa using ht, fun p hpm => hp p (by rw [List.zip_cons_cons]; exact List.mem_cons_of_mem _ hpm)⟩
theorem prStep_len {α : Type} {acc : List (List α)} {l : List α} : (prStep acc l).length = acc.length * l.length := by
  unfold prStep
  induction acc with
  | nil => simp
  | cons b acc ih => rw [List.flatMap_cons, List.length_append, List.length_map, List.length_cons, Nat.succ_mul, ih]; omega
theorem prodF_len {α : Type} {B : Nat} : ∀ (ss acc : List (List α)), (∀ l ∈ ss, l.length ≤ B) → (prodF acc ss).length ≤ acc.length * B ^ ss.length
  | [], acc, _ => by simp [prodF]
  | l :: ss, acc, h => by
    have h1 := prodF_len ss (prStep acc l) fun x hx => h x (List.mem_cons_of_mem _ hx)
    have h2 : acc.length * l.length ≤ acc.length * B := Nat.mul_le_mul_left _ (h l List.mem_cons_self)
    show (prodF (prStep acc l) ss).length ≤ _
    rw [prStep_len] at h1
    rw [List.length_cons, Nat.pow_succ, Nat.mul_comm (B ^ ss.length) B, ← Nat.mul_assoc]
    exact Nat.le_trans h1 (Nat.mul_le_mul_right (B ^ ss.length) h2)
/-- 0 .. n -/
abbrev upTo (n : Int) : List Int := (List.range (n + 1).toNat).map fun i : Nat => (i : Int)
theorem mem_upTo {n x : Int} : x ∈ upTo n ↔ 0 ≤ x ∧ x ≤ n := by
  rw [List.mem_map]
  constructor
  · rintro ⟨i, hi, rfl⟩
    have := List.mem_range.mp hi
    omega
  · intro h
    exact ⟨x.toNat, List.mem_range.mpr (by omega), by omega⟩
def plansL (stock : List (List Int)) : List (List Int) := prodF [[]] (stock.map fun r => upTo r.sum)
theorem mem_plans {stock : List (List Int)} {p : List Int} : p ∈ plansL stock ↔ p.length = stock.length ∧ ∀ i, i < stock.length → 0 ≤ p.getD i 0 ∧ p.getD i 0 ≤ (stock.getD i []).sum := by
  unfold plansL
  rw [mem_prodF]
  constructor
  · rintro ⟨b, hb, t, rfl, ht, hp⟩
    rw [List.mem_singleton.mp hb, List.nil_append]
    rw [List.length_map] at ht
    refine ⟨ht, fun i hi => ?_⟩
    have := hp ((stock.map fun r => upTo r.sum)[i]'(by simpa using hi), t[i]'(by omega)) (List.mem_iff_getElem.mpr ⟨i, by simp; omega, by simp⟩)
    simp only [List.getElem_map] at this
    have := mem_upTo.mp this
    simp [List.getD, hi, ht]
    exact this
  · rintro ⟨hl, hp⟩
    refine ⟨[], by simp, p, rfl, by simpa using hl, fun q hq => ?_⟩
    obtain ⟨i, hi, rfl⟩ := List.mem_iff_getElem.mp hq
    have hi' : i < stock.length := by simp at hi; omega
    have := hp i hi'
    simp [List.getD, hi', hl] at this
    rw [List.getElem_zip, List.getElem_map]
    exact mem_upTo.mpr this
/-! drawers one by one: what they add to the room -/
theorem many_append (stock : List (List Int)) (a b : List Nat) (j : Nat) : many stock (a ++ b) j = many stock a j + many stock b j := by
  unfold many
  rw [List.map_append, List.sum_append]
theorem many_filter {stock : List (List Int)} {j : Nat} {D : Nat → Bool} : ∀ ds : List Nat, (∀ d ∈ ds, 0 ≤ (stock.getD d []).getD j 0) → 0 ≤ many stock (ds.filter D) j ∧ many stock (ds.filter D) j ≤ many stock ds j
  | [], _ => by simp [many]
  | d :: ds, h => by
    have ih := many_filter (stock := stock) (j := j) (D := D) ds fun x hx => h x (List.mem_cons_of_mem _ hx)
    have h0 := h d List.mem_cons_self
    have e : ∀ l, many stock (d :: l) j = (stock.getD d []).getD j 0 + many stock l j := fun l => by simp [many]
    rw [List.filter_cons]
    split
    · rw [e, e]; omega
    · rw [e]; omega
def addsP (stock : List (List Int)) (caps : List (Option Int)) (n : Nat) : List Int := (List.range n).map fun t => room stock caps (List.range (t + 1)) - room stock caps (List.range t)
theorem addsP_at {stock : List (List Int)} {caps : List (Option Int)} {n t : Nat} (h : t < n) : (addsP stock caps n).getD t 0 = room stock caps (List.range (t + 1)) - room stock caps (List.range t) := by
  simp [addsP, List.getD, h]
theorem sum_sub {γ : Type} {f g : γ → Int} : ∀ l : List γ, (l.map fun x => f x - g x).sum = (l.map f).sum - (l.map g).sum
  | [] => rfl
  | x :: l => by
    rw [List.map_cons, List.map_cons, List.map_cons, List.sum_cons, List.sum_cons, List.sum_cons, sum_sub l]
    omega
/-- caps: as many as kinds, none below 0 -/
structure Cps (k : Nat) (caps : List (Option Int)) : Prop where
  len : caps.length = k
  ge : ∀ o v, o ∈ caps → o = some v → 0 ≤ v
theorem Cps.at {k : Nat} {caps : List (Option Int)} (c : Cps k caps) {j : Nat} {v : Int} (hj : j < k) (h : caps.getD j none = some v) : 0 ≤ v := by
  have hmem : caps.getD j none ∈ caps := by simp [List.getD, show j < caps.length by have := c.len; omega]
  exact c.ge _ v hmem h
theorem caps_cps {k : Nat} {m : Int} {rows : List (List Int)} {s : List Nat} (ro : Wishes k m rows) (hs : s ∈ spoil rows) : Cps k (capsO (rows.zip s) k) := ⟨capsO_len _ _, fun o v ho hv => (caps_in ro hs o v ho hv).1⟩
theorem room_nil {stock : List (List Int)} {caps : List (Option Int)} {k : Nat} (hc : Cps k caps) : room stock caps [] = 0 := by
  rw [room_sum hc.len]
  have : ((List.range k).map fun j => capped (many stock [] j) (caps.getD j none)) = (List.range k).map fun _ => (0 : Int) := by
    refine List.map_congr_left fun j hj => ?_
    show capped 0 _ = 0
    cases ho : caps.getD j none with
    | none => rfl
    | some v => have := hc.at (List.mem_range.mp hj) ho; simp only [capped]; omega
  rw [this, zero_sum]
theorem room_snoc_le {stock : List (List Int)} {caps : List (Option Int)} {k d : Nat} {A B : List Nat} (hc : caps.length = k) (hx : ∀ j, j < k → 0 ≤ (stock.getD d []).getD j 0) (hab : ∀ j, j < k → many stock A j ≤ many stock B j) : room stock caps (B ++ [d]) - room stock caps B ≤ room stock caps (A ++ [d]) - room stock caps A := by
  rw [room_sum hc, room_sum hc, room_sum hc, room_sum hc, ← sum_sub, ← sum_sub]
  refine sum_le_sum _ fun j hj => ?_
  have hj' := List.mem_range.mp hj
  have h1 := hx j hj'
  have h2 := hab j hj'
  have e : many stock [d] j = (stock.getD d []).getD j 0 := by simp [many]
  rw [many_append, many_append, e]
  cases caps.getD j none <;> simp only [capped] <;> omega
theorem adds_all {stock : List (List Int)} {caps : List (Option Int)} {k n : Nat} (hc : Cps k caps) (t : Nat) (ht : t ≤ n) : ((List.range t).map fun d => (addsP stock caps n).getD d 0).sum = room stock caps (List.range t) := by
  induction t with
  | zero => exact (room_nil hc).symm
  | succ t ih =>
    rw [List.range_succ, List.map_append, List.sum_append, ih (by omega)]
    simp only [List.map_cons, List.map_nil, List.sum_cons, List.sum_nil]
    rw [addsP_at (by omega), List.range_succ]
    omega
theorem adds_le {stock : List (List Int)} {caps : List (Option Int)} {k n : Nat} (hc : Cps k caps) (hs : ∀ d, d < n → ∀ j, j < k → 0 ≤ (stock.getD d []).getD j 0) (D : Nat → Bool) (t : Nat) (ht : t ≤ n) : (((List.range t).filter D).map fun d => (addsP stock caps n).getD d 0).sum ≤ room stock caps ((List.range t).filter D) := by
  induction t with
  | zero => exact Int.le_of_eq (room_nil hc).symm
  | succ t ih =>
    have ih := ih (by omega)
    rw [List.range_succ, List.filter_append, List.filter_cons]
    split
    · rw [List.filter_nil, List.map_append, List.sum_append]
      simp only [List.map_cons, List.map_nil, List.sum_cons, List.sum_nil]
      rw [addsP_at (by omega), List.range_succ]
      have := room_snoc_le (stock := stock) (caps := caps) (k := k) (d := t) (A := (List.range t).filter D) (B := List.range t) hc.len (fun j hj => hs t (by omega) j hj) fun j hj => (many_filter (List.range t) fun d hd => hs d (by have := List.mem_range.mp hd; omega) j hj).2
      omega
    · rw [List.filter_nil, List.append_nil]
      exact ih
theorem adds_in {stock : List (List Int)} {caps : List (Option Int)} {k n t : Nat} (hc : Cps k caps) (hl : (stock.getD t []).length = k) (hs : ∀ d, d < n → ∀ j, j < k → 0 ≤ (stock.getD d []).getD j 0) (ht : t < n) : 0 ≤ (addsP stock caps n).getD t 0 ∧ (addsP stock caps n).getD t 0 ≤ (stock.getD t []).sum := by
  rw [addsP_at ht, List.range_succ, room_sum hc.len, room_sum hc.len, ← sum_sub, ← getD_sum hl]
  have e : many stock [t] = fun j => (stock.getD t []).getD j 0 := by funext j; simp [many]
  constructor
  · have := sum_le_sum (f := fun _ => (0 : Int)) (g := fun j => capped (many stock (List.range t ++ [t]) j) (caps.getD j none) - capped (many stock (List.range t) j) (caps.getD j none)) (List.range k) fun j hj => by
      have := hs t ht j (List.mem_range.mp hj)
      rw [many_append, e]
      cases caps.getD j none <;> simp only [capped] <;> omega
    rw [zero_sum] at this
    exact this
  · refine sum_le_sum _ fun j hj => ?_
    have := hs t ht j (List.mem_range.mp hj)
    rw [many_append, e]
    cases caps.getD j none <;> simp only [capped] <;> omega
theorem sets_filter {n : Nat} (h0 : 1 ≤ n) (h4 : n ≤ 4) : ∀ ds ∈ setsL n, ds = (List.range n).filter fun d => ds.contains d := by
  rcases four_cases h0 h4 with rfl | rfl | rfl | rfl <;> decide
theorem sets_all {n : Nat} (h0 : 1 ≤ n) (h4 : n ≤ 4) : List.range n ∈ setsL n := by
  rcases four_cases h0 h4 with rfl | rfl | rfl | rfl <;> decide
/-- the room of all drawers is taken by a plan that leaves no excess -/
theorem adds_safe {stock : List (List Int)} {caps : List (Option Int)} {k : Nat} {m : Int} (st : Stk m k stock) (hc : Cps k caps) : ((setsL stock.length).any fun ds => excB stock caps (addsP stock caps stock.length) ds) = false := by
  rw [List.any_eq_false]
  intro ds hds
  unfold excB
  rw [decide_eq_true_eq]
  have := adds_le (n := stock.length) hc (fun d hd j hj => (stk_ge st hd hj).1) (fun d => ds.contains d) stock.length (Nat.le_refl _)
  rw [← sets_filter st.one st.four ds hds] at this
  omega
theorem many_all {stock : List (List Int)} {k j : Nat} (hj : j < k) : (cols stock k).getD j 0 = many stock (List.range stock.length) j := by
  have e : col stock j = (List.range stock.length).map fun d => (stock.getD d []).getD j 0 := by
    refine List.ext_getElem (by simp [col]) fun i h1 h2 => ?_
    have : i < stock.length := by simpa using h2
    simp [col, List.getD, this]
  unfold many
  rw [← e]
  simp [cols, List.getD, hj]
theorem sum_swap (stock : List (List Int)) (k : Nat) (hl : ∀ r ∈ stock, r.length = k) : ((List.range k).map fun j => (col stock j).sum).sum = (stock.map List.sum).sum := by
  induction stock with
  | nil => simp only [col, List.map_nil, List.sum_nil]; exact zero_sum _
  | cons r stock ih =>
    have ih := ih fun x hx => hl x (List.mem_cons_of_mem _ hx)
    rw [List.map_cons, List.sum_cons, ← ih, ← getD_sum (hl r List.mem_cons_self)]
    generalize List.range k = l
    induction l with
    | nil => rfl
    | cons j l ih2 =>
      simp only [List.map_cons, List.sum_cons, col] at ih2 ⊢
      omega
/-! ### sets of drawers as tests -/
def sF (l : List Nat) (D : Nat → Bool) (f : Nat → Int) : Int := ((l.filter D).map f).sum
theorem sF_cons (d : Nat) (l : List Nat) (D : Nat → Bool) (f : Nat → Int) : sF (d :: l) D f = (if D d = true then f d else 0) + sF l D f := by
  unfold sF
  rw [List.filter_cons]
  split
  · rw [List.map_cons, List.sum_cons]
  · omega
theorem sF_mod (l : List Nat) (D E : Nat → Bool) (f : Nat → Int) : sF l (fun d => D d || E d) f + sF l (fun d => D d && E d) f = sF l D f + sF l E f := by
  induction l with
  | nil => rfl
  | cons d l ih =>
    rw [sF_cons, sF_cons, sF_cons, sF_cons]
    cases D d <;> cases E d <;> simp <;> omega
theorem sF_mono {l : List Nat} {D E : Nat → Bool} {f : Nat → Int} (h : ∀ d ∈ l, D d = true → E d = true) (h0 : ∀ d ∈ l, 0 ≤ f d) : sF l D f ≤ sF l E f := by
  induction l with
  | nil => exact Int.le_refl _
  | cons d l ih =>
    have ih := ih (fun x hx => h x (List.mem_cons_of_mem _ hx)) fun x hx => h0 x (List.mem_cons_of_mem _ hx)
    have h1 := h d List.mem_cons_self
    have h2 := h0 d List.mem_cons_self
    rw [sF_cons, sF_cons]
    cases hD : D d with
    | true => rw [h1 hD]; omega
    | false => cases E d <;> simp <;> omega
theorem sF_ge {l : List Nat} {D : Nat → Bool} {f : Nat → Int} (h0 : ∀ d ∈ l, 0 ≤ f d) : 0 ≤ sF l D f := by
  have := sF_mono (l := l) (D := fun _ => false) (E := D) (f := f) (fun _ _ h => by cases h) h0
  have e : sF l (fun _ => false) f = 0 := by unfold sF; rw [List.filter_eq_nil_iff.mpr (by simp)]; rfl
  omega
theorem sF_congr {l : List Nat} {D E : Nat → Bool} {f g : Nat → Int} (h : ∀ d ∈ l, D d = E d) (hf : ∀ d ∈ l, D d = true → f d = g d) : sF l D f = sF l E g := by
  induction l with
  | nil => rfl
  | cons d l ih =>
    have ih := ih (fun x hx => h x (List.mem_cons_of_mem _ hx)) fun x hx => hf x (List.mem_cons_of_mem _ hx)
    rw [sF_cons, sF_cons, ih, ← h d List.mem_cons_self]
    cases hD : D d with
    | true => rw [hf d List.mem_cons_self hD]
    | false => rfl
/-- one member's value changes by x -/
theorem sF_at {l : List Nat} {D : Nat → Bool} {f g : Nat → Int} {i : Nat} {x : Int} (hn : l.Nodup) (hi : i ∈ l) (h : ∀ d ∈ l, d ≠ i → g d = f d) (hx : g i = f i - x) : sF l D g = sF l D f - (if D i = true then x else 0) := by
  induction l with
  | nil => simp at hi
  | cons d l ih =>
    rw [sF_cons, sF_cons]
    by_cases hd : d = i
    · subst hd
      have hnl := (List.nodup_cons.mp hn).1
      rw [sF_congr (g := f) (fun _ _ => rfl) fun e he _ => h e (List.mem_cons_of_mem _ he) fun z => hnl (z ▸ he), hx]
      split <;> omega
    · have hil : i ∈ l := by rcases List.mem_cons.mp hi with z | z; exact absurd z.symm hd; exact z
      rw [ih (List.nodup_cons.mp hn).2 hil fun e he => h e (List.mem_cons_of_mem _ he), h d List.mem_cons_self hd]
      omega
theorem sF_drop {l : List Nat} {D : Nat → Bool} {f : Nat → Int} {i : Nat} (hn : l.Nodup) (hi : i ∈ l) : sF l D f = sF l (fun d => D d && !(d == i)) f + (if D i = true then f i else 0) := by
  have h1 := sF_at (D := D) (f := f) (g := fun d => if d = i then 0 else f d) (i := i) (x := f i) hn hi (fun d _ hd => by simp [hd]) (by simp)
  have h2 : sF l D (fun d => if d = i then 0 else f d) = sF l (fun d => D d && !(d == i)) f := by
    clear h1 hi hn
    induction l with
    | nil => rfl
    | cons d l ih =>
      rw [sF_cons, sF_cons, ih]
      by_cases hd : d = i <;> cases D d <;> simp [hd]
  omega
/-! ### rooms of such sets -/
abbrev sel (n : Nat) (D : Nat → Bool) : List Nat := (List.range n).filter D
theorem many_sel (S : List (List Int)) (n : Nat) (D : Nat → Bool) (j : Nat) : many S (sel n D) j = sF (List.range n) D fun d => (S.getD d []).getD j 0 := rfl
/-- a table of n rows and k kinds, none below 0 -/
structure Tb (n k : Nat) (S : List (List Int)) : Prop where
  rn : S.length = n
  len : ∀ d, d < n → (S.getD d []).length = k
  ge : ∀ d, d < n → ∀ j, j < k → 0 ≤ (S.getD d []).getD j 0
theorem capped_sub {a b u v : Int} (o : Option Int) (h : u + v = a + b) (h1 : v ≤ a) (h2 : v ≤ b) : capped u o + capped v o ≤ capped a o + capped b o := by cases o <;> simp only [capped] <;> omega
theorem capped_zero {m : Int} (h : 0 ≤ m) : capped m (some 0) = 0 := by simp only [capped]; omega
theorem room_sub {n k : Nat} {S : List (List Int)} {C : List (Option Int)} (tb : Tb n k S) (hc : Cps k C) (D E : Nat → Bool) : room S C (sel n fun d => D d || E d) + room S C (sel n fun d => D d && E d) ≤ room S C (sel n D) + room S C (sel n E) := by
  rw [room_sum hc.len, room_sum hc.len, room_sum hc.len, room_sum hc.len]
  have key : ∀ l : List Nat, (∀ j ∈ l, j < k) → ((l.map fun j => capped (many S (sel n fun d => D d || E d) j) (C.getD j none)).sum + (l.map fun j => capped (many S (sel n fun d => D d && E d) j) (C.getD j none)).sum ≤ (l.map fun j => capped (many S (sel n D) j) (C.getD j none)).sum + (l.map fun j => capped (many S (sel n E) j) (C.getD j none)).sum) := by
    intro l
    induction l with
    | nil => intro _; simp
    | cons j l ih =>
      intro hl
      have ih := ih fun x hx => hl x (List.mem_cons_of_mem _ hx)
      have hj := hl j List.mem_cons_self
      have h0 : ∀ d ∈ List.range n, 0 ≤ (S.getD d []).getD j 0 := fun d hd => tb.ge d (List.mem_range.mp hd) j hj
      have hm := sF_mod (List.range n) D E fun d => (S.getD d []).getD j 0
      have h1 := sF_mono (l := List.range n) (D := fun d => D d && E d) (E := D) (f := fun d => (S.getD d []).getD j 0) (fun d _ h => by simp at h; exact h.1) h0
      have h2 := sF_mono (l := List.range n) (D := fun d => D d && E d) (E := E) (f := fun d => (S.getD d []).getD j 0) (fun d _ h => by simp at h; exact h.2) h0
      have h3 := capped_sub (C.getD j none) hm h1 h2
      simp only [List.map_cons, List.sum_cons, many_sel] at ih ⊢
      omega
  exact key (List.range k) fun j hj => List.mem_range.mp hj
/-- the room without one kind, and that kind -/
theorem room_split {k j : Nat} {S : List (List Int)} {C : List (Option Int)} {ds : List Nat} (hc : C.length = k) (hj : j < k) (h0 : 0 ≤ many S ds j) : room S C ds = room S (C.set j (some 0)) ds + capped (many S ds j) (C.getD j none) := by
  rw [room_sum hc, room_sum (show (C.set j (some 0)).length = k by simpa using hc)]
  have key : ∀ (l : List Nat), l.Nodup → (∀ x ∈ l, x < k) → (l.map fun j => capped (many S ds j) (C.getD j none)).sum = (l.map fun x => capped (many S ds x) ((C.set j (some 0)).getD x none)).sum + (if j ∈ l then capped (many S ds j) (C.getD j none) else 0) := by
    intro l
    induction l with
    | nil => intro _ _; simp
    | cons x l ih =>
      intro hn hl
      have ih := ih (List.nodup_cons.mp hn).2 fun y hy => hl y (List.mem_cons_of_mem _ hy)
      simp only [List.map_cons, List.sum_cons]
      by_cases hx : x = j
      · subst hx
        have hnl := (List.nodup_cons.mp hn).1
        have e : (C.set x (some 0)).getD x none = some 0 := by simp [List.getD, show x < C.length by omega]
        rw [e, if_pos List.mem_cons_self]
        rw [if_neg hnl] at ih
        rw [capped_zero h0]
        omega
      · have e : (C.set j (some 0)).getD x none = C.getD x none := by
          rw [List.getD_eq_getElem?_getD, List.getElem?_set_ne (fun z => hx z.symm), List.getD_eq_getElem?_getD]
        have hm : (j ∈ x :: l) ↔ j ∈ l := by simp [show ¬ j = x from fun z => hx z.symm]
        rw [e]
        by_cases hjl : j ∈ l
        · rw [if_pos (hm.mpr hjl)]; rw [if_pos hjl] at ih; omega
        · rw [if_neg (fun z => hjl (hm.mp z))]; rw [if_neg hjl] at ih; omega
  have := key (List.range k) List.nodup_range fun x hx => List.mem_range.mp hx
  rw [if_pos (List.mem_range.mpr hj)] at this
  exact this
def PD (P : List Int) (n : Nat) (D : Nat → Bool) : Int := sF (List.range n) D fun d => P.getD d 0
/-- a task that can be done: no drawers give more than their room -/
structure Can (n k : Nat) (S : List (List Int)) (C : List (Option Int)) (P : List Int) : Prop where
  tb : Tb n k S
  cp : Cps k C
  pl : P.length = n
  p0 : ∀ d, d < n → 0 ≤ P.getD d 0
  no : ∀ D : Nat → Bool, PD P n D ≤ room S C (sel n D)
/-- what remains -/
abbrev nextS (S : List (List Int)) (i j : Nat) : List (List Int) := S.set i ((S.getD i []).set j 0)
abbrev nextC (C : List (Option Int)) (j : Nat) (x : Int) : List (Option Int) := C.set j ((C.getD j none).map (· - x))
abbrev nextP (P : List Int) (i : Nat) (x : Int) : List Int := P.set i (P.getD i 0 - x)
theorem getD_set {α : Type} {l : List α} {i d : Nat} {x a : α} (h : i < l.length) : (l.set i x).getD d a = if d = i then x else l.getD d a := by
  rw [List.getD_eq_getElem?_getD, List.getD_eq_getElem?_getD]
  by_cases hd : d = i
  · subst hd
    rw [if_pos rfl, List.getElem?_set_self h]
    rfl
  · rw [if_neg hd, List.getElem?_set_ne (fun z => hd z.symm)]
/-- what most_taken finds -/
structure Most (n : Nat) (S : List (List Int)) (C : List (Option Int)) (P : List Int) (i j : Nat) (x : Int) : Prop where
  s : x ≤ (S.getD i []).getD j 0
  p : x ≤ P.getD i 0
  c : ∀ c, C.getD j none = some c → ∀ E : Nat → Bool, E i = false → x ≤ c + room S (C.set j (some 0)) (sel n E) - PD P n E
  is : x = (S.getD i []).getD j 0 ∨ x = P.getD i 0 ∨ ∃ c, C.getD j none = some c ∧ ∃ E : Nat → Bool, E i = false ∧ x = c + room S (C.set j (some 0)) (sel n E) - PD P n E
theorem Can.step {n k i j : Nat} {S : List (List Int)} {C : List (Option Int)} {P : List Int} {x : Int} (h : Can n k S C P) (hi : i < n) (hj : j < k) (hx : Most n S C P i j x) : 0 ≤ x ∧ Can n k (nextS S i j) (nextC C j x) (nextP P i x) := by
  have hSl := h.tb.rn
  have hCl := h.cp.len
  have hPl := h.pl
  have hSi := h.tb.len i hi
  have hsij := h.tb.ge i hi j hj
  have hpi := h.p0 i hi
  have hcz : Cps k (C.set j (some 0)) := ⟨by simpa using hCl, fun o v ho hv => by
    rcases List.mem_or_eq_of_mem_set ho with ho | rfl
    · exact h.cp.ge o v ho hv
    · cases hv; exact Int.le_refl _⟩
  have hm0 : ∀ D : Nat → Bool, 0 ≤ many S (sel n D) j := fun D => sF_ge fun d hd => h.tb.ge d (List.mem_range.mp hd) j hj
  have hR : ∀ D : Nat → Bool, room S C (sel n D) = room S (C.set j (some 0)) (sel n D) + capped (many S (sel n D) j) (C.getD j none) := fun D => room_split hCl hj (hm0 D)
  have hno : ∀ D : Nat → Bool, PD P n D ≤ room S (C.set j (some 0)) (sel n D) + capped (many S (sel n D) j) (C.getD j none) := fun D => by rw [← hR]; exact h.no D
  have x0 : 0 ≤ x := by
    rcases hx.is with e | e | ⟨c, hc, E, hE, e⟩
    · omega
    · omega
    · have := hno E
      rw [hc] at this
      simp only [capped] at this
      omega
  have hxc : ∀ c, C.getD j none = some c → x ≤ c := fun c hc => by
    have := hx.c c hc (fun _ => false) rfl
    have e1 : sel n (fun _ => false) = [] := List.filter_eq_nil_iff.mpr (by simp)
    have e2 : PD P n (fun _ => false) = 0 := by show ((sel n fun _ => false).map _).sum = 0; rw [e1]; rfl
    rw [e1, e2, room_nil hcz] at this
    omega
  have hrow : ∀ d, (nextS S i j).getD d [] = if d = i then (S.getD i []).set j 0 else S.getD d [] := fun d => getD_set (by omega)
  have hent : ∀ d j', j' ≠ j → ((nextS S i j).getD d []).getD j' 0 = (S.getD d []).getD j' 0 := fun d j' hne => by
    rw [hrow]
    split
    · rename_i e; rw [e, getD_set (by omega), if_neg hne]
    · rfl
  have hentj : ∀ d, ((nextS S i j).getD d []).getD j 0 = if d = i then 0 else (S.getD d []).getD j 0 := fun d => by
    rw [hrow]
    split
    · rw [getD_set (by omega), if_pos rfl]
    · rfl
  have hlenx : (nextC C j x).length = k := by simpa using hCl
  have hcx : (nextC C j x).getD j none = (C.getD j none).map (· - x) := by rw [getD_set (by omega), if_pos rfl]
  have tb' : Tb n k (nextS S i j) := ⟨by simpa using hSl, fun d hd => by
    rw [hrow]
    split
    · simpa using hSi
    · exact h.tb.len d hd, fun d hd j' hj' => by
    by_cases hne : j' = j
    · subst hne
      rw [hentj]
      split
      · exact Int.le_refl _
      · exact h.tb.ge d hd _ hj'
    · rw [hent d j' hne]
      exact h.tb.ge d hd _ hj'⟩
  refine ⟨x0, tb', ⟨hlenx, fun o v ho hv => ?_⟩, by simpa using hPl, fun d hd => ?_, fun D => ?_⟩
  · rcases List.mem_or_eq_of_mem_set ho with ho | rfl
    · exact h.cp.ge o v ho hv
    · obtain ⟨c, hc, rfl⟩ := Option.map_eq_some_iff.mp hv
      have := hxc c hc
      omega
  · rw [getD_set (by omega)]
    split
    · have := hx.p; omega
    · exact h.p0 d hd
  · have hm0' : 0 ≤ many (nextS S i j) (sel n D) j := sF_ge fun d hd => tb'.ge d (List.mem_range.mp hd) j hj
    rw [room_split hlenx hj hm0', hcx]
    have hrw : room (nextS S i j) ((nextC C j x).set j (some 0)) (sel n D) = room S (C.set j (some 0)) (sel n D) := by
      have e : (nextC C j x).set j (some 0) = C.set j (some 0) := by simp [nextC]
      rw [e, room_sum hcz.len, room_sum hcz.len]
      refine congrArg List.sum (List.map_congr_left fun j' hj' => ?_)
      by_cases hne : j' = j
      · subst hne
        have e0 : (C.set j' (some 0)).getD j' none = some 0 := by rw [getD_set (by omega), if_pos rfl]
        have := hm0 D
        rw [e0]
        simp only [capped]
        omega
      · have : many (nextS S i j) (sel n D) j' = many S (sel n D) j' := sF_congr (fun _ _ => rfl) fun d _ _ => hent d j' hne
        rw [this]
    have hmm : many (nextS S i j) (sel n D) j = many S (sel n D) j - (if D i = true then (S.getD i []).getD j 0 else 0) := by
      rw [many_sel, many_sel]
      exact sF_at List.nodup_range (List.mem_range.mpr hi) (fun d _ hd => by rw [hentj, if_neg hd]) (by rw [hentj, if_pos rfl]; omega)
    have hpp : PD (nextP P i x) n D = PD P n D - (if D i = true then x else 0) := by
      unfold PD
      exact sF_at List.nodup_range (List.mem_range.mpr hi) (fun d _ hd => by rw [getD_set (by omega), if_neg hd]) (by rw [getD_set (by omega), if_pos rfl])
    rw [hrw, hmm, hpp]
    have hD := hno D
    have hms := hm0 D
    cases hDi : D i with
    | false =>
      simp only [Bool.false_eq_true, if_false, Int.sub_zero]
      cases hc : C.getD j none with
      | none => rw [hc] at hD; exact hD
      | some c =>
        rw [hc] at hD
        have := hx.c c hc D hDi
        simp only [capped, Option.map_some] at hD ⊢
        omega
    | true =>
      simp only [if_true]
      -- without drawer i
      have hd1 : many S (sel n D) j = many S (sel n fun d => D d && !(d == i)) j + (S.getD i []).getD j 0 := by
        have := sF_drop (D := D) (f := fun d => (S.getD d []).getD j 0) (i := i) List.nodup_range (List.mem_range.mpr hi)
        rw [if_pos hDi] at this
        exact this
      have hd2 : PD P n D = PD P n (fun d => D d && !(d == i)) + P.getD i 0 := by
        have := sF_drop (D := D) (f := fun d => P.getD d 0) (i := i) List.nodup_range (List.mem_range.mpr hi)
        rw [if_pos hDi] at this
        exact this
      have hd3 : room S (C.set j (some 0)) (sel n fun d => D d && !(d == i)) ≤ room S (C.set j (some 0)) (sel n D) := by
        rw [room_sum hcz.len, room_sum hcz.len]
        refine sum_le_sum _ fun j' hj' => capped_mono _ (sF_mono (fun d _ hd => by simp at hd; exact hd.1) fun d hd => h.tb.ge d (List.mem_range.mp hd) j' (List.mem_range.mp hj'))
      have hno2 := hno (fun d => D d && !(d == i))
      -- the second part: below the things that are left
      have key : PD P n D - x ≤ room S (C.set j (some 0)) (sel n D) + (many S (sel n D) j - (S.getD i []).getD j 0) := by
        rcases hx.is with e | e | ⟨c, hc, E, hE, e⟩
        · have := capped_le (many S (sel n D) j) (C.getD j none)
          omega
        · have := capped_le (many S (sel n fun d => D d && !(d == i)) j) (C.getD j none)
          omega
        · have hsub := room_sub h.tb hcz D E
          have hmod := sF_mod (List.range n) D E fun d => P.getD d 0
          have hU := hno (fun d => D d || E d)
          have hI := hno (fun d => D d && E d)
          rw [hc] at hU
          have h5 := capped_le (many S (sel n fun d => D d && E d) j) (C.getD j none)
          have h6 : many S (sel n fun d => D d && E d) j ≤ many S (sel n fun d => D d && !(d == i)) j := sF_mono (fun d _ hd => by
            simp only [Bool.and_eq_true, Bool.not_eq_true', beq_eq_false_iff_ne] at hd ⊢
            exact ⟨hd.1, fun z => by subst z; rw [hE] at hd; cases hd.2⟩) fun d hd => h.tb.ge d (List.mem_range.mp hd) j hj
          simp only [capped] at hU
          have hmod' : PD P n (fun d => D d || E d) + PD P n (fun d => D d && E d) = PD P n D + PD P n E := hmod
          omega
      cases hc : C.getD j none with
      | none =>
        simp only [capped, Option.map_none]
        exact key
      | some c =>
        rw [hc] at hD
        simp only [capped, Option.map_some] at hD ⊢
        omega
/-- the sets that are listed are all -/
theorem filter_mem {n : Nat} (h0 : 1 ≤ n) (h4 : n ≤ 4) (D : Nat → Bool) : sel n D = [] ∨ sel n D ∈ setsL n := by
  rcases four_cases h0 h4 with rfl | rfl | rfl | rfl
  · cases h0 : D 0 <;> simp [sel, List.range_succ, List.filter_cons, h0, setsL]
  · cases h0 : D 0 <;> cases h1 : D 1 <;> simp [sel, List.range_succ, List.filter_cons, h0, h1, setsL]
  · cases h0 : D 0 <;> cases h1 : D 1 <;> cases h2 : D 2 <;> simp [sel, List.range_succ, List.filter_cons, h0, h1, h2, setsL]
  · cases h0 : D 0 <;> cases h1 : D 1 <;> cases h2 : D 2 <;> cases h3 : D 3 <;> simp [sel, List.range_succ, List.filter_cons, h0, h1, h2, h3, setsL]
/-! ### the program's plans -/
theorem with_num {l : List D} {i : Nat} {x : D} (hi : i < l.length) (hl : l.length ≤ 1000) : m_with_number (.tuple l) (.int (i : Nat)) x = some (.tuple (l.set i x)) := by
  unfold m_with_number
  simp only [op2, op1, cmp2, chain3, tst, notB, andB, orB, andD, orD, iteM, consM, starM, smallM, tupM, tupSM, lstM, argV, argK, comp1, comp1i, comp2, comp2i, comp11, seqM, rng1, rng2, zipSM, zip2M, zip3M, enumM, repM, joinM, catM, par3LM, put2M, popM, parLV, putVM, unpS, trg1M, sortSetM, orV, lrg1M, par3M, rdM, rdLM, partM, slcM, isiM, rtM, forM1, forM2, forM3, parM, unp2, unp3, ob_pure, ob_some, ob_lift, Option.pure_def, add_int, sub_int, lt_int, le_int, gt_int, ge_int, eq_int, ne_int, min_int, max_int, neg_int, bool_bool, not_bool, is_none, isn_none, nn_int, nn_none, nn_tup, len_tup, len_lst, tup_lst, tup_tup, it_lst, it_tup, int_bool, int_int, oint_int, addI_int, subI_int, flat_tI, flat_int, flat_none, Option.bind_some, Option.map_some, Int.zero_add, thenB, thenM, List.nil_append, List.length_map, ob_assoc]
  rw [cut_loD (by omega) (by omega)]
  simp only [op2, op1, cmp2, chain3, tst, notB, andB, orB, andD, orD, iteM, consM, starM, smallM, tupM, tupSM, lstM, argV, argK, comp1, comp1i, comp2, comp2i, comp11, seqM, rng1, rng2, zipSM, zip2M, zip3M, enumM, repM, joinM, catM, par3LM, put2M, popM, parLV, putVM, unpS, trg1M, sortSetM, orV, lrg1M, par3M, rdM, rdLM, partM, slcM, isiM, rtM, forM1, forM2, forM3, parM, unp2, unp3, ob_pure, ob_some, ob_lift, Option.pure_def, add_int, sub_int, lt_int, le_int, gt_int, ge_int, eq_int, ne_int, min_int, max_int, neg_int, bool_bool, not_bool, is_none, isn_none, nn_int, nn_none, nn_tup, len_tup, len_lst, tup_lst, tup_tup, it_lst, it_tup, int_bool, int_int, oint_int, addI_int, subI_int, flat_tI, flat_int, flat_none, Option.bind_some, Option.map_some, Int.zero_add, thenB, thenM, List.nil_append, List.length_map, ob_assoc]
  rw [cut_hiD (by omega) (by omega)]
  simp only [op2, op1, cmp2, chain3, tst, notB, andB, orB, andD, orD, iteM, consM, starM, smallM, tupM, tupSM, lstM, argV, argK, comp1, comp1i, comp2, comp2i, comp11, seqM, rng1, rng2, zipSM, zip2M, zip3M, enumM, repM, joinM, catM, par3LM, put2M, popM, parLV, putVM, unpS, trg1M, sortSetM, orV, lrg1M, par3M, rdM, rdLM, partM, slcM, isiM, rtM, forM1, forM2, forM3, parM, unp2, unp3, ob_pure, ob_some, ob_lift, Option.pure_def, add_int, sub_int, lt_int, le_int, gt_int, ge_int, eq_int, ne_int, min_int, max_int, neg_int, bool_bool, not_bool, is_none, isn_none, nn_int, nn_none, nn_tup, len_tup, len_lst, tup_lst, tup_tup, it_lst, it_tup, int_bool, int_int, oint_int, addI_int, subI_int, flat_tI, flat_int, flat_none, Option.bind_some, Option.map_some, Int.zero_add, thenB, thenM, List.nil_append, List.length_map, ob_assoc, List.append_nil]
  rw [small_ok (by simp; omega), Int.toNat_natCast, show ((i : Int) + 1).toNat = i + 1 by omega, List.set_eq_take_append_cons_drop, if_pos hi]
  rfl
theorem psets_eq {n : Nat} (h0 : 1 ≤ n) (h4 : n ≤ 4) : m_sets_of (.int (n : Nat)) = some (.list (([] :: setsL n).map tN)) := by
  rcases four_cases h0 h4 with rfl | rfl | rfl | rfl <;> kernel_rfl
theorem takes_eq {stock : List (List Int)} {caps : List (Option Int)} {plan : List Int} {ds : List Nat} {k : Nat} (hl : ∀ r ∈ stock, r.length = k) (hc : caps.length = k) (hp : plan.length = stock.length) (hd : ∀ d ∈ ds, d < stock.length) (h4 : ds.length ≤ 1000) : m_takes_more (tT stock) (tO caps) (tI plan) (tN ds) = some (.bool (excB stock caps plan ds)) := by
  have er : M_room_in [.val (tT stock), .val (tO caps), .val (tN ds)] = some (.int (room stock caps ds)) := room_eq hl hc hd (by omega)
  unfold m_takes_more
  simp only [op2, op1, cmp2, chain3, tst, notB, andB, orB, andD, orD, iteM, consM, starM, smallM, tupM, tupSM, lstM, argV, argK, comp1, comp1i, comp2, comp2i, comp11, seqM, rng1, rng2, zipSM, zip2M, zip3M, enumM, repM, joinM, catM, par3LM, put2M, popM, parLV, putVM, unpS, trg1M, sortSetM, orV, lrg1M, par3M, rdM, rdLM, partM, slcM, isiM, rtM, forM1, forM2, forM3, parM, unp2, unp3, ob_pure, ob_some, ob_lift, Option.pure_def, add_int, sub_int, lt_int, le_int, gt_int, ge_int, eq_int, ne_int, min_int, max_int, neg_int, bool_bool, not_bool, is_none, isn_none, nn_int, nn_none, nn_tup, len_tup, len_lst, tup_lst, tup_tup, it_lst, it_tup, int_bool, int_int, oint_int, addI_int, subI_int, flat_tI, flat_int, flat_none, Option.bind_some, Option.map_some, Int.zero_add, thenB, thenM, List.nil_append, List.length_map, ob_assoc]
  rw [small_ok (by rw [List.length_map]; omega)]
  simp only [op2, op1, cmp2, chain3, tst, notB, andB, orB, andD, orD, iteM, consM, starM, smallM, tupM, tupSM, lstM, argV, argK, comp1, comp1i, comp2, comp2i, comp11, seqM, rng1, rng2, zipSM, zip2M, zip3M, enumM, repM, joinM, catM, par3LM, put2M, popM, parLV, putVM, unpS, trg1M, sortSetM, orV, lrg1M, par3M, rdM, rdLM, partM, slcM, isiM, rtM, forM1, forM2, forM3, parM, unp2, unp3, ob_pure, ob_some, ob_lift, Option.pure_def, add_int, sub_int, lt_int, le_int, gt_int, ge_int, eq_int, ne_int, min_int, max_int, neg_int, bool_bool, not_bool, is_none, isn_none, nn_int, nn_none, nn_tup, len_tup, len_lst, tup_lst, tup_tup, it_lst, it_tup, int_bool, int_int, oint_int, addI_int, subI_int, flat_tI, flat_int, flat_none, Option.bind_some, Option.map_some, Int.zero_add, thenB, thenM, List.nil_append, List.length_map, ob_assoc]
  refine bindE (plansum_eq (m := Option) (by rw [hp]; exact hd)) ?_
  rw [int_map, sum_lI, ob_some, er]
  rfl
theorem exc_nil {stock : List (List Int)} {caps : List (Option Int)} {plan : List Int} {k : Nat} (hc : Cps k caps) : excB stock caps plan [] = false := by
  unfold excB
  rw [room_nil hc]
  rfl
theorem findex_eq {stock : List (List Int)} {caps : List (Option Int)} {plan : List Int} {k : Nat} (h1 : 1 ≤ stock.length) (h4 : stock.length ≤ 4) (hl : ∀ r ∈ stock, r.length = k) (hc : Cps k caps) (hp : plan.length = stock.length) : m_find_excess (tT stock) (tO caps) (tI plan) = some (match (setsL stock.length).find? fun ds => excB stock caps plan ds with | some ds => tN ds | none => .none) := by
  have es : M_sets_of [.val (.int (stock.length : Nat))] = some (.list (([] :: setsL stock.length).map tN)) := psets_eq h1 h4
  unfold m_find_excess
  simp only [op2, op1, cmp2, chain3, tst, notB, andB, orB, andD, orD, iteM, consM, starM, smallM, tupM, tupSM, lstM, argV, argK, comp1, comp1i, comp2, comp2i, comp11, seqM, rng1, rng2, zipSM, zip2M, zip3M, enumM, repM, joinM, catM, par3LM, put2M, popM, parLV, putVM, unpS, trg1M, sortSetM, orV, lrg1M, par3M, rdM, rdLM, partM, slcM, isiM, rtM, forM1, forM2, forM3, parM, unp2, unp3, ob_pure, ob_some, ob_lift, Option.pure_def, add_int, sub_int, lt_int, le_int, gt_int, ge_int, eq_int, ne_int, min_int, max_int, neg_int, bool_bool, not_bool, is_none, isn_none, nn_int, nn_none, nn_tup, len_tup, len_lst, tup_lst, tup_tup, it_lst, it_tup, int_bool, int_int, oint_int, addI_int, subI_int, flat_tI, flat_int, flat_none, Option.bind_some, Option.map_some, Int.zero_add, thenB, thenM, List.nil_append, List.length_map, ob_assoc, es]
  refine bindE (loop_find (m := Option) (F := tN) (p := fun ds => excB stock caps plan ds) (R := tN) ([] :: setsL stock.length) fun ds hds => ?_) ?_
  · have hb : ds.length ≤ 4 ∧ ∀ d ∈ ds, d < stock.length := by
      rcases List.mem_cons.mp hds with rfl | h
      · exact ⟨by simp, by simp⟩
      · have := sets_lt h1 h4 ds h; exact ⟨this.1, this.2.2⟩
    have et : M_takes_more [.val (tT stock), .val (tO caps), .val (tI plan), .val (tN ds)] = some (.bool (excB stock caps plan ds)) := takes_eq hl hc.len hp hb.2 (by omega)
    rw [et]
    rfl
  · rw [List.find?_cons, exc_nil hc]
    cases (setsL stock.length).find? fun ds => excB stock caps plan ds <;> rfl
theorem tb_rows {n k : Nat} {S : List (List Int)} (tb : Tb n k S) : ∀ r ∈ S, r.length = k := fun r hr => by
  obtain ⟨i, hi, rfl⟩ := List.getElem_of_mem hr
  have := tb.len i (by have := tb.rn; omega)
  simpa [List.getD, hi] using this
theorem tO_at {C : List (Option Int)} {j : Nat} (h : j < C.length) : DD.getD (tO C) (.int (j : Nat)) = some (oD (C.getD j none)) := by
  rw [get_tup (F := oD) h]
  simp [List.getD, h]
theorem ps_nil (P : List Int) : ((([] : List Nat).map fun d => P.getD d 0).sum) = 0 := rfl
theorem most_eq {n k i j : Nat} {S : List (List Int)} {C : List (Option Int)} {P : List Int} (h1 : 1 ≤ n) (h4 : n ≤ 4) (k4 : k ≤ 4) (h : Can n k S C P) (hi : i < n) (hj : j < k) : ∃ x, m_most_taken (.tuple [tT S, tO C, tI P]) (.int (i : Nat)) (.int (j : Nat)) = some (.int x) ∧ Most n S C P i j x := by
  have hSl := h.tb.rn
  have hCl := h.cp.len
  have hPl := h.pl
  have e1 : DD.getD (tT S) (.int (i : Nat)) = some (tI (S.getD i [])) := get_row (by omega)
  have e2 : DD.getD (tI (S.getD i [])) (.int (j : Nat)) = some (.int ((S.getD i []).getD j 0)) := at_int (by rw [h.tb.len i hi]; exact hj)
  have e3 : DD.getD (tI P) (.int (i : Nat)) = some (.int (P.getD i 0)) := at_int (by omega)
  have e4 : DD.getD (tO C) (.int (j : Nat)) = some (oD (C.getD j none)) := tO_at (by omega)
  have e5 : M_sets_of [.val (.int (S.length : Nat))] = some (.list (([] :: setsL S.length).map tN)) := psets_eq (by omega) (by omega)
  have e6 : M_with_number [.val (tO C), .val (.int (j : Nat)), .val (.int 0)] = some (tO (C.set j (some 0))) := by
    show m_with_number (tO C) (.int (j : Nat)) (.int 0) = _
    rw [with_num (by rw [List.length_map]; omega) (by rw [List.length_map]; omega)]
    show _ = some (PyData.tuple ((C.set j (some 0)).map oD))
    rw [List.map_set]
    rfl
  unfold m_most_taken
  simp only [op2, op1, cmp2, chain3, tst, notB, andB, orB, andD, orD, iteM, consM, starM, smallM, tupM, tupSM, lstM, argV, argK, comp1, comp1i, comp2, comp2i, comp11, seqM, rng1, rng2, zipSM, zip2M, zip3M, enumM, repM, joinM, catM, par3LM, put2M, popM, parLV, putVM, unpS, trg1M, sortSetM, orV, lrg1M, par3M, rdM, rdLM, partM, slcM, isiM, rtM, forM1, forM2, forM3, parM, unp2, unp3, ob_pure, ob_some, ob_lift, Option.pure_def, add_int, sub_int, lt_int, le_int, gt_int, ge_int, eq_int, ne_int, min_int, max_int, neg_int, bool_bool, not_bool, is_none, isn_none, nn_int, nn_none, nn_tup, len_tup, len_lst, tup_lst, tup_tup, it_lst, it_tup, int_bool, int_int, oint_int, addI_int, subI_int, flat_tI, flat_int, flat_none, Option.bind_some, Option.map_some, Int.zero_add, thenB, thenM, List.nil_append, List.length_map, ob_assoc, tripD, e1, e2, e3, e4]
  cases hc : C.getD j none with
  | none =>
    refine ⟨min ((S.getD i []).getD j 0) (P.getD i 0), rfl, ⟨by omega, by omega, fun c hcc => (by rw [hc] at hcc; cases hcc), ?_⟩⟩
    by_cases hle : (S.getD i []).getD j 0 ≤ P.getD i 0
    · exact .inl (by omega)
    · exact .inr (.inl (by omega))
  | some c =>
    simp only [oD, nn_int, Bool.false_eq_true, if_false, op2, op1, cmp2, chain3, tst, notB, andB, orB, andD, orD, iteM, consM, starM, smallM, tupM, tupSM, lstM, argV, argK, comp1, comp1i, comp2, comp2i, comp11, seqM, rng1, rng2, zipSM, zip2M, zip3M, enumM, repM, joinM, catM, par3LM, put2M, popM, parLV, putVM, unpS, trg1M, sortSetM, orV, lrg1M, par3M, rdM, rdLM, partM, slcM, isiM, rtM, forM1, forM2, forM3, parM, unp2, unp3, ob_pure, ob_some, ob_lift, Option.pure_def, add_int, sub_int, lt_int, le_int, gt_int, ge_int, eq_int, ne_int, min_int, max_int, neg_int, bool_bool, not_bool, is_none, isn_none, nn_int, nn_none, nn_tup, len_tup, len_lst, tup_lst, tup_tup, it_lst, it_tup, int_bool, int_int, oint_int, addI_int, subI_int, flat_tI, flat_int, flat_none, Option.bind_some, Option.map_some, Int.zero_add, thenB, thenM, List.nil_append, List.length_map, ob_assoc, e5, e6]
    have hsel : ∀ E : Nat → Bool, sel n E ∈ [] :: setsL S.length := fun E => by
      rcases filter_mem h1 h4 E with z | z
      · rw [z]; exact List.mem_cons_self
      · rw [hSl]; exact List.mem_cons_of_mem _ z
    have hds : ∀ ds ∈ [] :: setsL S.length, ds.length ≤ 4 ∧ (∀ d ∈ ds, d < n) ∧ ds = sel n (fun d => ds.contains d) := fun ds hd => by
      rcases List.mem_cons.mp hd with rfl | hd
      · exact ⟨by simp, by simp, (List.filter_eq_nil_iff.mpr (by simp)).symm⟩
      · rw [hSl] at hd
        have := sets_lt h1 h4 ds hd
        exact ⟨this.1, this.2.2, sets_filter h1 h4 ds hd⟩
    refine bind_ex (R := fun z => ∃ x, z = some (PyData.int x) ∧ Most n S C P i j x) (I := fun fl => ∃ a', fl = Fl.nx a' ∧ ∃ x : Int, a' = PyData.int x ∧ x ≤ (S.getD i []).getD j 0 ∧ x ≤ P.getD i 0 ∧ (∀ ds ∈ [] :: setsL S.length, i ∉ ds → x ≤ c + room S (C.set j (some 0)) ds - (ds.map fun d => P.getD d 0).sum) ∧
        (x = (S.getD i []).getD j 0 ∨ x = P.getD i 0 ∨ ∃ ds ∈ [] :: setsL S.length, i ∉ ds ∧ x = c + room S (C.set j (some 0)) ds - (ds.map fun d => P.getD d 0).sum)) ?hl ?hr
    case hl =>
      refine loop_exF (m := Option) (F := tN) (I := fun p a => ∃ x : Int, a = PyData.int x ∧ x ≤ (S.getD i []).getD j 0 ∧ x ≤ P.getD i 0 ∧ (∀ ds ∈ p, i ∉ ds → x ≤ c + room S (C.set j (some 0)) ds - (ds.map fun d => P.getD d 0).sum) ∧
        (x = (S.getD i []).getD j 0 ∨ x = P.getD i 0 ∨ ∃ ds ∈ p, i ∉ ds ∧ x = c + room S (C.set j (some 0)) ds - (ds.map fun d => P.getD d 0).sum)) ([] :: setsL S.length) ⟨_, rfl, by omega, by omega, by simp, ?_⟩ fun p ds q a e ⟨x, ea, hxs, hxp, hxc, hxi⟩ => ?_
      · by_cases hle : (S.getD i []).getD j 0 ≤ P.getD i 0
        · exact .inl (by omega)
        · exact .inr (.inl (by omega))
      · subst ea
        have hdm : ds ∈ [] :: setsL S.length := by rw [e]; simp
        obtain ⟨hd4, hdn, hdf⟩ := hds ds hdm
        have en : ninD (.int (i : Nat)) (tN ds) = some (.bool (!decide (i ∈ ds))) := by
          show ninD (.int (i : Int)) (.tuple (ds.map fun n : Nat => PyData.int (n : Int))) = _
          rw [int_map, int_nin]
          congr 3
          rw [Bool.eq_iff_iff, decide_eq_true_eq, decide_eq_true_eq, List.mem_map]
          constructor
          · rintro ⟨d, hd, he⟩
            obtain rfl : d = i := by omega
            exact hd
          · exact fun h => ⟨i, h, rfl⟩
        rw [en]
        by_cases him : i ∈ ds
        · refine ⟨.int x, ?_, x, rfl, hxs, hxp, fun ds' hd' hne => ?_, ?_⟩
          · rw [decide_eq_true him]
            rfl
          · rcases List.mem_append.mp hd' with h' | h'
            · exact hxc ds' h' hne
            · rw [List.mem_singleton.mp h'] at hne
              exact absurd him hne
          · rcases hxi with z | z | ⟨ds', hd', z⟩
            · exact .inl z
            · exact .inr (.inl z)
            · exact .inr (.inr ⟨ds', List.mem_append_left _ hd', z⟩)
        · have er : M_room_in [.val (tT S), .val (tO (C.set j (some 0))), .val (tN ds)] = some (.int (room S (C.set j (some 0)) ds)) := room_eq (tb_rows h.tb) (by simpa using hCl) (fun d hd => by rw [hSl]; exact hdn d hd) (by omega)
          refine ⟨.int (min x (c + room S (C.set j (some 0)) ds - (ds.map fun d => P.getD d 0).sum)), ?_, _, rfl, by omega, by omega, fun ds' hd' hne => ?_, ?_⟩
          · rw [decide_eq_false him]
            show ((M_room_in [.val (tT S), .val (tO (C.set j (some 0))), .val (tN ds)] >>= _) >>= _) = _
            rw [er, ob_some, add_int, ob_some]
            refine bindE (a := Fl.nx (PyData.int (min x (c + room S (C.set j (some 0)) ds - (ds.map fun d => P.getD d 0).sum)))) (bindE (it_tup _) (bindE (small_ok (by rw [List.length_map]; omega)) (bindE (plansum_eq (m := Option) (by intro d hd; have := hdn d hd; omega)) ?_))) rfl
            rw [int_map, sum_lI, ob_some, sub_int, ob_some, min_int, ob_some]
            rfl
          · rcases List.mem_append.mp hd' with h' | h'
            · have := hxc ds' h' hne
              omega
            · rw [List.mem_singleton.mp h']
              omega
          · by_cases hle : x ≤ c + room S (C.set j (some 0)) ds - (ds.map fun d => P.getD d 0).sum
            · have ex : min x (c + room S (C.set j (some 0)) ds - (ds.map fun d => P.getD d 0).sum) = x := by omega
              rw [ex]
              rcases hxi with z | z | ⟨ds', hd', z⟩
              · exact .inl z
              · exact .inr (.inl z)
              · exact .inr (.inr ⟨ds', List.mem_append_left _ hd', z⟩)
            · exact .inr (.inr ⟨ds, by simp, him, by omega⟩)
    rintro _ ⟨_, rfl, x, rfl, hxs, hxp, hxc, hxi⟩
    refine ⟨x, rfl, hxs, hxp, fun c' hc' E hE => ?_, ?_⟩
    · rw [hc] at hc'
      cases hc'
      exact hxc _ (hsel E) fun z => by have := (List.mem_filter.mp z).2; rw [hE] at this; cases this
    · rcases hxi with z | z | ⟨ds, hd, hne, z⟩
      · exact .inl z
      · exact .inr (.inl z)
      · obtain ⟨_, _, hdf⟩ := hds ds hd
        refine .inr (.inr ⟨c, hc, fun d => ds.contains d, by simpa using hne, ?_⟩)
        rw [← hdf]
        show x = c + room S (C.set j (some 0)) ds - ((sel n fun d => ds.contains d).map fun d => P.getD d 0).sum
        rw [← hdf]
        exact z
theorem after_eq {n k i j : Nat} {S : List (List Int)} {C : List (Option Int)} {P : List Int} {x : Int} (h4 : n ≤ 4) (k4 : k ≤ 4) (h : Can n k S C P) (hi : i < n) (hj : j < k) : m_after_taking (.tuple [tT S, tO C, tI P]) (.int (i : Nat)) (.int (j : Nat)) (.int x) = some (.tuple [tT (nextS S i j), tO (nextC C j x), tI (nextP P i x)]) := by
  have hSl := h.tb.rn
  have hCl := h.cp.len
  have hPl := h.pl
  have hSi := h.tb.len i hi
  have e1 : DD.getD (tT S) (.int (i : Nat)) = some (tI (S.getD i [])) := get_row (by omega)
  have e3 : DD.getD (tI P) (.int (i : Nat)) = some (.int (P.getD i 0)) := at_int (by omega)
  have e4 : DD.getD (tO C) (.int (j : Nat)) = some (oD (C.getD j none)) := tO_at (by omega)
  have e5 : M_with_number [.val (tI (S.getD i [])), .val (.int (j : Nat)), .val (.int 0)] = some (tI ((S.getD i []).set j 0)) := by
    show m_with_number (tI (S.getD i [])) (.int (j : Nat)) (.int 0) = _
    rw [with_num (by rw [List.length_map]; omega) (by rw [List.length_map]; omega)]
    show _ = some (PyData.tuple (((S.getD i []).set j 0).map PyData.int))
    rw [List.map_set]
  have e6 : M_with_number [.val (tT S), .val (.int (i : Nat)), .val (tI ((S.getD i []).set j 0))] = some (tT (nextS S i j)) := by
    show m_with_number (tT S) (.int (i : Nat)) _ = _
    rw [with_num (by rw [List.length_map]; omega) (by rw [List.length_map]; omega)]
    show _ = some (PyData.tuple ((nextS S i j).map tI))
    unfold nextS
    rw [List.map_set]
  have e7 : M_with_number [.val (tI P), .val (.int (i : Nat)), .val (.int (P.getD i 0 - x))] = some (tI (nextP P i x)) := by
    show m_with_number (tI P) (.int (i : Nat)) _ = _
    rw [with_num (by rw [List.length_map]; omega) (by rw [List.length_map]; omega)]
    show _ = some (PyData.tuple ((nextP P i x).map PyData.int))
    unfold nextP
    rw [List.map_set]
  unfold m_after_taking
  simp only [op2, op1, cmp2, chain3, tst, notB, andB, orB, andD, orD, iteM, consM, starM, smallM, tupM, tupSM, lstM, argV, argK, comp1, comp1i, comp2, comp2i, comp11, seqM, rng1, rng2, zipSM, zip2M, zip3M, enumM, repM, joinM, catM, par3LM, put2M, popM, parLV, putVM, unpS, trg1M, sortSetM, orV, lrg1M, par3M, rdM, rdLM, partM, slcM, isiM, rtM, forM1, forM2, forM3, parM, unp2, unp3, ob_pure, ob_some, ob_lift, Option.pure_def, add_int, sub_int, lt_int, le_int, gt_int, ge_int, eq_int, ne_int, min_int, max_int, neg_int, bool_bool, not_bool, is_none, isn_none, nn_int, nn_none, nn_tup, len_tup, len_lst, tup_lst, tup_tup, it_lst, it_tup, int_bool, int_int, oint_int, addI_int, subI_int, flat_tI, flat_int, flat_none, Option.bind_some, Option.map_some, Int.zero_add, thenB, thenM, List.nil_append, List.length_map, ob_assoc, tripD, e1, e3, e4, e5, e6]
  cases hc : C.getD j none with
  | none =>
    have e8 : nextC C j x = C := by
      unfold nextC
      rw [hc]
      refine List.ext_getElem (by simp) fun a h1 h2 => ?_
      rw [List.getElem_set]
      split
      · rename_i e; subst e; simp [List.getD, h2] at hc; simp [hc]
      · rfl
    rw [e8]
    simp only [oD, nn_none, Bool.not_true, Bool.false_eq_true, if_false, op2, op1, cmp2, chain3, tst, notB, andB, orB, andD, orD, iteM, consM, starM, smallM, tupM, tupSM, lstM, argV, argK, comp1, comp1i, comp2, comp2i, comp11, seqM, rng1, rng2, zipSM, zip2M, zip3M, enumM, repM, joinM, catM, par3LM, put2M, popM, parLV, putVM, unpS, trg1M, sortSetM, orV, lrg1M, par3M, rdM, rdLM, partM, slcM, isiM, rtM, forM1, forM2, forM3, parM, unp2, unp3, ob_pure, ob_some, ob_lift, Option.pure_def, add_int, sub_int, lt_int, le_int, gt_int, ge_int, eq_int, ne_int, min_int, max_int, neg_int, bool_bool, not_bool, is_none, isn_none, nn_int, nn_none, nn_tup, len_tup, len_lst, tup_lst, tup_tup, it_lst, it_tup, int_bool, int_int, oint_int, addI_int, subI_int, flat_tI, flat_int, flat_none, Option.bind_some, Option.map_some, Int.zero_add, thenB, thenM, List.nil_append, List.length_map, ob_assoc, e7]
  | some c =>
    have e8 : M_with_number [.val (tO C), .val (.int (j : Nat)), .val (.int (c - x))] = some (tO (nextC C j x)) := by
      show m_with_number (tO C) (.int (j : Nat)) _ = _
      rw [with_num (by rw [List.length_map]; omega) (by rw [List.length_map]; omega)]
      show _ = some (PyData.tuple ((nextC C j x).map oD))
      unfold nextC
      rw [List.map_set, hc]
      rfl
    simp only [oD, nn_int, Bool.not_false, if_true, op2, op1, cmp2, chain3, tst, notB, andB, orB, andD, orD, iteM, consM, starM, smallM, tupM, tupSM, lstM, argV, argK, comp1, comp1i, comp2, comp2i, comp11, seqM, rng1, rng2, zipSM, zip2M, zip3M, enumM, repM, joinM, catM, par3LM, put2M, popM, parLV, putVM, unpS, trg1M, sortSetM, orV, lrg1M, par3M, rdM, rdLM, partM, slcM, isiM, rtM, forM1, forM2, forM3, parM, unp2, unp3, ob_pure, ob_some, ob_lift, Option.pure_def, add_int, sub_int, lt_int, le_int, gt_int, ge_int, eq_int, ne_int, min_int, max_int, neg_int, bool_bool, not_bool, is_none, isn_none, nn_int, nn_none, nn_tup, len_tup, len_lst, tup_lst, tup_tup, it_lst, it_tup, int_bool, int_int, oint_int, addI_int, subI_int, flat_tI, flat_int, flat_none, Option.bind_some, Option.map_some, Int.zero_add, thenB, thenM, List.nil_append, List.length_map, ob_assoc, e7, e8]
/-- a draw within the caps -/
structure Drawn (n k : Nat) (S : List (List Int)) (C : List (Option Int)) (P : List Int) (R : List (List Int)) : Prop where
  rn : R.length = n
  len : ∀ d, d < n → (R.getD d []).length = k
  ge : ∀ d, d < n → ∀ j, j < k → 0 ≤ (R.getD d []).getD j 0 ∧ (R.getD d []).getD j 0 ≤ (S.getD d []).getD j 0
  sum : ∀ d, d < n → (R.getD d []).sum = P.getD d 0
  cap : ∀ j c, j < k → C.getD j none = some c → (col R j).sum ≤ c
theorem getD_snoc {α : Type} {l : List α} {x a : α} {d : Nat} : (l ++ [x]).getD d a = if d < l.length then l.getD d a else if d = l.length then x else a := by
  rw [List.getD_eq_getElem?_getD, List.getD_eq_getElem?_getD]
  by_cases h : d < l.length
  · rw [if_pos h, List.getElem?_append_left h]
  · rw [if_neg h, List.getElem?_append_right (by omega)]
    by_cases h2 : d = l.length
    · rw [if_pos h2, h2]; simp
    · rw [if_neg h2, List.getElem?_eq_none (by simp; omega)]
      rfl
theorem sF_one {n i : Nat} (f : Nat → Int) (hi : i < n) : sF (List.range n) (fun d => d == i) f = f i := by
  have := sF_drop (D := fun d => d == i) (f := f) (i := i) List.nodup_range (List.mem_range.mpr hi)
  rw [if_pos (by simp)] at this
  have e : sF (List.range n) (fun d => d == i && !(d == i)) f = 0 := by
    unfold sF
    rw [List.filter_eq_nil_iff.mpr (by simp)]
    rfl
  omega
theorem zero_row {n k i : Nat} {S : List (List Int)} {C : List (Option Int)} {P : List Int} (h : Can n k S C P) (hi : i < n) (hz : ∀ j, j < k → (S.getD i []).getD j 0 = 0) : P.getD i 0 = 0 := by
  have h0 := h.p0 i hi
  have h1 := h.no fun d => d == i
  have h2 := room_le (stock := S) (ds := sel n fun d => d == i) h.cp.len
  have h3 : ((List.range k).map fun j => many S (sel n fun d => d == i) j).sum = 0 := by
    rw [← zero_sum (List.range k)]
    refine congrArg List.sum (List.map_congr_left fun j hj => ?_)
    rw [many_sel, sF_one _ hi]
    exact hz j (List.mem_range.mp hj)
  have h4 : PD P n (fun d => d == i) = P.getD i 0 := sF_one _ hi
  omega
abbrev tk (S : List (List Int)) (C : List (Option Int)) (P : List Int) : D := .tuple [tT S, tO C, tI P]
/-- one drawer, its first t kinds -/
structure Row (n k : Nat) (S0 : List (List Int)) (C0 : List (Option Int)) (P0 : List Int) (i t : Nat) (S : List (List Int)) (C : List (Option Int)) (P own : List Int) : Prop where
  can : Can n k S C P
  ol : own.length = t
  ge : ∀ j, j < t → 0 ≤ own.getD j 0 ∧ own.getD j 0 ≤ (S0.getD i []).getD j 0
  row : ∀ j, j < k → (S.getD i []).getD j 0 = if j < t then 0 else (S0.getD i []).getD j 0
  oth : ∀ d, d < n → d ≠ i → S.getD d [] = S0.getD d [] ∧ P.getD d 0 = P0.getD d 0
  pl : P.getD i 0 = P0.getD i 0 - own.sum
  cp : ∀ j, j < k → C.getD j none = if j < t then (C0.getD j none).map (· - own.getD j 0) else C0.getD j none
theorem row_step {n k i t : Nat} {S0 S : List (List Int)} {C0 C : List (Option Int)} {P0 P own : List Int} {x : Int} (r : Row n k S0 C0 P0 i t S C P own) (hi : i < n) (ht : t < k) (hx : Most n S C P i t x) : Row n k S0 C0 P0 i (t + 1) (nextS S i t) (nextC C t x) (nextP P i x) (own ++ [x]) := by
  obtain ⟨x0, can'⟩ := r.can.step hi ht hx
  have hSl := r.can.tb.rn
  have hCl := r.can.cp.len
  have hPl := r.can.pl
  have hSi := r.can.tb.len i hi
  have hol := r.ol
  have hrt := r.row t ht
  rw [if_neg (Nat.lt_irrefl _)] at hrt
  have hxs := hx.s
  refine ⟨can', by simp [hol], fun j hj => ?_, fun j hj => ?_, fun d hd hne => ?_, ?_, fun j hj => ?_⟩
  · rw [getD_snoc, hol]
    by_cases h : j < t
    · rw [if_pos h]; exact r.ge j h
    · obtain rfl : j = t := by omega
      rw [if_neg (by omega), if_pos rfl]
      omega
  · rw [getD_set (by omega), if_pos rfl, getD_set (by omega)]
    by_cases h : j = t
    · rw [if_pos h, if_pos (by omega)]
    · rw [if_neg h, r.row j hj]
      by_cases h2 : j < t
      · rw [if_pos h2, if_pos (by omega)]
      · rw [if_neg h2, if_neg (by omega)]
  · rw [getD_set (by omega), if_neg hne, getD_set (by omega), if_neg hne]
    exact r.oth d hd hne
  · rw [getD_set (by omega), if_pos rfl, r.pl, List.sum_append]
    simp
    omega
  · rw [getD_set (by omega), getD_snoc, hol]
    by_cases h : j = t
    · subst h
      have := r.cp j hj
      rw [if_neg (Nat.lt_irrefl _)] at this
      rw [if_pos rfl, if_pos (by omega), if_neg (Nat.lt_irrefl _), if_pos rfl, this]
    · rw [if_neg h, r.cp j hj]
      by_cases h2 : j < t
      · rw [if_pos h2, if_pos (by omega), if_pos h2]
      · rw [if_neg h2, if_neg (by omega)]
/-- the first i drawers -/
structure Rows' (n k : Nat) (S0 : List (List Int)) (C0 : List (Option Int)) (P0 : List Int) (i : Nat) (S : List (List Int)) (C : List (Option Int)) (P : List Int) (R : List (List Int)) : Prop where
  can : Can n k S C P
  rn : R.length = i
  len : ∀ d, d < i → (R.getD d []).length = k
  ge : ∀ d, d < i → ∀ j, j < k → 0 ≤ (R.getD d []).getD j 0 ∧ (R.getD d []).getD j 0 ≤ (S0.getD d []).getD j 0
  sum : ∀ d, d < i → (R.getD d []).sum = P0.getD d 0
  oth : ∀ d, d < n → i ≤ d → S.getD d [] = S0.getD d [] ∧ P.getD d 0 = P0.getD d 0
  cp : ∀ j, j < k → C.getD j none = (C0.getD j none).map (· - (col R j).sum)
theorem rows_step {n k i : Nat} {S0 S S' : List (List Int)} {C0 C C' : List (Option Int)} {P0 P P' own : List Int} {R : List (List Int)} (r : Rows' n k S0 C0 P0 i S C P R) (hi : i < n) (w : Row n k S C P i k S' C' P' own) : Rows' n k S0 C0 P0 (i + 1) S' C' P' (R ++ [own]) := by
  have hz := zero_row w.can hi fun j hj => by rw [w.row j hj, if_pos hj]
  have hrl := r.rn
  have ho := r.oth i hi (Nat.le_refl _)
  refine ⟨w.can, by simp [hrl], fun d hd => ?_, fun d hd j hj => ?_, fun d hd => ?_, fun d hd hle => ?_, fun j hj => ?_⟩
  · rw [getD_snoc, hrl]
    by_cases h : d < i
    · rw [if_pos h]; exact r.len d h
    · rw [if_neg h, if_pos (by omega)]; exact w.ol
  · rw [getD_snoc, hrl]
    by_cases h : d < i
    · rw [if_pos h]; exact r.ge d h j hj
    · obtain rfl : d = i := by omega
      rw [if_neg h, if_pos rfl]
      have := w.ge j hj
      rw [ho.1] at this
      exact this
  · rw [getD_snoc, hrl]
    by_cases h : d < i
    · rw [if_pos h]; exact r.sum d h
    · obtain rfl : d = i := by omega
      rw [if_neg h, if_pos rfl]
      have := w.pl
      rw [hz, ho.2] at this
      omega
  · have h1 := w.oth d hd (by omega)
    have h2 := r.oth d hd (by omega)
    exact ⟨h1.1.trans h2.1, h1.2.trans h2.2⟩
  · rw [w.cp j hj, if_pos hj, r.cp j hj]
    have : (col (R ++ [own]) j).sum = (col R j).sum + own.getD j 0 := by simp [col]
    rw [this]
    cases C0.getD j none with
    | none => rfl
    | some c => simp only [Option.map_some]; congr 1; omega
theorem drawin_eq {n k : Nat} {S : List (List Int)} {C : List (Option Int)} {P : List Int} (h1 : 1 ≤ n) (h4 : n ≤ 4) (k4 : k ≤ 4) (h : Can n k S C P) : ∃ R, m_draw_within (tT S) (tO C) (tI P) = some (tT R) ∧ Drawn n k S C P R := by
  have hSl := h.tb.rn
  unfold m_draw_within
  simp only [op2, op1, cmp2, chain3, tst, notB, andB, orB, andD, orD, iteM, consM, starM, smallM, tupM, tupSM, lstM, argV, argK, comp1, comp1i, comp2, comp2i, comp11, seqM, rng1, rng2, zipSM, zip2M, zip3M, enumM, repM, joinM, catM, par3LM, put2M, popM, parLV, putVM, unpS, trg1M, sortSetM, orV, lrg1M, par3M, rdM, rdLM, partM, slcM, isiM, rtM, forM1, forM2, forM3, parM, unp2, unp3, ob_pure, ob_some, ob_lift, Option.pure_def, add_int, sub_int, lt_int, le_int, gt_int, ge_int, eq_int, ne_int, min_int, max_int, neg_int, bool_bool, not_bool, is_none, isn_none, nn_int, nn_none, nn_tup, len_tup, len_lst, tup_lst, tup_tup, it_lst, it_tup, int_bool, int_int, oint_int, addI_int, subI_int, flat_tI, flat_int, flat_none, Option.bind_some, Option.map_some, Int.zero_add, thenB, thenM, List.nil_append, List.length_map, ob_assoc, enum_map]
  refine bind_ex (R := fun z => ∃ R, z = some (tT R) ∧ Drawn n k S C P R) (I := fun fl => ∃ a', fl = Fl.nx a' ∧ ∃ S' C' P' R, a' = (tk S' C' P', R.map tI) ∧ Rows' n k S C P n S' C' P' R) ?hl ?hr
  case hl =>
    refine Exists.imp (fun z hz => ⟨hz.1, ?hf⟩) (loop_exF (m := Option) (A := D × List D) (F := fun p : List Int × Nat => PyData.tuple [.int (p.2 : Nat), tI p.1]) (I := fun p a' => ∃ S' C' P' R, a' = (tk S' C' P', R.map tI) ∧ Rows' n k S C P p.length S' C' P' R) S.zipIdx ⟨S, C, P, [], rfl, ⟨h, rfl, by simp, by simp, by simp, fun d _ _ => ⟨rfl, rfl⟩, fun j hj => by cases C.getD j none <;> simp [col]⟩⟩ fun p x q a e hI => ?hs)
    case hf =>
      have := hz.2
      rw [List.length_zipIdx, hSl] at this
      exact this
    obtain ⟨S', C', P', R, rfl, r⟩ := hI
    have hpx : x.2 = p.length ∧ x.1 = S.getD p.length [] ∧ p.length < n := by
      have hlt : p.length < S.length := by have := congrArg List.length e; simp at this; omega
      have h6 : S.zipIdx[p.length]? = some x := by rw [e]; simp
      rw [List.getElem?_eq_getElem (by simpa using hlt)] at h6
      simp at h6
      rw [← h6]
      exact ⟨rfl, by simp [List.getD, hlt], by omega⟩
    obtain ⟨hx2, hx1, hpn⟩ := hpx
    have hlen : (S.getD p.length []).length = k := h.tb.len _ hpn
    have hR4 : R.length < 1000000 := by have := r.rn; omega
    simp only [pairM, hx1, hx2]
    have e4 : lenD (tI (S.getD p.length [])) = some (.int (k : Nat)) := by rw [len_tup, List.length_map, hlen]
    rw [e4, ob_some, range1_nat (k := (k : Int)) (by omega) (by omega), ob_some, Int.toNat_natCast]
    refine bind_ex (m := Option) (R := fun z => ∃ a', z = (Pure.pure (Fl.nx a') : Option (Fl (D × List D))) ∧ ∃ S' C' P' R, a' = (tk S' C' P', R.map tI) ∧ Rows' n k S C P (p ++ [x]).length S' C' P' R) (I := fun fl => ∃ a', fl = Fl.nx a' ∧ ∃ S2 C2 P2 own, a' = (tk S2 C2 P2, own.map PyData.int) ∧ Row n k S' C' P' p.length k S2 C2 P2 own) ?_ ?_
    · refine loop_exG (m := Option) (A := D × List D) (n := k) (I := fun t a' => ∃ S2 C2 P2 own, a' = (tk S2 C2 P2, own.map PyData.int) ∧ Row n k S' C' P' p.length t S2 C2 P2 own) ⟨S', C', P', [], rfl, ⟨r.can, rfl, by simp, fun j hj => by simp, fun d _ _ => ⟨rfl, rfl⟩, by simp, fun j hj => by simp⟩⟩ fun t a ht hI => ?_
      obtain ⟨S2, C2, P2, own, rfl, w⟩ := hI
      obtain ⟨x, ex, hx⟩ := most_eq h1 h4 k4 w.can hpn ht
      have ex' : M_most_taken [.val (tk S2 C2 P2), .val (.int (p.length : Nat)), .val (.int (t : Nat))] = some (.int x) := ex
      have ea : M_after_taking [.val (tk S2 C2 P2), .val (.int (p.length : Nat)), .val (.int (t : Nat)), .val (.int x)] = some (tk (nextS S2 p.length t) (nextC C2 t x) (nextP P2 p.length x)) := after_eq h4 k4 w.can hpn ht
      refine ⟨(tk (nextS S2 p.length t) (nextC C2 t x) (nextP P2 p.length x), (own ++ [x]).map PyData.int), ?_, _, _, _, own ++ [x], rfl, row_step w hpn ht hx⟩
      show (M_most_taken [.val (tk S2 C2 P2), .val (.int (p.length : Nat)), .val (.int (t : Nat))] >>= _) = _
      rw [ex', ob_some, ea, ob_some]
      show (fits (own.map PyData.int).length >>= _) = _
      rw [fits_ok (by rw [List.length_map, w.ol]; omega)]
      simp
    · rintro _ ⟨_, rfl, S2, C2, P2, own, rfl, w⟩
      refine ⟨(tk S2 C2 P2, (R ++ [own]).map tI), ?_, S2, C2, P2, R ++ [own], rfl, ?_⟩
      · show (fits (R.map tI).length >>= _) = _
        rw [fits_ok (by rw [List.length_map]; exact hR4)]
        simp
      · have := rows_step r hpn w
        simpa using this
  rintro _ ⟨_, rfl, S', C', P', R, rfl, r⟩
  refine ⟨R, rfl, r.rn, r.len, r.ge, r.sum, fun j c hj hc => ?_⟩
  have h6 := r.cp j hj
  rw [hc, Option.map_some] at h6
  have h5 := r.can.cp.at hj h6
  omega
theorem can_of {stock : List (List Int)} {caps : List (Option Int)} {plan : List Int} {k : Nat} {m : Int} (st : Stk m k stock) (hc : Cps k caps) (hp : plan.length = stock.length) (h0 : ∀ d, d < stock.length → 0 ≤ plan.getD d 0) (hno : ∀ ds ∈ setsL stock.length, excB stock caps plan ds = false) : Can stock.length k stock caps plan := by
  refine ⟨⟨rfl, fun d hd => row_len st.len hd, fun d hd j hj => (stk_ge st hd hj).1⟩, hc, hp, h0, fun D => ?_⟩
  rcases filter_mem st.one st.four D with z | z
  · have e : PD plan stock.length D = 0 := by show ((sel stock.length D).map _).sum = 0; rw [z]; rfl
    rw [e, z, room_nil hc]
    exact Int.le_refl _
  · have := hno _ z
    unfold excB at this
    have := of_decide_eq_false this
    show ((sel stock.length D).map fun d => plan.getD d 0).sum ≤ _
    omega
/-- what find_certificate hands back -/
def Cert (S rows : List (List Int)) (P : List Int) (k : Nat) (c : D) : Prop :=
  (sureB S rows P k = true ∧ ∃ T : List (List Nat), c = .tuple [.str "table", .tuple (T.map tN)] ∧ T.length = (spoil rows).length ∧ ∀ p ∈ (spoil rows).zip T, p.2 ∈ setsL S.length ∧ excB S (capsO (rows.zip p.1) k) P p.2 = true) ∨
  (sureB S rows P k = false ∧ ∃ R s, c = .tuple [.str "draw", tT R] ∧ s ∈ spoil rows ∧ Drawn S.length k S (capsO (rows.zip s) k) P R)
theorem findcert_eq {S rows : List (List Int)} {P : List Int} {k : Nat} {m m' : Int} (st : Stk m k S) (ro : Wishes k m' rows) (hp : P.length = S.length) (h0 : ∀ d, d < S.length → 0 ≤ P.getD d 0) : ∃ c, m_find_certificate (tT S) (tT rows) (tI P) = some c ∧ Cert S rows P k c := by
  have f1 := st.one
  have f4 := st.four
  have k4 := st.k4
  have e3 : M_spoilings_of [.val (tT rows)] = some (.tuple ((spoil rows).map tN)) := spoil_eq ro.four fun r hr => by rw [ro.len r hr]; exact k4
  have hspl := spoil_len ro k4
  unfold m_find_certificate
  simp only [op2, op1, cmp2, chain3, tst, notB, andB, orB, andD, orD, iteM, consM, starM, smallM, tupM, tupSM, lstM, argV, argK, comp1, comp1i, comp2, comp2i, comp11, seqM, rng1, rng2, zipSM, zip2M, zip3M, enumM, repM, joinM, catM, par3LM, put2M, popM, parLV, putVM, unpS, trg1M, sortSetM, orV, lrg1M, par3M, rdM, rdLM, partM, slcM, isiM, rtM, forM1, forM2, forM3, parM, unp2, unp3, ob_pure, ob_some, ob_lift, Option.pure_def, add_int, sub_int, lt_int, le_int, gt_int, ge_int, eq_int, ne_int, min_int, max_int, neg_int, bool_bool, not_bool, is_none, isn_none, nn_int, nn_none, nn_tup, len_tup, len_lst, tup_lst, tup_tup, it_lst, it_tup, int_bool, int_int, oint_int, addI_int, subI_int, flat_tI, flat_int, flat_none, Option.bind_some, Option.map_some, Int.zero_add, thenB, thenM, List.nil_append, List.length_map, ob_assoc, e3]
  refine bind_ex (m := Option) (R := fun z => ∃ c, z = some c ∧ Cert S rows P k c) (I := fun fl => (∃ T : List (List Nat), fl = Fl.nx (T.map tN) ∧ T.length = (spoil rows).length ∧ ∀ p ∈ (spoil rows).zip T, p.2 ∈ setsL S.length ∧ excB S (capsO (rows.zip p.1) k) P p.2 = true) ∨
      ∃ R s, fl = Fl.rt (.tuple [.str "draw", tT R]) ∧ s ∈ spoil rows ∧ Drawn S.length k S (capsO (rows.zip s) k) P R ∧ ∀ ds ∈ setsL S.length, excB S (capsO (rows.zip s) k) P ds = false) ?hl ?hr
  case hl =>
    have hloop := loop_exE (m := Option) (A := List D) (F := tN) (f := fun x169 a168 => M_caps_of [.val (tT rows), .val x169] >>= fun v170 => M_find_excess [.val (tT S), .val v170, .val (tI P)] >>= fun v171 => if isNone v171 = true then (M_draw_within [.val (tT S), .val v170, .val (tI P)] >>= fun a => some (Fl.rt (.tuple [.str "draw", a]))) else (fits a168.length >>= fun _ => some (Fl.nx (a168 ++ [v171]))))
      (I := fun p a => ∃ T : List (List Nat), a = T.map tN ∧ T.length = p.length ∧ ∀ q ∈ p.zip T, q.2 ∈ setsL S.length ∧ excB S (capsO (rows.zip q.1) k) P q.2 = true) (R := fun v => ∃ R s, v = .tuple [.str "draw", tT R] ∧ s ∈ spoil rows ∧ Drawn S.length k S (capsO (rows.zip s) k) P R ∧ ∀ ds ∈ setsL S.length, excB S (capsO (rows.zip s) k) P ds = false) (spoil rows) (a := []) ⟨[], rfl, rfl, by simp⟩ (by
      rintro p s q a e ⟨T, ea, hT, hq⟩
      subst ea
      have hs : s ∈ spoil rows := by rw [e]; simp
      have hpl : p.length ≤ 256 := by have := congrArg List.length e; simp at this; omega
      obtain ⟨hsl, hsk⟩ := spoil_lt ro hs
      have ec : M_caps_of [.val (tT rows), .val (tN s)] = some (tO (capsO (rows.zip s) k)) := caps_eqO ro.one ro.len (by omega) hsl hsk
      have hc := caps_cps ro hs
      have ef : M_find_excess [.val (tT S), .val (tO (capsO (rows.zip s) k)), .val (tI P)] = some (match (setsL S.length).find? fun ds => excB S (capsO (rows.zip s) k) P ds with | some ds => tN ds | none => .none) := findex_eq f1 f4 st.len hc hp
      rw [ec, ob_some, ef, ob_some]
      cases hf : (setsL S.length).find? fun ds => excB S (capsO (rows.zip s) k) P ds with
      | none =>
        have hno : ∀ ds ∈ setsL S.length, excB S (capsO (rows.zip s) k) P ds = false := fun ds hds => by
          have := List.find?_eq_none.mp hf ds hds
          simpa using this
        obtain ⟨R, er, hR⟩ := drawin_eq f1 f4 k4 (can_of st hc hp h0 hno)
        have er' : M_draw_within [.val (tT S), .val (tO (capsO (rows.zip s) k)), .val (tI P)] = some (tT R) := er
        refine .inr ⟨.tuple [.str "draw", tT R], ?_, R, s, rfl, hs, hR, hno⟩
        show (if isNone .none = true then _ else _) = _
        rw [if_pos (show isNone .none = true from rfl), er']
        rfl
      | some ds =>
        refine .inl ⟨(T ++ [ds]).map tN, ?_, T ++ [ds], rfl, by simp [hT], fun q hqm => ?_⟩
        · show (if isNone (tN ds) = true then _ else _) = _
          rw [if_neg (show ¬ isNone (tN ds) = true by simp [nn_tup]), fits_ok (by rw [List.length_map]; omega)]
          simp
        · rw [List.zip_append (by omega)] at hqm
          rcases List.mem_append.mp hqm with h | h
          · exact hq q h
          · simp only [List.zip_cons_cons, List.zip_nil_right, List.mem_singleton] at h
            subst h
            have h2 := List.find?_some hf
            exact ⟨List.mem_of_find?_eq_some hf, by simpa using h2⟩)
    rcases hloop with ⟨a', e, T, rfl, hT, hq⟩ | ⟨v, e, R, s, rfl, hs, hd, hn⟩
    · exact ⟨_, e, .inl ⟨T, rfl, hT, hq⟩⟩
    · exact ⟨_, e, .inr ⟨R, s, rfl, hs, hd, hn⟩⟩
  rintro fl (⟨T, rfl, hT, hq⟩ | ⟨R, s, rfl, hs, hd, hn⟩)
  · refine ⟨_, rfl, .inl ⟨?_, T, rfl, hT, hq⟩⟩
    unfold sureB
    rw [List.all_eq_true]
    intro s hs
    obtain ⟨i, hi, rfl⟩ := List.getElem_of_mem hs
    have := hq ((spoil rows)[i], T[i]'(by omega)) (List.mem_iff_getElem.mpr ⟨i, by simp; omega, by simp⟩)
    rw [List.any_eq_true]
    exact ⟨_, this.1, this.2⟩
  · refine ⟨_, rfl, .inr ⟨?_, R, s, rfl, hs, hd⟩⟩
    unfold sureB
    rw [List.all_eq_false]
    refine ⟨s, hs, ?_⟩
    rw [Bool.not_eq_true, List.any_eq_false]
    intro ds hds
    rw [hn ds hds]
    simp
theorem cert_word {S rows : List (List Int)} {P : List Int} {k : Nat} {c : D} (h : Cert S rows P k c) : DD.getD c (.int 0) = some (.str (if sureB S rows P k = true then "table" else "draw")) := by
  rcases h with ⟨hb, T, rfl, _⟩ | ⟨hb, R, s, rfl, _⟩
  · rw [hb]; rfl
  · rw [hb]; rfl
theorem issure_eq {S rows : List (List Int)} {P : List Int} {k : Nat} {m m' : Int} (st : Stk m k S) (ro : Wishes k m' rows) (hp : P.length = S.length) (h0 : ∀ d, d < S.length → 0 ≤ P.getD d 0) : m_is_sure (tT S) (tT rows) (tI P) = some (.bool (sureB S rows P k)) := by
  obtain ⟨c, ec, hc⟩ := findcert_eq st ro hp h0
  have ec' : M_find_certificate [.val (tT S), .val (tT rows), .val (tI P)] = some c := ec
  unfold m_is_sure
  simp only [op2, op1, cmp2, chain3, tst, notB, andB, orB, andD, orD, iteM, consM, starM, smallM, tupM, tupSM, lstM, argV, argK, comp1, comp1i, comp2, comp2i, comp11, seqM, rng1, rng2, zipSM, zip2M, zip3M, enumM, repM, joinM, catM, par3LM, put2M, popM, parLV, putVM, unpS, trg1M, sortSetM, orV, lrg1M, par3M, rdM, rdLM, partM, slcM, isiM, rtM, forM1, forM2, forM3, parM, unp2, unp3, ob_pure, ob_some, ob_lift, Option.pure_def, add_int, sub_int, lt_int, le_int, gt_int, ge_int, eq_int, ne_int, min_int, max_int, neg_int, bool_bool, not_bool, is_none, isn_none, nn_int, nn_none, nn_tup, len_tup, len_lst, tup_lst, tup_tup, it_lst, it_tup, int_bool, int_int, oint_int, addI_int, subI_int, flat_tI, flat_int, flat_none, Option.bind_some, Option.map_some, Int.zero_add, thenB, thenM, List.nil_append, List.length_map, ob_assoc, ec', cert_word hc]
  rw [eq_str]
  congr 2
  cases sureB S rows P k <;> decide
/-! the law's own draws -/
def rwStep (many : Int) (acc : List (List Int)) (most : Int) : List (List Int) := acc.flatMap fun b => (upTo (min most (many - b.sum))).map fun x => b ++ [x]
def rowsF (many : Int) (acc : List (List Int)) (row : List Int) : List (List Int) := row.foldl (rwStep many) acc
theorem rowsF_snoc (many : Int) (acc : List (List Int)) (row : List Int) (x : Int) : rowsF many acc (row ++ [x]) = rwStep many (rowsF many acc row) x := by
  unfold rowsF
  rw [List.foldl_append]
  rfl
theorem rowsF_fw {many : Int} : ∀ (row : List Int) (acc : List (List Int)) (s : List Int), s ∈ rowsF many acc row → ∃ b ∈ acc, ∃ t : List Int, s = b ++ t ∧ t.length = row.length ∧ ∀ p ∈ row.zip t, 0 ≤ p.2 ∧ p.2 ≤ p.1
  | [], acc, s, h => ⟨s, h, [], by simp, rfl, by simp⟩
  | r :: row, acc, s, h => by
    obtain ⟨b, hb, t, rfl, ht, hp⟩ := rowsF_fw row (rwStep many acc r) s h
    obtain ⟨b', hb', hbb⟩ := List.mem_flatMap.mp hb
    obtain ⟨x, hx, rfl⟩ := List.mem_map.mp hbb
    have hx' := mem_upTo.mp hx
    refine ⟨b', hb', x :: t, by simp, by simp [ht], fun p hpm => ?_⟩
    rw [List.zip_cons_cons, List.mem_cons] at hpm
    rcases hpm with rfl | hpm
    · simp only; omega
    · exact hp p hpm
theorem rowsF_bw {many : Int} : ∀ (row : List Int) (acc : List (List Int)) (b t : List Int), b ∈ acc → t.length = row.length → (∀ p ∈ row.zip t, 0 ≤ p.2 ∧ p.2 ≤ p.1) → b.sum + t.sum ≤ many → b ++ t ∈ rowsF many acc row
  | [], acc, b, t, hb, ht, _, _ => by
    obtain rfl : t = [] := List.eq_nil_of_length_eq_zero (by simpa using ht)
    rw [List.append_nil]
    exact hb
  | r :: row, acc, b, t, hb, ht, hp, hs => by
    cases t with
    | nil => simp at ht
    | cons x t =>
      have hx := hp (r, x) (by simp)
      have hpt : ∀ p ∈ row.zip t, 0 ≤ p.2 ∧ p.2 ≤ p.1 := fun p hpm => hp p (by rw [List.zip_cons_cons]; exact List.mem_cons_of_mem _ hpm)
      have ht0 : 0 ≤ t.sum := by
        have hl : t.length = row.length := by simpa using ht
        have : ∀ x ∈ t, 0 ≤ x := fun y hy => by
          obtain ⟨i, hi, rfl⟩ := List.getElem_of_mem hy
          exact (hpt (row[i]'(by omega), t[i]) (List.mem_iff_getElem.mpr ⟨i, by simp; omega, by simp⟩)).1
        clear hs ht hp hpt hl
        induction t with
        | nil => simp
        | cons y t ih =>
          rw [List.sum_cons]
          have h1 := this y List.mem_cons_self
          have h2 := ih fun z hz => this z (List.mem_cons_of_mem _ hz)
          omega
      rw [List.sum_cons] at hs
      have := rowsF_bw (many := many) row (rwStep many acc r) (b ++ [x]) t (List.mem_flatMap.mpr ⟨b, hb, List.mem_map.mpr ⟨x, mem_upTo.mpr ⟨hx.1, by simp only at hx; omega⟩, rfl⟩⟩) (by simpa using ht) hpt (by rw [List.sum_append]; simp; omega)
      rw [List.append_assoc] at this
      exact this
def rowsL (row : List Int) (many : Int) : List (List Int) := (rowsF many [[]] row).filter fun s => s.sum == many
theorem mem_rowsL {row : List Int} {many : Int} {s : List Int} : s ∈ rowsL row many ↔ s.length = row.length ∧ (∀ p ∈ row.zip s, 0 ≤ p.2 ∧ p.2 ≤ p.1) ∧ s.sum = many := by
  unfold rowsL
  rw [List.mem_filter]
  constructor
  · rintro ⟨h, hs⟩
    obtain ⟨b, hb, t, rfl, ht, hp⟩ := rowsF_fw row [[]] s h
    rw [List.mem_singleton.mp hb, List.nil_append] at *
    exact ⟨ht, hp, by simpa using hs⟩
  · rintro ⟨hl, hp, hs⟩
    have := rowsF_bw (many := many) row [[]] [] s (by simp) hl hp (by simp; omega)
    exact ⟨this, by simpa using hs⟩
theorem rwStep_len {many most : Int} {acc : List (List Int)} (h : most ≤ 2) : (rwStep many acc most).length ≤ acc.length * 3 := by
  unfold rwStep
  induction acc with
  | nil => simp
  | cons b acc ih =>
    rw [List.flatMap_cons, List.length_append, List.length_map, List.length_cons, Nat.succ_mul]
    have : (upTo (min most (many - b.sum))).length ≤ 3 := by simp; omega
    omega
theorem rowsF_len {many : Int} : ∀ (row : List Int) (acc : List (List Int)), (∀ x ∈ row, x ≤ 2) → (rowsF many acc row).length ≤ acc.length * 3 ^ row.length
  | [], acc, _ => by simp [rowsF]
  | r :: row, acc, h => by
    have h1 := rowsF_len (many := many) row (rwStep many acc r) fun x hx => h x (List.mem_cons_of_mem _ hx)
    have h2 := rwStep_len (many := many) (acc := acc) (h r List.mem_cons_self)
    show (rowsF many (rwStep many acc r) row).length ≤ _
    rw [List.length_cons, Nat.pow_succ, Nat.mul_comm (3 ^ row.length) 3, ← Nat.mul_assoc]
    exact Nat.le_trans h1 (Nat.mul_le_mul_right (3 ^ row.length) h2)
def drawsL (stock : List (List Int)) (plan : List Int) : List (List (List Int)) := prodF [[]] ((stock.zip plan).map fun p => rowsL p.1 p.2)
/-- the unlucky draws tell whether a plan is sure -/
theorem mem_drawsL {stock : List (List Int)} {plan : List Int} {k : Nat} {d : List (List Int)} (hl : ∀ r ∈ stock, r.length = k) (hp : plan.length = stock.length) : d ∈ drawsL stock plan ↔ d.length = stock.length ∧ ∀ i, i < stock.length → (d.getD i []).length = k ∧ (∀ j, j < k → 0 ≤ (d.getD i []).getD j 0 ∧ (d.getD i []).getD j 0 ≤ (stock.getD i []).getD j 0) ∧ (d.getD i []).sum = plan.getD i 0 := by
  unfold drawsL
  rw [mem_prodF]
  have hone : ∀ (r s : List Int), r.length = k → ((∀ p ∈ r.zip s, 0 ≤ p.2 ∧ p.2 ≤ p.1) ∧ s.length = k ↔ s.length = k ∧ ∀ j, j < k → 0 ≤ s.getD j 0 ∧ s.getD j 0 ≤ r.getD j 0) := fun r s hr => by
    constructor
    · rintro ⟨h1, h2⟩
      refine ⟨h2, fun j hj => ?_⟩
      have := h1 (r[j]'(by omega), s[j]'(by omega)) (List.mem_iff_getElem.mpr ⟨j, by simp; omega, by simp⟩)
      simpa [List.getD, show j < s.length by omega, show j < r.length by omega] using this
    · rintro ⟨h1, h2⟩
      refine ⟨fun p hpm => ?_, h1⟩
      obtain ⟨j, hj, rfl⟩ := List.mem_iff_getElem.mp hpm
      have hj1 : j < r.length := by simp at hj; omega
      have := h2 j (by omega)
      simpa [List.getD, hj1, show j < s.length by omega] using this
  constructor
  · rintro ⟨b, hb, t, rfl, ht, hq⟩
    rw [List.mem_singleton.mp hb, List.nil_append]
    rw [List.length_map, List.length_zip, hp, Nat.min_self] at ht
    refine ⟨ht, fun i hi => ?_⟩
    have h1 := hq (((stock.zip plan).map fun p => rowsL p.1 p.2)[i]'(by simp; omega), t[i]'(by omega)) (List.mem_iff_getElem.mpr ⟨i, by simp; omega, by simp⟩)
    simp only [List.getElem_map, List.getElem_zip] at h1
    obtain ⟨a1, a2, a3⟩ := mem_rowsL.mp h1
    have hrl := hl _ (List.getElem_mem hi)
    have := (hone stock[i] t[i] hrl).mp ⟨a2, by omega⟩
    have e1 : t.getD i [] = t[i]'(by omega) := by simp [List.getD, show i < t.length by omega]
    have e2 : stock.getD i [] = stock[i] := by simp [List.getD, hi]
    have e3 : plan.getD i 0 = plan[i]'(by omega) := by simp [List.getD, show i < plan.length by omega]
    rw [e1, e2, e3]
    exact ⟨this.1, this.2, a3⟩
  · rintro ⟨hdl, hd⟩
    refine ⟨[], by simp, d, rfl, by simp; omega, fun q hq => ?_⟩
    obtain ⟨i, hi, rfl⟩ := List.mem_iff_getElem.mp hq
    have hi' : i < stock.length := by simp at hi; omega
    obtain ⟨a1, a2, a3⟩ := hd i hi'
    have e1 : d.getD i [] = d[i]'(by omega) := by simp [List.getD, show i < d.length by omega]
    have e2 : stock.getD i [] = stock[i] := by simp [List.getD, hi']
    have e3 : plan.getD i 0 = plan[i]'(by omega) := by simp [List.getD, show i < plan.length by omega]
    rw [e1] at a1 a2 a3
    rw [e2] at a2
    rw [e3] at a3
    have hrl := hl _ (List.getElem_mem hi')
    rw [List.getElem_zip, List.getElem_map, List.getElem_zip]
    exact mem_rowsL.mpr ⟨by simp only; omega, ((hone _ _ hrl).mpr ⟨a1, a2⟩).1, a3⟩
theorem sum_le_many {n k : Nat} {S R : List (List Int)} {ds : List Nat} (hd : ∀ d ∈ ds, d < n) (hr : ∀ d, d < n → ∀ j, j < k → 0 ≤ (R.getD d []).getD j 0 ∧ (R.getD d []).getD j 0 ≤ (S.getD d []).getD j 0) {j : Nat} (hj : j < k) : 0 ≤ many R ds j ∧ many R ds j ≤ many S ds j := by
  unfold many
  constructor
  · have := sum_le_sum (f := fun _ => (0 : Int)) (g := fun d => (R.getD d []).getD j 0) ds fun d hdm => (hr d (hd d hdm) j hj).1
    rw [zero_sum] at this
    exact this
  · exact sum_le_sum ds fun d hdm => (hr d (hd d hdm) j hj).2
theorem swap_sum {n k : Nat} {R : List (List Int)} : ∀ ds : List Nat, (∀ d ∈ ds, d < n) → (∀ d, d < n → (R.getD d []).length = k) → (ds.map fun d => (R.getD d []).sum).sum = ((List.range k).map fun j => many R ds j).sum
  | [], _, _ => by
    show (0 : Int) = _
    rw [← zero_sum (List.range k)]
    rfl
  | d :: ds, hd, hl => by
    have ih := swap_sum ds (fun x hx => hd x (List.mem_cons_of_mem _ hx)) hl
    rw [List.map_cons, List.sum_cons, ih, ← getD_sum (hl d (hd d List.mem_cons_self))]
    have e : ∀ j, many R (d :: ds) j = (R.getD d []).getD j 0 + many R ds j := fun j => by simp [many]
    simp only [e]
    generalize List.range k = l
    induction l with
    | nil => rfl
    | cons j l ih2 =>
      simp only [List.map_cons, List.sum_cons] at ih2 ⊢
      omega
/-- a draw within the caps leaves no excess -/
theorem drawn_safe {k : Nat} {S R : List (List Int)} {C : List (Option Int)} {P : List Int} {m : Int} (st : Stk m k S) (hc : C.length = k) (hp : P.length = S.length) (hrl : ∀ d, d < S.length → (R.getD d []).length = k) (hr : ∀ d, d < S.length → ∀ j, j < k → 0 ≤ (R.getD d []).getD j 0 ∧ (R.getD d []).getD j 0 ≤ (S.getD d []).getD j 0) (hs : ∀ d, d < S.length → (R.getD d []).sum = P.getD d 0) (hcap : ∀ j c, j < k → C.getD j none = some c → many R (List.range S.length) j ≤ c) {ds : List Nat} (hds : ds ∈ setsL S.length) : excB S C P ds = false := by
  obtain ⟨_, hnd, hlt⟩ := sets_lt st.one st.four ds hds
  unfold excB
  rw [decide_eq_false_iff_not]
  have e1 : (ds.map fun d => P.getD d 0) = ds.map fun d => (R.getD d []).sum := List.map_congr_left fun d hd => (hs d (hlt d hd)).symm
  rw [e1, swap_sum ds hlt hrl, room_sum hc]
  have := sum_le_sum (f := fun j => many R ds j) (g := fun j => capped (many S ds j) (C.getD j none)) (List.range k) fun j hj => by
    have hj' := List.mem_range.mp hj
    have h1 := (sum_le_many hlt hr hj').2
    cases ho : C.getD j none with
    | none => exact h1
    | some c =>
      have h2 := hcap j c hj' ho
      have h3 : many R ds j ≤ many R (List.range S.length) j := by
        rw [sets_filter st.one st.four ds hds]
        exact (many_filter (List.range S.length) fun d hd => (hr d (List.mem_range.mp hd) j hj').1).2
      simp only [capped]
      omega
  omega
theorem draws_sure {stock rows : List (List Int)} {plan : List Int} {k : Nat} {m m' : Int} (st : Stk m k stock) (ro : Wishes k m' rows) (hp : plan.length = stock.length) (h0 : ∀ d, d < stock.length → 0 ≤ plan.getD d 0) : ((drawsL stock plan).filter fun d => !(fulf rows (cols d k)).isSome).isEmpty = sureB stock rows plan k := by
  rw [Bool.eq_iff_iff, List.isEmpty_iff, List.filter_eq_nil_iff]
  constructor
  · intro h
    cases hb : sureB stock rows plan k with
    | true => rfl
    | false =>
      unfold sureB at hb
      rw [List.all_eq_false] at hb
      obtain ⟨s, hs, hne⟩ := hb
      rw [Bool.not_eq_true, List.any_eq_false] at hne
      have hc := caps_cps ro hs
      obtain ⟨R, _, hR⟩ := drawin_eq st.one st.four st.k4 (can_of st hc hp h0 fun ds hds => by have := hne ds hds; simpa using this)
      have hRm : R ∈ drawsL stock plan := (mem_drawsL st.len hp).mpr ⟨hR.rn, fun i hi => ⟨hR.len i hi, hR.ge i hi, hR.sum i hi⟩⟩
      have := h R hRm
      exfalso
      apply this
      have hcolg : ∀ x ∈ cols R k, 0 ≤ x := fun x hx => by
        obtain ⟨j, hj, rfl⟩ := List.mem_map.mp hx
        have e := many_all (stock := R) (k := k) (List.mem_range.mp hj)
        have h2 := (sum_le_many (n := stock.length) (S := stock) (R := R) (ds := List.range R.length) (k := k) (fun d hd => by have := List.mem_range.mp hd; have := hR.rn; omega) hR.ge (List.mem_range.mp hj)).1
        rw [← e] at h2
        simpa [cols, List.getD, List.mem_range.mp hj] using h2
      have hn : fulf rows (cols R k) = none := (spoiled ro.len (by simp [cols]) hcolg).mpr ⟨s, hs, (kept_iff (capsO_len _ _) (by simp [cols])).mpr fun j v hj hv => by
        have := hR.cap j v hj hv
        simpa [cols, List.getD, hj] using this⟩
      rw [hn]
      rfl
  · intro hb d hd
    obtain ⟨hdl, hdi⟩ := (mem_drawsL st.len hp).mp hd
    have hge : ∀ i, i < stock.length → ∀ j, j < k → 0 ≤ (d.getD i []).getD j 0 ∧ (d.getD i []).getD j 0 ≤ (stock.getD i []).getD j 0 := fun i hi => (hdi i hi).2.1
    cases hf : fulf rows (cols d k) with
    | some n => simp
    | none =>
      exfalso
      have hcolg : ∀ x ∈ cols d k, 0 ≤ x := fun x hx => by
        obtain ⟨j, hj, rfl⟩ := List.mem_map.mp hx
        have e := many_all (stock := d) (k := k) (List.mem_range.mp hj)
        have h2 := (sum_le_many (n := stock.length) (S := stock) (R := d) (ds := List.range d.length) (k := k) (fun i hi => by have := List.mem_range.mp hi; omega) hge (List.mem_range.mp hj)).1
        rw [← e] at h2
        simpa [cols, List.getD, List.mem_range.mp hj] using h2
      obtain ⟨s, hs, hk⟩ := (spoiled ro.len (by simp [cols]) hcolg).mp hf
      have hkk := (kept_iff (capsO_len _ _) (by simp [cols])).mp hk
      unfold sureB at hb
      have hbs := List.all_eq_true.mp hb s hs
      rw [List.any_eq_true] at hbs
      obtain ⟨ds, hds, hex⟩ := hbs
      rw [drawn_safe st (capsO_len _ _) hp (fun i hi => (hdi i hi).1) hge (fun i hi => (hdi i hi).2.2) (fun j c hj hc => by
        have := hkk j c hj hc
        rw [many_all hj, hdl] at this
        exact this) hds] at hex
      cases hex
theorem perm_sum {a b : List Int} (h : a.Perm b) : a.sum = b.sum := by
  induction h with
  | nil => rfl
  | cons x _ ih => rw [List.sum_cons, List.sum_cons, ih]
  | swap x y l => simp only [List.sum_cons]; omega
  | trans _ _ h1 h2 => rw [h1, h2]
theorem many_perm {S : List (List Int)} {a b : List Nat} (h : a.Perm b) (j : Nat) : many S a j = many S b j := perm_sum (h.map _)
theorem room_perm {S : List (List Int)} {caps : List (Option Int)} {a b : List Nat} (h : a.Perm b) : room S caps a = room S caps b := by
  unfold room
  refine congrArg List.sum (List.map_congr_left fun q _ => ?_)
  rw [many_perm h]
theorem set_get {P : List Int} {d e : Nat} {v : Int} (hd : d < P.length) : (P.set d v).getD e 0 = if e = d then v else P.getD e 0 := by
  rw [List.getD_eq_getElem?_getD, List.getElem?_set]
  by_cases h : d = e
  · subst h; simp [hd]
  · rw [if_neg h, if_neg (Ne.symm h), List.getD_eq_getElem?_getD]
theorem set_sum_out {P : List Int} {d : Nat} {v : Int} (hd : d < P.length) (p : List Nat) (h : d ∉ p) : (p.map fun e => (P.set d v).getD e 0).sum = (p.map fun e => P.getD e 0).sum := by
  refine congrArg List.sum (List.map_congr_left fun e he => ?_)
  rw [set_get hd, if_neg (fun z : e = d => h (z ▸ he))]
theorem sum_snoc (f : Nat → Int) (p : List Nat) (d : Nat) : ((p ++ [d]).map f).sum = (p.map f).sum + f d := by simp
theorem perm_all {P : List Int} {l : List Nat} {n : Nat} (hl : l.Perm (List.range n)) (hp : P.length = n) : (l.map fun d => P.getD d 0).sum = P.sum := by
  rw [perm_sum (hl.map _)]; exact getD_sum hp
theorem set_sum : ∀ {P : List Int} {d : Nat} {v : Int}, d < P.length → (P.set d v).sum = P.sum - P.getD d 0 + v
  | [], d, v, h => by simp at h
  | x :: P, 0, v, h => by simp [List.sum_cons]; omega
  | x :: P, d + 1, v, h => by
    have := set_sum (P := P) (d := d) (v := v) (by simpa using h)
    simp only [List.set_cons_succ, List.sum_cons, List.getD_cons_succ]
    omega
theorem perm_in {p q l : List Nat} {d n : Nat} (hl : l.Perm (List.range n)) (e : l = p ++ d :: q) : d < n ∧ d ∉ p ∧ ∀ x ∈ p, x < n := by
  subst e
  have hn : (p ++ d :: q).Nodup := hl.nodup_iff.mpr List.nodup_range
  refine ⟨List.mem_range.mp (hl.mem_iff.mp (by simp)), fun h => ?_, fun x hx => List.mem_range.mp (hl.mem_iff.mp (by simp [hx]))⟩
  exact (List.nodup_append.mp hn).2.2 d h d (by simp) rfl
theorem map_erase {α β : Type} (f : α → β) : ∀ (l : List α) (i : Nat), (l.map f).eraseIdx i = (l.eraseIdx i).map f
  | [], _ => rfl
  | _ :: _, 0 => rfl
  | x :: l, i + 1 => by show f x :: (l.map f).eraseIdx i = f x :: (l.eraseIdx i).map f; rw [map_erase f l i]
theorem erase_perm {α : Type} : ∀ {l : List α} {i : Nat} (h : i < l.length), (l[i] :: l.eraseIdx i).Perm l
  | [], _, h => by simp at h
  | x :: l, 0, _ => .refl _
  | x :: l, i + 1, h => by
    show (l[i]'(by simpa using h) :: x :: l.eraseIdx i).Perm (x :: l)
    exact (List.Perm.swap x _ _).trans ((erase_perm (by simpa using h)).cons x)
abbrev lN (l : List Nat) : D := .list (l.map fun i : Nat => PyData.int (i : Nat))
/-- a number from lo to hi -/
def numB (lo hi : Int) : D → Bool
  | .int i => decide (lo ≤ i) && decide (i ≤ hi)
  | _ => false
theorem isnum_eq (d : D) (lo hi : Int) : m_is_number d (.int lo) (.int hi) = some (.bool (numB lo hi d)) := by
  unfold m_is_number
  cases d with
  | int i =>
    simp only [op2, op1, cmp2, chain3, tst, notB, andB, orB, andD, orD, iteM, consM, starM, smallM, tupM, tupSM, lstM, argV, argK, comp1, comp1i, comp2, comp2i, comp11, seqM, rng1, rng2, zipSM, zip2M, zip3M, enumM, repM, joinM, catM, par3LM, put2M, popM, parLV, putVM, unpS, trg1M, sortSetM, orV, lrg1M, par3M, rdM, rdLM, partM, slcM, isiM, rtM, forM1, forM2, forM3, parM, unp2, unp3, ob_pure, ob_some, ob_lift, Option.pure_def, add_int, sub_int, lt_int, le_int, gt_int, ge_int, eq_int, ne_int, min_int, max_int, neg_int, bool_bool, not_bool, is_none, isn_none, nn_int, nn_none, nn_tup, len_tup, len_lst, tup_lst, tup_tup, it_lst, it_tup, int_bool, int_int, oint_int, addI_int, subI_int, flat_tI, flat_int, flat_none, Option.bind_some, Option.map_some, Int.zero_add, thenB, thenM, List.nil_append, List.length_map, ob_assoc, numB, isiB, typeN]
    by_cases h : lo ≤ i <;> simp [h]
  | _ => simp [op2, op1, cmp2, chain3, tst, notB, andB, orB, andD, orD, iteM, consM, starM, smallM, tupM, tupSM, lstM, argV, argK, comp1, comp1i, comp2, comp2i, comp11, seqM, rng1, rng2, zipSM, zip2M, zip3M, enumM, repM, joinM, catM, par3LM, put2M, popM, parLV, putVM, unpS, trg1M, sortSetM, orV, lrg1M, par3M, rdM, rdLM, partM, slcM, isiM, rtM, forM1, forM2, forM3, parM, unp2, unp3, ob_pure, ob_some, ob_lift, Option.pure_def, add_int, sub_int, lt_int, le_int, gt_int, ge_int, eq_int, ne_int, min_int, max_int, neg_int, bool_bool, not_bool, is_none, isn_none, nn_int, nn_none, nn_tup, len_tup, len_lst, tup_lst, tup_tup, it_lst, it_tup, int_bool, int_int, oint_int, addI_int, subI_int, flat_tI, flat_int, flat_none, Option.bind_some, Option.map_some, Int.zero_add, thenB, thenM, List.nil_append, List.length_map, ob_assoc, numB, isiB, typeN]
def numsB (n : Nat) (hi : Int) : D → Bool
  | .tuple xs => decide (xs.length = n) && xs.all (numB 0 hi)
  | _ => false
theorem all_raw {p : D → Bool} (xs : List D) : allD (.list (xs.map fun x => .bool (p x))) = some (.bool (xs.all p)) := all_map xs
theorem arenums_eq (d : D) {n : Nat} {hi : Int} (hn : n ≤ 1000000) : m_are_numbers d (.int (n : Nat)) (.int hi) = some (.bool (numsB n hi d)) := by
  unfold m_are_numbers
  cases d with
  | tuple xs =>
    simp only [op2, op1, cmp2, chain3, tst, notB, andB, orB, andD, orD, iteM, consM, starM, smallM, tupM, tupSM, lstM, argV, argK, comp1, comp1i, comp2, comp2i, comp11, seqM, rng1, rng2, zipSM, zip2M, zip3M, enumM, repM, joinM, catM, par3LM, put2M, popM, parLV, putVM, unpS, trg1M, sortSetM, orV, lrg1M, par3M, rdM, rdLM, partM, slcM, isiM, rtM, forM1, forM2, forM3, parM, unp2, unp3, ob_pure, ob_some, ob_lift, Option.pure_def, add_int, sub_int, lt_int, le_int, gt_int, ge_int, eq_int, ne_int, min_int, max_int, neg_int, bool_bool, not_bool, is_none, isn_none, nn_int, nn_none, nn_tup, len_tup, len_lst, tup_lst, tup_tup, it_lst, it_tup, int_bool, int_int, oint_int, addI_int, subI_int, flat_tI, flat_int, flat_none, Option.bind_some, Option.map_some, Int.zero_add, thenB, thenM, List.nil_append, List.length_map, ob_assoc, numsB, isiB, typeN]
    by_cases h : xs.length = n
    · rw [small_ok (by omega)]
      have e : (((xs.length : Nat) : Int) == (n : Int)) = true := by simp [h]
      have e1 : ∀ d ∈ xs, M_is_number [.val d, .val (.int 0), .val (.int hi)] = some (.bool (numB 0 hi d)) := fun d _ => isnum_eq d 0 hi
      simp only [e, h, beq_self_eq_true, Bool.true_or, Bool.not_true, Bool.false_eq_true, if_false, op2, op1, cmp2, chain3, tst, notB, andB, orB, andD, orD, iteM, consM, starM, smallM, tupM, tupSM, lstM, argV, argK, comp1, comp1i, comp2, comp2i, comp11, seqM, rng1, rng2, zipSM, zip2M, zip3M, enumM, repM, joinM, catM, par3LM, put2M, popM, parLV, putVM, unpS, trg1M, sortSetM, orV, lrg1M, par3M, rdM, rdLM, partM, slcM, isiM, rtM, forM1, forM2, forM3, parM, unp2, unp3, ob_pure, ob_some, ob_lift, Option.pure_def, add_int, sub_int, lt_int, le_int, gt_int, ge_int, eq_int, ne_int, min_int, max_int, neg_int, bool_bool, not_bool, is_none, isn_none, nn_int, nn_none, nn_tup, len_tup, len_lst, tup_lst, tup_tup, it_lst, it_tup, int_bool, int_int, oint_int, addI_int, subI_int, flat_tI, flat_int, flat_none, Option.bind_some, Option.map_some, Int.zero_add, thenB, thenM, List.nil_append, List.length_map, decide_true, Bool.true_and]
      rw [lcA_map xs [] e1]
      simp only [List.nil_append, op2, op1, cmp2, chain3, tst, notB, andB, orB, andD, orD, iteM, consM, starM, smallM, tupM, tupSM, lstM, argV, argK, comp1, comp1i, comp2, comp2i, comp11, seqM, rng1, rng2, zipSM, zip2M, zip3M, enumM, repM, joinM, catM, par3LM, put2M, popM, parLV, putVM, unpS, trg1M, sortSetM, orV, lrg1M, par3M, rdM, rdLM, partM, slcM, isiM, rtM, forM1, forM2, forM3, parM, unp2, unp3, ob_pure, ob_some, ob_lift, Option.pure_def, add_int, sub_int, lt_int, le_int, gt_int, ge_int, eq_int, ne_int, min_int, max_int, neg_int, bool_bool, not_bool, is_none, isn_none, nn_int, nn_none, nn_tup, len_tup, len_lst, tup_lst, tup_tup, it_lst, it_tup, int_bool, int_int, oint_int, addI_int, subI_int, flat_tI, flat_int, flat_none, Option.bind_some, Option.map_some, Int.zero_add, thenB, thenM, List.nil_append, List.length_map]
      exact all_raw xs
    · have e : (((xs.length : Nat) : Int) == (n : Int)) = false := by simp; omega
      simp [e, h]
  | _ => simp [op2, op1, cmp2, chain3, tst, notB, andB, orB, andD, orD, iteM, consM, starM, smallM, tupM, tupSM, lstM, argV, argK, comp1, comp1i, comp2, comp2i, comp11, seqM, rng1, rng2, zipSM, zip2M, zip3M, enumM, repM, joinM, catM, par3LM, put2M, popM, parLV, putVM, unpS, trg1M, sortSetM, orV, lrg1M, par3M, rdM, rdLM, partM, slcM, isiM, rtM, forM1, forM2, forM3, parM, unp2, unp3, ob_pure, ob_some, ob_lift, Option.pure_def, add_int, sub_int, lt_int, le_int, gt_int, ge_int, eq_int, ne_int, min_int, max_int, neg_int, bool_bool, not_bool, is_none, isn_none, nn_int, nn_none, nn_tup, len_tup, len_lst, tup_lst, tup_tup, it_lst, it_tup, int_bool, int_int, oint_int, addI_int, subI_int, flat_tI, flat_int, flat_none, Option.bind_some, Option.map_some, Int.zero_add, thenB, thenM, List.nil_append, List.length_map, ob_assoc, numsB, isiB, typeN]
/-- the length of a tuple -/
def tlen : D → Nat
  | .tuple xs => xs.length
  | _ => 0
def goodRow (l : Nat) (d : D) : Bool := decide (1 ≤ l ∧ l ≤ 4) && numsB l 50 d
def errL (l : Nat) (xs : List D) : Option Nat := firstN (fun d => !goodRow l d) xs
/-- the first reason why a value is not a stock -/
def errD : D → D
  | .tuple xs => if 1 ≤ xs.length ∧ xs.length ≤ 4 then (match errL (tlen (xs.headD .none)) xs with | some i => .tuple [.int (i : Nat), .str "drawer"] | none => .none) else .tuple [.none, .str "stock"]
  | _ => .tuple [.none, .str "stock"]
theorem serr_eq (d : D) : m_stock_error d = some (errD d) := by
  unfold m_stock_error
  cases d with
  | tuple xs =>
    simp only [op2, op1, cmp2, chain3, tst, notB, andB, orB, andD, orD, iteM, consM, starM, smallM, tupM, tupSM, lstM, argV, argK, comp1, comp1i, comp2, comp2i, comp11, seqM, rng1, rng2, zipSM, zip2M, zip3M, enumM, repM, joinM, catM, par3LM, put2M, popM, parLV, putVM, unpS, trg1M, sortSetM, orV, lrg1M, par3M, rdM, rdLM, partM, slcM, isiM, rtM, forM1, forM2, forM3, parM, unp2, unp3, ob_pure, ob_some, ob_lift, Option.pure_def, add_int, sub_int, lt_int, le_int, gt_int, ge_int, eq_int, ne_int, min_int, max_int, neg_int, bool_bool, not_bool, is_none, isn_none, nn_int, nn_none, nn_tup, len_tup, len_lst, tup_lst, tup_tup, it_lst, it_tup, int_bool, int_int, oint_int, addI_int, subI_int, flat_tI, flat_int, flat_none, Option.bind_some, Option.map_some, Int.zero_add, thenB, thenM, List.nil_append, List.length_map, ob_assoc, errD, isiB, typeN]
    by_cases h1 : 1 ≤ xs.length
    · by_cases h4 : xs.length ≤ 4
      · have a1 : (1 : Int) ≤ (xs.length : Int) := by omega
        have a4 : (xs.length : Int) ≤ 4 := by omega
        cases xs with
        | nil => simp at h1
        | cons x0 rest =>
          have eg : DD.getD (.tuple (x0 :: rest)) (.int 0) = some x0 := atI_at (i := 0) (j := 0) rfl rfl
          simp only [a1, a4, h1, h4, and_self, if_true, decide_true, beq_self_eq_true, Bool.true_or, Bool.not_true, Bool.false_eq_true, if_false, List.headD_cons, eg, op2, op1, cmp2, chain3, tst, notB, andB, orB, andD, orD, iteM, consM, starM, smallM, tupM, tupSM, lstM, argV, argK, comp1, comp1i, comp2, comp2i, comp11, seqM, rng1, rng2, zipSM, zip2M, zip3M, enumM, repM, joinM, catM, par3LM, put2M, popM, parLV, putVM, unpS, trg1M, sortSetM, orV, lrg1M, par3M, rdM, rdLM, partM, slcM, isiM, rtM, forM1, forM2, forM3, parM, unp2, unp3, ob_pure, ob_some, ob_lift, Option.pure_def, add_int, sub_int, lt_int, le_int, gt_int, ge_int, eq_int, ne_int, min_int, max_int, neg_int, bool_bool, not_bool, is_none, isn_none, nn_int, nn_none, nn_tup, len_tup, len_lst, tup_lst, tup_tup, it_lst, it_tup, int_bool, int_int, oint_int, addI_int, subI_int, flat_tI, flat_int, flat_none, Option.bind_some, Option.map_some, Int.zero_add, thenB, thenM, List.nil_append, List.length_map, ob_assoc]
          have en : enumL (x0 :: rest) = ((x0 :: rest).zipIdx).map fun p => .tuple [.int (p.2 : Nat), p.1] := by
            have := enum_map id (x0 :: rest)
            rwa [List.map_id] at this
          by_cases hg0 : 1 ≤ tlen x0 ∧ tlen x0 ≤ 4
          · obtain ⟨r0, rfl⟩ : ∃ r0, x0 = .tuple r0 := by
              cases x0 with
              | tuple r0 => exact ⟨r0, rfl⟩
              | _ => simp [tlen] at hg0
            have hg1 : (1 : Int) ≤ (r0.length : Int) := by have : 1 ≤ r0.length := hg0.1; omega
            have hg4 : (r0.length : Int) ≤ 4 := by have : r0.length ≤ 4 := hg0.2; omega
            simp only [isiB, typeN, hg1, hg4, decide_true, beq_self_eq_true, Bool.true_or, Bool.not_true, Bool.false_eq_true, if_false, if_true, op2, op1, cmp2, chain3, tst, notB, andB, orB, andD, orD, iteM, consM, starM, smallM, tupM, tupSM, lstM, argV, argK, comp1, comp1i, comp2, comp2i, comp11, seqM, rng1, rng2, zipSM, zip2M, zip3M, enumM, repM, joinM, catM, par3LM, put2M, popM, parLV, putVM, unpS, trg1M, sortSetM, orV, lrg1M, par3M, rdM, rdLM, partM, slcM, isiM, rtM, forM1, forM2, forM3, parM, unp2, unp3, ob_pure, ob_some, ob_lift, Option.pure_def, add_int, sub_int, lt_int, le_int, gt_int, ge_int, eq_int, ne_int, min_int, max_int, neg_int, bool_bool, not_bool, is_none, isn_none, nn_int, nn_none, nn_tup, len_tup, len_lst, tup_lst, tup_tup, it_lst, it_tup, int_bool, int_int, oint_int, addI_int, subI_int, flat_tI, flat_int, flat_none, Option.bind_some, Option.map_some, Int.zero_add, thenB, thenM, List.nil_append, List.length_map, ob_assoc]
            rw [en]
            refine bindE (loop_find (m := Option) (p := fun q : D × Nat => !goodRow (tlen (.tuple r0)) q.1) (R := fun q => .tuple [.int (q.2 : Nat), .str "drawer"]) _ fun q hq => ?_) ?_
            · simp only [pairM]
              have : M_are_numbers [.val q.1, .val (.int (r0.length : Nat)), .val (.int 50)] = some (.bool (numsB r0.length 50 q.1)) := arenums_eq q.1 (by omega)
              simp only [this, op2, op1, cmp2, chain3, tst, notB, andB, orB, andD, orD, iteM, consM, starM, smallM, tupM, tupSM, lstM, argV, argK, comp1, comp1i, comp2, comp2i, comp11, seqM, rng1, rng2, zipSM, zip2M, zip3M, enumM, repM, joinM, catM, par3LM, put2M, popM, parLV, putVM, unpS, trg1M, sortSetM, orV, lrg1M, par3M, rdM, rdLM, partM, slcM, isiM, rtM, forM1, forM2, forM3, parM, unp2, unp3, ob_pure, ob_some, ob_lift, Option.pure_def, add_int, sub_int, lt_int, le_int, gt_int, ge_int, eq_int, ne_int, min_int, max_int, neg_int, bool_bool, not_bool, is_none, isn_none, nn_int, nn_none, nn_tup, len_tup, len_lst, tup_lst, tup_tup, it_lst, it_tup, int_bool, int_int, oint_int, addI_int, subI_int, flat_tI, flat_int, flat_none, Option.bind_some, Option.map_some, Int.zero_add, thenB, thenM, List.nil_append, List.length_map, ob_assoc]
              have eq1 : goodRow (tlen (.tuple r0)) q.1 = numsB r0.length 50 q.1 := by
                unfold goodRow
                rw [decide_eq_true hg0]
                rfl
              rw [eq1]
            · unfold errL firstN
              cases ((PyData.tuple r0 :: rest).zipIdx.find? fun q => !goodRow (tlen (.tuple r0)) q.1) <;> rfl
          · have hb : goodRow (tlen x0) x0 = false := by simp [goodRow, hg0]
            have he : errL (tlen x0) (x0 :: rest) = some 0 := by
              unfold errL firstN
              rw [List.zipIdx_cons, List.find?_cons]
              simp [hb]
            rw [he]
            cases x0 with
            | tuple r0 =>
              simp only [isiB, typeN, op2, op1, cmp2, chain3, tst, notB, andB, orB, andD, orD, iteM, consM, starM, smallM, tupM, tupSM, lstM, argV, argK, comp1, comp1i, comp2, comp2i, comp11, seqM, rng1, rng2, zipSM, zip2M, zip3M, enumM, repM, joinM, catM, par3LM, put2M, popM, parLV, putVM, unpS, trg1M, sortSetM, orV, lrg1M, par3M, rdM, rdLM, partM, slcM, isiM, rtM, forM1, forM2, forM3, parM, unp2, unp3, ob_pure, ob_some, ob_lift, Option.pure_def, add_int, sub_int, lt_int, le_int, gt_int, ge_int, eq_int, ne_int, min_int, max_int, neg_int, bool_bool, not_bool, is_none, isn_none, nn_int, nn_none, nn_tup, len_tup, len_lst, tup_lst, tup_tup, it_lst, it_tup, int_bool, int_int, oint_int, addI_int, subI_int, flat_tI, flat_int, flat_none, Option.bind_some, Option.map_some, Int.zero_add, thenB, thenM, List.nil_append, List.length_map, ob_assoc, beq_self_eq_true, Bool.true_or, Bool.not_true, Bool.false_eq_true, if_false]
              have : r0.length < 1 ∨ 4 < r0.length := by
                have : ¬ (1 ≤ r0.length ∧ r0.length ≤ 4) := hg0
                omega
              rcases this with c | c
              · have : ¬ (1 : Int) ≤ (r0.length : Int) := by omega
                simp [this, bool_bool]
              · have c1 : (1 : Int) ≤ (r0.length : Int) := by omega
                have c4 : ¬ (r0.length : Int) ≤ 4 := by omega
                simp [c1, c4, bool_bool]
            | _ => simp [isiB, typeN, op2, op1, cmp2, chain3, tst, notB, andB, orB, andD, orD, iteM, consM, starM, smallM, tupM, tupSM, lstM, argV, argK, comp1, comp1i, comp2, comp2i, comp11, seqM, rng1, rng2, zipSM, zip2M, zip3M, enumM, repM, joinM, catM, par3LM, put2M, popM, parLV, putVM, unpS, trg1M, sortSetM, orV, lrg1M, par3M, rdM, rdLM, partM, slcM, isiM, rtM, forM1, forM2, forM3, parM, unp2, unp3, ob_pure, ob_some, ob_lift, Option.pure_def, add_int, sub_int, lt_int, le_int, gt_int, ge_int, eq_int, ne_int, min_int, max_int, neg_int, bool_bool, not_bool, is_none, isn_none, nn_int, nn_none, nn_tup, len_tup, len_lst, tup_lst, tup_tup, it_lst, it_tup, int_bool, int_int, oint_int, addI_int, subI_int, flat_tI, flat_int, flat_none, Option.bind_some, Option.map_some, Int.zero_add, thenB, thenM, List.nil_append, List.length_map, ob_assoc]
      · have a1 : (1 : Int) ≤ (xs.length : Int) := by omega
        have a4 : ¬ (xs.length : Int) ≤ 4 := by omega
        simp [a1, a4, h4, bool_bool]
    · have a1 : ¬ (1 : Int) ≤ (xs.length : Int) := by omega
      simp [a1, h1, bool_bool]
  | _ => simp [op2, op1, cmp2, chain3, tst, notB, andB, orB, andD, orD, iteM, consM, starM, smallM, tupM, tupSM, lstM, argV, argK, comp1, comp1i, comp2, comp2i, comp11, seqM, rng1, rng2, zipSM, zip2M, zip3M, enumM, repM, joinM, catM, par3LM, put2M, popM, parLV, putVM, unpS, trg1M, sortSetM, orV, lrg1M, par3M, rdM, rdLM, partM, slcM, isiM, rtM, forM1, forM2, forM3, parM, unp2, unp3, ob_pure, ob_some, ob_lift, Option.pure_def, add_int, sub_int, lt_int, le_int, gt_int, ge_int, eq_int, ne_int, min_int, max_int, neg_int, bool_bool, not_bool, is_none, isn_none, nn_int, nn_none, nn_tup, len_tup, len_lst, tup_lst, tup_tup, it_lst, it_tup, int_bool, int_int, oint_int, addI_int, subI_int, flat_tI, flat_int, flat_none, Option.bind_some, Option.map_some, Int.zero_add, thenB, thenM, List.nil_append, List.length_map, ob_assoc, errD, isiB, typeN]
/-! what sureness means: draws as functions -/
abbrev at2 (S : List (List Int)) (i j : Nat) : Int := (S.getD i []).getD j 0
abbrev sumR (n : Nat) (f : Nat → Int) : Int := ((List.range n).map f).sum
/-- no wish is fulfilled -/
def Unl (k : Nat) (rows : List (List Int)) (c : Nat → Int) : Prop := ∀ r ∈ rows, ∃ j, j < k ∧ c j < r.getD j 0
theorem sumR_congr {n : Nat} {f g : Nat → Int} (h : ∀ i, i < n → f i = g i) : sumR n f = sumR n g := congrArg List.sum (List.map_congr_left fun i hi => h i (List.mem_range.mp hi))
theorem sumR_le {n : Nat} {f g : Nat → Int} (h : ∀ i, i < n → f i ≤ g i) : sumR n f ≤ sumR n g := sum_le_sum _ fun i hi => h i (List.mem_range.mp hi)
theorem sumR_succ (n : Nat) (f : Nat → Int) : sumR (n + 1) f = sumR n f + f n := by
  unfold sumR
  rw [List.range_succ]
  simp
theorem sumR_add (n : Nat) (f g : Nat → Int) : sumR n (fun i => f i + g i) = sumR n f + sumR n g := by
  induction n with
  | zero => rfl
  | succ n ih => rw [sumR_succ, sumR_succ, sumR_succ, ih]; omega
theorem sumR_swap (n k : Nat) (f : Nat → Nat → Int) : sumR n (fun i => sumR k fun j => f i j) = sumR k fun j => sumR n fun i => f i j := by
  induction n with
  | zero =>
    show (0 : Int) = _
    exact (zero_sum (List.range k)).symm
  | succ n ih =>
    rw [sumR_succ, ih, ← sumR_add]
    exact sumR_congr fun j _ => (sumR_succ n _).symm
theorem list_at {k j : Nat} {c : Nat → Int} (hj : j < k) : ((List.range k).map c).getD j 0 = c j := by simp [List.getD, hj]
theorem unl_iff {k : Nat} {rows : List (List Int)} {c : List Int} (hl : ∀ r ∈ rows, r.length = k) (hc : c.length = k) : fulf rows c = none ↔ Unl k rows fun j => c.getD j 0 := by
  rw [fulf_none]
  constructor
  · intro h r hr
    have h1 := h r hr
    rw [← Bool.not_eq_true, cont_iff (by rw [hc, hl r hr])] at h1
    apply Classical.byContradiction
    intro hn
    refine h1 fun j hj => ?_
    apply Classical.byContradiction
    intro hlt
    exact hn ⟨j, by rw [← hl r hr]; exact hj, Int.not_le.mp hlt⟩
  · intro h r hr
    obtain ⟨j, hj, hlt⟩ := h r hr
    rw [← Bool.not_eq_true, cont_iff (by rw [hc, hl r hr])]
    intro h2
    have := h2 j (by rw [hl r hr]; exact hj)
    have hlt : c.getD j 0 < r.getD j 0 := hlt
    omega
/-- f is a draw by the plan -/
def Drw (S : List (List Int)) (P : List Int) (n k : Nat) (f : Nat → Nat → Int) : Prop := (∀ i, i < n → ∀ j, j < k → 0 ≤ f i j ∧ f i j ≤ at2 S i j) ∧ ∀ i, i < n → sumR k (f i) = P.getD i 0
theorem sure_iff {S rows : List (List Int)} {P : List Int} {k : Nat} {m m' : Int} (st : Stk m k S) (ro : Wishes k m' rows) (hp : P.length = S.length) (h0 : ∀ d, d < S.length → 0 ≤ P.getD d 0) :
    sureB S rows P k = true ↔ ∀ f, Drw S P S.length k f → ¬ Unl k rows fun j => sumR S.length fun i => f i j := by
  rw [← draws_sure st ro hp h0, List.isEmpty_iff, List.filter_eq_nil_iff]
  constructor
  · intro h f hf hu
    have hR : ∀ i, i < S.length → ((List.range S.length).map fun i => (List.range k).map fun j => f i j).getD i [] = (List.range k).map fun j => f i j := fun i hi => by simp [List.getD, hi]
    have hmem : ((List.range S.length).map fun i => (List.range k).map fun j => f i j) ∈ drawsL S P := by
      rw [mem_drawsL st.len hp]
      refine ⟨by simp, fun i hi => ?_⟩
      rw [hR i hi]
      exact ⟨by simp, fun j hj => by rw [list_at hj]; exact hf.1 i hi j hj, hf.2 i hi⟩
    refine h _ hmem ?_
    rw [Bool.not_eq_true', Option.isSome_eq_false_iff, Option.isNone_iff_eq_none, unl_iff ro.len (by simp [cols])]
    intro r hr
    obtain ⟨j, hj, hlt⟩ := hu r hr
    refine ⟨j, hj, ?_⟩
    have e : (cols ((List.range S.length).map fun i => (List.range k).map fun j => f i j) k).getD j 0 = sumR S.length fun i => f i j := by
      simp only [cols]
      rw [list_at (c := fun j => (col _ j).sum) hj]
      unfold col
      rw [List.map_map]
      exact sumR_congr fun i _ => list_at hj
    exact Int.lt_of_le_of_lt (Int.le_of_eq e) hlt
  · intro h R hR hno
    obtain ⟨hl, hr⟩ := (mem_drawsL st.len hp).mp hR
    rw [Bool.not_eq_true', Option.isSome_eq_false_iff, Option.isNone_iff_eq_none, unl_iff ro.len (by simp [cols])] at hno
    refine h (at2 R) ⟨fun i hi j hj => (hr i hi).2.1 j hj, fun i hi => by rw [← (hr i hi).2.2]; exact getD_sum (hr i hi).1⟩ fun r hr2 => ?_
    obtain ⟨j, hj, hlt⟩ := hno r hr2
    refine ⟨j, hj, ?_⟩
    have e : (cols R k).getD j 0 = sumR S.length fun i => at2 R i j := by
      rw [many_all hj, hl]
      rfl
    exact Int.lt_of_le_of_lt (Int.le_of_eq e.symm) hlt
/-- all totals -/
abbrev totF (S : List (List Int)) (j : Nat) : Int := many S (List.range S.length) j
/-- c: some of the totals T that fulfil no wish -/
def Bad (k : Nat) (rows : List (List Int)) (T c : Nat → Int) : Prop := (∀ j, j < k → 0 ≤ c j ∧ c j ≤ T j) ∧ Unl k rows c
/-- v: the greatest number that fulfils no wish -/
def Top (k : Nat) (rows : List (List Int)) (T : Nat → Int) (v : Int) : Prop := (∃ c, Bad k rows T c ∧ sumR k c = v) ∧ ∀ c, Bad k rows T c → sumR k c ≤ v
theorem tot_ge {m : Int} {k : Nat} {S : List (List Int)} (st : Stk m k S) {j : Nat} (hj : j < k) : 0 ≤ totF S j := by
  have := sum_le_sum (f := fun _ => (0 : Int)) (g := fun d => (S.getD d []).getD j 0) (List.range S.length) fun d hd => (stk_ge st (List.mem_range.mp hd) hj).1
  rw [zero_sum] at this
  exact this
theorem cols_tot {k j : Nat} {S : List (List Int)} (hj : j < k) : (cols S k).getD j 0 = totF S j := many_all hj
theorem cols_ge {m : Int} {k : Nat} {S : List (List Int)} (st : Stk m k S) : ∀ x ∈ cols S k, 0 ≤ x := fun x hx => by
  obtain ⟨j, hj, rfl⟩ := List.mem_map.mp hx
  exact (col_in st.len st.ge (List.mem_range.mp hj)).1
theorem unl_tot {k : Nat} {S rows : List (List Int)} {m' : Int} (ro : Wishes k m' rows) : fulf rows (cols S k) = none ↔ Unl k rows (totF S) := by
  rw [unl_iff ro.len (by simp [cols])]
  constructor
  · intro h r hr
    obtain ⟨j, hj, hlt⟩ := h r hr
    exact ⟨j, hj, by rw [← cols_tot hj]; exact hlt⟩
  · intro h r hr
    obtain ⟨j, hj, hlt⟩ := h r hr
    exact ⟨j, hj, by show (cols S k).getD j 0 < _; rw [cols_tot hj]; exact hlt⟩
theorem sureT_sem {S rows : List (List Int)} {k : Nat} {m m' : Int} (st : Stk m k S) (ro : Wishes k m' rows) : ∃ v, Top k rows (totF S) v ∧ (Unl k rows (totF S) → sureT S rows k = none) ∧ (¬ Unl k rows (totF S) → sureT S rows k = some (v + 1)) := by
  obtain ⟨v, hv⟩ := rooms_max ro S
  have hv2 := List.max?_eq_some_iff.mp hv
  refine ⟨v, ⟨?_, fun c hc => ?_⟩, fun h => ?_, fun h => ?_⟩
  · obtain ⟨s, hs, e⟩ := List.mem_map.mp hv2.1
    have hcp := caps_cps ro hs
    have hcc : ∀ j, j < k → 0 ≤ capped (totF S j) ((capsO (rows.zip s) k).getD j none) ∧ capped (totF S j) ((capsO (rows.zip s) k).getD j none) ≤ totF S j := fun j hj => by
      have h1 := tot_ge st hj
      cases ho : (capsO (rows.zip s) k).getD j none with
      | none => exact ⟨h1, Int.le_refl _⟩
      | some w => have := hcp.at hj ho; simp only [capped]; omega
    refine ⟨fun j => capped (totF S j) ((capsO (rows.zip s) k).getD j none), ⟨hcc, ?_⟩, ?_⟩
    · have : fulf rows ((List.range k).map fun j => capped (totF S j) ((capsO (rows.zip s) k).getD j none)) = none := by
        refine (spoiled ro.len (by simp) fun x hx => ?_).mpr ⟨s, hs, (kept_iff (capsO_len _ _) (by simp)).mpr fun j w hj hw => ?_⟩
        · obtain ⟨j, hj, rfl⟩ := List.mem_map.mp hx
          exact (hcc j (List.mem_range.mp hj)).1
        · rw [list_at (c := fun j => capped (totF S j) ((capsO (rows.zip s) k).getD j none)) hj, hw]
          simp only [capped]
          omega
      rw [unl_iff ro.len (by simp)] at this
      intro r hr
      obtain ⟨j, hj, hlt⟩ := this r hr
      refine ⟨j, hj, ?_⟩
      have e2 := list_at (c := fun j => capped (totF S j) ((capsO (rows.zip s) k).getD j none)) hj
      exact Int.lt_of_le_of_lt (Int.le_of_eq e2.symm) hlt
    · rw [← e, room_sum (capsO_len _ _)]
  · have h1 : fulf rows ((List.range k).map c) = none := by
      rw [unl_iff ro.len (by simp)]
      intro r hr
      obtain ⟨j, hj, hlt⟩ := hc.2 r hr
      refine ⟨j, hj, ?_⟩
      show ((List.range k).map c).getD j 0 < _
      rw [list_at hj]
      exact hlt
    obtain ⟨s, hs, hk⟩ := (spoiled ro.len (by simp) fun x hx => by
      obtain ⟨j, hj, rfl⟩ := List.mem_map.mp hx
      exact (hc.1 j (List.mem_range.mp hj)).1).mp h1
    rw [kept_iff (capsO_len _ _) (by simp)] at hk
    refine Int.le_trans ?_ (hv2.2 _ (List.mem_map.mpr ⟨s, hs, rfl⟩))
    rw [room_sum (capsO_len _ _)]
    refine sumR_le fun j hj => ?_
    have h2 := hc.1 j hj
    cases ho : (capsO (rows.zip s) k).getD j none with
    | none => exact h2.2
    | some w =>
      have h3 := hk j w hj ho
      rw [list_at hj] at h3
      have h4 : c j ≤ many S (List.range S.length) j := h2.2
      simp only [capped]
      omega
  · unfold sureT
    rw [(unl_tot ro).mpr h]
    rfl
  · unfold sureT
    rw [hv]
    cases hf : fulf rows (cols S k) with
    | none => exact absurd ((unl_tot ro).mp hf) h
    | some x => rfl
theorem Top.le {k k' : Nat} {rows rows' : List (List Int)} {T T' : Nat → Int} {v v' a : Int} (h : Top k rows T v) (h' : Top k' rows' T' v') (hm : ∀ c, Bad k rows T c → ∃ c', Bad k' rows' T' c' ∧ sumR k c + a ≤ sumR k' c') : v + a ≤ v' := by
  obtain ⟨c, hc, rfl⟩ := h.1
  obtain ⟨c', hc', hle⟩ := hm c hc
  exact Int.le_trans hle (h'.2 c' hc')
/-- two stocks, two wishes: the same number -/
theorem sureT_same {S S' rows rows' : List (List Int)} {k k' : Nat} {m m' q q' : Int} (st : Stk m k S) (ro : Wishes k m' rows) (st' : Stk q k' S') (ro' : Wishes k' q' rows') (hu : Unl k rows (totF S) ↔ Unl k' rows' (totF S'))
    (h1 : ∀ c, Bad k rows (totF S) c → ∃ c', Bad k' rows' (totF S') c' ∧ sumR k c ≤ sumR k' c') (h2 : ∀ c, Bad k' rows' (totF S') c → ∃ c', Bad k rows (totF S) c' ∧ sumR k' c ≤ sumR k c') : sureT S' rows' k' = sureT S rows k := by
  obtain ⟨v, hv, ha, hb⟩ := sureT_sem st ro
  obtain ⟨v', hv', ha', hb'⟩ := sureT_sem st' ro'
  by_cases h : Unl k rows (totF S)
  · rw [ha h, ha' (hu.mp h)]
  · rw [hb h, hb' fun z => h (hu.mpr z)]
    have l1 := hv.le (a := 0) hv' fun c hc => by obtain ⟨c', z1, z2⟩ := h1 c hc; exact ⟨c', z1, by omega⟩
    have l2 := hv'.le (a := 0) hv fun c hc => by obtain ⟨c', z1, z2⟩ := h2 c hc; exact ⟨c', z1, by omega⟩
    congr 1
    omega
/-- an order of range n -/
structure Ord (n : Nat) (l : Nat → Nat) : Prop where
  lt : ∀ i, i < n → l i < n
  sum : ∀ g : Nat → Int, sumR n (fun i => g (l i)) = sumR n g
  sur : ∀ y, y < n → ∃ i, i < n ∧ l i = y
theorem ord_of {n : Nat} {l : List Nat} (h : l.Perm (List.range n)) : Ord n fun i => l.getD i 0 := by
  have hlen : l.length = n := by rw [h.length_eq, List.length_range]
  have hm : (List.range n).map (fun i => l.getD i 0) = l := by
    refine List.ext_getElem (by simp [hlen]) fun i h1 h2 => ?_
    simp [List.getD, h2]
  refine ⟨fun i hi => ?_, fun g => ?_, fun y hy => ?_⟩
  · exact List.mem_range.mp (h.mem_iff.mp (by simp [List.getD, hlen, hi]))
  · have : (List.range n).map (fun i => g (l.getD i 0)) = l.map g := by
      conv => rhs; rw [← hm]
      rw [List.map_map]
      rfl
    show ((List.range n).map _).sum = _
    rw [this]
    exact perm_sum (h.map g)
  · obtain ⟨i, hi, e⟩ := List.getElem_of_mem (h.mem_iff.mpr (List.mem_range.mpr hy))
    exact ⟨i, by omega, by simp [List.getD, hi, e]⟩
theorem ord_inv {n : Nat} {l : List Nat} (h : l.Perm (List.range n)) : ∃ p : Nat → Nat, Ord n p ∧ (∀ x, x < n → l.getD (p x) 0 = x) ∧ ∀ i, i < n → p (l.getD i 0) = i := by
  have hlen : l.length = n := by rw [h.length_eq, List.length_range]
  have hnd : l.Nodup := h.nodup_iff.mpr List.nodup_range
  have ho := ord_of h
  have h1 : ∀ x, x < n → l.idxOf x < l.length := fun x hx => List.idxOf_lt_length_of_mem (h.mem_iff.mpr (List.mem_range.mpr hx))
  have h2 : ∀ x, x < n → l.getD (l.idxOf x) 0 = x := fun x hx => by
    have := h1 x hx
    simp [List.getD, this]
  have h3 : ∀ i, i < n → l.idxOf (l.getD i 0) = i := fun i hi => by
    have hi2 : i < l.length := by omega
    have : l.getD i 0 = l[i] := by simp [List.getD, hi2]
    rw [this]
    exact hnd.idxOf_getElem i hi2
  refine ⟨fun x => l.idxOf x, ⟨fun x hx => by have := h1 x hx; omega, fun g => ?_, fun i hi => ⟨l.getD i 0, ho.lt i hi, h3 i hi⟩⟩, h2, h3⟩
  rw [← ho.sum fun x => g (l.idxOf x)]
  exact sumR_congr fun i hi => by show g (l.idxOf (l.getD i 0)) = g i; rw [h3 i hi]
/-- drawers, kinds and wishes in another order -/
structure Reord (n k : Nat) (S S' rows rows' : List (List Int)) (P P' : List Int) (l q : Nat → Nat) : Prop where
  ol : Ord n l
  oq : Ord k q
  at_ : ∀ i, i < n → ∀ j, j < k → at2 S' i j = at2 S (l i) (q j)
  pl : ∀ i, i < n → P'.getD i 0 = P.getD (l i) 0
  ws : ∀ r' ∈ rows', ∃ r ∈ rows, ∀ j, j < k → r'.getD j 0 = r.getD (q j) 0
  ws2 : ∀ r ∈ rows, ∃ r' ∈ rows', ∀ j, j < k → r'.getD j 0 = r.getD (q j) 0
theorem Reord.unl {n k : Nat} {S S' rows rows' : List (List Int)} {P P' : List Int} {l q : Nat → Nat} (h : Reord n k S S' rows rows' P P' l q) {c c' : Nat → Int} (hc : ∀ j, j < k → c' j = c (q j)) : Unl k rows c ↔ Unl k rows' c' := by
  constructor
  · intro hu r' hr'
    obtain ⟨r, hr, e⟩ := h.ws r' hr'
    obtain ⟨y, hy, hlt⟩ := hu r hr
    obtain ⟨j, hj, rfl⟩ := h.oq.sur y hy
    exact ⟨j, hj, by rw [hc j hj, e j hj]; exact hlt⟩
  · intro hu r hr
    obtain ⟨r', hr', e⟩ := h.ws2 r hr
    obtain ⟨j, hj, hlt⟩ := hu r' hr'
    exact ⟨q j, h.oq.lt j hj, by rw [hc j hj, e j hj] at hlt; exact hlt⟩
theorem Reord.drw {n k : Nat} {S S' rows rows' : List (List Int)} {P P' : List Int} {l q : Nat → Nat} (h : Reord n k S S' rows rows' P P' l q) {f : Nat → Nat → Int} (hf : Drw S P n k f) : Drw S' P' n k fun i j => f (l i) (q j) := by
  refine ⟨fun i hi j hj => ?_, fun i hi => ?_⟩
  · rw [h.at_ i hi j hj]
    exact hf.1 _ (h.ol.lt i hi) _ (h.oq.lt j hj)
  · rw [h.pl i hi, ← hf.2 _ (h.ol.lt i hi)]
    exact h.oq.sum _
theorem Reord.tot {n k : Nat} {S S' rows rows' : List (List Int)} {P P' : List Int} {l q : Nat → Nat} (h : Reord n k S S' rows rows' P P' l q) (hS : S.length = n) (hS' : S'.length = n) {j : Nat} (hj : j < k) : totF S' j = totF S (q j) := by
  show ((List.range S'.length).map fun d => at2 S' d j).sum = ((List.range S.length).map fun d => at2 S d (q j)).sum
  rw [hS, hS']
  refine (sumR_congr fun i hi => h.at_ i hi j hj).trans ?_
  exact h.ol.sum fun i => at2 S i (q j)
theorem Reord.bad {n k : Nat} {S S' rows rows' : List (List Int)} {P P' : List Int} {l q : Nat → Nat} (h : Reord n k S S' rows rows' P P' l q) (hS : S.length = n) (hS' : S'.length = n) {c : Nat → Int} (hc : Bad k rows (totF S) c) : Bad k rows' (totF S') (fun j => c (q j)) ∧ sumR k c = sumR k fun j => c (q j) :=
  ⟨⟨fun j hj => by rw [h.tot hS hS' hj]; exact hc.1 _ (h.oq.lt j hj), (h.unl fun _ _ => rfl).mp hc.2⟩, (h.oq.sum c).symm⟩
theorem oD_ne (o : Option Int) : (neD (oD o) (oD o)).bind boolD = some false := by
  cases o with
  | none => rfl
  | some x => show (neD (.int x) (.int x)).bind boolD = some false; rw [ne_int]; simp [bool_bool]
theorem fill {c : Nat → Int} : ∀ (k : Nat) (s : Int), (∀ j, j < k → 0 ≤ c j) → 0 ≤ s → s ≤ sumR k c → ∃ d : Nat → Int, (∀ j, j < k → 0 ≤ d j ∧ d j ≤ c j) ∧ sumR k d = s
  | 0, s, _, h0, h1 => ⟨fun _ => 0, fun j hj => absurd hj (Nat.not_lt_zero j), by
    have h1 : s ≤ 0 := h1
    show (0 : Int) = s
    omega⟩
  | k + 1, s, hc, h0, h1 => by
    rw [sumR_succ] at h1
    have hk := hc k (by omega)
    by_cases z : s ≤ sumR k c
    · obtain ⟨d, hd, e⟩ := fill k s (fun j hj => hc j (by omega)) h0 z
      refine ⟨fun j => if j < k then d j else 0, fun j hj => ?_, ?_⟩
      · by_cases y : j < k
        · simp only [if_pos y]; exact hd j y
        · obtain rfl : j = k := by omega
          simp only [if_neg y]; omega
      · rw [sumR_succ]
        simp only [if_neg (Nat.lt_irrefl k)]
        have : sumR k (fun j => if j < k then d j else 0) = sumR k d := sumR_congr fun j hj => if_pos hj
        omega
    · refine ⟨fun j => if j < k then c j else s - sumR k c, fun j hj => ?_, ?_⟩
      · by_cases y : j < k
        · simp only [if_pos y]; exact ⟨hc j (by omega), Int.le_refl _⟩
        · obtain rfl : j = k := by omega
          simp only [if_neg y]; omega
      · rw [sumR_succ]
        simp only [if_neg (Nat.lt_irrefl k)]
        have : sumR k (fun j => if j < k then c j else s - sumR k c) = sumR k c := sumR_congr fun j hj => if_pos hj
        omega
theorem unl_mono {k : Nat} {rows : List (List Int)} {c d : Nat → Int} (h : ∀ j, j < k → d j ≤ c j) (hu : Unl k rows c) : Unl k rows d := fun r hr => by
  obtain ⟨j, hj, hlt⟩ := hu r hr
  exact ⟨j, hj, by have := h j hj; omega⟩
/-- one drawer with all totals -/
theorem one_stk {m : Int} {k : Nat} {S : List (List Int)} (st : Stk m k S) (h50 : ∀ x ∈ cols S k, x ≤ 50) : Stk 50 k [cols S k] := by
  refine ⟨by simp, by simp, st.k1, st.k4, fun r h => by rw [List.mem_singleton.mp h]; simp [cols], fun r h x hx => ?_⟩
  rw [List.mem_singleton.mp h] at hx
  exact ⟨cols_ge st x hx, h50 x hx⟩
theorem one_tot {k j : Nat} {S : List (List Int)} (hj : j < k) : totF [cols S k] j = totF S j := by
  rw [← cols_tot (S := S) hj]
  show (([0] : List Nat).map fun d => ([cols S k].getD d []).getD j 0).sum = _
  simp
theorem one_sureT {m m' : Int} {k : Nat} {S rows : List (List Int)} (st : Stk m k S) (ro : Wishes k m' rows) (h50 : ∀ x ∈ cols S k, x ≤ 50) : sureT [cols S k] rows k = sureT S rows k := by
  have hT : ∀ j, j < k → totF [cols S k] j = totF S j := fun j hj => one_tot hj
  refine sureT_same st ro (one_stk st h50) ro ⟨unl_mono fun j hj => Int.le_of_eq (hT j hj), unl_mono fun j hj => Int.le_of_eq (hT j hj).symm⟩ (fun c hc => ⟨c, ⟨fun j hj => by rw [hT j hj]; exact hc.1 j hj, hc.2⟩, Int.le_refl _⟩) (fun c hc => ⟨c, ⟨fun j hj => by rw [← hT j hj]; exact hc.1 j hj, hc.2⟩, Int.le_refl _⟩)
theorem one_draw {k : Nat} {S : List (List Int)} {s : Int} {c : Nat → Int} (hc : ∀ j, j < k → 0 ≤ c j ∧ c j ≤ totF S j) (hs : sumR k c = s) : Drw [cols S k] [s] [cols S k].length k fun _ j => c j := by
  refine ⟨fun i hi j hj => ?_, fun i hi => ?_⟩
  · obtain rfl : i = 0 := by simp at hi; exact hi
    show 0 ≤ c j ∧ c j ≤ (cols S k).getD j 0
    rw [cols_tot hj]
    exact hc j hj
  · obtain rfl : i = 0 := by simp at hi; exact hi
    exact hs
theorem one_sumR (f : Nat → Int) : sumR 1 f = f 0 := by show ([f 0] : List Int).sum = f 0; simp
theorem one_sure {m m' : Int} {k : Nat} {S rows : List (List Int)} {s v : Int} (st : Stk m k S) (ro : Wishes k m' rows) (h50 : ∀ x ∈ cols S k, x ≤ 50) (s0 : 0 ≤ s) (s1 : s ≤ sumR k (totF S)) (hv : Top k rows (totF S) v) : sureB [cols S k] rows [s] k = true ↔ ¬ Unl k rows (totF S) ∧ v < s := by
  rw [sure_iff (one_stk st h50) ro rfl fun d hd => by
    obtain rfl : d = 0 := by simp at hd; exact hd
    exact s0]
  constructor
  · intro h
    refine ⟨fun hu => ?_, ?_⟩
    · obtain ⟨d, hd, e⟩ := fill k s (fun j hj => tot_ge st hj) s0 s1
      exact h _ (one_draw hd e) (unl_mono (fun j hj => by show sumR 1 (fun _ => d j) ≤ _; rw [one_sumR]; exact (hd j hj).2) hu)
    · apply Classical.byContradiction
      intro hn
      obtain ⟨c, hc, e⟩ := hv.1
      obtain ⟨d, hd, e2⟩ := fill (c := c) k s (fun j hj => (hc.1 j hj).1) s0 (by omega)
      exact h _ (one_draw (S := S) (fun j hj => ⟨(hd j hj).1, Int.le_trans (hd j hj).2 (hc.1 j hj).2⟩) e2) (unl_mono (fun j hj => by show sumR 1 (fun _ => d j) ≤ _; rw [one_sumR]; exact (hd j hj).2) hc.2)
  · rintro ⟨h1, h2⟩ f hf hu
    have h3 := hv.2 (fun j => f 0 j) ⟨fun j hj => by
      have := hf.1 0 (by simp) j hj
      rw [← cols_tot hj]
      exact this, unl_mono (fun j hj => by show f 0 j ≤ sumR 1 fun i => f i j; rw [one_sumR]; exact Int.le_refl _) hu⟩
    have h4 : sumR k (f 0) = s := hf.2 0 (by simp)
    have h5 : sumR k (fun j => f 0 j) = s := h4
    omega
/-- what one drawer makes sure, the stock makes sure -/
theorem one_all {m m' : Int} {k : Nat} {S rows : List (List Int)} {P : List Int} {v : Int} (st : Stk m k S) (ro : Wishes k m' rows) (hp : P.length = S.length) (h0 : ∀ d, d < S.length → 0 ≤ P.getD d 0) (hv : Top k rows (totF S) v) (h : v < P.sum) : sureB S rows P k = true := by
  rw [sure_iff st ro hp h0]
  intro f hf hu
  have h1 := hv.2 _ ⟨fun j hj => ⟨?_, ?_⟩, hu⟩
  · rw [← sumR_swap] at h1
    have h2 : sumR S.length (fun i => sumR k fun j => f i j) = P.sum := by
      rw [← getD_sum hp]
      exact sumR_congr fun i hi => hf.2 i hi
    omega
  · have := sumR_le (n := S.length) (f := fun _ => 0) (g := fun i => f i j) fun i hi => (hf.1 i hi j hj).1
    have z : sumR S.length (fun _ => (0 : Int)) = 0 := zero_sum _
    omega
  · exact sumR_le fun i hi => (hf.1 i hi j hj).2
theorem totalsL_eq {k : Nat} {rows : List (List Int)} (h1 : 1 ≤ rows.length) (h4 : rows.length ≤ 4) (hl : ∀ r ∈ rows, r.length = k) (hk : k ≤ 1000) : m_totals_of (.list (rows.map tI)) = some (tI (cols rows k)) := by
  unfold m_totals_of
  simp only [op2, op1, cmp2, chain3, tst, notB, andB, orB, andD, orD, iteM, consM, starM, smallM, tupM, tupSM, lstM, argV, argK, comp1, comp1i, comp2, comp2i, comp11, seqM, rng1, rng2, zipSM, zip2M, zip3M, enumM, repM, joinM, catM, par3LM, put2M, popM, parLV, putVM, unpS, trg1M, sortSetM, orV, lrg1M, par3M, rdM, rdLM, partM, slcM, isiM, rtM, forM1, forM2, forM3, parM, unp2, unp3, ob_pure, ob_some, ob_lift, itemsD, Option.bind_some]
  rw [zip_rows h1 h4 hl, ob_some, small_ok (by simp; omega), ob_some, lcA_mapM (List.range k) [] (F := fun i => tI (col rows i)) (G := fun i => .int (col rows i).sum) fun i _ => sum_tI _]
  simp only [ob_some, ob_pure, tupleD, List.nil_append, tI, cols, List.map_map, Function.comp_def]
theorem nin_one (v w : Int) : ninD (.int v) (.list [.int w]) = some (.bool (!decide (v = w))) := by
  show (if laidIn (.int v) [.int w] = true then some (PyData.bool (!([PyData.int w].any fun y => PyData.eqv y (.int v)))) else (inStr (.int v) [.int w]).map fun b => PyData.bool !b) = _
  rw [if_pos (by rfl)]
  congr 3
  rw [Bool.eq_iff_iff, List.any_eq_true, decide_eq_true_eq]
  constructor
  · rintro ⟨y, hy, he⟩
    rw [List.mem_singleton.mp hy] at he
    have := (eqv_iff (.int w) (.int v) rfl rfl).mp he
    cases this
    rfl
  · rintro rfl
    exact ⟨_, List.mem_singleton.mpr rfl, eqv_self rfl⟩
theorem merged_eq {k : Nat} {A B : List Int} {rest : List (List Int)} (hA : A.length = k) (hB : B.length = k) (k4 : k ≤ 4) (h4 : rest.length ≤ 2) (h50 : ∀ x ∈ cols [A, B] k, x ≤ 50) : M_merged [.val (tT (A :: B :: rest)), .val (.int 0), .val (.int 1)] = some (tT (cols [A, B] k :: rest)) := by
  show (((valsOf [.val (.int 0), .val (.int 1)]).bind small) >>= fun ds => m_merged (tT (A :: B :: rest)) (.tuple ds)) = _
  rw [show (valsOf [.val (.int 0), .val (.int 1)]).bind small = some [.int 0, .int 1] from rfl, ob_some]
  have et : M_totals_of [.val (.list [tI A, tI B])] = some (tI (cols [A, B] k)) := totalsL_eq (rows := [A, B]) (by simp) (by simp) (fun r hr => by
    rcases List.mem_cons.mp hr with rfl | hr
    · exact hA
    · rw [List.mem_singleton.mp hr]; exact hB) (by omega)
  unfold m_merged
  simp only [op2, op1, cmp2, chain3, tst, notB, andB, orB, andD, orD, iteM, consM, starM, smallM, tupM, tupSM, lstM, argV, argK, comp1, comp1i, comp2, comp2i, comp11, seqM, rng1, rng2, zipSM, zip2M, zip3M, enumM, repM, joinM, catM, par3LM, put2M, popM, parLV, putVM, unpS, trg1M, sortSetM, orV, lrg1M, par3M, rdM, rdLM, partM, slcM, isiM, rtM, forM1, forM2, forM3, parM, unp2, unp3, ob_pure, ob_some, ob_lift, Option.pure_def, add_int, sub_int, lt_int, le_int, gt_int, ge_int, eq_int, ne_int, min_int, max_int, neg_int, bool_bool, not_bool, is_none, isn_none, nn_int, nn_none, nn_tup, len_tup, len_lst, tup_lst, tup_tup, it_lst, it_tup, int_bool, int_int, oint_int, addI_int, subI_int, flat_tI, flat_int, flat_none, Option.bind_some, Option.map_some, Int.zero_add, thenB, thenM, List.nil_append, List.length_map, ob_assoc]
  refine bindE (a := (.int 0, [.int 1])) rfl ?_
  have hc := lcA_mapP (m := Option) (γ := Nat) (f := fun d => getD (tT (A :: B :: rest)) d) (F := fun i : Nat => PyData.int (i : Nat)) (G := fun i => tI ((A :: B :: rest).getD i [])) [0, 1] [] fun i hi => get_row (by
    simp only [List.mem_cons, List.not_mem_nil, or_false] at hi
    simp only [List.length_cons]
    omega)
  refine bindE (small_ok (by simp)) (bindE (a := [tI A, tI B]) hc (bindE et ?_))
  refine bindE (it_tup _) (bindE (a := Fl.nx ()) (loop_same (m := Option) _ fun x hx => ?_) ?_)
  · obtain ⟨y, hy, rfl⟩ := List.mem_map.mp hx
    have := h50 y hy
    rw [gt_int]
    show (if decide (50 < y) = true then _ else _) = _
    rw [if_neg (by simp; omega)]
    rfl
  · rw [enum_map]
    show (small _ >>= _) = _
    rw [small_ok (by simp; omega), ob_some]
    refine bindE (lcA_filt2 (m := Option) (γ := List Int × Nat) (Ga := fun p => .int (p.2 : Nat)) (Gb := fun p => tI p.1) (G := fun p => if p.2 = 0 then tI (cols [A, B] k) else tI p.1) (p := fun p => !decide ((p.2 : Int) = 1)) (fun _ => rfl) (A :: B :: rest).zipIdx [] (fun p _ => ?_) (fun p _ _ => ?_)) ?_
    · show (ninD (.int (p.2 : Nat)) (.list [.int 1])).bind boolD = _
      rw [nin_one]
      rfl
    · show ((eqD (.int (p.2 : Nat)) (.int 0)).bind boolD >>= _) = _
      rw [eq_int]
      show (if ((p.2 : Int) == 0) = true then _ else _) = _
      by_cases z : p.2 = 0
      · rw [if_pos (by simp [z]), if_pos z] <;> rfl
      · rw [if_neg (by simp; omega), if_neg z] <;> rfl
    · rw [List.nil_append]
      refine congrArg (fun l => some (PyData.tuple l)) ?_
      have hz : (A :: B :: rest).zipIdx = (A, 0) :: (B, 1) :: rest.zipIdx 2 := rfl
      rw [hz, List.filter_cons, if_pos (by simp), List.filter_cons, if_neg (by simp), List.map_cons, if_pos rfl]
      have hf : (rest.zipIdx 2).filter (fun p => !decide ((p.2 : Int) = 1)) = rest.zipIdx 2 := List.filter_eq_self.mpr fun p hp => by
        have := (List.mem_zipIdx hp).1
        simp
        omega
      rw [hf]
      show _ :: _ = tI (cols [A, B] k) :: rest.map tI
      refine congrArg (tI (cols [A, B] k) :: ·) ?_
      refine List.ext_getElem (by simp) fun i h1 h2 => ?_
      simp
theorem col_app (U V : List (List Int)) (j : Nat) : (col (U ++ V) j).sum = (col U j).sum + (col V j).sum := by
  unfold col
  rw [List.map_append, List.sum_append]
theorem cols_snoc {U : List (List Int)} {r : List Int} {k : Nat} : cols [cols U k, r] k = cols (U ++ [r]) k := by
  refine List.map_congr_left fun j hj => ?_
  have hj' := List.mem_range.mp hj
  rw [col_app]
  show ([(cols U k).getD j 0, r.getD j 0] : List Int).sum = (col U j).sum + ([r.getD j 0] : List Int).sum
  have : (cols U k).getD j 0 = (col U j).sum := list_at hj'
  rw [this]
  simp
theorem take_le {S : List (List Int)} {k u : Nat} (hl : ∀ r ∈ S, r.length = k) (hg : ∀ r ∈ S, ∀ x ∈ r, 0 ≤ x) (h50 : ∀ x ∈ cols S k, x ≤ 50) : ∀ x ∈ cols (S.take u) k, x ≤ 50 := fun x hx => by
  obtain ⟨j, hj, rfl⟩ := List.mem_map.mp hx
  have h1 := h50 _ (List.mem_map.mpr ⟨j, hj, rfl⟩)
  have h2 := col_app (S.take u) (S.drop u) j
  rw [List.take_append_drop] at h2
  have h3 : 0 ≤ (col (S.drop u) j).sum := by
    have := sum_le_sum (f := fun _ => (0 : Int)) (g := fun r : List Int => r.getD j 0) (S.drop u) fun r hr => getD_in (P := fun x => 0 ≤ x) (hg r (List.mem_of_mem_drop hr)) (by rw [hl r (List.mem_of_mem_drop hr)]; exact List.mem_range.mp hj)
    rw [zero_sum] at this
    exact this
  omega
theorem merged_step {m : Int} {k t : Nat} {S : List (List Int)} (st : Stk m k S) (h50 : ∀ x ∈ cols S k, x ≤ 50) (ht : t + 2 < S.length) : M_merged [.val (tT (cols (S.take (t + 2)) k :: S.drop (t + 2))), .val (.int 0), .val (.int 1)] = some (tT (cols (S.take (t + 3)) k :: S.drop (t + 3))) := by
  have f4 := st.four
  have hd : S.drop (t + 2) = S[t + 2] :: S.drop (t + 3) := List.drop_eq_getElem_cons ht
  have ht3 : S.take (t + 3) = S.take (t + 2) ++ [S[t + 2]] := by rw [List.take_succ, List.getElem?_eq_getElem ht]; rfl
  have hc : cols [cols (S.take (t + 2)) k, S[t + 2]] k = cols (S.take (t + 3)) k := by rw [ht3]; exact cols_snoc
  rw [hd, ← hc]
  refine merged_eq (by simp [cols]) (st.len _ (List.getElem_mem ht)) st.k4 (by simp; omega) ?_
  rw [hc]
  exact take_le st.len (fun r hr x hx => (st.ge r hr x hx).1) h50
theorem putI {P : List Int} {d : Nat} {v : Int} (hd : d < P.length) : putD (P.map PyData.int) (.int (d : Nat)) (.int v) = some ((P.set d v).map PyData.int) := by
  rw [put_at (by rw [List.length_map]; exact hd), List.map_set]
theorem stock8_ok {k most : Int} (k0 : 1 ≤ k) (k1 : k ≤ 4) (m0 : 0 ≤ most) (m1 : most ≤ 50) : Tri 34 (m__law_stock (.int 4) (.int most) (.int k)) (fun d => ∃ rows, d = tT rows ∧ Stk most k.toNat rows) := by
  unfold m__law_stock
  refine Tri.bind (b := 2) (c := 32) (φ := fun d => ∃ c : Int, d = .int c ∧ 1 ≤ c ∧ c ≤ 4) ?_ ?_
  · simp only [op2, op1, cmp2, chain3, tst, notB, andB, orB, andD, orD, iteM, consM, starM, smallM, tupM, tupSM, lstM, argV, argK, comp1, comp1i, comp2, comp2i, comp11, seqM, rng1, rng2, zipSM, zip2M, zip3M, enumM, repM, joinM, catM, par3LM, put2M, popM, parLV, putVM, unpS, trg1M, sortSetM, orV, lrg1M, par3M, rdM, rdLM, partM, slcM, isiM, rtM, forM1, forM2, forM3, parM, unp2, unp3, wb_assoc, wb_pure]
    refine Tri.dr (by decide) (by decide) fun a a0 a1 => Tri.bindL (a := .int (1 + a)) rfl (Tri.dr (by decide) (by decide) fun r r0 r1 => ?_)
    have : r = 0 ∨ r = 1 := by omega
    rcases this with rfl | rfl
    · exact Tri.lift rfl ⟨1 + a, rfl, by omega, by omega⟩
    · exact Tri.lift rfl ⟨4, rfl, by decide, by decide⟩
  · rintro _ ⟨c, rfl, c0, c1⟩
    refine (Tri.tupC (b := 0) (c := 8) (L := 4) (ds := rangeL 0 c.toNat) (P := fun d => ∃ r : List Int, d = tI r ∧ (r.length = k.toNat ∧ ∀ x ∈ r, 0 ≤ x ∧ x ≤ most)) (Tri.lift (range1_ok (by omega) (by omega)) rfl) (by rw [rangeL_length]; omega) (by decide) fun d _ => (counts_ok (by omega) k1 m0 (by omega)).mono (Nat.le_refl _) fun d ⟨r, e, l, h⟩ => ⟨r, e, l, h⟩).mono (by decide) ?_
    rintro d ⟨es, rfl, el, q⟩
    obtain ⟨rs, rfl, hr⟩ := rows_ex es q
    rw [List.length_map, rangeL_length] at el
    exact ⟨rs, rfl, ⟨by omega, by omega, by omega, by omega, fun r h => (hr r h).1, fun r h => (hr r h).2⟩⟩
theorem isstock_eq {k : Nat} {S : List (List Int)} (st : Stk 50 k S) : m_is_stock (tT S) = some (.bool true) := by
  have f1 := st.one
  have f4 := st.four
  have k1 := st.k1
  have k4 := st.k4
  have ee : errD (tT S) = .none := by
    show (if 1 ≤ (S.map tI).length ∧ (S.map tI).length ≤ 4 then _ else _) = _
    rw [if_pos (by rw [List.length_map]; exact ⟨f1, f4⟩)]
    have hl : tlen ((S.map tI).headD .none) = k := by
      cases S with
      | nil => simp at f1
      | cons r S => show (r.map PyData.int).length = k; rw [List.length_map]; exact st.len r List.mem_cons_self
    rw [hl]
    have : errL k (S.map tI) = none := by
      unfold errL firstN
      rw [Option.map_eq_none_iff, List.find?_eq_none]
      intro q hq
      have hd : q.1 ∈ S.map tI := List.mem_of_getElem? (List.mem_zipIdx_iff_getElem?.mp hq)
      obtain ⟨r, hr, e⟩ := List.mem_map.mp hd
      rw [← e]
      have hg : goodRow k (tI r) = true := by
        unfold goodRow
        rw [decide_eq_true ⟨k1, k4⟩, Bool.true_and]
        show (decide ((r.map PyData.int).length = k) && (r.map PyData.int).all (numB 0 50)) = true
        rw [List.length_map, decide_eq_true (st.len r hr), Bool.true_and, List.all_eq_true]
        intro x hx
        obtain ⟨y, hy, rfl⟩ := List.mem_map.mp hx
        have := st.ge r hr y hy
        show (decide (0 ≤ y) && decide (y ≤ 50)) = true
        rw [decide_eq_true this.1, decide_eq_true this.2]
        rfl
      show ¬ (!goodRow k (tI r)) = true
      rw [hg]
      simp
    rw [this]
  have es : M_stock_error [.val (tT S)] = some .none := by
    rw [← ee]
    exact serr_eq (tT S)
  unfold m_is_stock
  simp only [op2, op1, cmp2, chain3, tst, notB, andB, orB, andD, orD, iteM, consM, starM, smallM, tupM, tupSM, lstM, argV, argK, comp1, comp1i, comp2, comp2i, comp11, seqM, rng1, rng2, zipSM, zip2M, zip3M, enumM, repM, joinM, catM, par3LM, put2M, popM, parLV, putVM, unpS, trg1M, sortSetM, orV, lrg1M, par3M, rdM, rdLM, partM, slcM, isiM, rtM, forM1, forM2, forM3, parM, unp2, unp3, ob_pure, ob_some, ob_lift, Option.pure_def, add_int, sub_int, lt_int, le_int, gt_int, ge_int, eq_int, ne_int, min_int, max_int, neg_int, bool_bool, not_bool, is_none, isn_none, nn_int, nn_none, nn_tup, len_tup, len_lst, tup_lst, tup_tup, it_lst, it_tup, int_bool, int_int, oint_int, addI_int, subI_int, flat_tI, flat_int, flat_none, Option.bind_some, Option.map_some, Int.zero_add, thenB, thenM, List.nil_append, List.length_map, ob_assoc, es]
/-- two drawers a, b put together -/
abbrev restL (n b : Nat) : List Nat := (List.range n).filter fun i => !decide ((i : Int) = (b : Int))
abbrev mrgS (S : List (List Int)) (k a b : Nat) : List (List Int) := (restL S.length b).map fun i => if i = a then cols [S.getD a [], S.getD b []] k else S.getD i []
theorem mem_rest {n b i : Nat} : i ∈ restL n b ↔ i < n ∧ i ≠ b := by
  rw [List.mem_filter, List.mem_range]
  simp
  omega
theorem rest_sum {n a b : Nat} (h : Nat → Int) (ha : a < n) (hb : b < n) (hab : a ≠ b) : ((restL n b).map fun i => if i = a then h a + h b else h i).sum = sumR n h := by
  have h1 := sF_drop (l := List.range n) (D := fun _ => true) (f := fun i => if i = a then h a + h b else h i) (i := b) List.nodup_range (List.mem_range.mpr hb)
  have h2 := sF_at (l := List.range n) (D := fun _ => true) (f := fun i => if i = a then h a + h b else h i) (g := h) (i := a) (x := h b) List.nodup_range (List.mem_range.mpr ha) (fun d _ hd => (if_neg hd).symm) (by simp)
  have e1 : ∀ f : Nat → Int, sF (List.range n) (fun _ => true) f = sumR n f := fun f => by unfold sF; rw [List.filter_eq_self.mpr fun _ _ => rfl]
  have e2 : sF (List.range n) (fun d => true && !(d == b)) (fun i => if i = a then h a + h b else h i) = ((restL n b).map fun i => if i = a then h a + h b else h i).sum := by
    unfold sF
    congr 2
    refine List.filter_congr fun i _ => ?_
    rw [Bool.eq_iff_iff]
    simp
    omega
  rw [e1, e2] at h1
  rw [e1, e1] at h2
  simp only [if_true] at h1 h2
  rw [if_neg (Ne.symm hab)] at h1
  omega
theorem zip_list (S : List (List Int)) : S.zipIdx = (List.range S.length).map fun i => (S.getD i [], i) := by
  refine List.ext_getElem (by simp) fun i h1 h2 => ?_
  have : i < S.length := by simpa using h1
  simp [List.getD, this]
theorem merged_gen {k a b : Nat} {S : List (List Int)} (hl : ∀ r ∈ S, r.length = k) (k4 : k ≤ 4) (h4 : S.length ≤ 4) (ha : a < S.length) (hb : b < S.length) (h50 : ∀ x ∈ cols [S.getD a [], S.getD b []] k, x ≤ 50) : M_merged [.val (tT S), .val (.int (a : Nat)), .val (.int (b : Nat))] = some (tT (mrgS S k a b)) := by
  show (((valsOf [.val (.int (a : Nat)), .val (.int (b : Nat))]).bind small) >>= fun ds => m_merged (tT S) (.tuple ds)) = _
  rw [show (valsOf [.val (.int (a : Nat)), .val (.int (b : Nat))]).bind small = some [.int (a : Nat), .int (b : Nat)] from rfl, ob_some]
  have et : M_totals_of [.val (.list [tI (S.getD a []), tI (S.getD b [])])] = some (tI (cols [S.getD a [], S.getD b []] k)) := totalsL_eq (rows := [S.getD a [], S.getD b []]) (by simp) (by simp) (fun r hr => by
    rcases List.mem_cons.mp hr with rfl | hr
    · exact row_len hl ha
    · rw [List.mem_singleton.mp hr]; exact row_len hl hb) (by omega)
  unfold m_merged
  simp only [op2, op1, cmp2, chain3, tst, notB, andB, orB, andD, orD, iteM, consM, starM, smallM, tupM, tupSM, lstM, argV, argK, comp1, comp1i, comp2, comp2i, comp11, seqM, rng1, rng2, zipSM, zip2M, zip3M, enumM, repM, joinM, catM, par3LM, put2M, popM, parLV, putVM, unpS, trg1M, sortSetM, orV, lrg1M, par3M, rdM, rdLM, partM, slcM, isiM, rtM, forM1, forM2, forM3, parM, unp2, unp3, ob_pure, ob_some, ob_lift, Option.pure_def, add_int, sub_int, lt_int, le_int, gt_int, ge_int, eq_int, ne_int, min_int, max_int, neg_int, bool_bool, not_bool, is_none, isn_none, nn_int, nn_none, nn_tup, len_tup, len_lst, tup_lst, tup_tup, it_lst, it_tup, int_bool, int_int, oint_int, addI_int, subI_int, flat_tI, flat_int, flat_none, Option.bind_some, Option.map_some, Int.zero_add, thenB, thenM, List.nil_append, List.length_map, ob_assoc]
  refine bindE (a := (.int (a : Nat), [.int (b : Nat)])) rfl ?_
  have hc := lcA_mapP (m := Option) (γ := Nat) (f := fun d => getD (tT S) d) (F := fun i : Nat => PyData.int (i : Nat)) (G := fun i => tI (S.getD i [])) [a, b] [] fun i hi => get_row (by
    simp only [List.mem_cons, List.not_mem_nil, or_false] at hi
    rcases hi with rfl | rfl
    · exact ha
    · exact hb)
  refine bindE (small_ok (by simp)) (bindE (a := [tI (S.getD a []), tI (S.getD b [])]) hc (bindE et ?_))
  refine bindE (it_tup _) (bindE (a := Fl.nx ()) (loop_same (m := Option) _ fun x hx => ?_) ?_)
  · obtain ⟨y, hy, rfl⟩ := List.mem_map.mp hx
    have := h50 y hy
    rw [gt_int]
    show (if decide (50 < y) = true then _ else _) = _
    rw [if_neg (by simp; omega)]
    rfl
  · rw [enum_map]
    show (small _ >>= _) = _
    rw [small_ok (by simp; omega), ob_some]
    refine bindE (lcA_filt2 (m := Option) (γ := List Int × Nat) (Ga := fun p => .int (p.2 : Nat)) (Gb := fun p => tI p.1) (G := fun p => if p.2 = a then tI (cols [S.getD a [], S.getD b []] k) else tI p.1) (p := fun p => !decide ((p.2 : Int) = (b : Int))) (fun _ => rfl) S.zipIdx [] (fun p _ => ?_) (fun p _ _ => ?_)) ?_
    · show (ninD (.int (p.2 : Nat)) (.list [.int (b : Nat)])).bind boolD = _
      rw [nin_one]
      rfl
    · show ((eqD (.int (p.2 : Nat)) (.int (a : Nat))).bind boolD >>= _) = _
      rw [eq_int]
      show (if ((p.2 : Int) == (a : Int)) = true then _ else _) = _
      by_cases z : p.2 = a
      · rw [if_pos (by simp [z]), if_pos z] <;> rfl
      · rw [if_neg (by simp; omega), if_neg z] <;> rfl
    · rw [List.nil_append]
      refine congrArg (fun l => some (PyData.tuple l)) ?_
      rw [zip_list, List.filter_map, List.map_map, List.map_map]
      refine List.map_congr_left fun i _ => ?_
      show (if i = a then _ else _) = tI (if i = a then _ else _)
      split <;> rfl
theorem mrg_at {k a b t j : Nat} {S : List (List Int)} (ha : a < S.length) (hb : b < S.length) (ht : t < (restL S.length b).length) (hj : j < k) : at2 (mrgS S k a b) t j = if (restL S.length b).getD t 0 = a then at2 S a j + at2 S b j else at2 S ((restL S.length b).getD t 0) j := by
  have e : (mrgS S k a b).getD t [] = if (restL S.length b).getD t 0 = a then cols [S.getD a [], S.getD b []] k else S.getD ((restL S.length b).getD t 0) [] := by
    simp [List.getD, ht]
  show ((mrgS S k a b).getD t []).getD j 0 = _
  rw [e]
  split
  · show (cols [S.getD a [], S.getD b []] k).getD j 0 = _
    rw [list_at (c := fun j => (col [S.getD a [], S.getD b []] j).sum) hj]
    simp [col]
  · rfl
theorem list_sumR {α : Type} {l : List α} {n : Nat} {f : α → Int} (a : α) (h : l.length = n) : sumR n (fun t => f (l.getD t a)) = (l.map f).sum := by
  subst h
  refine congrArg List.sum (List.ext_getElem (by simp) fun i h1 h2 => ?_)
  have : i < l.length := by simpa using h2
  simp [List.getD, this]
theorem mrg_tot {k a b j : Nat} {S : List (List Int)} (ha : a < S.length) (hb : b < S.length) (hab : a ≠ b) (hj : j < k) : totF (mrgS S k a b) j = totF S j := by
  show sumR (mrgS S k a b).length (fun t => at2 (mrgS S k a b) t j) = sumR S.length fun i => at2 S i j
  have hl : (mrgS S k a b).length = (restL S.length b).length := by simp
  rw [hl, ← rest_sum (fun i => at2 S i j) ha hb hab]
  rw [← list_sumR (n := (restL S.length b).length) (f := fun i => if i = a then at2 S a j + at2 S b j else at2 S i j) 0 rfl]
  exact sumR_congr fun t ht => mrg_at ha hb ht hj
theorem rest_len {n b : Nat} (hb : b < n) : (restL n b).length + 1 = n := by
  have h1 := sF_drop (l := List.range n) (D := fun _ => true) (f := fun _ => 1) (i := b) List.nodup_range (List.mem_range.mpr hb)
  have one : ∀ l : List Nat, (l.map fun _ => (1 : Int)).sum = l.length := fun l => by
    induction l with
    | nil => rfl
    | cons x l ih => rw [List.map_cons, List.sum_cons, ih, List.length_cons]; omega
  have e1 : sF (List.range n) (fun _ => true) (fun _ => 1) = n := by unfold sF; rw [List.filter_eq_self.mpr fun _ _ => rfl, one, List.length_range]
  have e2 : sF (List.range n) (fun d => true && !(d == b)) (fun _ => 1) = (restL n b).length := by
    unfold sF
    rw [one]
    congr 2
    refine List.filter_congr fun i _ => ?_
    rw [Bool.eq_iff_iff]
    simp
    omega
  rw [e1, e2] at h1
  simp only [if_true] at h1
  omega
theorem mrg_len {S : List (List Int)} {k a b : Nat} (hb : b < S.length) : (mrgS S k a b).length + 1 = S.length := by
  rw [List.length_map]
  exact rest_len hb
theorem pair_le {m : Int} {k : Nat} {S : List (List Int)} {a b : Nat} (st : Stk m k S) (hm : m ≤ 25) (ha : a < S.length) (hb : b < S.length) : ∀ x ∈ cols [S.getD a [], S.getD b []] k, 0 ≤ x ∧ x ≤ 50 := fun x hx => by
  obtain ⟨j, hj, rfl⟩ := List.mem_map.mp hx
  have h1 := stk_ge st ha (List.mem_range.mp hj)
  have h2 := stk_ge st hb (List.mem_range.mp hj)
  show 0 ≤ ([(S.getD a []).getD j 0, (S.getD b []).getD j 0] : List Int).sum ∧ ([(S.getD a []).getD j 0, (S.getD b []).getD j 0] : List Int).sum ≤ 50
  simp only [List.sum_cons, List.sum_nil]
  omega
theorem mrg_stk {m : Int} {k : Nat} {S : List (List Int)} {a b : Nat} (st : Stk m k S) (hm : m ≤ 25) (h2 : 2 ≤ S.length) (ha : a < S.length) (hb : b < S.length) : Stk 50 k (mrgS S k a b) := by
  have hl := mrg_len (S := S) (k := k) (a := a) hb
  have f4 := st.four
  refine ⟨by omega, by omega, st.k1, st.k4, fun r hr => ?_, fun r hr x hx => ?_⟩
  · obtain ⟨i, hi, rfl⟩ := List.mem_map.mp hr
    have hi' := (mem_rest.mp hi).1
    show (if i = a then cols [S.getD a [], S.getD b []] k else S.getD i []).length = k
    split
    · simp [cols]
    · exact row_len st.len hi'
  · obtain ⟨i, hi, rfl⟩ := List.mem_map.mp hr
    have hi' := (mem_rest.mp hi).1
    have hx' : x ∈ if i = a then cols [S.getD a [], S.getD b []] k else S.getD i [] := hx
    split at hx'
    · exact pair_le st hm ha hb x hx'
    · have := st.ge (S.getD i []) (by simp [List.getD, hi']) x hx'
      omega
theorem kept_ok {m m' : Int} {k : Nat} {S other rows : List (List Int)} (st : Stk m k S) (hm : m ≤ 50) (st' : Stk 50 k other) (ro : Wishes k m' rows) (ht : ∀ j, j < k → totF other j = totF S j) : m__law_kept_right (tT S) (tT other) (tT rows) = some (.bool true) := by
  have k4 := st.k4
  have eS : M_is_stock [.val (tT other)] = some (.bool true) := isstock_eq st'
  have e1 : M_totals_of [.val (tT S)] = some (tI (cols S k)) := totals_eq st.one st.four st.len (by omega)
  have e2 : M_totals_of [.val (tT other)] = some (tI (cols S k)) := by
    have : cols other k = cols S k := List.map_congr_left fun j hj => by
      have h1 := cols_tot (S := other) (List.mem_range.mp hj)
      have h2 := cols_tot (S := S) (List.mem_range.mp hj)
      rw [ht j (List.mem_range.mp hj), ← h2] at h1
      have h3 := list_at (c := fun j => (col other j).sum) (List.mem_range.mp hj)
      have h4 := list_at (c := fun j => (col S j).sum) (List.mem_range.mp hj)
      exact h3.symm.trans (h1.trans h4)
    rw [← this]
    exact totals_eq st'.one st'.four st'.len (by omega)
  have es : M_sure_total [.val (tT S), .val (tT rows)] = some (oD (sureT S rows k)) := suret_eq st ro
  have es' : M_sure_total [.val (tT other), .val (tT rows)] = some (oD (sureT S rows k)) := by
    rw [← sureT_same st ro st' ro ⟨unl_mono fun j hj => Int.le_of_eq (ht j hj), unl_mono fun j hj => Int.le_of_eq (ht j hj).symm⟩ (fun c hc => ⟨c, ⟨fun j hj => by rw [ht j hj]; exact hc.1 j hj, hc.2⟩, Int.le_refl _⟩) (fun c hc => ⟨c, ⟨fun j hj => by rw [← ht j hj]; exact hc.1 j hj, hc.2⟩, Int.le_refl _⟩)]
    exact suret_eq st' ro
  have e3 : M_spoilings_of [.val (tT rows)] = some (.tuple ((spoil rows).map tN)) := spoil_eq ro.four fun r hr => by rw [ro.len r hr]; exact k4
  have lrg : ∀ n : Nat, n ≤ 4 → lrgO1 (.int (n : Nat)) = some ((List.range n).map fun i : Nat => PyData.int (i : Nat)) := fun n hn => by
    rw [← range_map]
    show (if (0 : Int) ≤ (n : Int) ∧ (n : Int) ≤ 1000000 then _ else none) = _
    rw [if_pos ⟨by omega, by omega⟩, Int.toNat_natCast]
  have hne : (neD (tI (cols S k)) (tI (cols S k))).bind boolD = some false := by
    have sm : Sm (4 + 1) 1 (tI (cols S k)) := Sm.tI (fun x hx => by
      obtain ⟨j, hj, rfl⟩ := List.mem_map.mp hx
      have h1 := col_in st.len st.ge (List.mem_range.mp hj)
      have h2 : (S.length : Int) * m ≤ 4 * 50 := by
        have h3 := Int.mul_le_mul_of_nonneg_left (c := (S.length : Int)) hm (by omega)
        have := st.four
        omega
      omega) (by simp [cols]; exact k4)
    rw [ne_sm sm sm (by decide) (by decide), eqv_self (noB_tI _)]
    rfl
  unfold m__law_kept_right
  simp only [op2, op1, cmp2, chain3, tst, notB, andB, orB, andD, orD, iteM, consM, starM, smallM, tupM, tupSM, lstM, argV, argK, comp1, comp1i, comp2, comp2i, comp11, seqM, rng1, rng2, zipSM, zip2M, zip3M, enumM, repM, joinM, catM, par3LM, put2M, popM, parLV, putVM, unpS, trg1M, sortSetM, orV, lrg1M, par3M, rdM, rdLM, partM, slcM, isiM, rtM, forM1, forM2, forM3, parM, unp2, unp3, ob_pure, ob_some, ob_lift, Option.pure_def, add_int, sub_int, lt_int, le_int, gt_int, ge_int, eq_int, ne_int, min_int, max_int, neg_int, bool_bool, not_bool, is_none, isn_none, nn_int, nn_none, nn_tup, len_tup, len_lst, tup_lst, tup_tup, it_lst, it_tup, int_bool, int_int, oint_int, addI_int, subI_int, flat_tI, flat_int, flat_none, Option.bind_some, Option.map_some, Int.zero_add, thenB, thenM, List.nil_append, List.length_map, ob_assoc, eS, e1, e2, es, es', e3]
  refine bindE (a := false) ?_ ?_
  · rw [if_neg (by decide)]
    exact hne
  rw [if_neg Bool.false_ne_true]
  refine bindE (oD_ne _) ?_
  rw [if_neg Bool.false_ne_true]
  have hcut : sliceD (.tuple ((spoil rows).map tN)) none (some 9) = some (.tuple (((spoil rows).take 9).map tN)) := by
    rw [cut_loA (by decide), List.map_take]
    rfl
  refine bindE hcut (bindE (it_tup _) (bindE (a := Fl.nx ()) (loop_same (m := Option) _ fun x hx => ?_) rfl))
  obtain ⟨s, hs, rfl⟩ := List.mem_map.mp hx
  have hs' := List.mem_of_mem_take hs
  obtain ⟨hsl, hsk⟩ := spoil_lt ro hs'
  have ec : M_caps_of [.val (tT rows), .val (tN s)] = some (tO (capsO (rows.zip s) k)) := caps_eqO ro.one ro.len (by omega) hsl hsk
  have hroom : room other (capsO (rows.zip s) k) (List.range other.length) = room S (capsO (rows.zip s) k) (List.range S.length) := by
    rw [room_sum (capsO_len _ _), room_sum (capsO_len _ _)]
    refine congrArg List.sum (List.map_congr_left fun j hj => ?_)
    have := ht j (List.mem_range.mp hj)
    show capped (totF other j) _ = capped (totF S j) _
    rw [this]
  have er : M_room_in [.val (tT S), .val (tO (capsO (rows.zip s) k)), .val (tN (List.range S.length))] = some (.int (room S (capsO (rows.zip s) k) (List.range S.length))) := room_eq st.len (capsO_len _ _) (fun d hd => List.mem_range.mp hd) (by have := st.four; simp; omega)
  have er' : M_room_in [.val (tT other), .val (tO (capsO (rows.zip s) k)), .val (tN (List.range other.length))] = some (.int (room S (capsO (rows.zip s) k) (List.range S.length))) := by
    rw [← hroom]
    exact room_eq st'.len (capsO_len _ _) (fun d hd => List.mem_range.mp hd) (by have := st'.four; simp; omega)
  refine bindE ec (bindE (lrg _ st.four) (bindE er (bindE (lrg _ st'.four) (bindE er' (bindE (a := false) ?_ rfl)))))
  rw [ne_int]
  simp [bool_bool]
/-! all drawers put together -/
theorem merged_stepU {m : Int} {k u : Nat} {S : List (List Int)} (st : Stk m k S) (h50 : ∀ x ∈ cols S k, x ≤ 50) (h1 : 1 ≤ u) (hu : u < S.length) : M_merged [.val (tT (cols (S.take u) k :: S.drop u)), .val (.int 0), .val (.int 1)] = some (tT (cols (S.take (u + 1)) k :: S.drop (u + 1))) := by
  have f4 := st.four
  have hd : S.drop u = S[u] :: S.drop (u + 1) := List.drop_eq_getElem_cons hu
  have ht3 : S.take (u + 1) = S.take u ++ [S[u]] := by rw [List.take_succ, List.getElem?_eq_getElem hu]; rfl
  have hc : cols [cols (S.take u) k, S[u]] k = cols (S.take (u + 1)) k := by rw [ht3]; exact cols_snoc
  rw [hd, ← hc]
  refine merged_eq (by simp [cols]) (st.len _ (List.getElem_mem hu)) st.k4 (by simp; omega) ?_
  rw [hc]
  exact take_le st.len (fun r hr x hx => (st.ge r hr x hx).1) h50
theorem while_all {m : Int} {k : Nat} {S : List (List Int)} (st : Stk m k S) (h50 : ∀ x ∈ cols S k, x ≤ 50) {t : D → Option Bool} {b : D → Option (Fl D)} (ht : ∀ n : Nat, ∀ xs : List (List Int), xs.length = n → t (tT xs) = some (decide (1 < n))) (hb : ∀ d, b d = (M_merged [.val d, .val (.int 0), .val (.int 1)] >>= fun v => some (Fl.nx v))) :
    ∀ (d u fuel : Nat), 1 ≤ u → u + d = S.length → d < fuel → whileM (m := Option) t b fuel (tT (cols (S.take u) k :: S.drop u)) = some (.nx (tT [cols S k]))
  | 0, u, fuel, h1, hu, hf => by
    cases fuel with
    | zero => omega
    | succ fuel =>
      have : u = S.length := by omega
      subst this
      rw [List.take_length, List.drop_length]
      unfold whileM
      rw [ht 1 [cols S k] rfl, ob_some]
      rfl
  | d + 1, u, fuel, h1, hu, hf => by
    cases fuel with
    | zero => omega
    | succ fuel =>
      unfold whileM
      rw [ht (S.length - u + 1) (cols (S.take u) k :: S.drop u) (by simp), ob_some, if_pos (decide_eq_true (by omega)), hb, merged_stepU st h50 h1 (by omega)]
      exact while_all st h50 ht hb d (u + 1) fuel (by omega) (by omega) (by omega)
theorem cols_self {k : Nat} {r : List Int} (h : r.length = k) : cols [r] k = r := by
  refine List.ext_getElem (by simp [cols, h]) fun i h1 h2 => ?_
  simp [cols, col, List.getD, h2]
theorem tot_sizes {m : Int} {k : Nat} {S : List (List Int)} (st : Stk m k S) : sumR k (totF S) = (S.map List.sum).sum := by
  have h1 : (S.map List.sum).sum = sumR S.length fun i => (S.getD i []).sum := by
    refine congrArg List.sum (List.ext_getElem (by simp) fun i h1 h2 => ?_)
    have : i < S.length := by simpa using h1
    simp [List.getD, this]
  rw [h1]
  have h2 : (sumR S.length fun i => (S.getD i []).sum) = sumR S.length fun i => sumR k fun j => at2 S i j := sumR_congr fun i hi => (getD_sum (row_len st.len hi)).symm
  rw [h2, sumR_swap]
  rfl
theorem Top.lt {k : Nat} {rows : List (List Int)} {T : Nat → Int} {v : Int} (h : Top k rows T v) (hu : ¬ Unl k rows T) : v < sumR k T := by
  obtain ⟨c, hc, rfl⟩ := h.1
  apply Classical.byContradiction
  intro hn
  refine hu (unl_mono (c := c) (fun j hj => ?_) hc.2)
  have := sum_eq_ptw (f := c) (g := T) (List.range k) (fun j hj => (hc.1 j (List.mem_range.mp hj)).2) (by show sumR k T ≤ sumR k c; omega) j (List.mem_range.mpr hj)
  omega
theorem Top.ge {k : Nat} {rows : List (List Int)} {T : Nat → Int} {v : Int} (h : Top k rows T v) : 0 ≤ v := by
  obtain ⟨c, hc, rfl⟩ := h.1
  have := sumR_le (n := k) (f := fun _ => 0) (g := c) fun j hj => (hc.1 j hj).1
  have z : sumR k (fun _ => (0 : Int)) = 0 := zero_sum _
  omega
theorem or_oD (o : Option Int) : ∃ t, truD (oD o) = some t ∧ (if t = true then some (oD o) else some (PyData.int 0)) = some (PyData.int (o.getD 0)) := by
  cases o with
  | none => exact ⟨false, rfl, rfl⟩
  | some e =>
    refine ⟨!(e == 0), rfl, ?_⟩
    show (if (!(e == 0)) = true then some (PyData.int e) else some (PyData.int 0)) = some (PyData.int e)
    by_cases h : e = 0
    · subst h; rfl
    · rw [if_pos (by simp [h])]
theorem whole_ok {m m' : Int} {k : Nat} {S rows : List (List Int)} (st : Stk m k S) (hm : m ≤ 12) (ro : Wishes k m' rows) : m__law_whole_right (tT S) (tT rows) = some (.bool true) := by
  have f1 := st.one
  have f4 := st.four
  have k4 := st.k4
  have h50 : ∀ x ∈ cols S k, x ≤ 50 := fun x hx => by
    obtain ⟨j, hj, rfl⟩ := List.mem_map.mp hx
    have h1 := col_in st.len st.ge (List.mem_range.mp hj)
    have h2 : (S.length : Int) * m ≤ 4 * 12 := by
      have h3 := Int.mul_le_mul_of_nonneg_left (c := (S.length : Int)) hm (by omega)
      omega
    omega
  obtain ⟨v, hv, hsa, hsb⟩ := sureT_sem st ro
  have es : M_sure_total [.val (tT S), .val (tT rows)] = some (oD (sureT S rows k)) := suret_eq st ro
  have st1 := one_stk st h50
  have es1 : M_sure_total [.val (tT [cols S k]), .val (tT rows)] = some (oD (sureT S rows k)) := by
    rw [← one_sureT st ro h50]
    exact suret_eq st1 ro
  have esn : M_sure_number [.val (tT [cols S k]), .val (tT rows), .val (.int 0)] = some (oD (sureT S rows k)) := by
    show m_sure_number _ _ _ = _
    unfold m_sure_number
    simp only [op2, op1, cmp2, chain3, tst, notB, andB, orB, andD, orD, iteM, consM, starM, smallM, tupM, tupSM, lstM, argV, argK, comp1, comp1i, comp2, comp2i, comp11, seqM, rng1, rng2, zipSM, zip2M, zip3M, enumM, repM, joinM, catM, par3LM, put2M, popM, parLV, putVM, unpS, trg1M, sortSetM, orV, lrg1M, par3M, rdM, rdLM, partM, slcM, isiM, rtM, forM1, forM2, forM3, parM, unp2, unp3, ob_pure, ob_some, ob_lift, Option.pure_def, add_int, sub_int, lt_int, le_int, gt_int, ge_int, eq_int, ne_int, min_int, max_int, neg_int, bool_bool, not_bool, is_none, isn_none, nn_int, nn_none, nn_tup, len_tup, len_lst, tup_lst, tup_tup, it_lst, it_tup, int_bool, int_int, oint_int, addI_int, subI_int, flat_tI, flat_int, flat_none, Option.bind_some, Option.map_some, Int.zero_add, thenB, thenM, List.nil_append, List.length_map, ob_assoc]
    exact bindE (a := tI (cols S k)) rfl es1
  have ez : M_sizes_of [.val (tT S)] = some (tI (S.map List.sum)) := sizes_eq (by omega)
  have h0 : tT S = tT (cols (S.take 1) k :: S.drop 1) := by
    cases S with
    | nil => simp at f1
    | cons r S =>
      show tT (r :: S) = tT (cols [r] k :: S)
      rw [cols_self (st.len r List.mem_cons_self)]
  have hwh : whileM (m := Option) (fun a => lenD a >>= fun dx => (gtD dx (PyData.int 1)).bind boolD) (fun a => M_merged [.val a, .val (.int 0), .val (.int 1)] >>= fun v => some (Fl.nx v)) 8 (tT S) = some (.nx (tT [cols S k])) := by
    rw [h0]
    refine while_all st h50 (fun n xs hn => ?_) (fun d => rfl) (S.length - 1) 1 8 (by omega) (by omega) (by omega)
    rw [len_tup, List.length_map, hn, ob_some, gt_int]
    show some (decide ((1 : Int) < (n : Int))) = _
    congr 1
    rw [Bool.eq_iff_iff]
    simp
    omega
  have hz := tot_sizes st
  have hz0 : 0 ≤ (S.map List.sum).sum := by
    rw [← hz]
    have := sumR_le (n := k) (f := fun _ => 0) (g := totF S) fun j hj => tot_ge st hj
    have y : sumR k (fun _ => (0 : Int)) = 0 := zero_sum _
    omega
  have he0 : 0 ≤ (sureT S rows k).getD 0 ∧ (sureT S rows k).getD 0 ≤ (S.map List.sum).sum := by
    have g0 := hv.ge
    by_cases hu : Unl k rows (totF S)
    · rw [hsa hu]; exact ⟨Int.le_refl _, hz0⟩
    · rw [hsb hu]
      have := hv.lt hu
      show 0 ≤ v + 1 ∧ v + 1 ≤ _
      omega
  have esum := sum_tI (S.map List.sum)
  generalize (S.map List.sum).sum = z at *
  generalize he : (sureT S rows k).getD 0 = e0 at *
  obtain ⟨tb, ht1, ht2⟩ := or_oD (sureT S rows k)
  rw [he] at ht2
  have hdiv : 0 ≤ z / 2 ∧ z / 2 ≤ z := by omega
  have hsort : sortSetD (.list [.int 0, .int z, .int (z / 2), .int (max 0 (e0 - 1)), .int e0]) = some ((sortI (dedI [0, z, z / 2, max 0 (e0 - 1), e0])).map .int) := rfl
  have hadd : addD (.list [.int 0, .int z, .int (z / 2)]) (.list [.int (max 0 (e0 - 1)), .int e0]) = some (.list [.int 0, .int z, .int (z / 2), .int (max 0 (e0 - 1)), .int e0]) := add_lst (by simp)
  unfold m__law_whole_right
  simp only [op2, op1, cmp2, chain3, tst, notB, andB, orB, andD, orD, iteM, consM, starM, smallM, tupM, tupSM, lstM, argV, argK, comp1, comp1i, comp2, comp2i, comp11, seqM, rng1, rng2, zipSM, zip2M, zip3M, enumM, repM, joinM, catM, par3LM, put2M, popM, parLV, putVM, unpS, trg1M, sortSetM, orV, lrg1M, par3M, rdM, rdLM, partM, slcM, isiM, rtM, forM1, forM2, forM3, parM, unp2, unp3, ob_pure, ob_some, ob_lift, Option.pure_def, add_int, sub_int, lt_int, le_int, gt_int, ge_int, eq_int, ne_int, min_int, max_int, neg_int, bool_bool, not_bool, is_none, isn_none, nn_int, nn_none, nn_tup, len_tup, len_lst, tup_lst, tup_tup, it_lst, it_tup, int_bool, int_int, oint_int, addI_int, subI_int, flat_tI, flat_int, flat_none, Option.bind_some, Option.map_some, Int.zero_add, thenB, thenM, List.nil_append, List.length_map, ob_assoc, es]
  refine bindE hwh ?_
  refine bindE ez (bindE esum (bindE esn (bindE (oD_ne _) ?_)))
  rw [if_neg Bool.false_ne_true]
  refine bindE (div_int (by decide) (by decide)) (bindE ht1 (bindE ht2 (bindE (sub_int _ _) (bindE (max_int _ _) (bindE ht1 (bindE ht2 (bindE hadd (bindE hsort (bindE (a := Fl.nx ()) (loop_same (m := Option) _ fun x hx => ?_) rfl)))))))))
  obtain ⟨x, hxm, rfl⟩ := List.mem_map.mp hx
  have hx2 : x ∈ [0, z, z / 2, max 0 (e0 - 1), e0] := mem_dedI.mp ((sortI_perm _).mem_iff.mp hxm)
  have hx3 : 0 ≤ x ∧ x ≤ z := by
    simp only [List.mem_cons, List.not_mem_nil, or_false] at hx2
    omega
  have ei : M_is_sure [.val (tT [cols S k]), .val (tT rows), .val (.tuple [.int x])] = some (.bool (sureB [cols S k] rows [x] k)) := issure_eq (P := [x]) st1 ro rfl fun d hd => by
    obtain rfl : d = 0 := by simp at hd; exact hd
    exact hx3.1
  have hone := one_sure st ro h50 hx3.1 (by rw [hz]; exact hx3.2) hv
  refine bindE ei ?_
  by_cases hu : Unl k rows (totF S)
  · have hb1 : sureB [cols S k] rows [x] k = false := by
      cases y : sureB [cols S k] rows [x] k with
      | false => rfl
      | true => exact absurd hu (hone.mp y).1
    rw [hsa hu, hb1]
    rfl
  · have hb1 : sureB [cols S k] rows [x] k = decide (v + 1 ≤ x) := by
      rw [Bool.eq_iff_iff, hone, decide_eq_true_eq]
      exact ⟨fun y => by have := y.2; omega, fun y => ⟨hu, by omega⟩⟩
    rw [hsb hu, hb1]
    refine bindE (a := PyData.bool (decide (v + 1 ≤ x))) ?_ ?_
    · rw [if_pos (by rfl)]
      show geD (.int x) (.int (v + 1)) = _
      rw [ge_int]
      rfl
    · cases decide (v + 1 ≤ x) <;> rfl
theorem range2_ok {i j : Int} (h1 : -1000 < i) (h2 : i < 1000) (h3 : -1000 < j) (h4 : j < 1000) : rangeD2 (.int i) (.int j) = some (rangeL i (j - i).toNat) := by
  show (if i.natAbs < 2 ^ 62 ∧ j.natAbs < 2 ^ 62 then _ else none) = _
  rw [if_pos ⟨by omega, by omega⟩]
theorem divided_sure {m m' : Int} {k a b : Nat} {S rows : List (List Int)} {P W Q : List Int} (st : Stk m k S) (st' : Stk 50 k (mrgS S k a b)) (ro : Wishes k m' rows) (ha : a < S.length) (hb : b < S.length) (hab : a ≠ b) (hW : W.length = (restL S.length b).length) (hW0 : ∀ t, t < W.length → 0 ≤ W.getD t 0) (hWe : ∀ t, t < W.length → W.getD t 0 = if (restL S.length b).getD t 0 = a then P.getD a 0 + P.getD b 0 else P.getD ((restL S.length b).getD t 0) 0)
    (hQ : Q.length = S.length) (hQ0 : ∀ d, d < S.length → 0 ≤ Q.getD d 0) (hQe : ∀ d, d < S.length → d ≠ a → d ≠ b → Q.getD d 0 = P.getD d 0) (hQs : Q.getD a 0 + Q.getD b 0 = P.getD a 0 + P.getD b 0) : sureB (mrgS S k a b) rows W k = true → sureB S rows Q k = true := by
  have hl : (mrgS S k a b).length = (restL S.length b).length := by simp
  rw [sure_iff st' ro (by rw [hW, hl]) (by rw [hl, ← hW]; exact hW0), sure_iff st ro hQ hQ0]
  intro h f hf hu
  have hin : ∀ t, t < (restL S.length b).length → (restL S.length b).getD t 0 < S.length ∧ (restL S.length b).getD t 0 ≠ b := fun t ht => mem_rest.mp (by simp [List.getD, ht])
  refine h (fun t j => if (restL S.length b).getD t 0 = a then f a j + f b j else f ((restL S.length b).getD t 0) j) ⟨fun t ht j hj => ?_, fun t ht => ?_⟩ (unl_mono (fun j hj => ?_) hu)
  · rw [hl] at ht
    rw [mrg_at ha hb ht hj]
    have h1 := hf.1 a ha j hj
    have h2 := hf.1 b hb j hj
    have h3 := hf.1 _ (hin t ht).1 j hj
    by_cases z : (restL S.length b).getD t 0 = a
    · simp only [if_pos z]; omega
    · simp only [if_neg z]; exact h3
  · rw [hl] at ht
    rw [hWe t (by omega)]
    by_cases z : (restL S.length b).getD t 0 = a
    · simp only [if_pos z]
      rw [sumR_add, hf.2 a ha, hf.2 b hb, hQs]
    · simp only [if_neg z]
      exact (hf.2 _ (hin t ht).1).trans (hQe _ (hin t ht).1 z (hin t ht).2)
  · rw [hl, list_sumR (f := fun i => if i = a then f a j + f b j else f i j) 0 rfl, rest_sum (fun i => f i j) ha hb hab]
    exact Int.le_refl _
theorem divided_ok {m m' : Int} {k a b : Nat} {S rows : List (List Int)} (st : Stk m k S) (hm : m ≤ 12) (ro : Wishes k m' rows) (h2 : 2 ≤ S.length) (ha : a < S.length) (hb : b < S.length) (hab : a ≠ b) : Tri 5 (m__law_divided_right (tT S) (tT rows) (.int (a : Nat)) (.int (b : Nat))) (fun d => d = .bool true) := by
  have f4 := st.four
  have k4 := st.k4
  have st' := mrg_stk (a := a) st (by omega) h2 ha hb
  have em : M_merged [.val (tT S), .val (.int (a : Nat)), .val (.int (b : Nat))] = some (tT (mrgS S k a b)) := merged_gen st.len k4 f4 ha hb fun x hx => (pair_le st (by omega) ha hb x hx).2
  have ez : M_sizes_of [.val (tT S)] = some (tI (S.map List.sum)) := sizes_eq (by omega)
  have hsz : ∀ r ∈ S, 0 ≤ r.sum ∧ r.sum ≤ 48 := fun r hr => by
    have h1 := sum_in (B := 12) r fun x hx => by have := st.ge r hr x hx; omega
    rw [st.len r hr] at h1
    omega
  unfold m__law_divided_right
  simp only [op2, op1, cmp2, chain3, tst, notB, andB, orB, andD, orD, iteM, consM, starM, smallM, tupM, tupSM, lstM, argV, argK, comp1, comp1i, comp2, comp2i, comp11, seqM, rng1, rng2, zipSM, zip2M, zip3M, enumM, repM, joinM, catM, par3LM, put2M, popM, parLV, putVM, unpS, trg1M, sortSetM, orV, lrg1M, par3M, rdM, rdLM, partM, slcM, isiM, rtM, forM1, forM2, forM3, parM, unp2, unp3, wb_assoc, wb_pure]
  refine Tri.bindU em (Tri.bindU ez (Tri.bindL (it_tup _) (Tri.bindL (small_ok (by rw [List.length_map, List.length_map]; omega)) ?_)))
  refine Tri.st (b := 4 * 1) ((Tri.comp (c := 1) (P := fun d e => ∃ z : Int, d = .int z ∧ ∃ x : Int, e = .int x ∧ 0 ≤ x ∧ x ≤ z) ((S.map List.sum).map PyData.int) [] fun d hd => ?h1).le (by rw [List.length_map, List.length_map]; omega)) ?h2
  case h1 =>
    obtain ⟨z, hz, rfl⟩ := List.mem_map.mp hd
    obtain ⟨r, hr, rfl⟩ := List.mem_map.mp hz
    have := hsz r hr
    refine Tri.bindL (add_int _ _) ?_
    refine (Tri.draw (by omega) (by omega)).mono (Nat.le_refl _) ?_
    rintro _ ⟨x, rfl, x0, x1⟩
    exact ⟨_, rfl, x, rfl, x0, by omega⟩
  case h2 =>
    rintro out ⟨es, eo, el0, hes⟩
    have eo2 : es = out := by rw [eo]; rfl
    subst eo2
    clear eo
    rw [List.length_map, List.length_map] at el0
    have hP : ∃ P : List Int, es = P.map PyData.int ∧ P.length = S.length ∧ ∀ d, d < S.length → 0 ≤ P.getD d 0 ∧ P.getD d 0 ≤ (S.getD d []).sum := by
      have key : ∀ i, i < S.length → ∃ x : Int, es[i]? = some (.int x) ∧ 0 ≤ x ∧ x ≤ (S.getD i []).sum := fun i hi => by
        have h1 : ((S.map List.sum).map PyData.int)[i]? = some (.int (S.getD i []).sum) := by simp [List.getD, hi]
        have hi2 : i < es.length := by omega
        obtain ⟨z, er, x, ex, x0, x1⟩ := hes i _ _ h1 (List.getElem?_eq_getElem hi2)
        cases er
        exact ⟨x, by rw [List.getElem?_eq_getElem hi2, ex], x0, x1⟩
      refine ⟨(List.range S.length).map fun i => if h : i < S.length then (key i h).choose else 0, ?_, by simp, fun d hd => ?_⟩
      · refine List.ext_getElem? fun i => ?_
        by_cases hi : i < S.length
        · rw [(key i hi).choose_spec.1]
          simp [hi]
        · rw [List.getElem?_eq_none (by omega), List.getElem?_eq_none (by simp; omega)]
      · have := (key d hd).choose_spec.2
        simpa [List.getD, hd] using this
    obtain ⟨P0, rfl, hl0, hP0⟩ := hP
    have haP : a < P0.length := by omega
    have eza : (S.map List.sum).getD a 0 = (S.getD a []).sum := by simp [List.getD, ha]
    refine Tri.bindL (at_intL haP) (Tri.bindL (at_int (by rw [List.length_map]; exact ha)) (Tri.dr (by decide) (by decide) fun r r0 r1 => ?_))
    obtain ⟨pa, ep, p0, p1⟩ : ∃ pa : Int, getD (.list [.int (P0.getD a 0), .int ((S.map List.sum).getD a 0)]) (.int r) = some (.int pa) ∧ 0 ≤ pa ∧ pa ≤ (S.getD a []).sum := by
      have hh := hP0 a ha
      have : r = 0 ∨ r = 1 := by omega
      rcases this with rfl | rfl
      · exact ⟨_, rfl, hh.1, hh.2⟩
      · exact ⟨_, rfl, by rw [eza]; omega, by rw [eza]; exact Int.le_refl _⟩
    refine Tri.bindL ep (Tri.bindL (flat_int _) (Tri.bindL (putI haP) ?_))
    have hPl : (P0.set a pa).length = S.length := by simp [hl0]
    have hPb : ∀ d, d < S.length → 0 ≤ (P0.set a pa).getD d 0 ∧ (P0.set a pa).getD d 0 ≤ (S.getD d []).sum := fun d hd => by
      rw [set_get haP]
      by_cases z : d = a
      · subst z; rw [if_pos rfl]; exact ⟨p0, p1⟩
      · rw [if_neg z]; exact hP0 d hd
    have hsA : ∀ d, d < S.length → (S.getD d []).sum ≤ 48 := fun d hd => (hsz _ (by simp [List.getD, hd])).2
    generalize P0.set a pa = P at hPl hPb ⊢
    have hPa := hPb a ha
    have hPB := hPb b hb
    have hSa := hsA a ha
    have hSb := hsA b hb
    refine Tri.bindL (len_lst _) ?_
    rw [List.length_map, hPl]
    refine Tri.bindL (range1_nat (by omega) (by omega)) (Tri.bindL (small_ok (by simp; omega)) ?_)
    rw [Int.toNat_natCast]
    refine Tri.stE (lcA_filtP (m := W) (F := fun i : Nat => PyData.int (i : Nat)) (G := fun i => .int (P.getD i 0 + P.getD b 0 * (if ((i : Int) == (a : Int)) = true then 1 else 0))) (p := fun i => !decide ((i : Int) = (b : Int))) (List.range S.length) [] (fun i hi => ?_) (fun i hi _ => ?_)) ?_
    · exact liE (by rw [ne_int]; rfl)
    · have hin := List.mem_range.mp hi
      refine bindE (liE (at_intL (by omega))) (bindE (liE (at_intL (by omega))) (bindE (liE (eq_int _ _)) (bindE (liE (int_bool _)) (bindE (liE (mul_int (.inl ⟨by omega, by omega⟩))) (liE (add_int _ _))))))
    rw [List.nil_append, int_map]
    have hWl : ((restL S.length b).map fun i => P.getD i 0 + P.getD b 0 * (if ((i : Int) == (a : Int)) = true then 1 else 0)).length = (restL S.length b).length := by simp
    have hWe : ∀ t, t < ((restL S.length b).map fun i => P.getD i 0 + P.getD b 0 * (if ((i : Int) == (a : Int)) = true then 1 else 0)).length → ((restL S.length b).map fun i => P.getD i 0 + P.getD b 0 * (if ((i : Int) == (a : Int)) = true then 1 else 0)).getD t 0 = if (restL S.length b).getD t 0 = a then P.getD a 0 + P.getD b 0 else P.getD ((restL S.length b).getD t 0) 0 := fun t ht => by
      rw [hWl] at ht
      have e : ((restL S.length b).map fun i => P.getD i 0 + P.getD b 0 * (if ((i : Int) == (a : Int)) = true then 1 else 0)).getD t 0 = P.getD ((restL S.length b).getD t 0) 0 + P.getD b 0 * (if (((restL S.length b).getD t 0 : Nat) : Int) == (a : Int) then 1 else 0) := by simp [List.getD, ht]
      rw [e]
      by_cases z : (restL S.length b).getD t 0 = a
      · rw [if_pos z, z, if_pos (by simp), Int.mul_one]
      · rw [if_neg z, if_neg (by rw [beq_iff_eq]; omega), Int.mul_zero, Int.add_zero]
    have hin : ∀ t, t < (restL S.length b).length → (restL S.length b).getD t 0 < S.length := fun t ht => ((mem_rest (n := S.length) (b := b)).mp (by simp only [List.getD_eq_getElem?_getD, List.getElem?_eq_getElem ht, Option.getD_some]; exact List.getElem_mem ht)).1
    have hW0 : ∀ t, t < ((restL S.length b).map fun i => P.getD i 0 + P.getD b 0 * (if ((i : Int) == (a : Int)) = true then 1 else 0)).length → 0 ≤ ((restL S.length b).map fun i => P.getD i 0 + P.getD b 0 * (if ((i : Int) == (a : Int)) = true then 1 else 0)).getD t 0 := fun t ht => by
      rw [hWe t ht]
      rw [hWl] at ht
      have := (hPb _ (hin t ht)).1
      split <;> omega
    generalize ((restL S.length b).map fun i => P.getD i 0 + P.getD b 0 * (if ((i : Int) == (a : Int)) = true then 1 else 0)) = Wd at hWl hWe hW0 ⊢
    have ei' : M_is_sure [.val (tT (mrgS S k a b)), .val (tT rows), .val (tI Wd)] = some (.bool (sureB (mrgS S k a b) rows Wd k)) := issure_eq st' ro (by rw [hWl]; simp) (fun d hd => hW0 d (by rw [hWl]; simpa using hd))
    refine Tri.bindL (flats_ok (noL_ints Wd)) (Tri.bindL (tup_lst _) (Tri.bindU ei' (Tri.bindL (bool_bool _) ?_)))
    cases hB : sureB (mrgS S k a b) rows Wd k with
    | false => exact (Tri.pure (φ := fun d => d = PyData.bool true) (a := PyData.bool true) rfl).le (Nat.zero_le _)
    | true =>
      rw [if_neg (by decide)]
      have ezb : (S.map List.sum).getD b 0 = (S.getD b []).sum := by simp [List.getD, hb]
      refine Tri.bindL (at_intL (by omega)) (Tri.bindL (at_intL (by omega)) (Tri.bindL (add_int _ _) (Tri.bindL (flat_int _) (Tri.bindL (at_int (by rw [List.length_map]; exact hb)) (Tri.bindL (sub_int _ _) (Tri.bindL (max_int _ _) (Tri.bindL (at_int (by rw [List.length_map]; exact ha)) (Tri.bindL (min_int _ _) (Tri.bindL (add_int _ _) ?_)))))))))
      rw [eza, ezb]
      refine Tri.bindL (range2_ok (by omega) (by omega) (by omega) (by omega)) ?_
      refine Tri.thM (b := 0) ((Tri.loopR (c := 0) (I := fun _ acc => ∃ Q : List Int, acc = Q.map PyData.int ∧ Q.length = S.length ∧ ∀ d, d < S.length → d ≠ a → d ≠ b → Q.getD d 0 = P.getD d 0) (R := fun _ => False) ⟨P, rfl, hPl, fun _ _ _ _ => rfl⟩ fun i acc hi ⟨Q, ea, hQl, hQe⟩ => ?hb).le (by omega)) (fun _ _ => (Tri.pure (φ := fun d => d = PyData.bool true) (a := PyData.bool true) rfl).le (Nat.zero_le _)) (by omega)
      subst ea
      generalize hx : max 0 (P.getD a 0 + P.getD b 0 - (S.getD b []).sum) + (i : Int) = x
      have hxr : 0 ≤ x ∧ x ≤ P.getD a 0 + P.getD b 0 := by omega
      have haQ : a < Q.length := by omega
      have hbQ : b < (Q.set a x).length := by rw [List.length_set]; omega
      have hg : ∀ d, ((Q.set a x).set b (P.getD a 0 + P.getD b 0 - x)).getD d 0 = if d = b then P.getD a 0 + P.getD b 0 - x else if d = a then x else Q.getD d 0 := fun d => by rw [set_get hbQ, set_get haQ]
      have hQ0 : ∀ d, d < S.length → 0 ≤ ((Q.set a x).set b (P.getD a 0 + P.getD b 0 - x)).getD d 0 := fun d hd => by
        rw [hg d]
        split
        · omega
        · split
          · omega
          · rename_i z1 z2
            rw [hQe d hd z2 z1]
            exact (hPb d hd).1
      have hQ2 : ∀ d, d < S.length → d ≠ a → d ≠ b → ((Q.set a x).set b (P.getD a 0 + P.getD b 0 - x)).getD d 0 = P.getD d 0 := fun d hd z1 z2 => by rw [hg d, if_neg z2, if_neg z1]; exact hQe d hd z1 z2
      have ei : M_is_sure [.val (tT S), .val (tT rows), .val (tI ((Q.set a x).set b (P.getD a 0 + P.getD b 0 - x)))] = some (.bool true) := by
        rw [← divided_sure st st' ro ha hb hab hWl hW0 hWe (Q := (Q.set a x).set b (P.getD a 0 + P.getD b 0 - x)) (by simp [hQl]) hQ0 hQ2 (by rw [hg a, hg b, if_neg hab, if_pos rfl, if_pos rfl]; omega) hB]
        exact issure_eq st ro (by simp [hQl]) hQ0
      refine Tri.bindL (sub_int _ _) (Tri.bindL (putI haQ) (Tri.bindL (putI hbQ) (Tri.bindL (tup_lst _) (Tri.bindU ei (Tri.bindL (bool_bool _) ?_)))))
      exact Tri.nx ⟨_, rfl, by simp [hQl], hQ2⟩
theorem zero_stk {m : Int} {k : Nat} {S : List (List Int)} (st : Stk m k S) (hm : 0 ≤ m) (h4 : S.length < 4) : Stk m k (S ++ [List.replicate k 0]) := by
  refine ⟨by simp, by simp; omega, st.k1, st.k4, fun r hr => ?_, fun r hr x hx => ?_⟩ <;> rcases List.mem_append.mp hr with h | h
  · exact st.len r h
  · rw [List.mem_singleton.mp h]; simp
  · exact st.ge r h x hx
  · rw [List.mem_singleton.mp h] at hx
    rw [List.eq_of_mem_replicate hx]
    omega
theorem zero_tot {k j : Nat} {S : List (List Int)} (hj : j < k) : totF (S ++ [List.replicate k 0]) j = totF S j := by
  rw [← cols_tot (S := S) hj, ← cols_tot (S := S ++ [List.replicate k 0]) hj]
  show ((List.range k).map fun j => (col (S ++ [List.replicate k 0]) j).sum).getD j 0 = ((List.range k).map fun j => (col S j).sum).getD j 0
  rw [list_at (c := fun j => (col (S ++ [List.replicate k 0]) j).sum) hj, list_at (c := fun j => (col S j).sum) hj, col_app]
  have : (col [List.replicate k 0] j).sum = 0 := by simp [col, List.getD, hj]
  omega
theorem last_ne {n a c : Int} (h2 : 2 ≤ n) (a0 : 0 ≤ a) (a1 : a < n) (c0 : 0 ≤ c) (c1 : c < n - 1) : 0 ≤ (a + 1 + c) % n ∧ (a + 1 + c) % n < n ∧ (a + 1 + c) % n ≠ a := by
  by_cases h : a + 1 + c < n
  · rw [Int.emod_eq_of_lt (by omega) h]; omega
  · have e : (a + 1 + c) % n = (a + 1 + c - n) % n := by
      have := Int.add_emod_right (a + 1 + c - n) n
      rw [← this]
      congr 1
      omega
    rw [e, Int.emod_eq_of_lt (by omega) (by omega)]
    omega
theorem law_true : Mo.sat m_law 0 (fun d _ => d = .bool true) (fun _ _ => False) := by
  refine Tri.sat (b := 6 * 120 + 0) (φ := fun d => d = .bool true) ?_ (by decide)
  unfold m_law
  simp only [op2, op1, cmp2, chain3, tst, notB, andB, orB, andD, orD, iteM, consM, starM, smallM, tupM, tupSM, lstM, argV, argK, comp1, comp1i, comp2, comp2i, comp11, seqM, rng1, rng2, zipSM, zip2M, zip3M, enumM, repM, joinM, catM, par3LM, put2M, popM, parLV, putVM, unpS, trg1M, sortSetM, orV, lrg1M, par3M, rdM, rdLM, partM, slcM, isiM, rtM, forM1, forM2, forM3, parM, unp2, unp3, wb_assoc, wb_pure]
  refine Tri.bindL (range1_ok (by decide) (by decide)) ?_
  refine Tri.thenM (b := 6 * 120) (c := 0) (I := fun _ => True) ((Tri.loopR (c := 120) (I := fun _ _ => True) (R := fun _ => False) trivial fun i a hi _ => ?_).le (by decide)) fun a _ => Tri.pure rfl
  rw [Int.zero_add]
  refine Tri.dr (by decide) (by decide) fun kk k0 k1 => Tri.bindL (add_int _ _) ?_
  obtain ⟨high, eh, hh⟩ : ∃ v : Int, (modD (.int (i : Nat)) (.int 3) >>= fun j => getD (.list [.int 3, .int 6, .int 12]) j) = some (.int v) ∧ 1 ≤ v ∧ v ≤ 12 := by
    rw [mod_int (by decide), ob_some]
    have : (i : Int) % 3 = 0 ∨ (i : Int) % 3 = 1 ∨ (i : Int) % 3 = 2 := by omega
    rcases this with h | h | h
    · rw [h]; exact ⟨3, rfl, by decide, by decide⟩
    · rw [h]; exact ⟨6, rfl, by decide, by decide⟩
    · rw [h]; exact ⟨12, rfl, by decide, by decide⟩
  obtain ⟨j1, e1, e2⟩ := Option.bind_eq_some_iff.mp eh
  refine Tri.bindL e1 (Tri.bindL e2 ?_)
  refine Tri.st (b := 34) (stock8_ok (by omega) (by omega) (by omega) (by omega)) ?_
  rintro _ ⟨S0, rfl, st0⟩
  refine Tri.bindL (len_tup _) ?_
  rw [List.length_map]
  have hzr : mulD (.tuple [.int 0]) (.int (1 + kk)) = some (tI (List.replicate (1 + kk).toNat 0)) := by
    have : kk = 0 ∨ kk = 1 ∨ kk = 2 := by omega
    rcases this with rfl | rfl | rfl <;> rfl
  generalize hK : (1 + kk).toNat = K at st0 hzr
  have hadd : ∀ S : List (List Int), S.length ≤ 4 → addD (tT S) (.tuple [tI (List.replicate K 0)]) = some (tT (S ++ [List.replicate K 0])) := fun S h => by
    show addD (.tuple (S.map tI)) (.tuple ([List.replicate K 0].map tI)) = _
    rw [add_tup (by simp; omega), ← List.map_append]
  refine Tri.bindL (a := ((S0.length : Int) == 1)) (by rw [eq_int]; rfl) ?_
  have f1 := st0.one
  have f4 := st0.four
  refine Tri.thB (b := 0) (I := fun d => ∃ S, d = tT S ∧ Stk high K S ∧ 2 ≤ S.length) (Tri.ite (fun h => ?_) fun h => Tri.nx ⟨S0, rfl, st0, by simp at h; omega⟩) ?_
  · have h1 : S0.length = 1 := by simp at h; omega
    exact Tri.bindL hzr (Tri.bindL (hadd S0 f4) (Tri.nx ⟨_, rfl, zero_stk st0 (by omega) (by omega), by simp; omega⟩))
  rintro _ ⟨S, rfl, st, h2⟩
  have g4 := st.four
  refine Tri.st (b := 60) (wishes_okQ (by omega) (by omega) (by omega) (by omega) (by decide) (by decide)) ?_
  rintro _ ⟨rows, rfl, ro⟩
  rw [hK] at ro
  have el : lenD (tT S) = some (.int (S.length : Nat)) := by rw [len_tup, List.length_map]
  refine Tri.bindL el (Tri.dr (by omega) (by omega) fun a a0 a1 => Tri.bindL (add_int _ _) (Tri.bindL el (Tri.bindL (sub_int _ _) (Tri.dr (by omega) (by omega) fun c c0 c1 => Tri.bindL (add_int _ _) (Tri.bindL el (Tri.bindL (mod_int (by omega)) ?_))))))
  obtain ⟨l0, l1, l2⟩ := last_ne (n := (S.length : Int)) (by omega) a0 a1 c0 c1
  obtain ⟨an, rfl⟩ : ∃ n : Nat, a = (n : Int) := ⟨a.toNat, by omega⟩
  obtain ⟨bn, hbn⟩ : ∃ n : Nat, ((an : Int) + 1 + c) % (S.length : Int) = (n : Int) := ⟨(((an : Int) + 1 + c) % (S.length : Int)).toNat, by omega⟩
  rw [hbn] at l0 l1 l2 ⊢
  have ha : an < S.length := by omega
  have hb : bn < S.length := by omega
  have hab : an ≠ bn := by omega
  have st' := mrg_stk (a := an) st (by omega) h2 ha hb
  have em : M_merged [.val (tT S), .val (.int (an : Nat)), .val (.int (bn : Nat))] = some (tT (mrgS S K an bn)) := merged_gen st.len st.k4 g4 ha hb fun x hx => (pair_le st (by omega) ha hb x hx).2
  have ek : M__law_kept_right [.val (tT S), .val (tT (mrgS S K an bn)), .val (tT rows)] = some (.bool true) := kept_ok st (by omega) st' ro fun j hj => mrg_tot ha hb hab hj
  have ew : M__law_whole_right [.val (tT S), .val (tT rows)] = some (.bool true) := whole_ok st (by omega) ro
  refine Tri.bindU em (Tri.bindU ek (Tri.bindL (bool_bool _) ?_))
  rw [if_neg (by decide)]
  refine Tri.bindL (range1_ok (by decide) (by decide)) ?_
  refine Tri.thB (b := 3 * 5) (I := fun _ => True) ((Tri.loopR (c := 5) (I := fun _ _ => True) (R := fun _ => False) trivial fun i _ _ _ => ?_).le (by decide)) fun _ _ => ?_
  · refine Tri.st (b := 5) (divided_ok st (by omega) ro h2 ha hb hab) ?_
    rintro _ rfl
    exact Tri.bindL (bool_bool _) (Tri.nx trivial)
  refine Tri.bindU ew (Tri.bindL (bool_bool _) ?_)
  rw [if_neg (by decide)]
  refine Tri.bindL el (Tri.bindL (a := decide ((S.length : Int) < 4)) (by rw [lt_int]; rfl) (Tri.stE (a := false) ?_ (Tri.nx trivial)))
  by_cases h : (S.length : Int) < 4
  · rw [if_pos (decide_eq_true h)]
    have stz := zero_stk st (by omega) (by omega)
    have stz' : Stk 50 K (S ++ [List.replicate K 0]) := ⟨stz.one, stz.four, stz.k1, stz.k4, stz.len, fun r hr x hx => by have := stz.ge r hr x hx; omega⟩
    have ekz : M__law_kept_right [.val (tT S), .val (tT (S ++ [List.replicate K 0])), .val (tT rows)] = some (.bool true) := kept_ok st (by omega) stz' ro fun j hj => zero_tot hj
    exact bindE (liE hzr) (bindE (liE (hadd S g4)) (bindE (upE ekz) (bindE (liE (bool_bool _)) rfl)))
  · rw [if_neg (by simpa using h)]
end DD
namespace DD
open PySem PySem.Spec PyProof.Rows L2
theorem walk {l : PySem.W.OpenLaw} {q : Program} {loose : List Str} {XP : (Str → Option Value) → Heap → Prop} {YP : World → Heap → Prop} {d : DefRec} {K : Params → PySem.W.Frag} (hn : l.most = some 63) (hdf : d.params.defaults = []) (himp : importsNone q = true) (hY : ∀ (w : World) (h : Heap), YP w h → (K w.params).In h)
    (F : ∀ (w : World) (mg : Str → Option Value) (fa : Addr) (h : Heap), (K w.params).In h → h.Ns mainGlobals mg → mg d.name = some (.ref fa) → ∃ fd : FuncData, (∀ (s : Shared) (u : Value), BindsTo s fd ⟨[u], []⟩ [("_law_script", u)]) ∧ ∀ base : Heap, (K w.params).In base → base.Ns mainGlobals mg → SysAt base → FnG l.prog w (K w.params) mg base 7 fa fd ["_law_script"] (spLaw (K w.params))) :
    PySem.W.WalkO q loose XP YP l.row.toRowW d [] (fun f vs => PySem.call f vs) :=
  walk_g (n := 63) (k := 7) (x := "_law_script") (sp := fun w => spLaw (K w.params)) hn (by decide) hdf ⟨rfl, by decide, by decide⟩ himp hY F fun _ _ a ns _ hS => ⟨a, ns, rfl, hS, fun _ => rfl⟩
end DD
open PySem PySem.W PyProof.Rows
set_option maxRecDepth 100000 in
set_option maxHeartbeats 0 in
theorem PySem.Challenge.cw_darkdrawers_k08_whole_merged_drawers_holds : PySem.Challenge.rw_darkdrawers_k08_whole_merged_drawers.Holds := by
  w_on; o_law; k_head; (case hw => w_witness2)
  k_fill
  refine DD.walk (l := PySem.Challenge.rw_darkdrawers_k08_whole_merged_drawers) rfl rfl (by decide +kernel) (fun w h Y => PySem.W.kIn_of Y) ?F
  case F =>
    intro w mg fa h KX G hmg
    refine' DD.all_mk KX G hmg DD.law_true ?a0 ?l0 ?c0 ?k0 ?a1 ?l1 ?c1 ?k1 ?a2 ?l2 ?c2 ?k2 ?a3 ?l3 ?c3 ?k3 ?a4 ?l4 ?c4 ?k4 ?a5 ?l5 ?c5 ?k5 ?a6 ?l6 ?c6 ?k6 ?a7 ?l7 ?c7 ?k7 ?a8 ?l8 ?c8 ?k8 ?a9 ?l9 ?c9 ?k9 ?a10 ?l10 ?c10 ?k10 ?a11 ?l11 ?c11 ?k11 ?a12 ?l12 ?c12 ?k12 ?a13 ?l13 ?c13 ?k13 ?a14 ?l14 ?c14 ?k14 ?a15 ?l15 ?c15 ?k15 ?a16 ?l16 ?c16 ?k16 ?a17 ?l17 ?c17 ?k17 ?a18 ?l18 ?c18 ?k18 ?a19 ?l19 ?c19 ?k19 ?a20 ?l20 ?c20 ?k20 ?a21 ?l21 ?c21 ?k21 ?a22 ?l22 ?c22 ?k22 ?a23 ?l23 ?c23 ?k23 ?a24 ?l24 ?c24 ?k24 ?a25 ?l25 ?c25 ?k25 ?a26 ?l26 ?c26 ?k26 ?a27 ?l27 ?c27 ?k27 ?a28 ?l28 ?c28 ?k28 ?a29 ?l29 ?c29 ?k29 ?a30 ?l30 ?c30 ?k30 ?a31 ?l31 ?c31 ?k31 ?z0 ?z1 ?z2 ?z3 ?z4 ?z5 ?z6 ?z7 ?z8 ?z9 ?z10 ?z11 ?z12 ?z13 ?z14 ?z15 ?y0 ?y1 ?y2
    (case a0 => k_is); (case l0 => k_is); (case c0 => k_is); (case k0 => k_is)
    (case a1 => k_is); (case l1 => k_is); (case c1 => k_is); (case k1 => k_is)
    (case a2 => k_is); (case l2 => k_is); (case c2 => k_is); (case k2 => k_is)
    (case a3 => k_is); (case l3 => k_is); (case c3 => k_is); (case k3 => k_is)
    (case a4 => k_is); (case l4 => k_is); (case c4 => k_is); (case k4 => k_is)
    (case a5 => k_is); (case l5 => k_is); (case c5 => k_is); (case k5 => k_is)
    (case a6 => k_is); (case l6 => k_is); (case c6 => k_is); (case k6 => k_is)
    (case a7 => k_is); (case l7 => k_is); (case c7 => k_is); (case k7 => k_is)
    (case a8 => k_is); (case l8 => k_is); (case c8 => k_is); (case k8 => k_is)
    (case a9 => k_is); (case l9 => k_is); (case c9 => k_is); (case k9 => k_is)
    (case a10 => k_is); (case l10 => k_is); (case c10 => k_is); (case k10 => k_is)
    (case a11 => k_is); (case l11 => k_is); (case c11 => k_is); (case k11 => k_is)
    (case a12 => k_is); (case l12 => k_is); (case c12 => k_is); (case k12 => k_is)
    (case a13 => k_is); (case l13 => k_is); (case c13 => k_is); (case k13 => k_is)
    (case a14 => k_is); (case l14 => k_is); (case c14 => k_is); (case k14 => k_is)
    (case a15 => k_is); (case l15 => k_is); (case c15 => k_is); (case k15 => k_is)
    (case a16 => k_is); (case l16 => k_is); (case c16 => k_is); (case k16 => k_is)
    (case a17 => k_is); (case l17 => k_is); (case c17 => k_is); (case k17 => k_is)
    (case a18 => k_is); (case l18 => k_is); (case c18 => k_is); (case k18 => k_is)
    (case a19 => k_is); (case l19 => k_is); (case c19 => k_is); (case k19 => k_is)
    (case a20 => k_is); (case l20 => k_is); (case c20 => k_is); (case k20 => k_is)
    (case a21 => k_is); (case l21 => k_is); (case c21 => k_is); (case k21 => k_is)
    (case a22 => k_is); (case l22 => k_is); (case c22 => k_is); (case k22 => k_is)
    (case a23 => k_is); (case l23 => k_is); (case c23 => k_is); (case k23 => k_is)
    (case a24 => k_is); (case l24 => k_is); (case c24 => k_is); (case k24 => k_is)
    (case a25 => k_is); (case l25 => k_is); (case c25 => k_is); (case k25 => k_is)
    (case a26 => k_is); (case l26 => k_is); (case c26 => k_is); (case k26 => k_is)
    (case a27 => k_is); (case l27 => k_is); (case c27 => k_is); (case k27 => k_is)
    (case a28 => k_is); (case l28 => k_is); (case c28 => k_is); (case k28 => k_is)
    (case a29 => k_is); (case l29 => k_is); (case c29 => k_is); (case k29 => k_is)
    (case a30 => k_is); (case l30 => k_is); (case c30 => k_is); (case k30 => k_is)
    (case a31 => k_is); (case l31 => k_is); (case c31 => k_is); (case k31 => k_is)
    (case z0 => k_is)
    (case z1 => k_is)
    (case z2 => k_is)
    (case z3 => k_is)
    (case z4 => k_is)
    (case z5 => k_is)
    (case z6 => k_is)
    (case z7 => k_is)
    (case z8 => k_is)
    (case z9 => k_is)
    (case z10 => k_is)
    (case z11 => k_is)
    (case z12 => k_is)
    (case z13 => k_is)
    (case z14 => k_is)
    (case z15 => k_is)
    (case y0 => k_is)
    (case y1 => k_is)
    (case y2 => k_is)

