import PyProof.Rows.All
import Wide.All
import OpenK.AllK
import Wide.FinOn
import PyProof.EqAt
import PyProof.EqKinds
import PyProof.TupleCall
import KE.KLam
import HandS.ForMost
import HandS.Exc
import HandS.TryOnly
import HandS.ExcOwn
import HandS.WordsExc
import HandS.Codes
import HandS.Lambda
import HandS.TupAny
import HandS.Wide
import HandS.Deep
import HandS.IsInst
import PyProof.StrOps2
import HandS.Flow
import HandS.Text
import HandS.Comp
import HandS.Iter
import HandS.Zip
import HandS.Style
import KE.KSuper
import KE.KExcSuper
import HandS.Base
import HandS.Call
import HandS.ExcInit
import HandS.ExcIs
import HandS.CallSlots
import HandS.ExcField
import HandS.EndTab
import HandS.HeadWalk
import HandS.Words
import HandS.Defaults
import HandS.HeadHook1
import HandS.HeadHook2
import HandS.HeadHook3
import HandS.HeadHook4
import KE.KStateDown
import HandS.Head0
import HandS.Head1
import HandS.Head2
import HandS.HeadEnd
import KE.KxStill
import PyProof.P3Eq
import Lean
import PySem.Challenge.RW_foldedstacks_k02_whole_tokens_of_funs
set_option Elab.async false
set_option linter.all false
set_option maxRecDepth 100000
set_option maxHeartbeats 4000000
/-! L3, a layer over the hand layer: values with tuples in place, mutable things by their number in a store. -/
namespace L3
open PySem PySem.Spec PyProof.Rows L2
open LamX (Tabs TabS CodeO)

/-- a value: tuples in place, lists that nobody writes in place, all else by its number in the store -/
inductive D where
  | non | bl (b : Bool) | int (i : Int) | str (s : Str) | tup (ds : List D) | fl (ds : List D) | ref (n : Nat) | ty (n : String)
/-- what stands in the store -/
inductive SO where
  | lst (ds : List D)
  | dct (kvs : List (Key × D))
  | ins (c : Str) (fs : List (Str × D))
  | exc (c : Str) (fs : List (Str × D))
abbrev Store := List SO
abbrev Env3 := List (Option D)
/-- what the top has written, as far as it is needed here -/
structure Gx where
  K : PySem.W.Frag
  cls : Str → Option Addr
  T : List (Addr × Str)

/-- an exception object at a, held as a value -/
def ExV (cls : Value) (d : Option Addr) (a : Addr) : HO := .ext fun h => ∃ (oe : Obj) (vs : Array Value), h.get? a = some oe ∧ Zc cls d oe ∧ oe.data = .fields vs

/-- a sequence that is read at a: tracked and no object of the store, or of the written part -/
def FixT (K : PySem.W.Frag) (ι : List Addr) (H : Hp) (a : Addr) (xs : List V) : Prop :=
  (Rd H a (.tup xs) ∧ a ∉ ι) ∨ SqT K (fun _ => none) a xs
def FixL (K : PySem.W.Frag) (ι : List Addr) (H : Hp) (a : Addr) (xs : List V) : Prop :=
  (Rd H a (.lst xs) ∧ a ∉ ι) ∨ SqL K (fun _ => none) a xs
theorem rd_none {a : Addr} {u : HO} : ¬ Rd (fun _ => none) a u := fun h => by
  rcases h with h | ⟨o, h⟩ <;> cases h
theorem FixT.sq {K : PySem.W.Frag} {ι : List Addr} {H : Hp} {a : Addr} {xs : List V} (h : FixT K ι H a xs) : SqT K H a xs := by
  rcases h with ⟨h, _⟩ | h | h
  · exact .inl h
  · exact absurd h rd_none
  · exact .inr h
theorem FixL.sq {K : PySem.W.Frag} {ι : List Addr} {H : Hp} {a : Addr} {xs : List V} (h : FixL K ι H a xs) : SqL K H a xs := by
  rcases h with ⟨h, _⟩ | h | h
  · exact .inl h
  · exact absurd h rd_none
  · exact .inr h

mutual
def RelD (K : PySem.W.Frag) (ι : List Addr) (H : Hp) : D → V → Prop
  | .non, v => v = .non
  | .bl b, v => v = .bl b
  | .int i, v => v = .int i
  | .str s, v => v = .str s ∧ PyData.strOk s = true
  | .ty n, v => v = .ty n
  | .ref n, v => ∃ a, ι[n]? = some a ∧ v = .ref a
  | .tup ds, v => ∃ a xs, v = .ref a ∧ FixT K ι H a xs ∧ RelDs K ι H ds xs
  | .fl ds, v => ∃ a xs, v = .ref a ∧ FixL K ι H a xs ∧ RelDs K ι H ds xs
def RelDs (K : PySem.W.Frag) (ι : List Addr) (H : Hp) : List D → List V → Prop
  | [], xs => xs = []
  | d :: ds, xs => ∃ y ys, xs = y :: ys ∧ RelD K ι H d y ∧ RelDs K ι H ds ys
end

section
variable {K : PySem.W.Frag} {ι : List Addr} {H : Hp}
theorem RelDs.length : ∀ {ds : List D} {xs : List V}, RelDs K ι H ds xs → xs.length = ds.length
  | [], xs, h => by
    unfold RelDs at h
    rw [h] <;> rfl
  | d :: ds, xs, h => by
    unfold RelDs at h
    obtain ⟨y, ys, rfl, _, h2⟩ := h
    rw [List.length_cons, List.length_cons, RelDs.length h2]
theorem RelDs.nil : RelDs K ι H [] [] := by
  unfold RelDs
  rfl
theorem RelDs.cons {d : D} {v : V} {ds : List D} {xs : List V} (h : RelD K ι H d v) (h2 : RelDs K ι H ds xs) : RelDs K ι H (d :: ds) (v :: xs) := by
  unfold RelDs
  exact ⟨v, xs, rfl, h, h2⟩
theorem RelDs.uncons {d : D} {ds : List D} {xs : List V} (h : RelDs K ι H (d :: ds) xs) : ∃ y ys, xs = y :: ys ∧ RelD K ι H d y ∧ RelDs K ι H ds ys := by
  unfold RelDs at h
  exact h
theorem RelDs.unnil {xs : List V} (h : RelDs K ι H [] xs) : xs = [] := by
  unfold RelDs at h
  exact h
theorem RelDs.append : ∀ {ds es : List D} {xs ys : List V}, RelDs K ι H ds xs → RelDs K ι H es ys → RelDs K ι H (ds ++ es) (xs ++ ys)
  | [], es, xs, ys, h, h2 => by
    rw [h.unnil]
    exact h2
  | d :: ds, es, xs, ys, h, h2 => by
    obtain ⟨y, zs, rfl, a, b⟩ := h.uncons
    exact .cons a (RelDs.append b h2)
theorem RelDs.get : ∀ {ds : List D} {xs : List V} {i : Nat} {d : D}, RelDs K ι H ds xs → ds[i]? = some d → ∃ v, xs[i]? = some v ∧ RelD K ι H d v
  | [], xs, i, d, h, e => by simp at e
  | c :: ds, xs, 0, d, h, e => by
    obtain ⟨y, zs, rfl, a, b⟩ := h.uncons
    have e : c = d := by simpa using e
    subst e
    exact ⟨y, rfl, a⟩
  | c :: ds, xs, i + 1, d, h, e => by
    obtain ⟨y, zs, rfl, a, b⟩ := h.uncons
    have e : ds[i]? = some d := by simpa using e
    obtain ⟨v, h1, h2⟩ := RelDs.get b e
    exact ⟨v, by simpa using h1, h2⟩
theorem RelDs.getV : ∀ {ds : List D} {xs : List V} {i : Nat} {v : V}, RelDs K ι H ds xs → xs[i]? = some v → ∃ d, ds[i]? = some d ∧ RelD K ι H d v
  | [], xs, i, v, h, e => by
    rw [h.unnil] at e
    simp at e
  | c :: ds, xs, 0, v, h, e => by
    obtain ⟨y, zs, rfl, a, b⟩ := h.uncons
    have e : y = v := by simpa using e
    subst e
    exact ⟨c, rfl, a⟩
  | c :: ds, xs, i + 1, v, h, e => by
    obtain ⟨y, zs, rfl, a, b⟩ := h.uncons
    have e : zs[i]? = some v := by simpa using e
    obtain ⟨d, h1, h2⟩ := RelDs.getV b e
    exact ⟨d, by simpa using h1, h2⟩
theorem RelDs.set : ∀ {ds : List D} {xs : List V} {d : D} {v : V} (i : Nat), RelD K ι H d v → RelDs K ι H ds xs → RelDs K ι H (ds.set i d) (xs.set i v)
  | [], xs, d, v, i, r, h => by
    rw [h.unnil]
    exact .nil
  | c :: ds, xs, d, v, 0, r, h => by
    obtain ⟨y, zs, rfl, a, b⟩ := h.uncons
    exact .cons r b
  | c :: ds, xs, d, v, i + 1, r, h => by
    obtain ⟨y, zs, rfl, a, b⟩ := h.uncons
    exact .cons a (RelDs.set i r b)
theorem RelDs.take : ∀ {ds : List D} {xs : List V} (n : Nat), RelDs K ι H ds xs → RelDs K ι H (ds.take n) (xs.take n)
  | ds, xs, 0, h => by
    rw [List.take_zero, List.take_zero]
    exact .nil
  | [], xs, n + 1, h => by
    rw [h.unnil, List.take_nil, List.take_nil]
    exact .nil
  | c :: ds, xs, n + 1, h => by
    obtain ⟨y, zs, rfl, a, b⟩ := h.uncons
    exact .cons a (RelDs.take n b)
theorem RelDs.drop : ∀ {ds : List D} {xs : List V} (n : Nat), RelDs K ι H ds xs → RelDs K ι H (ds.drop n) (xs.drop n)
  | ds, xs, 0, h => h
  | [], xs, n + 1, h => by
    rw [h.unnil, List.drop_nil, List.drop_nil]
    exact .nil
  | c :: ds, xs, n + 1, h => by
    obtain ⟨y, zs, rfl, a, b⟩ := h.uncons
    exact RelDs.drop n b
theorem RelDs.map_of {α : Type} (f : α → D) (g : α → V) (h : ∀ a, RelD K ι H (f a) (g a)) : ∀ l : List α, RelDs K ι H (l.map f) (l.map g)
  | [] => .nil
  | a :: l => .cons (h a) (RelDs.map_of f g h l)
end

/-- pairs of a dict, attributes of an instance -/
def RelKV {κ : Type} (K : PySem.W.Frag) (ι : List Addr) (H : Hp) : List (κ × D) → List (κ × V) → Prop := fun kds kvs => kvs.map (·.1) = kds.map (·.1) ∧ RelDs K ι H (kds.map (·.2)) (kvs.map (·.2))

/-- what stands at a is so in the store -/
def RelO3 (G : Gx) (ι : List Addr) (H : Hp) : SO → Addr → Prop
  | .lst ds, a => ∃ xs, H a = some (.lst xs) ∧ RelDs G.K ι H ds xs
  | .dct kds, a => ∃ kvs, H a = some (.dK kvs) ∧ RelKV G.K ι H kds kvs
  | .ins c fs, a => ∃ C dx gs, G.cls c = some C ∧ H a = some (.ins C dx gs) ∧ RelKV G.K ι H fs gs
  | .exc c fs, a => ∃ C, G.cls c = some C ∧ ((fs = [] ∧ H a = some (ExV (.ref C) none a)) ∨ ∃ d gs, H a = some (ExV (.ref C) (some d) a) ∧ H d = some (.xd gs) ∧ d ∉ ι ∧ RelKV G.K ι H fs gs)

structure St3 (G : Gx) (ι : List Addr) (H : Hp) (S : Store) : Prop where
  nd : ι.Nodup
  len : ι.length = S.length
  obj : ∀ (n : Nat) (o : SO) (a : Addr), S[n]? = some o → ι[n]? = some a → RelO3 G ι H o a

def NoTbl (o : HO) : Prop := ∀ ps, o ≠ .tbl ps
structure Ext3 (G : Gx) (ι : List Addr) (H : Hp) (ι' : List Addr) (H' : Hp) : Prop where
  pre : ∃ t, ι' = ι ++ t
  keep : ∀ a o, H a = some o → a ∉ ι → NoTbl o → H' a = some o
  fresh : ∀ a o, a ∈ ι' → a ∉ ι → H a = some o → ¬ NoTbl o
  tabs : Tabs G.T H → Tabs G.T H'

section
variable {G : Gx} {ι ι' ι1 ι2 : List Addr} {H H' H1 H2 : Hp} {S S' : Store} {a p : Addr} {o : HO}
theorem Ext3.refl (G : Gx) (ι : List Addr) (H : Hp) : Ext3 G ι H ι H := ⟨⟨[], by simp⟩, fun _ _ h _ _ => h, fun _ _ h n => absurd h n, fun t => t⟩
theorem Ext3.sub (e : Ext3 G ι H ι' H') : ∀ {b : Addr}, b ∈ ι → b ∈ ι' := fun {b} h => by
  obtain ⟨t, rfl⟩ := e.pre
  exact List.mem_append_left _ h
theorem Ext3.get (e : Ext3 G ι H ι' H') {n : Nat} (h : ι[n]? = some a) : ι'[n]? = some a := by
  obtain ⟨t, rfl⟩ := e.pre
  obtain ⟨hl, _⟩ := List.getElem?_eq_some_iff.mp h
  rw [List.getElem?_append_left hl]
  exact h
/-- what is tracked and no object of the store stays no object of the store -/
theorem Ext3.out (e : Ext3 G ι H ι' H') (h : H a = some o) (n : a ∉ ι) (t : NoTbl o) : a ∉ ι' := fun m => e.fresh a o m n h t
theorem Ext3.trans (e : Ext3 G ι H ι1 H1) (f : Ext3 G ι1 H1 ι2 H2) : Ext3 G ι H ι2 H2 := by
  refine ⟨?_, fun a o h n t => f.keep a o (e.keep a o h n t) (e.out h n t) t, fun a o h n k t => ?_, fun t => f.tabs (e.tabs t)⟩
  · obtain ⟨t, rfl⟩ := e.pre
    obtain ⟨u, rfl⟩ := f.pre
    exact ⟨t ++ u, by simp⟩
  · exact f.fresh a o h (e.out k n t) (e.keep a o k n t) t
theorem exv_tup {cls : Value} {d : Option Addr} {b : Addr} {xs : List V} : ExV cls d b ≠ .tup xs := fun e => by
  unfold ExV at e
  cases e
theorem exv_frz {cls : Value} {d : Option Addr} {b : Addr} {u : Obj} {v : HO} : ExV cls d b ≠ .frz u v := fun e => by
  unfold ExV at e
  cases e
theorem exv_tbl {cls : Value} {d : Option Addr} {b : Addr} : NoTbl (ExV cls d b) := fun ps e => by
  unfold ExV at e
  cases e
/-- an object of the store is no tuple, no locked thing -/
theorem St3.kind (s : St3 G ι H S) (m : a ∈ ι) : ∃ o, H a = some o ∧ (∀ xs, o ≠ .tup xs) ∧ (∀ u v, o ≠ .frz u v) ∧ NoTbl o := by
  obtain ⟨n, hn⟩ := List.getElem?_of_mem m
  have hl : n < S.length := by
    rw [← s.len]
    exact (List.getElem?_eq_some_iff.mp hn).1
  have z := s.obj n S[n] a (List.getElem?_eq_getElem hl) hn
  cases q : S[n] with
  | lst ds =>
    rw [q] at z
    obtain ⟨xs, h, _⟩ := z
    exact ⟨_, h, (by intro _ e; cases e), (by intro _ _ e; cases e), (by intro _ e; cases e)⟩
  | dct kds =>
    rw [q] at z
    obtain ⟨xs, h, _⟩ := z
    exact ⟨_, h, (by intro _ e; cases e), (by intro _ _ e; cases e), (by intro _ e; cases e)⟩
  | ins c fs =>
    rw [q] at z
    obtain ⟨C, dx, gs, _, h, _⟩ := z
    exact ⟨_, h, (by intro _ e; cases e), (by intro _ _ e; cases e), (by intro _ e; cases e)⟩
  | exc c fs =>
    rw [q] at z
    obtain ⟨C, _, ⟨_, h⟩ | ⟨d, gs, h, _⟩⟩ := z
    · exact ⟨_, h, fun _ => exv_tup, fun _ _ => exv_frz, exv_tbl⟩
    · exact ⟨_, h, fun _ => exv_tup, fun _ _ => exv_frz, exv_tbl⟩
theorem St3.some (s : St3 G ι H S) (m : a ∈ ι) : ∃ o, H a = .some o := let ⟨o, h, _⟩ := s.kind m; ⟨o, h⟩
theorem St3.addr (s : St3 G ι H S) {n : Nat} {o : SO} (h : S[n]? = .some o) : ∃ a, ι[n]? = .some a ∧ RelO3 G ι H o a := by
  obtain ⟨hl, _⟩ := List.getElem?_eq_some_iff.mp h
  have hl' : n < ι.length := by
    rw [s.len]
    exact hl
  exact ⟨_, List.getElem?_eq_getElem hl', s.obj n o _ h (List.getElem?_eq_getElem hl')⟩
/-- a tuple that is tracked is no object of the store -/
theorem St3.notTup (s : St3 G ι H S) {xs : List V} (h : Rd H a (.tup xs)) : a ∉ ι := fun m => by
  obtain ⟨o, ho, h1, h2, _⟩ := s.kind m
  rcases h with h | ⟨u, h⟩
  · rw [ho] at h
    exact h1 xs (Option.some.inj h)
  · rw [ho] at h
    exact h2 u _ (Option.some.inj h)
theorem St3.fixT (s : St3 G ι H S) {xs : List V} (h : SqT G.K H a xs) : FixT G.K ι H a xs := by
  rcases h with h | h
  · exact .inl ⟨h, s.notTup h⟩
  · exact .inr (.inr h)

/-! ### what is related stays so -/
theorem rd_ext {u : HO} (e : Ext3 G ι H ι' H') (n : a ∉ ι) (t : NoTbl u) (h : Rd H a u) : Rd H' a u ∧ a ∉ ι' := by
  rcases h with h | ⟨o, h⟩
  · exact ⟨.inl (e.keep a _ h n t), e.out h n t⟩
  · exact ⟨.inr ⟨o, e.keep a _ h n (by intro _ q; cases q)⟩, e.out h n (by intro _ q; cases q)⟩
theorem FixT.ext {xs : List V} (e : Ext3 G ι H ι' H') (h : FixT G.K ι H a xs) : FixT G.K ι' H' a xs := by
  rcases h with ⟨h, n⟩ | h
  · exact .inl (rd_ext e n (by intro _ q; cases q) h)
  · exact .inr h
theorem FixL.ext {xs : List V} (e : Ext3 G ι H ι' H') (h : FixL G.K ι H a xs) : FixL G.K ι' H' a xs := by
  rcases h with ⟨h, n⟩ | h
  · exact .inl (rd_ext e n (by intro _ q; cases q) h)
  · exact .inr h
mutual
theorem RelD.ext (e : Ext3 G ι H ι' H') : ∀ (d : D) (v : V), RelD G.K ι H d v → RelD G.K ι' H' d v
  | .non, v, h => by unfold RelD at h ⊢; exact h
  | .bl b, v, h => by unfold RelD at h ⊢; exact h
  | .int i, v, h => by unfold RelD at h ⊢; exact h
  | .str s, v, h => by unfold RelD at h ⊢; exact h
  | .ty n, v, h => by unfold RelD at h ⊢; exact h
  | .ref n, v, h => by
    unfold RelD at h ⊢
    obtain ⟨a, h1, h2⟩ := h
    exact ⟨a, e.get h1, h2⟩
  | .tup ds, v, h => by
    unfold RelD at h ⊢
    obtain ⟨a, xs, h1, h2, h3⟩ := h
    exact ⟨a, xs, h1, h2.ext e, RelDs.ext e ds xs h3⟩
  | .fl ds, v, h => by
    unfold RelD at h ⊢
    obtain ⟨a, xs, h1, h2, h3⟩ := h
    exact ⟨a, xs, h1, h2.ext e, RelDs.ext e ds xs h3⟩
theorem RelDs.ext (e : Ext3 G ι H ι' H') : ∀ (ds : List D) (xs : List V), RelDs G.K ι H ds xs → RelDs G.K ι' H' ds xs
  | [], xs, h => by unfold RelDs at h ⊢; exact h
  | d :: ds, xs, h => by
    unfold RelDs at h ⊢
    obtain ⟨y, ys, h1, h2, h3⟩ := h
    exact ⟨y, ys, h1, RelD.ext e d y h2, RelDs.ext e ds ys h3⟩
end
theorem RelKV.ext {κ : Type} {kds : List (κ × D)} {kvs : List (κ × V)} (e : Ext3 G ι H ι' H') (h : RelKV G.K ι H kds kvs) : RelKV G.K ι' H' kds kvs := ⟨h.1, h.2.ext e⟩

/-! ### steps of heaps -/
theorem Tabs.put {T : List (Addr × Str)} {o : HO} (t : Tabs T H) (h : ∀ P ps, H P = some (.tbl ps) → P ≠ p) (h2 : ∀ c q, H c = some (CodeO c q) → c ≠ p) : Tabs T (upd H p o) := fun q hq => by
  obtain ⟨ps, a1, a2, a3⟩ := t q hq
  refine ⟨ps, by rw [upd_ne (h _ _ a1)]; exact a1, a2, fun pos cv hc => ?_⟩
  obtain ⟨c, e1, e2⟩ := a3 pos cv hc
  exact ⟨c, e1, by rw [upd_ne (h2 _ _ e2)]; exact e2⟩
/-- a new thing that is no object of the store -/
theorem Ext3.side (n : H p = none) : Ext3 G ι H ι (upd H p o) :=
  ⟨⟨[], by simp⟩, fun a u h _ _ => by rw [upd_ne (ne_of_none h n)]; exact h, fun _ _ h m => absurd h m,
    fun t => Tabs.put t (fun P ps h => ne_of_none h n) fun c q h => ne_of_none h n⟩
/-- a new object of the store -/
theorem Ext3.new (n : H p = none) : Ext3 G ι H (ι ++ [p]) (upd H p o) where
  pre := ⟨[p], rfl⟩
  keep := fun a u h _ _ => by rw [upd_ne (ne_of_none h n)]; exact h
  fresh := fun a u h m k => by
    rcases List.mem_append.mp h with h | h
    · exact absurd h m
    · rw [List.mem_singleton.mp h, n] at k
      cases k
  tabs := fun t => Tabs.put t (fun P ps h => ne_of_none h n) fun c q h => ne_of_none h n
/-- an object of the store changes -/
theorem Ext3.put {u : HO} (m : p ∈ ι) (h : H p = some u) (n : NoTbl u) (n2 : ∀ q, u ≠ CodeO p q) : Ext3 G ι H ι (upd H p o) :=
  ⟨⟨[], by simp⟩, fun a v k l _ => by rw [upd_ne (fun z => l (by rw [z]; exact m))]; exact k, fun _ _ h m => absurd h m,
    fun t => Tabs.put t (fun P ps k z => n ps (Option.some.inj (h.symm.trans (by rw [← z]; exact k)))) fun c q k z => n2 q (Option.some.inj (h.symm.trans (by rw [← z]; exact k)))⟩
theorem RelO3.ext {so : SO} (e : Ext3 G ι H ι' H') (k : ∀ o, H a = some o → H' a = some o) (h : RelO3 G ι H so a) : RelO3 G ι' H' so a := by
  cases so with
  | lst ds =>
    obtain ⟨xs, h1, h2⟩ := h
    exact ⟨xs, k _ h1, h2.ext e⟩
  | dct kds =>
    obtain ⟨xs, h1, h2⟩ := h
    exact ⟨xs, k _ h1, h2.ext e⟩
  | ins c fs =>
    obtain ⟨C, dx, gs, h0, h1, h2⟩ := h
    exact ⟨C, dx, gs, h0, k _ h1, h2.ext e⟩
  | exc c fs =>
    obtain ⟨C, h0, ⟨h1, h2⟩ | ⟨d, gs, h1, h2, h3, h4⟩⟩ := h
    · exact ⟨C, h0, .inl ⟨h1, k _ h2⟩⟩
    · exact ⟨C, h0, .inr ⟨d, gs, k _ h1, e.keep d _ h2 h3 (by intro _ q; cases q), e.out h2 h3 (by intro _ q; cases q), h4.ext e⟩⟩
theorem St3.side (s : St3 G ι H S) (n : H p = none) : St3 G ι (upd H p o) S :=
  ⟨s.nd, s.len, fun k so a h1 h2 => (s.obj k so a h1 h2).ext (Ext3.side n) fun u h => by rw [upd_ne (ne_of_none h n)]; exact h⟩
theorem St3.new {so : SO} (s : St3 G ι H S) (n : H p = none) (h : RelO3 G (ι ++ [p]) (upd H p o) so p) : St3 G (ι ++ [p]) (upd H p o) (S ++ [so]) := by
  refine ⟨?_, by rw [List.length_append, List.length_append, s.len] <;> rfl, fun k so' a h1 h2 => ?_⟩
  · refine List.nodup_append.mpr ⟨s.nd, by simp, fun a ha b hb e => ?_⟩
    obtain ⟨o', z⟩ := s.some ha
    rw [e, List.mem_singleton.mp hb, n] at z
    cases z
  · by_cases hk : k < S.length
    · rw [List.getElem?_append_left hk] at h1
      rw [List.getElem?_append_left (by rw [s.len]; exact hk)] at h2
      exact (s.obj k so' a h1 h2).ext (Ext3.new n) fun u h => by rw [upd_ne (ne_of_none h n)]; exact h
    · have e : k = S.length := by
        obtain ⟨q, _⟩ := List.getElem?_eq_some_iff.mp h1
        rw [List.length_append] at q
        have : k < S.length + 1 := q
        omega
      subst e
      rw [List.getElem?_append_right (Nat.le_refl _), Nat.sub_self] at h1
      rw [← s.len, List.getElem?_append_right (Nat.le_refl _), Nat.sub_self] at h2
      cases h1
      cases h2
      exact h
theorem St3.put {u : HO} {so : SO} {k : Nat} (s : St3 G ι H S) (hk : ι[k]? = .some p) (hu : H p = .some u) (n : NoTbl u) (n2 : ∀ q, u ≠ CodeO p q) (h : RelO3 G ι (upd H p o) so p) : St3 G ι (upd H p o) (S.set k so) := by
  have m : p ∈ ι := List.mem_of_getElem? hk
  refine ⟨s.nd, by rw [List.length_set]; exact s.len, fun j so' a h1 h2 => ?_⟩
  by_cases hj : j = k
  · subst hj
    rw [hk] at h2
    cases h2
    obtain ⟨hl, _⟩ := List.getElem?_eq_some_iff.mp h1
    rw [List.length_set] at hl
    rw [List.getElem?_set_self hl] at h1
    cases h1
    exact h
  · rw [List.getElem?_set_ne (Ne.symm hj)] at h1
    have ne : a ≠ p := fun z => by
      subst z
      exact hj (nd_ix s.nd h2 hk)
    exact (s.obj j so' a h1 h2).ext (Ext3.put m hu n n2) fun v hv => by rw [upd_ne ne]; exact hv
end
end L3

set_option Elab.async false
set_option linter.all false
set_option maxRecDepth 100000
set_option maxHeartbeats 4000000
/-! L3: readings lifted, judgements, names, constants, tests, statements. -/
namespace L3
open PySem PySem.Spec PyProof.Rows L2
open LamX (Tabs TabS CodeO)

abbrev WK := D → Store → Prop
abbrev XK3 := Str → List (Str × D) → Store → Prop
abbrev WE := Env3 → Store → WK → XK3 → Prop
abbrev WT := Env3 → Store → (Bool → Store → Prop) → XK3 → Prop
abbrev WA := Env3 → Store → (List D → Store → Prop) → XK3 → Prop
abbrev WO := Env3 → Store → (Option Int → Store → Prop) → XK3 → Prop

/-- the values by slot -/
def RelSl (K : PySem.W.Frag) (ι : List Addr) (H : Hp) (ρ : Env3) (σ : L2.St) : Prop := σ.length = ρ.length ∧ ∀ (i : Nat) (d : D), ρ[i]? = some (some d) → ∃ v, σ[i]? = some (some v) ∧ RelD K ι H d v
/-- an exception: its class by name, its attributes -/
def RelX (G : Gx) (ι : List Addr) (H : Hp) (c : Str) (fs : List (Str × D)) (cls : Value) (dd : Option Addr) : Prop :=
  ∃ C, G.cls c = some C ∧ cls = .ref C ∧ ((fs = [] ∧ dd = none) ∨ ∃ d gs, dd = some d ∧ H d = some (.xd gs) ∧ d ∉ ι ∧ RelKV G.K ι H fs gs)
structure Rel3 (G : Gx) (ι : List Addr) (H : Hp) (S : Store) (ρ : Env3) (σ : L2.St) : Prop where
  st : St3 G ι H S
  sl : RelSl G.K ι H ρ σ
  tb : Tabs G.T H
def PoE (G : Gx) (ι : List Addr) (H : Hp) (q : WK) (Q : VK) : Prop := ∀ d S' ι' H' v, q d S' → Ext3 G ι H ι' H' → St3 G ι' H' S' → RelD G.K ι' H' d v → Q v H'
def PoT {α : Type} (G : Gx) (ι : List Addr) (H : Hp) (q : α → Store → Prop) (Q : α → Hp → Prop) : Prop := ∀ b S' ι' H', q b S' → Ext3 G ι H ι' H' → St3 G ι' H' S' → Q b H'
def PoA (G : Gx) (ι : List Addr) (H : Hp) (q : List D → Store → Prop) (Q : List V → Hp → Prop) : Prop := ∀ ds S' ι' H' vs, q ds S' → Ext3 G ι H ι' H' → St3 G ι' H' S' → RelDs G.K ι' H' ds vs → Q vs H'
def PoX (G : Gx) (ι : List Addr) (H : Hp) (q : XK3) (Q : XK) : Prop := ∀ c fs S' ι' H' cls dd, q c fs S' → Ext3 G ι H ι' H' → St3 G ι' H' S' → RelX G ι' H' c fs cls dd → Q cls dd H'
def PoS (G : Gx) (ι : List Addr) (H : Hp) (q : Env3 → Store → Prop) (Q : L2.St → Hp → Prop) : Prop := ∀ ρ' S' ι' H' σ', q ρ' S' → Ext3 G ι H ι' H' → St3 G ι' H' S' → RelSl G.K ι' H' ρ' σ' → Q σ' H'
def PoXS (G : Gx) (ι : List Addr) (H : Hp) (q : Env3 → XK3) (W : WX) : Prop := ∀ ρ' c fs S' ι' H' σ' cls dd, q ρ' c fs S' → Ext3 G ι H ι' H' → St3 G ι' H' S' → RelSl G.K ι' H' ρ' σ' → RelX G ι' H' c fs cls dd → W cls dd σ' H'

section
variable {G : Gx} {ι ι' : List Addr} {H H' : Hp}
theorem PoE.ext {q : WK} {Q : VK} (p : PoE G ι H q Q) (e : Ext3 G ι H ι' H') : PoE G ι' H' q Q := fun d S' j K v a b c r => p d S' j K v a (e.trans b) c r
theorem PoT.ext {α : Type} {q : α → Store → Prop} {Q : α → Hp → Prop} (p : PoT G ι H q Q) (e : Ext3 G ι H ι' H') : PoT G ι' H' q Q := fun d S' j K a b c => p d S' j K a (e.trans b) c
theorem PoA.ext {q : List D → Store → Prop} {Q : List V → Hp → Prop} (p : PoA G ι H q Q) (e : Ext3 G ι H ι' H') : PoA G ι' H' q Q := fun d S' j K v a b c r => p d S' j K v a (e.trans b) c r
theorem PoX.ext {q : XK3} {Q : XK} (p : PoX G ι H q Q) (e : Ext3 G ι H ι' H') : PoX G ι' H' q Q := fun c fs S' j K x y a b s r => p c fs S' j K x y a (e.trans b) s r
theorem PoS.ext {q : Env3 → Store → Prop} {Q : L2.St → Hp → Prop} (p : PoS G ι H q Q) (e : Ext3 G ι H ι' H') : PoS G ι' H' q Q := fun d S' j K v a b c r => p d S' j K v a (e.trans b) c r
theorem PoXS.ext {q : Env3 → XK3} {W : WX} (p : PoXS G ι H q W) (e : Ext3 G ι H ι' H') : PoXS G ι' H' q W := fun r c fs S' j K s x y a b t u v => p r c fs S' j K s x y a (e.trans b) t u v
theorem PoXS.at {q : Env3 → XK3} {W : WX} (p : PoXS G ι H q W) {ρ : Env3} {σ : L2.St} (h : RelSl G.K ι H ρ σ) : PoX G ι H (q ρ) (fun cls d H' => W cls d σ H') :=
  fun c fs S' j K x y a b s r => p ρ c fs S' j K σ x y a b s ⟨h.1, fun i d e => by
    obtain ⟨v, h1, h2⟩ := h.2 i d e
    exact ⟨v, h1, h2.ext b⟩⟩ r
theorem RelSl.ext {ρ : Env3} {σ : L2.St} (h : RelSl G.K ι H ρ σ) (e : Ext3 G ι H ι' H') : RelSl G.K ι' H' ρ σ := ⟨h.1, fun i d k => by
  obtain ⟨v, h1, h2⟩ := h.2 i d k
  exact ⟨v, h1, h2.ext e⟩⟩
theorem Rel3.ext {S S' : Store} {ρ : Env3} {σ : L2.St} (R : Rel3 G ι H S ρ σ) (e : Ext3 G ι H ι' H') (s : St3 G ι' H' S') : Rel3 G ι' H' S' ρ σ := ⟨s, R.sl.ext e, e.tabs R.tb⟩
theorem RelSl.set {ρ : Env3} {σ : L2.St} {d : D} {v : V} (i : Nat) (h : RelSl G.K ι H ρ σ) (r : RelD G.K ι H d v) : RelSl G.K ι H (ρ.set i (some d)) (σ.set i (some v)) := by
  refine ⟨by rw [List.length_set, List.length_set, h.1], fun j e hj => ?_⟩
  by_cases z : j = i
  · subst z
    have hl : j < ρ.length := by
      obtain ⟨q, _⟩ := List.getElem?_eq_some_iff.mp hj
      rw [List.length_set] at q
      exact q
    rw [List.getElem?_set_self hl] at hj
    have e1 : d = e := Option.some.inj (Option.some.inj hj)
    subst e1
    exact ⟨v, by rw [List.getElem?_set_self (by rw [h.1]; exact hl)], r⟩
  · rw [List.getElem?_set_ne (Ne.symm z)] at hj
    obtain ⟨u, h1, h2⟩ := h.2 j e hj
    exact ⟨u, by rw [List.getElem?_set_ne (Ne.symm z)]; exact h1, h2⟩
theorem RelSl.unset {ρ : Env3} {σ : L2.St} (i : Nat) (h : RelSl G.K ι H ρ σ) : RelSl G.K ι H (ρ.set i none) (σ.set i none) := by
  refine ⟨by rw [List.length_set, List.length_set, h.1], fun j e hj => ?_⟩
  by_cases z : j = i
  · subst z
    have hl : j < ρ.length := by
      obtain ⟨q, _⟩ := List.getElem?_eq_some_iff.mp hj
      rw [List.length_set] at q
      exact q
    rw [List.getElem?_set_self hl] at hj
    cases hj
  · rw [List.getElem?_set_ne (Ne.symm z)] at hj
    obtain ⟨u, h1, h2⟩ := h.2 j e hj
    exact ⟨u, by rw [List.getElem?_set_ne (Ne.symm z)]; exact h1, h2⟩
end

/-- what is wanted behind a statement -/
structure Ends3 where
  nx : Env3 → Store → Prop
  rt : D → Store → Prop
  bk : Env3 → Store → Prop
  ct : Env3 → Store → Prop
  xc : Env3 → XK3
abbrev WS := Ends3 → Env3 → Store → Prop
abbrev WG := D → Env3 → Store → (Env3 → Store → Prop) → XK3 → Prop
abbrev WGs := List D → Env3 → Store → (Env3 → Store → Prop) → XK3 → Prop

section
variable (G : Gx) (W : WX)
def liftE (w : WE) : TE := fun σ H Q => ∃ ι S ρ q x, Rel3 G ι H S ρ σ ∧ w ρ S q x ∧ PoE G ι H q Q ∧ PoX G ι H x (fun cls d H' => W cls d σ H')
def liftT (w : WT) : TT := fun σ H Q => ∃ ι S ρ q x, Rel3 G ι H S ρ σ ∧ w ρ S q x ∧ PoT G ι H q Q ∧ PoX G ι H x (fun cls d H' => W cls d σ H')
def liftA (w : WA) : TA := fun σ H Q => ∃ ι S ρ q x, Rel3 G ι H S ρ σ ∧ w ρ S q x ∧ PoA G ι H q Q ∧ PoX G ι H x (fun cls d H' => W cls d σ H')
def liftO (w : WO) : TO := fun σ H Q => ∃ ι S ρ q x, Rel3 G ι H S ρ σ ∧ w ρ S q x ∧ PoT G ι H q Q ∧ PoX G ι H x (fun cls d H' => W cls d σ H')
def liftS (w : WS) : TS := fun D σ H => ∃ ι S ρ E, Rel3 G ι H S ρ σ ∧ w E ρ S ∧ PoS G ι H E.nx D.nx ∧ PoE G ι H E.rt D.rt ∧ PoS G ι H E.bk D.bk ∧ PoS G ι H E.ct D.ct ∧ PoXS G ι H E.xc W
def liftG (w : WG) : TG := fun v σ H Q => ∃ ι S ρ d q x, Rel3 G ι H S ρ σ ∧ RelD G.K ι H d v ∧ w d ρ S q x ∧ PoS G ι H q Q ∧ PoX G ι H x (fun cls d H' => W cls d σ H')
def liftGs (w : WGs) : TGs := fun vs σ H Q => ∃ ι S ρ ds q x, Rel3 G ι H S ρ σ ∧ RelDs G.K ι H ds vs ∧ w ds ρ S q x ∧ PoS G ι H q Q ∧ PoX G ι H x (fun cls d H' => W cls d σ H')
end

/-- the classes by name, the tables: the same through a whole proof -/
structure Cl where
  cls : Str → Option Addr
  T : List (Addr × Str)
abbrev gx (C : Cl) (X : Cx) : Gx := ⟨X.K, C.cls, C.T⟩
def PE3 (C : Cl) (X : Cx) (W : WX) (e : Expr) (w : WE) : Prop := PE X e (liftE (gx C X) W w)
def PT3 (C : Cl) (X : Cx) (W : WX) (e : Expr) (w : WT) : Prop := PT X e (liftT (gx C X) W w)
def PW3 (C : Cl) (X : Cx) (W : WX) (e : Expr) (w : WT) : Prop := PW X e (liftT (gx C X) W w)
def PA3 (C : Cl) (X : Cx) (W : WX) (es : List Expr) (w : WA) : Prop := PA X es (liftA (gx C X) W w)
def PO3 (C : Cl) (X : Cx) (W : WX) (e : Option Expr) (w : WO) : Prop := PO X e (liftO (gx C X) W w)
def PS3 (C : Cl) (X : Cx) (W : WX) (s : Stmt) (w : WS) : Prop := PS X s (liftS (gx C X) W w)
def PSs3 (C : Cl) (X : Cx) (W : WX) (s : List Stmt) (w : WS) : Prop := PSs X s (liftS (gx C X) W w)
def PG3 (C : Cl) (X : Cx) (W : WX) (e : Expr) (w : WG) : Prop := PG X e (liftG (gx C X) W w)
def PGs3 (C : Cl) (X : Cx) (W : WX) (es : List Expr) (w : WGs) : Prop := PGs X es (liftGs (gx C X) W w)

section
variable {C : Cl} {X : Cx} {W : WX} {e a b : Expr} {wa wb : WE} {pos : Pos}
theorem pe_le {t : TE} {w : WE} (h : PE X e t) (i : ∀ σ H Q, liftE (gx C X) W w σ H Q → t σ H Q) : PE3 C X W e w := ⟨fun p s σ H Q I k => h.run p s σ H Q I (i σ H Q k)⟩
theorem pt_le {t : TT} {w : WT} (h : PT X e t) (i : ∀ σ H Q, liftT (gx C X) W w σ H Q → t σ H Q) : PT3 C X W e w := ⟨fun p s σ H Q I k => h.run p s σ H Q I (i σ H Q k)⟩
theorem pw_le {t : TT} {w : WT} (h : PW X e t) (i : ∀ σ H Q, liftT (gx C X) W w σ H Q → t σ H Q) : PW3 C X W e w := ⟨fun wh p s σ H Q I k => h.run wh p s σ H Q I (i σ H Q k)⟩
theorem pa_le {es : List Expr} {t : TA} {w : WA} (h : PA X es t) (i : ∀ σ H Q, liftA (gx C X) W w σ H Q → t σ H Q) : PA3 C X W es w := ⟨fun q p s σ H Q I k => h.run q p s σ H Q I (i σ H Q k)⟩
theorem ps_le {st : Stmt} {t : TS} {w : WS} (h : PS X st t) (i : ∀ D σ H, liftS (gx C X) W w D σ H → t D σ H) : PS3 C X W st w := ⟨fun p s σ H D I k => h.run p s σ H D I (i D σ H k)⟩
theorem pss_le {st : List Stmt} {t : TS} {w : WS} (h : PSs X st t) (i : ∀ D σ H, liftS (gx C X) W w D σ H → t D σ H) : PSs3 C X W st w := ⟨fun p s σ H D I k => h.run p s σ H D I (i D σ H k)⟩
theorem pg_le {t : TG} {w : WG} (h : PG X e t) (i : ∀ v σ H Q, liftG (gx C X) W w v σ H Q → t v σ H Q) : PG3 C X W e w := ⟨fun p s σ H v u Q I r k => h.run p s σ H v u Q I r (i v σ H Q k)⟩
theorem pgs_le {es : List Expr} {t : TGs} {w : WGs} (h : PGs X es t) (i : ∀ v σ H Q, liftGs (gx C X) W w v σ H Q → t v σ H Q) : PGs3 C X W es w := ⟨fun p s σ H v u Q I r k => h.run p s σ H v u Q I r (i v σ H Q k)⟩

/-! ### names, constants -/
def slot : Env3 → Nat → Option D
  | [], _ => none
  | o :: _, 0 => o
  | _ :: r, n + 1 => slot r n
theorem slot_get : ∀ {ρ : Env3} {i : Nat} {d : D}, slot ρ i = some d → ρ[i]? = some (some d)
  | [], i, d, h => by cases h
  | o :: r, 0, d, h => by
    have h : o = some d := h
    rw [h] <;> rfl
  | o :: r, i + 1, d, h => by
    have q := slot_get (ρ := r) (i := i) (d := d) h
    simpa using q
/-- set in place, computing -/
def put : Env3 → Nat → Option D → Env3
  | [], _, _ => []
  | _ :: r, 0, d => d :: r
  | o :: r, n + 1, d => o :: put r n d
theorem put_set : ∀ (ρ : Env3) (i : Nat) (d : Option D), put ρ i d = ρ.set i d
  | [], i, d => rfl
  | o :: r, 0, d => rfl
  | o :: r, i + 1, d => by
    show o :: put r i d = o :: r.set i d
    rw [put_set r i d]
def wVar (i : Nat) : WE := fun ρ S q _ => match slot ρ i with
  | some d => q d S
  | none => False
def wC (d : D) : WE := fun _ S q _ => q d S
theorem pe3_var {i : Nat} {x : Str} (h : PE X (.Name x pos) (tVar i)) : PE3 C X W (.Name x pos) (wVar i) := by
  refine pe_le h fun σ H Q ⟨ι, S, ρ, q, x, R, k, p, _⟩ => ?_
  unfold wVar at k
  cases z : slot ρ i with
  | none =>
    rw [z] at k
    exact k.elim
  | some d =>
    rw [z] at k
    obtain ⟨v, h1, h2⟩ := R.sl.2 i d (slot_get z)
    exact ⟨v, h1, p d S ι H v k (Ext3.refl _ _ _) R.st h2⟩
/-- a constant: its relation at every heap -/
theorem pe3_c {v : V} {d : D} (h : PE X e (tC v)) (r : ∀ ι H, RelD X.K ι H d v) : PE3 C X W e (wC d) := by
  refine pe_le h fun σ H Q ⟨ι, S, ρ, q, x, R, k, p, _⟩ => ?_
  exact p d S ι H v k (Ext3.refl _ _ _) R.st (r ι H)
end
end L3

set_option Elab.async false
set_option linter.all false
set_option maxRecDepth 100000
set_option maxHeartbeats 4000000
/-! L3: operators. -/
namespace L3
open PySem PySem.Spec PyProof.Rows L2
open LamX (Tabs TabS CodeO)

/-- the longest list, tuple, text -/
abbrev LIM : Nat := 16777216
theorem lim_eq : sizeLine = LIM := sizeLine_eq

section
variable {G : Gx} {ι : List Addr} {H : Hp} {S : Store} {q : WK} {Q : VK}
/-- a new list, a new tuple -/
theorem PoE.newL {ds : List D} {xs : List V} (p : PoE G ι H q Q) (st : St3 G ι H S) (r : RelDs G.K ι H ds xs) (h : q (.ref S.length) (S ++ [.lst ds])) : ∀ a, H a = none → Q (.ref a) (upd H a (.lst xs)) := fun a n => by
  refine p _ _ (ι ++ [a]) _ _ h (Ext3.new n) (st.new n ⟨xs, upd_same, r.ext (Ext3.new n)⟩) ?_
  unfold RelD
  exact ⟨a, by rw [← st.len, List.getElem?_append_right (Nat.le_refl _), Nat.sub_self] <;> rfl, rfl⟩
theorem relT {ds : List D} {xs : List V} {a : Addr} (st : St3 G ι H S) (n : H a = none) (r : RelDs G.K ι H ds xs) : RelD G.K ι (upd H a (.tup xs)) (.tup ds) (.ref a) := by
  unfold RelD
  refine ⟨a, xs, rfl, .inl ⟨.inl upd_same, fun m => ?_⟩, r.ext (Ext3.side n)⟩
  obtain ⟨o, z⟩ := st.some m
  rw [n] at z
  cases z
theorem PoE.newT {ds : List D} {xs : List V} (p : PoE G ι H q Q) (st : St3 G ι H S) (r : RelDs G.K ι H ds xs) (h : q (.tup ds) S) : ∀ a, H a = none → Q (.ref a) (upd H a (.tup xs)) := fun a n =>
  p _ _ ι _ _ h (Ext3.side n) (st.side n) (relT st n r)
theorem PoE.here {d : D} {v : V} (p : PoE G ι H q Q) (st : St3 G ι H S) (r : RelD G.K ι H d v) (h : q d S) : Q v H := p d S ι H v h (Ext3.refl _ _ _) st r
theorem PoE.int {i : Int} (p : PoE G ι H q Q) (st : St3 G ι H S) (h : q (.int i) S) : Q (.int i) H := p.here st (by unfold RelD; rfl) h
theorem PoE.bl {i : Bool} (p : PoE G ι H q Q) (st : St3 G ι H S) (h : q (.bl i) S) : Q (.bl i) H := p.here st (by unfold RelD; rfl) h
theorem PoE.non (p : PoE G ι H q Q) (st : St3 G ι H S) (h : q .non S) : Q .non H := p.here st (by unfold RelD; rfl) h
theorem PoE.str {z : Str} (p : PoE G ι H q Q) (st : St3 G ι H S) (o : PyData.strOk z = true) (h : q (.str z) S) : Q (.str z) H := p.here st (by unfold RelD; exact ⟨rfl, o⟩) h
end
section
variable {K : PySem.W.Frag} {ι : List Addr} {H : Hp} {v : V}
theorem RelD.int_ {i : Int} (r : RelD K ι H (.int i) v) : v = .int i := by unfold RelD at r; exact r
theorem RelD.bl_ {i : Bool} (r : RelD K ι H (.bl i) v) : v = .bl i := by unfold RelD at r; exact r
theorem RelD.non_ (r : RelD K ι H .non v) : v = .non := by unfold RelD at r; exact r
theorem RelD.ty_ {n : String} (r : RelD K ι H (.ty n) v) : v = .ty n := by unfold RelD at r; exact r
theorem RelD.str_ {z : Str} (r : RelD K ι H (.str z) v) : v = .str z ∧ PyData.strOk z = true := by unfold RelD at r; exact r
theorem RelD.tup_ {ds : List D} (r : RelD K ι H (.tup ds) v) : ∃ a xs, v = .ref a ∧ SqT K H a xs ∧ RelDs K ι H ds xs := by
  unfold RelD at r
  obtain ⟨a, xs, e, f, g⟩ := r
  exact ⟨a, xs, e, f.sq, g⟩
theorem RelD.fl_ {ds : List D} (r : RelD K ι H (.fl ds) v) : ∃ a xs, v = .ref a ∧ SqL K H a xs ∧ RelDs K ι H ds xs := by
  unfold RelD at r
  obtain ⟨a, xs, e, f, g⟩ := r
  exact ⟨a, xs, e, f.sq, g⟩
theorem RelD.ref_ {n : Nat} (r : RelD K ι H (.ref n) v) : ∃ a, v = .ref a ∧ ι[n]? = some a := by
  unfold RelD at r
  obtain ⟨a, h1, h2⟩ := r
  exact ⟨a, h2, h1⟩
end
theorem ok_app {a b : Str} (h : PyData.strOk a = true) (k : PyData.strOk b = true) : PyData.strOk (a ++ b) = true := by
  unfold PyData.strOk at h k ⊢
  show (a.cps ++ b.cps).all _ = true
  rw [Array.all_append, h, k]
  rfl

abbrev R3 := D → D → Store → WK → Prop
def r2of (C : Cl) (X : Cx) (r : R3) : R2 := fun x y H Q => ∃ ι S d e q, St3 (gx C X) ι H S ∧ Tabs C.T H ∧ RelD X.K ι H d x ∧ RelD X.K ι H e y ∧ r d e S q ∧ PoE (gx C X) ι H q Q
def OpR3 (C : Cl) (X : Cx) (f : Value → Value → Sem Value) (r : R3) : Prop := OpR X f (r2of C X r)
def wOp (r : R3) (wa wb : WE) : WE := fun ρ S q x => wa ρ S (fun d S1 => wb ρ S1 (fun e S2 => r d e S2 q) x) x

section
variable {C : Cl} {X : Cx} {W : WX} {e a b : Expr} {wa wb : WE} {pos : Pos} {r : R3}
theorem op_lift : ∀ σ H Q, liftE (gx C X) W (wOp r wa wb) σ H Q → tOp (r2of C X r) (liftE (gx C X) W wa) (liftE (gx C X) W wb) σ H Q := fun σ H Q ⟨ι, S, ρ, q, x, R, h, p, px⟩ => by
  refine ⟨ι, S, ρ, _, x, R, h, fun d S1 ι1 H1 v h1 e1 st1 rd => ?_, px⟩
  refine ⟨ι1, S1, ρ, _, x, R.ext e1 st1, h1, fun e S2 ι2 H2 u h2 e2 st2 re => ?_, px.ext e1⟩
  exact ⟨ι2, S2, d, e, q, st2, e2.tabs (e1.tabs R.tb), rd.ext e2, re, h2, p.ext (e1.trans e2)⟩
theorem pe3_op {op : Operator} (ho : OpR3 C X (binaryOp op) r) (ha : PE3 C X W a wa) (hb : PE3 C X W b wb) : PE3 C X W (.BinOp a op b pos) (wOp r wa wb) := pe_le (pe_op ho ha hb) op_lift
theorem pe3_cmp {op : CmpOp} (ho : OpR3 C X (compareOp op) r) (ha : PE3 C X W a wa) (hb : PE3 C X W b wb) (hm : behindInMarks op b = false) : PE3 C X W (.Compare a [op] [b] pos) (wOp r wa wb) := pe_le (pe_cmpR ho ha hb hm) op_lift
/-- a value that is a truth value, as a test -/
def wB (w : WE) : WT := fun ρ S q x => w ρ S (fun d S' => match d with | .bl b => q b S' | _ => False) x
theorem b_lift {w : WE} {t : TE} (i : ∀ σ H Q, liftE (gx C X) W w σ H Q → t σ H Q) : ∀ σ H Q, liftT (gx C X) W (wB w) σ H Q → tB t σ H Q := fun σ H Q ⟨ι, S, ρ, q, x, R, h, p, px⟩ => by
  refine i σ H _ ⟨ι, S, ρ, _, x, R, h, fun d S1 ι1 H1 v h1 e1 st1 rd => ?_, px⟩
  cases d with
  | bl b =>
    rw [rd.bl_]
    exact ⟨b, rfl, p b S1 ι1 H1 h1 e1 st1⟩
  | _ => exact False.elim h1
theorem pt3_cmp {op : CmpOp} (ho : OpR3 C X (compareOp op) r) (ha : PE3 C X W a wa) (hb : PE3 C X W b wb) (hm : behindInMarks op b = false) : PT3 C X W (.Compare a [op] [b] pos) (wB (wOp r wa wb)) :=
  pt_le (pt_cmpR ho ha hb hm) (b_lift op_lift)
theorem pt3_val {w : WE} (h : PE3 C X W e w) (he : ∀ whole, isTrue e X.env whole = (do let v ← whole; standAt e.pos; holding [v] (truthy v)) := by intro _; rfl) : PT3 C X W e (wB w) :=
  pt_le (pt_val h he) (b_lift fun _ _ _ k => k)

/-! ### + - * // % ** -/
def addD : R3
  | .int a, .int b, S, q => q (.int (a + b)) S
  | .str a, .str b, S, q => a.length + b.length ≤ LIM ∧ q (.str (a ++ b)) S
  | .tup a, .tup b, S, q => a.length + b.length ≤ LIM ∧ q (.tup (a ++ b)) S
  | .ref m, .ref n, S, q => match S[m]?, S[n]? with
    | some (.lst a), some (.lst b) => a.length + b.length ≤ LIM ∧ q (.ref S.length) (S ++ [.lst (a ++ b)])
    | _, _ => False
  | _, _, _, _ => False
theorem add3 : OpR3 C X (binaryOp .Add) addD := by
  intro pins s σ H x y v u Q I rx ry ⟨ι, S, d, e, q, st, tb, rd, re, h, p⟩
  cases d with
  | int i =>
    cases e with
    | int j =>
      rw [rd.int_] at rx
      rw [re.int_] at ry
      exact op_add pins s σ H _ _ v u Q I rx ry ⟨i, j, rfl, rfl, p.int st h⟩
    | _ => exact False.elim h
  | str i =>
    cases e with
    | str j =>
      obtain ⟨rfl, o1⟩ := rd.str_
      obtain ⟨rfl, o2⟩ := re.str_
      exact op_add_str pins s σ H _ _ v u Q I rx ry ⟨i, j, rfl, rfl, by rw [lim_eq]; exact h.1, p.str st (ok_app o1 o2) h.2⟩
    | _ => exact False.elim h
  | tup i =>
    cases e with
    | tup j =>
      obtain ⟨a, xs, rfl, k1, r1⟩ := rd.tup_
      obtain ⟨b, ys, rfl, k2, r2⟩ := re.tup_
      refine op_catA pins s σ H _ _ v u Q I rx ry ⟨a, b, xs, ys, rfl, rfl, k1, k2, by rw [r1.length, r2.length, lim_eq]; exact h.1, fun z => ?_, fun _ z => ?_, fun _ _ => p.newT st (r1.append r2) h.2⟩
      · subst z
        have z : i = [] := List.length_eq_zero_iff.mp r1.length.symm
        subst z
        exact p.here st re h.2
      · subst z
        have z : j = [] := List.length_eq_zero_iff.mp r2.length.symm
        subst z
        have h2 := h.2
        rw [List.append_nil] at h2
        exact p.here st rd h2
    | _ => exact False.elim h
  | ref i =>
    cases e with
    | ref j =>
      have h : (match S[i]?, S[j]? with
        | some (.lst a), some (.lst b) => a.length + b.length ≤ LIM ∧ q (.ref S.length) (S ++ [.lst (a ++ b)])
        | _, _ => False) := h
      split at h
      · rename_i a b e1 e2
        obtain ⟨l, rfl, i1⟩ := rd.ref_
        obtain ⟨m, rfl, i2⟩ := re.ref_
        obtain ⟨xs, k1, r1⟩ := st.obj _ _ _ e1 i1
        obtain ⟨ys, k2, r2⟩ := st.obj _ _ _ e2 i2
        exact op_cat pins s σ H _ _ v u Q I rx ry ⟨l, m, xs, ys, rfl, rfl, k1, k2, by rw [r1.length, r2.length, lim_eq]; exact h.1, p.newL st (r1.append r2) h.2⟩
      · exact False.elim h
    | _ => exact False.elim h
  | _ => exact False.elim h

/-- an operator on two whole numbers -/
theorem int3 {f : Value → Value → Sem Value} {c : Int → Int → Prop} {g : Int → Int → V} {g' : Int → Int → D} (h : OpR X f (rI c g)) (hg : ∀ i j ι H, RelD X.K ι H (g' i j) (g i j)) :
    OpR3 C X f (fun d e S q => match d, e with | .int i, .int j => c i j ∧ q (g' i j) S | _, _ => False) := by
  intro pins s σ H x y v u Q I rx ry ⟨ι, S, d, e, q, st, tb, rd, re, k, p⟩
  dsimp only at k
  split at k
  · rename_i i j
    rw [rd.int_] at rx
    rw [re.int_] at ry
    exact h pins s σ H _ _ v u Q I rx ry ⟨i, j, rfl, rfl, k.1, p.here st (hg i j ι H) k.2⟩
  · exact k.elim
theorem int30 {f : Value → Value → Sem Value} {g : Int → Int → V} {g' : Int → Int → D} (h : OpR X f (rI0 g)) (hg : ∀ i j ι H, RelD X.K ι H (g' i j) (g i j)) :
    OpR3 C X f (fun d e S q => match d, e with | .int i, .int j => q (g' i j) S | _, _ => False) := by
  intro pins s σ H x y v u Q I rx ry ⟨ι, S, d, e, q, st, tb, rd, re, k, p⟩
  dsimp only at k
  split at k
  · rename_i i j
    rw [rd.int_] at rx
    rw [re.int_] at ry
    exact h pins s σ H _ _ v u Q I rx ry ⟨i, j, rfl, rfl, p.here st (hg i j ι H) k⟩
  · exact k.elim
theorem rel_int {K : PySem.W.Frag} {ι : List Addr} {H : Hp} (i : Int) : RelD K ι H (.int i) (.int i) := by unfold RelD; rfl
theorem rel_bl {K : PySem.W.Frag} {ι : List Addr} {H : Hp} (i : Bool) : RelD K ι H (.bl i) (.bl i) := by unfold RelD; rfl
def subD : R3 := fun d e S q => match d, e with | .int i, .int j => q (.int (i - j)) S | _, _ => False
theorem sub3 : OpR3 C X (binaryOp .Sub) subD := int30 op_sub fun i j ι H => rel_int _
def fdivD : R3 := fun d e S q => match d, e with | .int i, .int j => CDivW i j ∧ q (.int (i / j)) S | _, _ => False
theorem fdiv3 : OpR3 C X (binaryOp .FloorDiv) fdivD := int3 op_fdivW fun i j ι H => rel_int _
def modD : R3 := fun d e S q => match d, e with | .int i, .int j => 0 < j ∧ q (.int (i % j)) S | _, _ => False
theorem mod3 : OpR3 C X (binaryOp .Mod) modD := int3 op_mod fun i j ι H => rel_int _
def powD : R3 := fun d e S q => match d, e with | .int i, .int j => CPow i j ∧ q (.int (i ^ j.toNat)) S | _, _ => False
theorem pow3 : OpR3 C X (binaryOp .Pow) powD := int3 op_pow fun i j ι H => rel_int _
/-- a text so many times -/
def strRep (z : Str) (n : Nat) : Str := ⟨(List.replicate n z.cps).foldl (· ++ ·) #[]⟩
def mulD : R3
  | .int i, .int j, S, q => CMulW i j ∧ q (.int (i * j)) S
  | .str z, .int k, S, q => 1 < k ∧ k < 2 ^ 31 ∧ 0 < z.length ∧ z.length * k.toNat ≤ LIM ∧ q (.str (strRep z k.toNat)) S
  | .ref n, .int k, S, q => match S[n]? with
    | some (.lst a) => 0 ≤ k ∧ k < 2 ^ 31 ∧ a.length * k.toNat ≤ LIM ∧ q (.ref S.length) (S ++ [.lst (List.replicate k.toNat a).flatten])
    | _ => False
  | _, _, _, _ => False
theorem ok_rep {z : Str} (o : PyData.strOk z = true) (n : Nat) : PyData.strOk (strRep z n) = true := by
  have key : ∀ (n : Nat) (acc : Array Nat), acc.all (· < 0x110000) = true → ((List.replicate n z.cps).foldl (· ++ ·) acc).all (· < 0x110000) = true := by
    intro n
    induction n with
    | zero => intro acc h; exact h
    | succ n ih =>
      intro acc h
      rw [List.replicate_succ, List.foldl_cons]
      refine ih _ ?_
      rw [Array.all_append, h]
      exact o
  exact key n #[] (by simp)
theorem rep_rel {K : PySem.W.Frag} {ι : List Addr} {H : Hp} {ds : List D} {xs : List V} (r : RelDs K ι H ds xs) : ∀ n : Nat, RelDs K ι H (List.replicate n ds).flatten (List.replicate n xs).flatten
  | 0 => .nil
  | n + 1 => by
    rw [List.replicate_succ, List.replicate_succ, List.flatten_cons, List.flatten_cons]
    exact r.append (rep_rel r n)
theorem mul3 : OpR3 C X (binaryOp .Mult) mulD := by
  intro pins s σ H x y v u Q I rx ry ⟨ι, S, d, e, q, st, tb, rd, re, h, p⟩
  cases d with
  | int i =>
    cases e with
    | int j =>
      rw [rd.int_] at rx
      rw [re.int_] at ry
      exact op_mulW pins s σ H _ _ v u Q I rx ry ⟨i, j, rfl, rfl, h.1, p.int st h.2⟩
    | _ => exact False.elim h
  | str z =>
    cases e with
    | int k =>
      obtain ⟨rfl, o⟩ := rd.str_
      rw [re.int_] at ry
      obtain ⟨h1, h2, h0, h3, h⟩ := h
      obtain ⟨t, rfl⟩ := rx
      obtain ⟨t', rfl⟩ := ry
      have c1 : ¬ k < 1 := by omega
      have c2 : (k == 1 || z.length == 0) = false := by
        rw [Bool.or_eq_false_iff]
        exact ⟨beq_eq_false_iff_ne.mpr (by omega), beq_eq_false_iff_ne.mpr (by omega)⟩
      refine PySem.P.mul_str ?_ (fun _ _ => ?_) (fun _ _ => ?_) ?_
      · rw [Bool.or_eq_false_iff]
        exact ⟨decide_eq_false (by omega), decide_eq_false (by omega)⟩
      · have hz : z.length * k.toNat ≤ 16777216 := h3
        have hz2 : (z.length : Int) * k ≤ 16777216 := by
          have e : ((z.length * k.toNat : Nat) : Int) = (z.length : Int) * k := by
            rw [Int.natCast_mul, Int.toNat_of_nonneg (by omega)]
          omega
        have hz3 : (z.length : Int) ≤ 16777216 := by
          have : z.length * 1 ≤ z.length * k.toNat := Nat.mul_le_mul_left _ (by omega)
          omega
        have hd : (2 ^ 31 : Int) ≤ (2 ^ 63 - 1) / k := (Int.le_ediv_iff_mul_le (by omega)).mpr (by omega)
        omega
      · have : sizeLine = 16777216 := sizeLine_eq
        unfold Builtin.Str.tooLong
        exact decide_eq_false (by have h3 : z.length * k.toNat ≤ 16777216 := h3; omega)
      · rw [if_neg c1, if_neg (by rw [c2]; exact Bool.false_ne_true)]
        have hl : (strRep z k.toNat).length ≤ sizeLine := by
          have key : ∀ (n : Nat) (acc : Array Nat), ((List.replicate n z.cps).foldl (· ++ ·) acc).size = acc.size + z.length * n := by
            intro n
            induction n with
            | zero => intro acc; simp
            | succ n ih =>
              intro acc
              rw [List.replicate_succ, List.foldl_cons, ih, Array.size_append]
              have e : z.length * (n + 1) = z.length * n + z.length := Nat.mul_succ _ _
              have e2 : z.cps.size = z.length := rfl
              omega
          have e := key k.toNat #[]
          show ((List.replicate k.toNat z.cps).foldl (· ++ ·) #[]).size ≤ sizeLine
          rw [e, lim_eq]
          have e0 : (#[] : Array Nat).size = 0 := rfl
          omega
        exact ⟨hl, ⟨.str _, H, I.tok _, ⟨_, rfl⟩, p.str st (ok_rep o _) h⟩⟩
    | _ => exact False.elim h
  | ref n =>
    cases e with
    | int k =>
      have h : (match S[n]? with
        | some (.lst a) => 0 ≤ k ∧ k < 2 ^ 31 ∧ a.length * k.toNat ≤ LIM ∧ q (.ref S.length) (S ++ [.lst (List.replicate k.toNat a).flatten])
        | _ => False) := h
      split at h
      · rename_i a e1
        obtain ⟨l, rfl, i1⟩ := rd.ref_
        obtain ⟨xs, k1, r1⟩ := st.obj _ _ _ e1 i1
        rw [re.int_] at ry
        exact op_rep pins s σ H _ _ v u Q I rx ry ⟨l, k, xs, rfl, rfl, k1, by omega, by omega, by rw [r1.length, lim_eq]; exact h.2.2.1, p.newL st (rep_rel r1 _) h.2.2.2⟩
      · exact False.elim h
    | _ => exact False.elim h
  | _ => exact False.elim h

/-! ### what a value is as data -/
def seqO {α : Type} : List (Option α) → Option (List α)
  | [] => some []
  | some a :: r => (seqO r).map (a :: ·)
  | none :: _ => none
def rdD (S : Store) : Nat → D → Option PyData
  | 0, d => match d with
    | .non => some .none
    | .bl b => some (.bool b)
    | .int i => some (.int i)
    | .str z => some (.str z)
    | _ => none
  | n + 1, d => match d with
    | .non => some .none
    | .bl b => some (.bool b)
    | .int i => some (.int i)
    | .str z => some (.str z)
    | .tup ds => (seqO (ds.map (rdD S n))).map .tuple
    | .fl ds => (seqO (ds.map (rdD S n))).map .list
    | .ref k => match S[k]? with
      | some (.lst ds) => (seqO (ds.map (rdD S n))).map .list
      | _ => none
    | _ => none
theorem rdD_non {S : Store} (n : Nat) : rdD S n .non = some .none := by cases n <;> rfl
theorem rdD_bl {S : Store} (n : Nat) (b : Bool) : rdD S n (.bl b) = some (.bool b) := by cases n <;> rfl
theorem rdD_int {S : Store} (n : Nat) (i : Int) : rdD S n (.int i) = some (.int i) := by cases n <;> rfl
theorem rdD_str {S : Store} (n : Nat) (z : Str) : rdD S n (.str z) = some (.str z) := by cases n <;> rfl
theorem seqO_all {α : Type} : ∀ {l : List (Option α)} {r : List α}, seqO l = some r → l = r.map some
  | [], r, h => by
    cases h
    rfl
  | some a :: l, r, h => by
    unfold seqO at h
    cases z : seqO l with
    | none =>
      rw [z] at h
      cases h
    | some r' =>
      rw [z] at h
      cases h
      rw [seqO_all z]
      rfl
  | none :: l, r, h => by cases h
theorem seqO_map {α : Type} : ∀ r : List α, seqO (r.map some) = some r
  | [] => rfl
  | a :: r => by
    show (seqO (r.map some)).map (a :: ·) = some (a :: r)
    rw [seqO_map r] <;> rfl
theorem dpAll_of {K : PySem.W.Frag} {ι : List Addr} {H : Hp} {S : Store} {n : Nat} (one : ∀ (d : D) (v : V) (a : PyData), rdD S n d = some a → RelD K ι H d v → Dp K H v a ∧ a.canLay0 = true ∧ a.depth ≤ n) :
    ∀ (ds : List D) (xs : List V) (as : List PyData), seqO (ds.map (rdD S n)) = some as → RelDs K ι H ds xs → DpAll K H xs as ∧ PyData.canLayAll0 as = true ∧ PyData.depthAll as ≤ n
  | [], xs, as, h, r => by
    cases h
    rw [r.unnil]
    exact ⟨.nil, by simp [PyData.canLayAll0], by simp [PyData.depthAll]⟩
  | d :: ds, xs, as, h, r => by
    obtain ⟨y, ys, rfl, r1, r2⟩ := r.uncons
    have h := seqO_all h
    cases as with
    | nil => simp at h
    | cons a as =>
      rw [List.map_cons, List.map_cons] at h
      injection h with e1 e2
      obtain ⟨b1, b2, b3⟩ := one d y a e1 r1
      obtain ⟨c1, c2, c3⟩ := dpAll_of one ds ys as (by rw [e2]; exact seqO_map as) r2
      refine ⟨.cons b1 c1, by simp [PyData.canLayAll0, b2, c2], ?_⟩
      simp only [PyData.depthAll]
      omega
theorem dp_of {G : Gx} {ι : List Addr} {H : Hp} {S : Store} (st : St3 G ι H S) : ∀ (n : Nat) (d : D) (v : V) (a : PyData), rdD S n d = some a → RelD G.K ι H d v → Dp G.K H v a ∧ a.canLay0 = true ∧ a.depth ≤ n := by
  have flat : ∀ (n : Nat) (d : D) (v : V) (a : PyData), rdD S n d = some a → RelD G.K ι H d v → (match d with | .non => True | .bl _ => True | .int _ => True | .str _ => True | _ => False) → Dp G.K H v a ∧ a.canLay0 = true ∧ a.depth ≤ n := by
    intro n d v a h r f
    cases d with
    | non =>
      rw [rdD_non] at h
      cases h
      rw [r.non_]
      exact ⟨.non, by simp [PyData.canLay0], by simp [PyData.depth]⟩
    | bl b =>
      rw [rdD_bl] at h
      cases h
      rw [r.bl_]
      exact ⟨.bl b, by simp [PyData.canLay0], by simp [PyData.depth]⟩
    | int b =>
      rw [rdD_int] at h
      cases h
      rw [r.int_]
      exact ⟨.int b, by simp [PyData.canLay0], by simp [PyData.depth]⟩
    | str b =>
      rw [rdD_str] at h
      cases h
      obtain ⟨e, o⟩ := r.str_
      rw [e]
      exact ⟨.str b, by simp [PyData.canLay0, o], by simp [PyData.depth]⟩
    | _ => exact f.elim
  intro n
  induction n with
  | zero =>
    intro d v a h r
    cases d with
    | non => exact flat 0 _ v a h r True.intro
    | bl b => exact flat 0 _ v a h r True.intro
    | int b => exact flat 0 _ v a h r True.intro
    | str b => exact flat 0 _ v a h r True.intro
    | _ => cases h
  | succ n ih =>
    intro d v a h r
    cases d with
    | non => exact flat (n + 1) _ v a h r True.intro
    | bl b => exact flat (n + 1) _ v a h r True.intro
    | int b => exact flat (n + 1) _ v a h r True.intro
    | str b => exact flat (n + 1) _ v a h r True.intro
    | tup ds =>
      have h : (seqO (ds.map (rdD S n))).map PyData.tuple = some a := h
      obtain ⟨as, h1, h2⟩ := Option.map_eq_some_iff.mp h
      subst h2
      obtain ⟨b, xs, rfl, k, r2⟩ := r.tup_
      obtain ⟨c1, c2, c3⟩ := dpAll_of ih ds xs as h1 r2
      exact ⟨.tup k c1, by simp only [PyData.canLay0]; exact c2, by simp only [PyData.depth]; omega⟩
    | fl ds =>
      have h : (seqO (ds.map (rdD S n))).map PyData.list = some a := h
      obtain ⟨as, h1, h2⟩ := Option.map_eq_some_iff.mp h
      subst h2
      obtain ⟨b, xs, rfl, k, r2⟩ := r.fl_
      obtain ⟨c1, c2, c3⟩ := dpAll_of ih ds xs as h1 r2
      exact ⟨.lst k c1, by simp only [PyData.canLay0]; exact c2, by simp only [PyData.depth]; omega⟩
    | ref k =>
      have h : (match S[k]? with
        | some (.lst ds) => (seqO (ds.map (rdD S n))).map PyData.list
        | _ => none) = some a := h
      split at h
      · rename_i ds e1
        obtain ⟨as, h1, h2⟩ := Option.map_eq_some_iff.mp h
        subst h2
        obtain ⟨b, rfl, i1⟩ := r.ref_
        obtain ⟨xs, k1, r2⟩ := st.obj _ _ _ e1 i1
        obtain ⟨c1, c2, c3⟩ := dpAll_of ih ds xs as h1 r2
        exact ⟨.lst (SqL.of k1) c1, by simp only [PyData.canLay0]; exact c2, by simp only [PyData.depth]; omega⟩
      · cases h
    | ty m => cases h
theorem shaped_of {a : PyData} {n : Nat} (h : a.canLay0 = true) (k : a.depth ≤ n) (hn : n ≤ 64) : SeqAt.shaped a = true := by
  unfold SeqAt.shaped
  rw [h, Bool.true_and]
  exact decide_eq_true (Nat.le_trans k hn)

/-! ### == != -/
def eqD : R3 := fun x y S q => match rdD S 40 x, rdD S 40 y with
  | some a, some b => q (.bl (PyData.eqv a b)) S
  | _, _ => False
def neD : R3 := fun x y S q => match rdD S 40 x, rdD S 40 y with
  | some a, some b => q (.bl (!PyData.eqv a b)) S
  | _, _ => False
theorem eq3 (hu : X.A.units + 64 < cLine) : OpR3 C X (compareOp .Eq) eqD := by
  intro pins s σ H x y v u Q I rx ry ⟨ι, S, d, e, q, st, tb, rd, re, h, p⟩
  unfold eqD at h
  split at h
  · rename_i a b e1 e2
    obtain ⟨a1, a2, a3⟩ := dp_of st 40 d x a e1 rd
    obtain ⟨b1, b2, b3⟩ := dp_of st 40 e y b e2 re
    exact op_eqD hu pins s σ H _ _ v u Q I rx ry ⟨a, b, a1, b1, shaped_of a2 a3 (by decide), shaped_of b2 b3 (by decide), p.bl st h⟩
  · exact h.elim
theorem ne3 (hu : X.A.units + 64 < cLine) : OpR3 C X (compareOp .NotEq) neD := by
  intro pins s σ H x y v u Q I rx ry ⟨ι, S, d, e, q, st, tb, rd, re, h, p⟩
  unfold neD at h
  split at h
  · rename_i a b e1 e2
    obtain ⟨a1, a2, a3⟩ := dp_of st 40 d x a e1 rd
    obtain ⟨b1, b2, b3⟩ := dp_of st 40 e y b e2 re
    exact op_neD hu pins s σ H _ _ v u Q I rx ry ⟨a, b, a1, b1, shaped_of a2 a3 (by decide), shaped_of b2 b3 (by decide), p.bl st h⟩
  · exact h.elim

/-! ### < <= > >= -/
def cmpD (f : Int → Int → Bool) (g : Str → Str → Bool) : R3 := fun d e S q => match d, e with
  | .int i, .int j => q (.bl (f i j)) S
  | .str i, .str j => q (.bl (g i j)) S
  | _, _ => False
theorem cmp3 {f : Value → Value → Sem Value} {g : Int → Int → Bool} {g' : Str → Str → Bool} (h : OpR X f (rI0 fun i j => .bl (g i j))) (h' : OpR X f (fun x y H Q => ∃ i j, x = .str i ∧ y = .str j ∧ Q (.bl (g' i j)) H)) : OpR3 C X f (cmpD g g') := by
  intro pins s σ H x y v u Q I rx ry ⟨ι, S, d, e, q, st, tb, rd, re, k, p⟩
  unfold cmpD at k
  split at k
  · rename_i i j
    rw [rd.int_] at rx
    rw [re.int_] at ry
    exact h pins s σ H _ _ v u Q I rx ry ⟨i, j, rfl, rfl, p.bl st k⟩
  · rename_i i j
    rw [rd.str_.1] at rx
    rw [re.str_.1] at ry
    exact h' pins s σ H _ _ v u Q I rx ry ⟨i, j, rfl, rfl, p.bl st k⟩
  · exact k.elim
abbrev ltStr (i j : Str) : Bool := decide (i.cps.toList < j.cps.toList)
def ltD : R3 := cmpD (fun i j => decide (i < j)) ltStr
def leD : R3 := cmpD (fun i j => decide (i ≤ j)) (fun i j => !ltStr j i)
def gtD : R3 := cmpD (fun i j => decide (j < i)) (fun i j => ltStr j i)
def geD : R3 := cmpD (fun i j => decide (j ≤ i)) (fun i j => !ltStr i j)
theorem lt3 : OpR3 C X (compareOp .Lt) ltD := cmp3 op_lt op_lt_str
theorem le3 : OpR3 C X (compareOp .LtE) leD := cmp3 op_le op_le_str
theorem gt3 : OpR3 C X (compareOp .Gt) gtD := cmp3 op_gt op_gt_str
theorem ge3 : OpR3 C X (compareOp .GtE) geD := cmp3 op_ge op_ge_str

/-! ### in, is None -/
def flatD : D → Bool
  | .non | .bl _ | .int _ | .str _ => true
  | _ => false
def eqF : D → D → Bool
  | .non, .non => true
  | .bl a, .bl b => a == b
  | .bl a, .int b => (if a then 1 else 0) == b
  | .int a, .bl b => a == (if b then 1 else 0)
  | .int a, .int b => a == b
  | .str a, .str b => a == b
  | _, _ => false
/-- the one text within the other -/
def subS (i j : Str) : Bool := !(Builtin.Str.occurrences j i 0 j.length 1).isEmpty
theorem subS_one (c : Nat) (z : Str) : subS ⟨#[c]⟩ z = decide (c ∈ z.cps.toList) := PySem.StrLaws.found_one z c
def inF (x : D) (ds : List D) : Bool := ds.any fun y => eqF y x
def inD (neg : Bool) : R3 := fun x y S q => match x, y with
  | .str i, .str j => q (.bl (neg ^^ subS i j)) S
  | x, .tup ds => flatD x = true ∧ ds.all flatD = true ∧ q (.bl (neg ^^ inF x ds)) S
  | x, .fl ds => flatD x = true ∧ ds.all flatD = true ∧ q (.bl (neg ^^ inF x ds)) S
  | x, .ref n => match S[n]? with
    | some (.lst ds) => match rdD S 40 x, seqO (ds.map (rdD S 40)) with
      | some a, some as => q (.bl (neg ^^ as.any fun z => PyData.eqv z a)) S
      | _, _ => False
    | _ => False
  | _, _ => False
theorem flat_rel {K : PySem.W.Frag} {ι : List Addr} {H : Hp} {d : D} {v : V} (r : RelD K ι H d v) (f : flatD d = true) : flatV v = true := by
  cases d with
  | non => rw [r.non_]; rfl
  | bl b => rw [r.bl_]; rfl
  | int b => rw [r.int_]; rfl
  | str b => rw [r.str_.1]; rfl
  | _ => cases f
theorem flats_rel {K : PySem.W.Frag} {ι : List Addr} {H : Hp} : ∀ {ds : List D} {xs : List V}, RelDs K ι H ds xs → ds.all flatD = true → xs.all flatV = true
  | [], xs, r, f => by rw [r.unnil] <;> rfl
  | d :: ds, xs, r, f => by
    obtain ⟨y, ys, rfl, r1, r2⟩ := r.uncons
    rw [List.all_cons, Bool.and_eq_true] at f
    rw [List.all_cons, flat_rel r1 f.1, flats_rel r2 f.2] <;> rfl
theorem eqF_rel {K : PySem.W.Frag} {ι : List Addr} {H : Hp} {d e : D} {v u : V} (r : RelD K ι H d v) (f : flatD d = true) (r2 : RelD K ι H e u) (f2 : flatD e = true) : eqV v u = eqF d e := by
  cases d with
  | non =>
    rw [r.non_]
    cases e with
    | non => rw [r2.non_]; rfl
    | bl b => rw [r2.bl_]; rfl
    | int b => rw [r2.int_]; rfl
    | str b => rw [r2.str_.1]; rfl
    | _ => cases f2
  | bl a =>
    rw [r.bl_]
    cases e with
    | non => rw [r2.non_]; rfl
    | bl b => rw [r2.bl_]; rfl
    | int b => rw [r2.int_]; rfl
    | str b => rw [r2.str_.1]; rfl
    | _ => cases f2
  | int a =>
    rw [r.int_]
    cases e with
    | non => rw [r2.non_]; rfl
    | bl b => rw [r2.bl_]; rfl
    | int b => rw [r2.int_]; rfl
    | str b => rw [r2.str_.1]; rfl
    | _ => cases f2
  | str a =>
    rw [r.str_.1]
    cases e with
    | non => rw [r2.non_]; rfl
    | bl b => rw [r2.bl_]; rfl
    | int b => rw [r2.int_]; rfl
    | str b => rw [r2.str_.1]; rfl
    | _ => cases f2
  | _ => cases f
theorem inF_rel {K : PySem.W.Frag} {ι : List Addr} {H : Hp} {x : D} {v : V} (r : RelD K ι H x v) (f : flatD x = true) : ∀ {ds : List D} {xs : List V}, RelDs K ι H ds xs → ds.all flatD = true → inV v xs = inF x ds
  | [], xs, r2, f2 => by rw [r2.unnil] <;> rfl
  | d :: ds, xs, r2, f2 => by
    obtain ⟨y, ys, rfl, a, b⟩ := r2.uncons
    rw [List.all_cons, Bool.and_eq_true] at f2
    have ih := inF_rel r f b f2.2
    unfold inV inF at ih ⊢
    rw [List.any_cons, List.any_cons, eqF_rel a f2.1 r f, ih]
theorem in3 (neg : Bool) (hu : X.A.units + 65 < cLine) : OpR3 C X (compareOp (if neg then .NotIn else .In)) (inD neg) := by
  have seq : ∀ (pins : List (Addr × Obj)) (s : Shared) (σ : L2.St) (H : Hp) (x y : V) (v u : Value) (Q : VK), L2.Inv X pins σ H s → RelV x v → RelV y u → ∀ (p : Addr) (xs : List V), y = .ref p → (SqL X.K H p xs ∨ SqT X.K H p xs) → flatV x = true → xs.all flatV = true → Q (.bl (neg ^^ inV x xs)) H →
      wpAny (model X.prog X.w) X.A (compareOp (if neg then .NotIn else .In) v u) (EP X pins σ Q) X.xe s := by
    intro pins s σ H x y v u Q I rx ry p xs e h1 h2 h3 h4
    cases neg with
    | true => exact op_notIn_seq pins s σ H x y v u Q I rx ry ⟨p, xs, e, h1, h2, h3, by rw [if_pos rfl]; simpa using h4⟩
    | false => exact op_in_seq pins s σ H x y v u Q I rx ry ⟨p, xs, e, h1, h2, h3, by rw [if_neg Bool.false_ne_true]; simpa using h4⟩
  intro pins s σ H x y v u Q I rx ry ⟨ι, S, d, e, q, st, tb, rd, re, k, p⟩
  unfold inD at k
  split at k
  · rename_i i j
    obtain ⟨rfl, o1⟩ := rd.str_
    obtain ⟨rfl, o2⟩ := re.str_
    cases neg with
    | true => exact op_notin_str pins s σ H _ _ v u Q I rx ry ⟨i, j, rfl, rfl, p.bl st (by simpa [subS] using k)⟩
    | false => exact op_in_str pins s σ H _ _ v u Q I rx ry ⟨i, j, rfl, rfl, p.bl st (by simpa [subS] using k)⟩
  · rename_i ds _
    obtain ⟨a, xs, rfl, k1, r2⟩ := re.tup_
    exact seq pins s σ H x _ v u Q I rx ry a xs rfl (.inr k1) (flat_rel rd k.1) (flats_rel r2 k.2.1) (by rw [inF_rel rd k.1 r2 k.2.1]; exact p.bl st k.2.2)
  · rename_i ds _
    obtain ⟨a, xs, rfl, k1, r2⟩ := re.fl_
    exact seq pins s σ H x _ v u Q I rx ry a xs rfl (.inl k1) (flat_rel rd k.1) (flats_rel r2 k.2.1) (by rw [inF_rel rd k.1 r2 k.2.1]; exact p.bl st k.2.2)
  · rename_i n _
    split at k
    · rename_i ds e1
      split at k
      · rename_i a as e2 e3
        obtain ⟨l, rfl, i1⟩ := re.ref_
        obtain ⟨xs, k1, r1⟩ := st.obj _ _ _ e1 i1
        obtain ⟨a1, a2, a3⟩ := dp_of st 40 d x a e2 rd
        obtain ⟨b1, b2, b3⟩ := dpAll_of (dp_of st 40) ds xs as e3 r1
        have sl : SeqAt.shaped (.list as) = true := shaped_of (n := 41) (by simp only [PyData.canLay0]; exact b2) (by simp only [PyData.depth]; omega) (by decide)
        cases neg with
        | true => exact op_notInD hu pins s σ H _ _ v u Q I rx ry ⟨a, as, a1, .lst (SqL.of k1) b1, shaped_of a2 a3 (by decide), sl, p.bl st (by simpa using k)⟩
        | false => exact op_inD hu pins s σ H _ _ v u Q I rx ry ⟨a, as, a1, .lst (SqL.of k1) b1, shaped_of a2 a3 (by decide), sl, p.bl st (by simpa using k)⟩
      · exact k.elim
    · exact k.elim
  · exact k.elim
/-- is None -/
def isN : D → Bool
  | .non => true
  | _ => false
def isD (neg : Bool) : R3 := fun x y S q => match y with
  | .non => q (.bl (neg ^^ isN x)) S
  | _ => False
theorem isN_rel {K : PySem.W.Frag} {ι : List Addr} {H : Hp} {d : D} {v : V} (r : RelD K ι H d v) : decide (v = .non) = isN d := by
  cases d with
  | non => rw [r.non_] <;> rfl
  | bl b => rw [r.bl_] <;> rfl
  | int b => rw [r.int_] <;> rfl
  | str b => rw [r.str_.1] <;> rfl
  | ty b => rw [r.ty_] <;> rfl
  | tup ds =>
    obtain ⟨a, xs, rfl, _⟩ := r.tup_
    rfl
  | fl ds =>
    obtain ⟨a, xs, rfl, _⟩ := r.fl_
    rfl
  | ref n =>
    obtain ⟨a, rfl, _⟩ := r.ref_
    rfl
theorem is3 (neg : Bool) : OpR3 C X (compareOp (if neg then .IsNot else .Is)) (isD neg) := by
  intro pins s σ H x y v u Q I rx ry ⟨ι, S, d, e, q, st, tb, rd, re, k, p⟩
  unfold isD at k
  split at k
  · rw [re.non_] at ry
    cases neg with
    | true => exact op_notN pins s σ H _ _ v u Q I rx ry ⟨rfl, by rw [isN_rel rd]; exact p.bl st (by simpa using k)⟩
    | false => exact op_isN pins s σ H _ _ v u Q I rx ry ⟨rfl, by rw [isN_rel rd]; exact p.bl st (by simpa using k)⟩
  · exact k.elim
end
end L3

set_option Elab.async false
set_option linter.all false
set_option maxRecDepth 100000
set_option maxHeartbeats 4000000
/-! L3: tests, and/or/not, arguments, displays, subscripts, slices. -/
namespace L3
open PySem PySem.Spec PyProof.Rows L2
open LamX (Tabs TabS CodeO)

/-! ### truth -/
def truD (S : Store) : D → Option Bool
  | .non => some false
  | .bl b => some b
  | .int i => some (i != 0)
  | .str z => if z.length ≤ LIM then some ((z.length : Int) != 0) else none
  | .tup ds => some (!ds.isEmpty)
  | .fl ds => some (!ds.isEmpty)
  | .ref n => match S[n]? with
    | some (.lst ds) => some (!ds.isEmpty)
    | some (.dct kds) => some (!kds.isEmpty)
    | _ => none
  | .ty _ => none
theorem RelDs.emp {K : PySem.W.Frag} {ι : List Addr} {H : Hp} {ds : List D} {xs : List V} (r : RelDs K ι H ds xs) : xs.isEmpty = ds.isEmpty := by
  have h := r.length
  cases xs <;> cases ds <;> simp at h <;> rfl
theorem tru_rel {G : Gx} {ι : List Addr} {H : Hp} {S : Store} {d : D} {v : V} {k : Bool} (st : St3 G ι H S) (r : RelD G.K ι H d v) (h : truD S d = some k) : TruV G.K v H k := by
  cases d with
  | non => rw [r.non_]; exact (Option.some.inj h).symm
  | bl b => rw [r.bl_]; exact (Option.some.inj h).symm
  | int i => rw [r.int_]; exact (Option.some.inj h).symm
  | str z =>
    rw [r.str_.1]
    have h : (if z.length ≤ LIM then some ((z.length : Int) != 0) else none) = some k := h
    split at h
    · rename_i l
      exact ⟨by rw [lim_eq]; exact l, (Option.some.inj h).symm⟩
    · cases h
  | tup ds =>
    obtain ⟨a, xs, rfl, f, r2⟩ := r.tup_
    exact .inr (.inl ⟨xs, f, by rw [r2.emp]; exact (Option.some.inj h).symm⟩)
  | fl ds =>
    obtain ⟨a, xs, rfl, f, r2⟩ := r.fl_
    exact .inl ⟨xs, f, by rw [r2.emp]; exact (Option.some.inj h).symm⟩
  | ref n =>
    obtain ⟨a, rfl, i⟩ := r.ref_
    have h : (match S[n]? with
    | some (.lst ds) => some (!ds.isEmpty)
    | some (.dct kds) => some (!kds.isEmpty)
    | _ => none) = some k := h
    split at h
    · rename_i ds e
      obtain ⟨xs, h1, r2⟩ := st.obj _ _ _ e i
      exact .inl ⟨xs, SqL.of h1, by rw [r2.emp]; exact (Option.some.inj h).symm⟩
    · rename_i kds e
      obtain ⟨kvs, h1, r2⟩ := st.obj _ _ _ e i
      refine .inr (.inr ⟨kvs, h1, ?_⟩)
      have z : kvs.isEmpty = kds.isEmpty := by
        have := r2.2.length
        rw [List.length_map, List.length_map] at this
        cases kvs <;> cases kds <;> simp at this <;> rfl
      rw [z]
      exact (Option.some.inj h).symm
    · cases h
  | ty n => cases h

/-! ### readings -/
def wTru (w : WE) : WT := fun ρ S q x => w ρ S (fun d S' => match truD S' d with | some k => q k S' | none => False) x
def wAnd (t u : WT) : WT := fun ρ S q x => t ρ S (fun c S1 => if c = true then u ρ S1 q x else q false S1) x
def wOr (t u : WT) : WT := fun ρ S q x => t ρ S (fun c S1 => if c = true then q true S1 else u ρ S1 q x) x
def wNot (t : WT) : WT := fun ρ S q x => t ρ S (fun c S1 => q (!c) S1) x
def wAndV (t u : WE) : WE := fun ρ S q x => t ρ S (fun d S1 => match d with | .bl true => u ρ S1 q x | .bl false => q (.bl false) S1 | _ => False) x
def wOrV (t u : WE) : WE := fun ρ S q x => t ρ S (fun d S1 => match d with | .bl true => q (.bl true) S1 | .bl false => u ρ S1 q x | _ => False) x
def wNotV (t : WE) : WE := fun ρ S q x => t ρ S (fun d S1 => match truD S1 d with | some k => q (.bl (!k)) S1 | none => False) x
def wIf (t : WT) (a b : WE) : WE := fun ρ S q x => t ρ S (fun c S1 => if c = true then a ρ S1 q x else b ρ S1 q x) x
def wNil : WA := fun _ S q _ => q [] S
def wCons (a : WE) (r : WA) : WA := fun ρ S q x => a ρ S (fun d S1 => r ρ S1 (fun ds S2 => q (d :: ds) S2) x) x
def wTup (r : WA) : WE := fun ρ S q x => r ρ S (fun ds S1 => ds.length ≤ LIM ∧ q (.tup ds) S1) x
def wLst (r : WA) : WE := fun ρ S q x => r ρ S (fun ds S1 => ds.length ≤ LIM ∧ q (.ref S1.length) (S1 ++ [.lst ds])) x
def wChain (r r' : R3) (a b c : WE) : WE := fun ρ S q x => a ρ S (fun d S1 => b ρ S1 (fun e S2 => r d e S2 (fun z S3 => match z with
  | .bl true => c ρ S3 (fun f S4 => r' e f S4 q) x
  | .bl false => q (.bl false) S3
  | _ => False)) x) x
def wNoPart : WO := fun _ S q _ => q none S
def wPart (w : WE) : WO := fun ρ S q x => w ρ S (fun d S' => match d with | .int i => q (some i) S' | _ => False) x

section
variable {C : Cl} {X : Cx} {W : WX} {e a b c : Expr} {wa wb wc : WE} {ta tb : WT} {es rest : List Expr} {wr : WA} {pos : Pos}
theorem pt3_truth (ha : PE3 C X W a wa) (he : ∀ whole, isTrue a X.env whole = (do let v ← whole; standAt a.pos; holding [v] (truthy v)) := by intro _; rfl) : PT3 C X W a (wTru wa) :=
  pt_le (pt_truth ha he) fun σ H Q ⟨ι, S, ρ, q, x, R, h, p, px⟩ => ⟨ι, S, ρ, _, x, R, h, fun d S1 ι1 H1 v h1 e1 st1 rd => by
    try dsimp only at h1
    split at h1
    · rename_i k ek
      exact ⟨k, tru_rel st1 rd ek, p k S1 ι1 H1 h1 e1 st1⟩
    · exact h1.elim, px⟩
theorem pw3_and1 (ha : PT3 C X W a ta) : PW3 C X W (.BoolOp .And [a] pos) ta := pw_and1 ha
theorem pw3_or1 (ha : PT3 C X W a ta) : PW3 C X W (.BoolOp .Or [a] pos) ta := pw_or1 ha
theorem pw3_and (ha : PT3 C X W a ta) (hb : PW3 C X W (.BoolOp .And (b :: rest) pos) tb) : PW3 C X W (.BoolOp .And (a :: b :: rest) pos) (wAnd ta tb) :=
  pw_le (pw_and ha hb) fun σ H Q ⟨ι, S, ρ, q, x, R, h, p, px⟩ => ⟨ι, S, ρ, _, x, R, h, fun k S1 ι1 H1 h1 e1 st1 => by
    cases k with
    | true => exact ⟨ι1, S1, ρ, q, x, R.ext e1 st1, h1, p.ext e1, px.ext e1⟩
    | false => exact p false S1 ι1 H1 h1 e1 st1, px⟩
theorem pw3_or (ha : PT3 C X W a ta) (hb : PW3 C X W (.BoolOp .Or (b :: rest) pos) tb) : PW3 C X W (.BoolOp .Or (a :: b :: rest) pos) (wOr ta tb) :=
  pw_le (pw_or ha hb) fun σ H Q ⟨ι, S, ρ, q, x, R, h, p, px⟩ => ⟨ι, S, ρ, _, x, R, h, fun k S1 ι1 H1 h1 e1 st1 => by
    cases k with
    | false => exact ⟨ι1, S1, ρ, q, x, R.ext e1 st1, h1, p.ext e1, px.ext e1⟩
    | true => exact p true S1 ι1 H1 h1 e1 st1, px⟩
theorem PW3.pt (h : PW3 C X W e ta) : PT3 C X W e ta := PW.pt h
theorem pt3_not (ha : PT3 C X W a ta) : PT3 C X W (.UnaryOp .Not a pos) (wNot ta) :=
  pt_le (pt_not ha) fun σ H Q ⟨ι, S, ρ, q, x, R, h, p, px⟩ => ⟨ι, S, ρ, _, x, R, h, fun k S1 ι1 H1 h1 e1 st1 => p _ S1 ι1 H1 h1 e1 st1, px⟩
theorem pe3_one {op} (h : PE3 C X W a wa) : PE3 C X W (.BoolOp op [a] pos) wa := pe_one h
theorem pe3_and (ha : PE3 C X W a wa) (hb : PE3 C X W (.BoolOp .And (b :: rest) pos) wb) : PE3 C X W (.BoolOp .And (a :: b :: rest) pos) (wAndV wa wb) :=
  pe_le (pe_and ha hb) fun σ H Q ⟨ι, S, ρ, q, x, R, h, p, px⟩ => ⟨ι, S, ρ, _, x, R, h, fun d S1 ι1 H1 v h1 e1 st1 rd => by
    try dsimp only at h1
    split at h1
    · rw [rd.bl_]
      exact ⟨true, rfl, ι1, S1, ρ, q, x, R.ext e1 st1, h1, p.ext e1, px.ext e1⟩
    · rw [rd.bl_]
      exact ⟨false, rfl, (p.ext e1).bl st1 h1⟩
    · exact h1.elim, px⟩
theorem pe3_or (ha : PE3 C X W a wa) (hb : PE3 C X W (.BoolOp .Or (b :: rest) pos) wb) : PE3 C X W (.BoolOp .Or (a :: b :: rest) pos) (wOrV wa wb) :=
  pe_le (pe_or ha hb) fun σ H Q ⟨ι, S, ρ, q, x, R, h, p, px⟩ => ⟨ι, S, ρ, _, x, R, h, fun d S1 ι1 H1 v h1 e1 st1 rd => by
    try dsimp only at h1
    split at h1
    · rw [rd.bl_]
      exact ⟨true, rfl, (p.ext e1).bl st1 h1⟩
    · rw [rd.bl_]
      exact ⟨false, rfl, ι1, S1, ρ, q, x, R.ext e1 st1, h1, p.ext e1, px.ext e1⟩
    · exact h1.elim, px⟩
theorem pe3_not (ha : PE3 C X W a wa) : PE3 C X W (.UnaryOp .Not a pos) (wNotV wa) :=
  pe_le (pe_notT ha) fun σ H Q ⟨ι, S, ρ, q, x, R, h, p, px⟩ => ⟨ι, S, ρ, _, x, R, h, fun d S1 ι1 H1 v h1 e1 st1 rd => by
    try dsimp only at h1
    split at h1
    · rename_i k ek
      exact ⟨k, tru_rel st1 rd ek, (p.ext e1).bl st1 h1⟩
    · exact h1.elim, px⟩
theorem pe3_if (hc : PT3 C X W c ta) (ha : PE3 C X W a wa) (hb : PE3 C X W b wb) : PE3 C X W (.IfExp c a b pos) (wIf ta wa wb) :=
  pe_le (pe_ifExp hc ha hb) fun σ H Q ⟨ι, S, ρ, q, x, R, h, p, px⟩ => ⟨ι, S, ρ, _, x, R, h, fun k S1 ι1 H1 h1 e1 st1 => by
    cases k with
    | true => exact ⟨ι1, S1, ρ, q, x, R.ext e1 st1, h1, p.ext e1, px.ext e1⟩
    | false => exact ⟨ι1, S1, ρ, q, x, R.ext e1 st1, h1, p.ext e1, px.ext e1⟩, px⟩

/-! ### arguments, displays -/
theorem pa3_nil : PA3 C X W [] wNil := pa_le pa_nil fun σ H Q ⟨ι, S, ρ, q, x, R, h, p, px⟩ => p [] S ι H [] h (Ext3.refl _ _ _) R.st .nil
theorem pa3_cons (ha : PE3 C X W e wa) (hr : PA3 C X W es wr) (hs : starEach (e :: es) X.env = (false, eval e X.env) :: starEach es X.env := by rfl) : PA3 C X W (e :: es) (wCons wa wr) :=
  pa_le (pa_cons ha hr hs) fun σ H Q ⟨ι, S, ρ, q, x, R, h, p, px⟩ => ⟨ι, S, ρ, _, x, R, h, fun d S1 ι1 H1 v h1 e1 st1 rd =>
    ⟨ι1, S1, ρ, _, x, R.ext e1 st1, h1, fun ds S2 ι2 H2 vs h2 e2 st2 rds => p (d :: ds) S2 ι2 H2 (v :: vs) h2 (e1.trans e2) st2 (.cons (rd.ext e2) rds), px.ext e1⟩, px⟩
theorem pe3_tup {x1} (h : PA3 C X W es wr) : PE3 C X W (.Tuple es x1 pos) (wTup wr) :=
  pe_le (pe_tup h) fun σ H Q ⟨ι, S, ρ, q, x, R, h, p, px⟩ => ⟨ι, S, ρ, _, x, R, h, fun ds S1 ι1 H1 vs h1 e1 st1 rds =>
    ⟨by rw [rds.length, lim_eq]; exact h1.1, (p.ext e1).newT st1 rds h1.2⟩, px⟩
theorem pe3_lst (h : PA3 C X W es wr) : PE3 C X W (.List es pos) (wLst wr) :=
  pe_le (pe_lst h) fun σ H Q ⟨ι, S, ρ, q, x, R, h, p, px⟩ => ⟨ι, S, ρ, _, x, R, h, fun ds S1 ι1 H1 vs h1 e1 st1 rds =>
    ⟨by rw [rds.length, lim_eq]; exact h1.1, (p.ext e1).newL st1 rds h1.2⟩, px⟩

/-! ### chains -/
theorem chain_lift {r r' : R3} : ∀ σ H Q, liftE (gx C X) W (wChain r r' wa wb wc) σ H Q → tChain (r2of C X r) (r2of C X r') (liftE (gx C X) W wa) (liftE (gx C X) W wb) (liftE (gx C X) W wc) σ H Q := fun σ H Q ⟨ι, S, ρ, q, x, R, h, p, px⟩ => by
  refine ⟨ι, S, ρ, _, x, R, h, fun d S1 ι1 H1 v h1 e1 st1 rd => ?_, px⟩
  refine ⟨ι1, S1, ρ, _, x, R.ext e1 st1, h1, fun e S2 ι2 H2 u h2 e2 st2 re => ?_, px.ext e1⟩
  refine ⟨ι2, S2, d, e, _, st2, e2.tabs (e1.tabs R.tb), rd.ext e2, re, h2, fun z S3 ι3 H3 y h3 e3 st3 rz => ?_⟩
  try dsimp only at h3
  split at h3
  · refine ⟨true, rz.bl_, ?_⟩
    rw [if_pos rfl]
    refine ⟨ι3, S3, ρ, _, x, (R.ext (e1.trans e2) st2).ext e3 st3, h3, fun f S4 ι4 H4 y' h4 e4 st4 rf => ?_, (px.ext (e1.trans e2)).ext e3⟩
    exact ⟨ι4, S4, e, f, q, st4, e4.tabs (e3.tabs (e2.tabs (e1.tabs R.tb))), (re.ext e3).ext e4, rf, h4, p.ext (((e1.trans e2).trans e3).trans e4)⟩
  · refine ⟨false, rz.bl_, ?_⟩
    rw [if_neg Bool.false_ne_true]
    exact (p.ext ((e1.trans e2).trans e3)).bl st3 h3
  · exact h3.elim
theorem pe3_chain {op op' : CmpOp} {r r' : R3} (ho : OpR3 C X (compareOp op) r) (ho' : OpR3 C X (compareOp op') r') (ha : PE3 C X W a wa) (hb : PE3 C X W b wb) (hc : PE3 C X W c wc)
    (hm : lastMarks [op, op'] [b, c] = false := by with_unfolding_all rfl) : PE3 C X W (.Compare a [op, op'] [b, c] pos) (wChain r r' wa wb wc) := pe_le (pe_chain ho ho' ha hb hc hm) chain_lift
theorem pt3_chain {op op' : CmpOp} {r r' : R3} (ho : OpR3 C X (compareOp op) r) (ho' : OpR3 C X (compareOp op') r') (ha : PE3 C X W a wa) (hb : PE3 C X W b wb) (hc : PE3 C X W c wc)
    (hm : lastMarks [op, op'] [b, c] = false := by with_unfolding_all rfl) : PT3 C X W (.Compare a [op, op'] [b, c] pos) (wB (wChain r r' wa wb wc)) := pt_le (pt_chain ho ho' ha hb hc hm) (b_lift chain_lift)
end

/-! ### dicts -/
section
variable {κ : Type} [DecidableEq κ]
def valD (kvs : List (κ × D)) (k : κ) : Option D := (kvs.find? fun kv => decide (kv.1 = k)).map (·.2)
def putD (kvs : List (κ × D)) (k : κ) (v : D) : List (κ × D) :=
  if (kvs.any fun kv => decide (kv.1 = k)) = true then kvs.map (fun kv => if kv.1 = k then (kv.1, v) else kv) else kvs ++ [(k, v)]
variable {K : PySem.W.Frag} {ι : List Addr} {H : Hp}
theorem RelKV.nil : RelKV K ι H ([] : List (κ × D)) [] := ⟨rfl, .nil⟩
theorem RelKV.unnil {kvs : List (κ × V)} (r : RelKV K ι H ([] : List (κ × D)) kvs) : kvs = [] := by
  cases kvs with
  | nil => rfl
  | cons p l => cases r.1
theorem RelKV.cons {k : κ} {d : D} {v : V} {kds : List (κ × D)} {kvs : List (κ × V)} (r : RelD K ι H d v) (h : RelKV K ι H kds kvs) : RelKV K ι H ((k, d) :: kds) ((k, v) :: kvs) :=
  ⟨by show k :: kvs.map (·.1) = k :: kds.map (·.1); rw [h.1], .cons r h.2⟩
theorem RelKV.uncons {k : κ} {d : D} {kds : List (κ × D)} {kvs : List (κ × V)} (h : RelKV K ι H ((k, d) :: kds) kvs) : ∃ v l, kvs = (k, v) :: l ∧ RelD K ι H d v ∧ RelKV K ι H kds l := by
  cases kvs with
  | nil => cases h.1
  | cons p l =>
    obtain ⟨k', v⟩ := p
    obtain ⟨h1, h2⟩ := h
    obtain ⟨y, ys, e, r1, r2⟩ := h2.uncons
    rw [List.map_cons] at e h1
    rw [List.map_cons] at h1
    injection e with e1 e2
    injection h1 with e3 e4
    subst e3
    refine ⟨v, l, rfl, ?_, e4, ?_⟩
    · have e1 : v = y := e1
      rw [e1]
      exact r1
    · rw [e2]
      exact r2
theorem RelKV.val : ∀ {kds : List (κ × D)} {kvs : List (κ × V)} {k : κ} {d : D}, RelKV K ι H kds kvs → valD kds k = some d → ∃ v, valV kvs k = some v ∧ RelD K ι H d v
  | [], kvs, k, d, h, e => by cases e
  | (k', d') :: kds, kvs, k, d, h, e => by
    obtain ⟨v, l, rfl, r1, r2⟩ := h.uncons
    unfold valD valV at *
    rw [List.find?_cons] at e ⊢
    by_cases z : k' = k
    · rw [decide_eq_true (show (k', d').1 = k from z)] at e
      rw [decide_eq_true (show (k', v).1 = k from z)]
      have e : d' = d := by simpa using e
      subst e
      exact ⟨v, rfl, r1⟩
    · rw [decide_eq_false (show ¬ (k', d').1 = k from z)] at e
      rw [decide_eq_false (show ¬ (k', v).1 = k from z)]
      exact RelKV.val r2 e
theorem RelKV.valN : ∀ {kds : List (κ × D)} {kvs : List (κ × V)} {k : κ}, RelKV K ι H kds kvs → valD kds k = none → valV kvs k = none
  | [], kvs, k, h, e => by
    rw [h.unnil] <;> rfl
  | (k', d') :: kds, kvs, k, h, e => by
    obtain ⟨v, l, rfl, r1, r2⟩ := h.uncons
    unfold valD valV at *
    rw [List.find?_cons] at e ⊢
    by_cases z : k' = k
    · rw [decide_eq_true (show (k', d').1 = k from z)] at e
      cases e
    · rw [decide_eq_false (show ¬ (k', d').1 = k from z)] at e
      rw [decide_eq_false (show ¬ (k', v).1 = k from z)]
      exact RelKV.valN r2 e
theorem RelKV.any (p : κ → Bool) : ∀ {kds : List (κ × D)} {kvs : List (κ × V)}, RelKV K ι H kds kvs → kvs.any (fun kv => p kv.1) = kds.any (fun kv => p kv.1)
  | [], kvs, h => by rw [h.unnil] <;> rfl
  | (k', d') :: kds, kvs, h => by
    obtain ⟨v, l, rfl, r1, r2⟩ := h.uncons
    rw [List.any_cons, List.any_cons, RelKV.any p r2]
theorem RelKV.app : ∀ {kds es : List (κ × D)} {kvs fs : List (κ × V)}, RelKV K ι H kds kvs → RelKV K ι H es fs → RelKV K ι H (kds ++ es) (kvs ++ fs)
  | [], es, kvs, fs, h, g => by
    rw [h.unnil]
    exact g
  | (k', d') :: kds, es, kvs, fs, h, g => by
    obtain ⟨v, l, rfl, r1, r2⟩ := h.uncons
    exact .cons r1 (RelKV.app r2 g)
theorem RelKV.mapv {d : D} {v : V} {k : κ} (r : RelD K ι H d v) : ∀ {kds : List (κ × D)} {kvs : List (κ × V)}, RelKV K ι H kds kvs → RelKV K ι H (kds.map fun kv => if kv.1 = k then (kv.1, d) else kv) (kvs.map fun kv => if kv.1 = k then (kv.1, v) else kv)
  | [], kvs, h => by
    rw [h.unnil]
    exact .nil
  | (k', d') :: kds, kvs, h => by
    obtain ⟨v', l, rfl, r1, r2⟩ := h.uncons
    rw [List.map_cons, List.map_cons]
    by_cases z : k' = k
    · rw [if_pos (show (k', d').1 = k from z), if_pos (show (k', v').1 = k from z)]
      exact .cons r (RelKV.mapv r r2)
    · rw [if_neg (show ¬ (k', d').1 = k from z), if_neg (show ¬ (k', v').1 = k from z)]
      exact .cons r1 (RelKV.mapv r r2)
theorem RelKV.put {kds : List (κ × D)} {kvs : List (κ × V)} {k : κ} {d : D} {v : V} (h : RelKV K ι H kds kvs) (r : RelD K ι H d v) : RelKV K ι H (putD kds k d) (putK kvs k v) := by
  unfold putD putK
  rw [h.any (fun a => decide (a = k))]
  split
  · exact h.mapv r
  · exact h.app (.cons r .nil)
theorem RelKV.length {kds : List (κ × D)} {kvs : List (κ × V)} (h : RelKV K ι H kds kvs) : kvs.length = kds.length := by
  have := h.2.length
  rwa [List.length_map, List.length_map] at this
end
def keyD : D → Option Key
  | .int i => some (.inl i)
  | .str z => some (.inr z)
  | _ => none
theorem keyD_rel {K : PySem.W.Frag} {ι : List Addr} {H : Hp} {d : D} {v : V} {k : Key} (r : RelD K ι H d v) (h : keyD d = some k) : v = kV k := by
  cases d with
  | int i =>
    cases h
    exact r.int_
  | str z =>
    cases h
    exact r.str_.1
  | _ => cases h
def mergeD (kds more : List (Key × D)) : List (Key × D) := more.foldl (fun acc kv => putD acc kv.1 kv.2) kds
theorem RelKV.merge {K : PySem.W.Frag} {ι : List Addr} {H : Hp} : ∀ {m kds : List (Key × D)} {n kvs : List (Key × V)}, RelKV K ι H kds kvs → RelKV K ι H m n → RelKV K ι H (mergeD kds m) (mergeK kvs n)
  | [], kds, n, kvs, h, g => by
    rw [g.unnil]
    exact h
  | (k, d) :: m, kds, n, kvs, h, g => by
    obtain ⟨v, l, rfl, r1, r2⟩ := g.uncons
    show RelKV K ι H (mergeD (putD kds k d) m) (mergeK (putK kvs k v) l)
    exact RelKV.merge (h.put r1) r2
def keysD : List (D × D) → Option (List (Key × D))
  | [] => some []
  | (k, d) :: r => match keyD k, keysD r with
    | some k, some l => some ((k, d) :: l)
    | _, _ => none

/-- a dict display: its pairs from the left, the new dict empty meanwhile -/
def wPairs : List (WE × WE) → Env3 → Store → (List (D × D) → Store → Prop) → XK3 → Prop
  | [], _, S, q, _ => q [] S
  | (k, v) :: r, ρ, S, q, x => k ρ S (fun a S1 => v ρ S1 (fun b S2 => wPairs r ρ S2 (fun ps S3 => q ((a, b) :: ps) S3) x) x) x
def wDisp (prs : List (WE × WE)) : WE := fun ρ S q x => wPairs prs ρ (S ++ [.dct []]) (fun ps S2 => match S2[S.length]?, keysD ps with
  | some (.dct []), some kds => kds.length ≤ 15 ∧ q (.ref S.length) (S2.set S.length (.dct (mergeD [] kds)))
  | _, _ => False) x
inductive PPs3 (C : Cl) (X : Cx) (W : WX) (pos : Pos) : List (Option Expr) → List Expr → List (WE × WE) → Prop where
  | nil : PPs3 C X W pos [] [] []
  | cons {k v : Expr} {ks : List (Option Expr)} {vs : List Expr} {wk wv : WE} {prs : List (WE × WE)} (hk : PE3 C X W k wk) (hv : PE3 C X W v wv) (hr : PPs3 C X W pos ks vs prs) : PPs3 C X W pos (some k :: ks) (v :: vs) ((wk, wv) :: prs)
inductive RelPs (K : PySem.W.Frag) (ι : List Addr) (H : Hp) : List (D × D) → List (V × V) → Prop where
  | nil : RelPs K ι H [] []
  | cons {a b : D} {x y : V} {ps : List (D × D)} {qs : List (V × V)} (r1 : RelD K ι H a x) (r2 : RelD K ι H b y) (t : RelPs K ι H ps qs) : RelPs K ι H ((a, b) :: ps) ((x, y) :: qs)
section
variable {C : Cl} {X : Cx} {W : WX} {pos : Pos}
theorem pairs_lift : ∀ {prs : List (WE × WE)} {σ : L2.St} {H : Hp} {Q : List (V × V) → Hp → Prop} {ι : List Addr} {S : Store} {ρ : Env3} {q : List (D × D) → Store → Prop} {x : XK3}, Rel3 (gx C X) ι H S ρ σ → wPairs prs ρ S q x →
    (∀ ps S' ι' H' qs, q ps S' → Ext3 (gx C X) ι H ι' H' → St3 (gx C X) ι' H' S' → RelPs X.K ι' H' ps qs → Q qs H') → PoX (gx C X) ι H x (fun cls d H' => W cls d σ H') →
    tPairs (prs.map fun p => (liftE (gx C X) W p.1, liftE (gx C X) W p.2)) σ H Q
  | [], σ, H, Q, ι, S, ρ, q, x, R, h, p, px => p [] S ι H [] h (Ext3.refl _ _ _) R.st .nil
  | (wk, wv) :: prs, σ, H, Q, ι, S, ρ, q, x, R, h, p, px => by
    refine ⟨ι, S, ρ, _, x, R, h, fun a S1 ι1 H1 u h1 e1 st1 ra => ?_, px⟩
    refine ⟨ι1, S1, ρ, _, x, R.ext e1 st1, h1, fun b S2 ι2 H2 v h2 e2 st2 rb => ?_, px.ext e1⟩
    refine pairs_lift (prs := prs) (R.ext (e1.trans e2) st2) h2 (fun ps S3 ι3 H3 qs h3 e3 st3 rp => ?_) (px.ext (e1.trans e2))
    exact p _ S3 ι3 H3 _ h3 ((e1.trans e2).trans e3) st3 (.cons ((ra.ext e2).ext e3) (rb.ext e3) rp)
theorem PPs3.pps {ks : List (Option Expr)} {vs : List Expr} {prs : List (WE × WE)} (h : PPs3 C X W pos ks vs prs) : PPs X pos ks vs (prs.map fun p => (liftE (gx C X) W p.1, liftE (gx C X) W p.2)) := by
  induction h with
  | nil => exact pps_nil
  | cons hk hv hr ih => exact pps_cons hk hv ih
theorem keys_rel {K : PySem.W.Frag} {ι : List Addr} {H : Hp} : ∀ {ps : List (D × D)} {qs : List (V × V)} {kds : List (Key × D)}, RelPs K ι H ps qs → keysD ps = some kds → ∃ kvs : List (Key × V), qs = kvs.map (fun kv => (kV kv.1, kv.2)) ∧ RelKV K ι H kds kvs
  | _, _, kds, .nil, e => by
    cases e
    exact ⟨[], rfl, .nil⟩
  | _, _, kds, .cons (a := a) (b := b) (ps := ps) r1 r2 t, e => by
    unfold keysD at e
    split at e
    · rename_i k l e1 e2
      cases e
      obtain ⟨kvs, h1, h2⟩ := keys_rel t e2
      refine ⟨(k, _) :: kvs, ?_, .cons r2 h2⟩
      rw [List.map_cons, ← h1, keyD_rel r1 e1]
    · cases e
theorem pe3_disp {ks : List (Option Expr)} {vs : List Expr} {prs : List (WE × WE)} (h : PPs3 C X W pos ks vs prs) (hall : ks.all (·.isSome) = true := by rfl) (hl : ks.length = vs.length := by rfl) (h0 : ks ≠ [] := by intro h; cases h) (h15 : ks.length ≤ 15 := by decide) :
    PE3 C X W (.Dict ks vs pos) (wDisp prs) :=
  pe_le (pe_disp h.pps hall hl h0 h15) fun σ H Q ⟨ι, S, ρ, q, x, R, h, p, px⟩ a n => by
    have e1 : Ext3 (gx C X) ι H (ι ++ [a]) (upd H a (.dK [])) := Ext3.new n
    have st1 : St3 (gx C X) (ι ++ [a]) (upd H a (.dK [])) (S ++ [.dct []]) := R.st.new n ⟨[], upd_same, .nil⟩
    refine pairs_lift (R.ext e1 st1) h (fun ps S2 ι2 H2 qs h2 e2 st2 rp => ?_) (px.ext e1)
    try dsimp only at h2
    split at h2
    · rename_i kds es ek
      have ia : ι2[S.length]? = some a := e2.get (by rw [← R.st.len, List.getElem?_append_right (Nat.le_refl _), Nat.sub_self] <;> rfl)
      obtain ⟨kvs0, hp, r0⟩ := st2.obj _ _ _ es ia
      rw [r0.unnil] at hp
      obtain ⟨kvs, ep, rk⟩ := keys_rel rp ek
      refine ⟨hp, kvs, ep, by rw [rk.length]; exact h2.1, ?_⟩
      have nt : NoTbl (.dK []) := by intro _ z; cases z
      have nc : ∀ q, (HO.dK []) ≠ CodeO a q := by
        intro _ z
        unfold CodeO at z
        cases z
      have e3 : Ext3 (gx C X) ι2 H2 ι2 (upd H2 a (.dK (mergeK [] kvs))) := Ext3.put (List.mem_of_getElem? ia) hp nt nc
      refine p _ _ ι2 _ _ h2.2 ((e1.trans e2).trans e3) (st2.put ia hp nt nc ⟨_, upd_same, (RelKV.merge .nil rk).ext e3⟩) ?_
      unfold RelD
      exact ⟨a, ia, rfl⟩
    · exact h2.elim
end

/-! ### subscripts -/
def ixD : R3 := fun x y S q => match x, y with
  | .str z, .int i => match atI z.cps.toList i with
    | some c => z.length ≤ LIM ∧ q (.str ⟨#[c]⟩) S
    | none => False
  | .tup ds, .int i => match atI ds i with
    | some d => q d S
    | none => False
  | .fl ds, .int i => match atI ds i with
    | some d => q d S
    | none => False
  | .ref n, y => match S[n]? with
    | some (.lst ds) => match y with
      | .int i => match atI ds i with
        | some d => q d S
        | none => False
      | _ => False
    | some (.dct kds) => match keyD y with
      | some k => match valD kds k with
        | some d => q d S
        | none => False
      | none => False
    | _ => False
  | _, _ => False
theorem RelDs.atI {K : PySem.W.Frag} {ι : List Addr} {H : Hp} {ds : List D} {xs : List V} {i : Int} {d : D} (r : RelDs K ι H ds xs) (h : L2.atI ds i = some d) : ∃ v, L2.atI xs i = some v ∧ RelD K ι H d v := by
  unfold L2.atI at h ⊢
  rw [r.length]
  cases e : ixN ds.length i with
  | none =>
    rw [e] at h
    cases h
  | some j =>
    rw [e] at h
    exact r.get h
theorem ok_at {z : Str} {i : Int} {c : Nat} (o : PyData.strOk z = true) (h : L2.atI z.cps.toList i = some c) : PyData.strOk ⟨#[c]⟩ = true := by
  obtain ⟨j, _, h2, _⟩ := atI_get h
  have m : c ∈ z.cps := by
    rw [← Array.mem_toList_iff]
    exact List.mem_of_getElem? h2
  unfold PyData.strOk at o ⊢
  have := (Array.all_eq_true_iff_forall_mem.mp o) c m
  simpa using this
theorem ix_dct {X : Cx} (hu : X.A.units + 1 < cLine) : IxR X (fun x y H Q => ∃ a v, x = .ref a ∧ DGet H a y (some v) ∧ Q v H) := by
  intro value slice pins s σ H x y v u Q I rx ry h hs
  obtain ⟨a, w', rfl, g, q⟩ := h
  cases rx
  exact tail_any (dict_typeIs I g) PySem.F.slot_dict_getitem.lookup (d_getItem hu I g ry fun z s3 I3 rz => ⟨w', H, I3, rz, q⟩) hs
theorem ix3 {C : Cl} {X : Cx} (hu : X.A.units + 1 < cLine) : IxR X (r2of C X ixD) := by
  intro value slice pins s σ H x y v u Q I rx ry ⟨ι, S, d, e, q, st, tb, rd, re, k, p⟩ hs
  unfold ixD at k
  split at k
  · rename_i z i
    split at k
    · rename_i c ec
      obtain ⟨rfl, o⟩ := rd.str_
      rw [re.int_] at ry
      exact ix_str value slice pins s σ H _ _ v u Q I rx ry ⟨z, i, c, rfl, rfl, by rw [lim_eq]; exact k.1, ec, p.str st (ok_at o ec) k.2⟩ hs
    · exact k.elim
  · rename_i ds i
    split at k
    · rename_i c ec
      obtain ⟨a, xs, rfl, k1, r2⟩ := rd.tup_
      rw [re.int_] at ry
      obtain ⟨w', h1, h2⟩ := r2.atI ec
      exact ix_tup value slice pins s σ H _ _ v u Q I rx ry ⟨a, xs, i, w', rfl, rfl, k1, h1, p.here st h2 k⟩ hs
    · exact k.elim
  · rename_i ds i
    split at k
    · rename_i c ec
      obtain ⟨a, xs, rfl, k1, r2⟩ := rd.fl_
      rw [re.int_] at ry
      obtain ⟨w', h1, h2⟩ := r2.atI ec
      exact ix_list value slice pins s σ H _ _ v u Q I rx ry ⟨a, xs, i, w', rfl, rfl, k1, h1, p.here st h2 k⟩ hs
    · exact k.elim
  · rename_i n _
    split at k
    · rename_i ds es
      split at k
      · rename_i i
        split at k
        · rename_i c ec
          obtain ⟨a, rfl, i1⟩ := rd.ref_
          obtain ⟨xs, k1, r2⟩ := st.obj _ _ _ es i1
          rw [re.int_] at ry
          obtain ⟨w', h1, h2⟩ := r2.atI ec
          exact ix_list value slice pins s σ H _ _ v u Q I rx ry ⟨a, xs, i, w', rfl, rfl, SqL.of k1, h1, p.here st h2 k⟩ hs
        · exact k.elim
      · exact k.elim
    · rename_i kds es
      split at k
      · rename_i kk ek
        split at k
        · rename_i c ec
          obtain ⟨a, rfl, i1⟩ := rd.ref_
          obtain ⟨kvs, k1, r2⟩ := st.obj _ _ _ es i1
          obtain ⟨w', h1, h2⟩ := r2.val ec
          exact ix_dct hu value slice pins s σ H _ _ v u Q I rx ry ⟨a, w', rfl, by rw [keyD_rel re ek, ← h1]; exact DGet.k k1, p.here st h2 k⟩ hs
        · exact k.elim
      · exact k.elim
    · exact k.elim
  · exact k.elim
section
variable {C : Cl} {X : Cx} {W : WX} {a b : Expr} {wa wb : WE} {pos p2 : Pos} {lo hi : Option Expr} {wl wh : WO}
theorem pe3_ix (hu : X.A.units + 1 < cLine) (ha : PE3 C X W a wa) (hb : PE3 C X W b wb) (hs : PlainIx b := by intro _ _; rfl) : PE3 C X W (.Subscript a b pos) (wOp ixD wa wb) := pe_le (pe_ix (ix3 hu) ha hb hs) op_lift

/-! ### slices -/
theorem po3_none : PO3 C X W none wNoPart := ⟨fun pins s σ H Q I ⟨ι, S, ρ, q, x, R, h, p, px⟩ => po_none.run pins s σ H Q I (p none S ι H h (Ext3.refl _ _ _) R.st)⟩
theorem po3_some (h : PE3 C X W a wa) : PO3 C X W (some a) (wPart wa) := ⟨fun pins s σ H Q I ⟨ι, S, ρ, q, x, R, h', p, px⟩ => (po_some h).run pins s σ H Q I ⟨ι, S, ρ, _, x, R, h', fun d S1 ι1 H1 v h1 e1 st1 rd => by
  try dsimp only at h1
  split at h1
  · exact ⟨_, rd.int_, p _ S1 ι1 H1 h1 e1 st1⟩
  · exact h1.elim, px⟩⟩
def cutD (xs : List D) (lo hi : Option Int) : List D := (xs.drop (HT.sIx xs.length 0 lo)).take (HT.sIx xs.length xs.length hi - HT.sIx xs.length 0 lo)
def slD : D → Option Int → Option Int → Store → WK → Prop := fun x lo hi S q => match x with
  | .str z => z.length ≤ LIM ∧ q (.str (cutS z lo hi)) S
  | .tup ds => q (.tup (cutD ds lo hi)) S
  | .fl ds => q (.ref S.length) (S ++ [.lst (cutD ds lo hi)])
  | .ref n => match S[n]? with
    | some (.lst ds) => q (.ref S.length) (S ++ [.lst (cutD ds lo hi)])
    | _ => False
  | _ => False
def wSl (w : WE) (l h : WO) : WE := fun ρ S q x => w ρ S (fun d S1 => l ρ S1 (fun lo S2 => h ρ S2 (fun hi S3 => slD d lo hi S3 q) x) x) x
theorem RelDs.cut {K : PySem.W.Frag} {ι : List Addr} {H : Hp} {ds : List D} {xs : List V} (r : RelDs K ι H ds xs) (lo hi : Option Int) : RelDs K ι H (cutD ds lo hi) (cutV xs lo hi) := by
  unfold cutD cutV
  rw [r.length]
  exact (r.drop _).take _
theorem ok_cut {z : Str} (o : PyData.strOk z = true) (lo hi : Option Int) : PyData.strOk (cutS z lo hi) = true := by
  unfold PyData.strOk at o ⊢
  unfold cutS
  refine Array.all_eq_true_iff_forall_mem.mpr fun c hc => ?_
  refine (Array.all_eq_true_iff_forall_mem.mp o) c ?_
  rw [List.mem_toArray] at hc
  rw [← Array.mem_toList_iff]
  exact List.mem_of_mem_drop (List.mem_of_mem_take hc)
theorem sl3 : SlR X (fun x lo hi H Q => ∃ ι S d q, St3 (gx C X) ι H S ∧ RelD X.K ι H d x ∧ slD d lo hi S q ∧ PoE (gx C X) ι H q Q) := by
  intro pins s σ H x v vl vu lo hi sl Q I rx hs pl pu ⟨ι, S, d, q, st, rd, k, p⟩
  unfold slD at k
  split at k
  · obtain ⟨rfl, o⟩ := rd.str_
    exact sl_str pins s σ H _ v vl vu lo hi sl Q I rx hs pl pu ⟨_, rfl, by rw [lim_eq]; exact k.1, p.str st (ok_cut o lo hi) k.2⟩
  · rename_i ds
    obtain ⟨a, xs, rfl, k1, r2⟩ := rd.tup_
    refine sl_tupA pins s σ H _ v vl vu lo hi sl Q I rx hs pl pu ⟨a, xs, rfl, k1, fun z1 => ?_, fun z1 => p.newT st (r2.cut lo hi) k⟩
    have e : cutD ds lo hi = ds := by
      unfold cutD
      rw [r2.length] at z1
      rw [z1.1, z1.2, List.drop_zero, Nat.sub_zero, List.take_length]
    rw [e] at k
    exact p.here st rd k
  · obtain ⟨a, xs, rfl, k1, r2⟩ := rd.fl_
    exact sl_list pins s σ H _ v vl vu lo hi sl Q I rx hs pl pu ⟨a, xs, rfl, k1, p.newL st (r2.cut lo hi) k⟩
  · split at k
    · rename_i ds es
      obtain ⟨a, rfl, i1⟩ := rd.ref_
      obtain ⟨xs, k1, r2⟩ := st.obj _ _ _ es i1
      exact sl_list pins s σ H _ v vl vu lo hi sl Q I rx hs pl pu ⟨a, xs, rfl, SqL.of k1, p.newL st (r2.cut lo hi) k⟩
    · exact k.elim
  · exact k.elim
theorem pe3_slice (ha : PE3 C X W a wa) (hl : PO3 C X W lo wl) (hu : PO3 C X W hi wh) : PE3 C X W (.Subscript a (.Slice lo hi none p2) pos) (wSl wa wl wh) :=
  pe_le (pe_slice (sl3 (C := C)) ha hl hu) fun σ H Q ⟨ι, S, ρ, q, x, R, h, p, px⟩ => ⟨ι, S, ρ, _, x, R, h, fun d S1 ι1 H1 v h1 e1 st1 rd =>
    ⟨ι1, S1, ρ, _, x, R.ext e1 st1, h1, fun l S2 ι2 H2 h2 e2 st2 => ⟨ι2, S2, ρ, _, x, R.ext (e1.trans e2) st2, h2, fun u S3 ι3 H3 h3 e3 st3 =>
      ⟨ι3, S3, d, q, st3, (rd.ext e2).ext e3, h3, p.ext ((e1.trans e2).trans e3)⟩, px.ext (e1.trans e2)⟩, px.ext e1⟩, px⟩
end
end L3

set_option Elab.async false
set_option linter.all false
set_option maxRecDepth 100000
set_option maxHeartbeats 4000000
/-! L3: built-in functions, methods of lists and texts, isinstance of built-in types. -/
namespace L3
open PySem PySem.Spec PyProof.Rows L2
open LamX (Tabs TabS CodeO)

abbrev RC := List D → Store → WK → Prop
def rcOf (C : Cl) (X : Cx) (r : RC) : List V → Hp → VK → Prop := fun xs H Q => ∃ ι S ds q, St3 (gx C X) ι H S ∧ RelDs X.K ι H ds xs ∧ r ds S q ∧ PoE (gx C X) ι H q Q
def CR3 (C : Cl) (X : Cx) (f : Value) (r : RC) : Prop := CallR X f (rcOf C X r)
def wCB (r : RC) (wa : WA) : WE := fun ρ S q x => wa ρ S (fun ds S1 => r ds S1 q) x

section
variable {K : PySem.W.Frag} {ι : List Addr} {H : Hp}
theorem RelDs.one {d : D} {xs : List V} (r : RelDs K ι H [d] xs) : ∃ v, xs = [v] ∧ RelD K ι H d v := by
  obtain ⟨v, l, rfl, r1, r2⟩ := r.uncons
  rw [r2.unnil]
  exact ⟨v, rfl, r1⟩
theorem RelDs.two {d e : D} {xs : List V} (r : RelDs K ι H [d, e] xs) : ∃ v u, xs = [v, u] ∧ RelD K ι H d v ∧ RelD K ι H e u := by
  obtain ⟨v, l, rfl, r1, r2⟩ := r.uncons
  obtain ⟨u, rfl, r3⟩ := r2.one
  exact ⟨v, u, rfl, r1, r3⟩
end

section
variable {C : Cl} {X : Cx} {W : WX} {e a b : Expr} {es : List Expr} {wa wb : WE} {wr : WA} {pos p : Pos} {x : PySem.Str} {id : String} {T : String} {r : RC}
theorem cb_lift : ∀ σ H Q, liftE (gx C X) W (wCB r wr) σ H Q → tCB (rcOf C X r) (liftA (gx C X) W wr) σ H Q := fun σ H Q ⟨ι, S, ρ, q, x, R, h, p, px⟩ =>
  ⟨ι, S, ρ, _, x, R, h, fun ds S1 ι1 H1 vs h1 e1 st1 rds => ⟨ι1, S1, ds, q, st1, rds, h1, p.ext e1⟩, px⟩
theorem pe3_callB (hc : CR3 C X (.builtin id) r) (hg : Gl X x) (hm : X.mg x = none) (hv : bootBuiltins x = some (.builtin id)) (ha : PA3 C X W (e :: es) wr) (hn : x ≠ "__name__" := by decide) (hdb : (x == ("__debug__" : PySem.Str)) = false := by decide)
    (he : starEach (e :: es) X.env = (false, eval e X.env) :: starEach es X.env := by rfl) (hpl : (backTo pos (starEach es X.env)).any (·.1) = false := by rfl) : PE3 C X W (.Call (.Name x p) (e :: es) [] pos) (wCB r wr) :=
  pe_le (pe_callB hc hg hm hv ha hn hdb he hpl) cb_lift
theorem pe3_callTy (hc : CR3 C X (.type T) r) (hg : Gl X x) (hm : X.mg x = none) (hv : bootBuiltins x = some (.type T)) (ha : PA3 C X W (e :: es) wr) (hn : x ≠ "__name__" := by decide) (hdb : (x == ("__debug__" : PySem.Str)) = false := by decide)
    (he : starEach (e :: es) X.env = (false, eval e X.env) :: starEach es X.env := by rfl) (hpl : (backTo pos (starEach es X.env)).any (·.1) = false := by rfl) : PE3 C X W (.Call (.Name x p) (e :: es) [] pos) (wCB r wr) :=
  pe_le (pe_callTy hc hg hm hv ha hn hdb he hpl) cb_lift

/-! ### len, abs, int, min, max -/
def lenD (S : Store) : D → Option Nat
  | .str z => if z.length ≤ LIM then some z.length else none
  | .tup ds => some ds.length
  | .fl ds => some ds.length
  | .ref n => match S[n]? with
    | some (.lst ds) => some ds.length
    | some (.dct kds) => some kds.length
    | _ => none
  | _ => none
def rLen : RC := fun ds S q => match ds with
  | [d] => match lenD S d with
    | some n => q (.int n) S
    | none => False
  | _ => False
theorem len3 : CR3 C X (.builtin "len") rLen := by
  intro pins s σ H xs us Q I rv ⟨ι, S, ds, q, st, rd, k, p⟩
  unfold rLen at k
  split at k
  · rename_i d
    obtain ⟨v, rfl, r1⟩ := rd.one
    split at k
    · rename_i n en
      cases d with
      | str z =>
        have en : (if z.length ≤ LIM then some z.length else none) = some n := en
        split at en
        · rename_i l
          cases en
          rw [r1.str_.1] at rv
          exact call_len pins s σ H _ us Q I rv ⟨_, _, rfl, ⟨by rw [lim_eq]; exact l, rfl⟩, p.int st k⟩
        · cases en
      | tup ds =>
        cases en
        obtain ⟨a, xs, rfl, f, r2⟩ := r1.tup_
        exact call_len pins s σ H _ us Q I rv ⟨_, _, rfl, .inr ⟨xs, f, rfl⟩, p.int st (by rw [r2.length]; exact k)⟩
      | fl ds =>
        cases en
        obtain ⟨a, xs, rfl, f, r2⟩ := r1.fl_
        exact call_len pins s σ H _ us Q I rv ⟨_, _, rfl, .inl ⟨xs, f, rfl⟩, p.int st (by rw [r2.length]; exact k)⟩
      | ref m =>
        obtain ⟨a, rfl, i⟩ := r1.ref_
        have en : (match S[m]? with
          | some (.lst ds) => some ds.length
          | some (.dct kds) => some kds.length
          | _ => none) = some n := en
        split at en
        · rename_i ds es
          cases en
          obtain ⟨xs, h1, r2⟩ := st.obj _ _ _ es i
          exact call_len pins s σ H _ us Q I rv ⟨_, _, rfl, .inl ⟨xs, SqL.of h1, rfl⟩, p.int st (by rw [r2.length]; exact k)⟩
        · rename_i kds es
          cases en
          obtain ⟨kvs, h1, r2⟩ := st.obj _ _ _ es i
          rw [Vals.ref1 rv]
          exact d_len I (.inl h1) fun t s' I' => ⟨.int kvs.length, H, I', ⟨t, rfl⟩, p.int st (by rw [r2.length]; exact k)⟩
        · cases en
      | _ => cases en
    · exact k.elim
  · exact k.elim
def rAbs : RC := fun ds S q => match ds with
  | [.int i] => q (.int (if i < 0 then -i else i)) S
  | _ => False
theorem abs3 : CR3 C X (.builtin "abs") rAbs := by
  intro pins s σ H xs us Q I rv ⟨ι, S, ds, q, st, rd, k, p⟩
  unfold rAbs at k
  split at k
  · obtain ⟨v, rfl, r1⟩ := rd.one
    rw [r1.int_] at rv
    exact call_abs pins s σ H _ us Q I rv ⟨_, rfl, p.int st k⟩
  · exact k.elim
def rInt : RC := fun ds S q => match ds with
  | [.int i] => q (.int i) S
  | [.bl k] => q (.int (if k then 1 else 0)) S
  | _ => False
theorem intc3 : CR3 C X (.type "int") rInt := by
  intro pins s σ H xs us Q I rv ⟨ι, S, ds, q, st, rd, k, p⟩
  unfold rInt at k
  split at k
  · obtain ⟨v, rfl, r1⟩ := rd.one
    rw [r1.int_] at rv
    exact call_int1 pins s σ H _ us Q I rv (.inl ⟨_, rfl, p.int st k⟩)
  · obtain ⟨v, rfl, r1⟩ := rd.one
    rw [r1.bl_] at rv
    exact call_int1 pins s σ H _ us Q I rv (.inr ⟨_, rfl, p.int st k⟩)
  · exact k.elim
def rMin2 : RC := fun ds S q => match ds with
  | [.int i, .int j] => q (.int (if j < i then j else i)) S
  | _ => False
def rMax2 : RC := fun ds S q => match ds with
  | [.int i, .int j] => q (.int (if j > i then j else i)) S
  | _ => False
theorem min3 (hc : X.calm = true) : CR3 C X (.builtin "min") rMin2 := by
  intro pins s σ H xs us Q I rv ⟨ι, S, ds, q, st, rd, k, p⟩
  unfold rMin2 at k
  split at k
  · obtain ⟨v, u, rfl, r1, r2⟩ := rd.two
    rw [r1.int_, r2.int_] at rv
    exact call_min2 hc pins s σ H _ us Q I rv ⟨_, _, rfl, p.int st k⟩
  · exact k.elim
theorem max3 (hc : X.calm = true) : CR3 C X (.builtin "max") rMax2 := by
  intro pins s σ H xs us Q I rv ⟨ι, S, ds, q, st, rd, k, p⟩
  unfold rMax2 at k
  split at k
  · obtain ⟨v, u, rfl, r1, r2⟩ := rd.two
    rw [r1.int_, r2.int_] at rv
    exact call_max2 hc pins s σ H _ us Q I rv ⟨_, _, rfl, p.int st k⟩
  · exact k.elim

/-! ### tuple, list, all, any -/
def rTupc : RC := fun ds S q => match ds with
  | [.tup l] => q (.tup l) S
  | [.fl l] => q (.tup l) S
  | [.ref n] => match S[n]? with
    | some (.lst l) => q (.tup l) S
    | _ => False
  | _ => False
theorem tupc3 : CR3 C X (.type "tuple") rTupc := by
  intro pins s σ H xs us Q I rv ⟨ι, S, ds, q, st, rd, k, p⟩
  unfold rTupc at k
  split at k
  · obtain ⟨v, rfl, r1⟩ := rd.one
    have r0 := r1
    obtain ⟨a, xs, rfl, f, r2⟩ := r1.tup_
    exact call_tuple_of pins s σ H _ us Q I rv ⟨a, xs, rfl, .inr ⟨f, p.here st r0 k⟩⟩
  · obtain ⟨v, rfl, r1⟩ := rd.one
    obtain ⟨a, xs, rfl, f, r2⟩ := r1.fl_
    exact call_tuple_of pins s σ H _ us Q I rv ⟨a, xs, rfl, .inl ⟨f, p.newT st r2 k⟩⟩
  · obtain ⟨v, rfl, r1⟩ := rd.one
    split at k
    · rename_i l es
      obtain ⟨a, rfl, i⟩ := r1.ref_
      obtain ⟨xs, h1, r2⟩ := st.obj _ _ _ es i
      exact call_tuple_of pins s σ H _ us Q I rv ⟨a, xs, rfl, .inl ⟨SqL.of h1, p.newT st r2 k⟩⟩
    · exact k.elim
  · exact k.elim
def rLstc : RC := fun ds S q => match ds with
  | [.tup l] => q (.ref S.length) (S ++ [.lst l])
  | [.fl l] => q (.ref S.length) (S ++ [.lst l])
  | [.ref n] => match S[n]? with
    | some (.lst l) => q (.ref S.length) (S ++ [.lst l])
    | _ => False
  | _ => False
theorem lstc3 : CR3 C X (.type "list") rLstc := by
  intro pins s σ H xs us Q I rv ⟨ι, S, ds, q, st, rd, k, p⟩
  unfold rLstc at k
  split at k
  · obtain ⟨v, rfl, r1⟩ := rd.one
    obtain ⟨a, xs, rfl, f, r2⟩ := r1.tup_
    exact call_list_of pins s σ H _ us Q I rv ⟨a, xs, rfl, .inr f, p.newL st r2 k⟩
  · obtain ⟨v, rfl, r1⟩ := rd.one
    obtain ⟨a, xs, rfl, f, r2⟩ := r1.fl_
    exact call_list_of pins s σ H _ us Q I rv ⟨a, xs, rfl, .inl f, p.newL st r2 k⟩
  · obtain ⟨v, rfl, r1⟩ := rd.one
    split at k
    · rename_i l es
      obtain ⟨a, rfl, i⟩ := r1.ref_
      obtain ⟨xs, h1, r2⟩ := st.obj _ _ _ es i
      exact call_list_of pins s σ H _ us Q I rv ⟨a, xs, rfl, .inl (SqL.of h1), p.newL st r2 k⟩
    · exact k.elim
  · exact k.elim
/-- the items that are truth values, ints, texts -/
def blsD : List D → Option (List Bool)
  | [] => some []
  | .bl b :: r => (blsD r).map (b :: ·)
  | _ :: _ => none
def intsD : List D → Option (List Int)
  | [] => some []
  | .int b :: r => (intsD r).map (b :: ·)
  | _ :: _ => none
def strsD : List D → Option (List PySem.Str)
  | [] => some []
  | .str b :: r => (strsD r).map (b :: ·)
  | _ :: _ => none
theorem bls_rel {K : PySem.W.Frag} {ι : List Addr} {H : Hp} : ∀ {ds : List D} {bs : List Bool} {xs : List V}, blsD ds = some bs → RelDs K ι H ds xs → xs = bs.map V.bl
  | [], bs, xs, h, r => by
    cases h
    exact r.unnil
  | d :: ds, bs, xs, h, r => by
    obtain ⟨v, l, rfl, r1, r2⟩ := r.uncons
    cases d with
    | bl b =>
      have h : (blsD ds).map (b :: ·) = some bs := h
      obtain ⟨t, h1, rfl⟩ := Option.map_eq_some_iff.mp h
      rw [r1.bl_, bls_rel h1 r2] <;> rfl
    | _ => cases h
theorem ints_rel {K : PySem.W.Frag} {ι : List Addr} {H : Hp} : ∀ {ds : List D} {bs : List Int} {xs : List V}, intsD ds = some bs → RelDs K ι H ds xs → xs = bs.map V.int
  | [], bs, xs, h, r => by
    cases h
    exact r.unnil
  | d :: ds, bs, xs, h, r => by
    obtain ⟨v, l, rfl, r1, r2⟩ := r.uncons
    cases d with
    | int b =>
      have h : (intsD ds).map (b :: ·) = some bs := h
      obtain ⟨t, h1, rfl⟩ := Option.map_eq_some_iff.mp h
      rw [r1.int_, ints_rel h1 r2] <;> rfl
    | _ => cases h
theorem strs_rel {K : PySem.W.Frag} {ι : List Addr} {H : Hp} : ∀ {ds : List D} {bs : List PySem.Str} {xs : List V}, strsD ds = some bs → RelDs K ι H ds xs → xs = bs.map V.str ∧ ∀ z ∈ bs, PyData.strOk z = true
  | [], bs, xs, h, r => by
    cases h
    exact ⟨r.unnil, fun _ h => by cases h⟩
  | d :: ds, bs, xs, h, r => by
    obtain ⟨v, l, rfl, r1, r2⟩ := r.uncons
    cases d with
    | str b =>
      have h : (strsD ds).map (b :: ·) = some bs := h
      obtain ⟨t, h1, rfl⟩ := Option.map_eq_some_iff.mp h
      obtain ⟨e1, o1⟩ := r1.str_
      obtain ⟨e2, o2⟩ := strs_rel h1 r2
      refine ⟨by rw [e1, e2] <;> rfl, fun z hz => ?_⟩
      rcases List.mem_cons.mp hz with rfl | hz
      · exact o1
      · exact o2 z hz
    | _ => cases h
theorem blsD_map : ∀ bs : List Bool, blsD (bs.map D.bl) = some bs
  | [] => rfl
  | b :: bs => by
    show (blsD (bs.map D.bl)).map (b :: ·) = _
    rw [blsD_map bs] <;> rfl
theorem intsD_map : ∀ bs : List Int, intsD (bs.map D.int) = some bs
  | [] => rfl
  | b :: bs => by
    show (intsD (bs.map D.int)).map (b :: ·) = _
    rw [intsD_map bs] <;> rfl
theorem strsD_map : ∀ bs : List PySem.Str, strsD (bs.map D.str) = some bs
  | [] => rfl
  | b :: bs => by
    show (strsD (bs.map D.str)).map (b :: ·) = _
    rw [strsD_map bs] <;> rfl
/-- what is in a list, a tuple -/
def lstD (S : Store) : D → Option (List D)
  | .fl ds => some ds
  | .ref n => match S[n]? with
    | some (.lst ds) => some ds
    | _ => none
  | _ => none
theorem lstD_rel {G : Gx} {ι : List Addr} {H : Hp} {S : Store} {d : D} {v : V} {ds : List D} (st : St3 G ι H S) (r : RelD G.K ι H d v) (h : lstD S d = some ds) : ∃ a xs, v = .ref a ∧ SqL G.K H a xs ∧ RelDs G.K ι H ds xs := by
  cases d with
  | fl es =>
    cases h
    exact r.fl_
  | ref n =>
    have h : (match S[n]? with
      | some (.lst ds) => some ds
      | _ => none) = some ds := h
    split at h
    · rename_i l es
      cases h
      obtain ⟨a, rfl, i⟩ := r.ref_
      obtain ⟨xs, h1, r2⟩ := st.obj _ _ _ es i
      exact ⟨a, xs, rfl, SqL.of h1, r2⟩
    · cases h
  | _ => cases h
def rAllD : RC := fun ds S q => match ds with
  | [d] => match (lstD S d).bind blsD with
    | some bs => q (.bl (bs.all _root_.id)) S
    | none => False
  | _ => False
def rAnyD : RC := fun ds S q => match ds with
  | [d] => match (lstD S d).bind blsD with
    | some bs => q (.bl (bs.any _root_.id)) S
    | none => False
  | _ => False
theorem all3 (hc : X.calm = true) : CR3 C X (.builtin "all") rAllD := by
  intro pins s σ H xs us Q I rv ⟨ι, S, ds, q, st, rd, k, p⟩
  unfold rAllD at k
  split at k
  · obtain ⟨v, rfl, r1⟩ := rd.one
    split at k
    · rename_i bs eb
      obtain ⟨l, h1, h2⟩ := Option.bind_eq_some_iff.mp eb
      obtain ⟨a, xs, rfl, f, r2⟩ := lstD_rel st r1 h1
      exact cr_all hc pins s σ H _ us Q I rv ⟨a, bs, rfl, by rw [← bls_rel h2 r2]; exact f, p.bl st k⟩
    · exact k.elim
  · exact k.elim
theorem any3 (hc : X.calm = true) : CR3 C X (.builtin "any") rAnyD := by
  intro pins s σ H xs us Q I rv ⟨ι, S, ds, q, st, rd, k, p⟩
  unfold rAnyD at k
  split at k
  · obtain ⟨v, rfl, r1⟩ := rd.one
    split at k
    · rename_i bs eb
      obtain ⟨l, h1, h2⟩ := Option.bind_eq_some_iff.mp eb
      obtain ⟨a, xs, rfl, f, r2⟩ := lstD_rel st r1 h1
      exact cr_any hc pins s σ H _ us Q I rv ⟨a, bs, rfl, by rw [← bls_rel h2 r2]; exact f, p.bl st k⟩
    · exact k.elim
  · exact k.elim

/-! ### isinstance of built-in types -/
def tyD (S : Store) : D → Option String
  | .non => some "NoneType"
  | .bl _ => some "bool"
  | .int _ => some "int"
  | .str _ => some "str"
  | .tup _ => some "tuple"
  | .fl _ => some "list"
  | .ref n => match S[n]? with
    | some (.lst _) => some "list"
    | some (.dct _) => some "dict"
    | _ => none
  | .ty _ => none
def tyNames : List String := ["NoneType", "bool", "int", "str", "tuple", "list", "dict"]
def isiB (a b : String) : Bool := a == b || (a == "bool" && b == "int")
theorem isiB_all : (tyNames.all fun a => ["bool", "int", "str", "tuple", "list", "dict"].all fun b => kitB a b == some (isiB a b)) = true := by decide +kernel
theorem tyD_mem {S : Store} {d : D} {t : String} (h : tyD S d = some t) : t ∈ tyNames := by
  unfold tyD at h
  split at h
  all_goals first
    | (cases h; decide)
    | (cases h; done)
    | (split at h <;> first | (cases h; decide) | (cases h; done))
def rIsiD : RC := fun ds S q => match ds with
  | [d, .ty c] => match tyD S d with
    | some t => c ∈ ["bool", "int", "str", "tuple", "list", "dict"] ∧ q (.bl (isiB t c)) S
    | none => False
  | _ => False
theorem tyX_rel {G : Gx} {ι : List Addr} {H : Hp} {S : Store} {d : D} {v : V} {t : String} (st : St3 G ι H S) (r : RelD G.K ι H d v) (h : tyD S d = some t) : TyX G.K H v (.type t) := by
  cases d with
  | non =>
    cases h
    rw [r.non_]
    exact .base .non
  | bl b =>
    cases h
    rw [r.bl_]
    exact .base (.bl b)
  | int b =>
    cases h
    rw [r.int_]
    exact .base (.int b)
  | str b =>
    cases h
    rw [r.str_.1]
    exact .base (.str b)
  | tup ds =>
    cases h
    obtain ⟨a, xs, rfl, f, _⟩ := r.tup_
    rcases f with (f | ⟨o, f⟩) | ⟨o, its, n, h1, h2, _⟩
    · exact .base (.tup f)
    · exact .fTuple f
    · exact .kTuple h1 h2
  | fl ds =>
    cases h
    obtain ⟨a, xs, rfl, f, _⟩ := r.fl_
    rcases f with (f | ⟨o, f⟩) | ⟨o, its, n, h1, h2, _⟩
    · exact .base (.lst f)
    · exact .base (.frz f)
    · exact .kList h1 h2
  | ref n =>
    obtain ⟨a, rfl, i⟩ := r.ref_
    have h : (match S[n]? with
    | some (.lst _) => some "list"
    | some (.dct _) => some "dict"
    | _ => none) = some t := h
    split at h
    · rename_i l es
      cases h
      obtain ⟨xs, h1, r2⟩ := st.obj _ _ _ es i
      exact .base (.lst h1)
    · rename_i l es
      cases h
      obtain ⟨xs, h1, r2⟩ := st.obj _ _ _ es i
      exact .base (.dK h1)
    · cases h
  | ty n => cases h
theorem isi3 : CR3 C X (.builtin "isinstance") rIsiD := by
  intro pins s σ H xs us Q I rv ⟨ι, S, ds, q, st, rd, k, p⟩
  unfold rIsiD at k
  split at k
  · rename_i d c
    obtain ⟨v, u, rfl, r1, r2⟩ := rd.two
    split at k
    · rename_i t et
      rw [r2.ty_] at rv
      have kb : kitB t c = some (isiB t c) := by
        have h1 := (List.all_eq_true.mp isiB_all) t (tyD_mem et)
        have h2 := (List.all_eq_true.mp h1) c k.1
        exact beq_iff_eq.mp h2
      exact call_isi pins s σ H _ us Q I rv ⟨v, .ty c, .type t, .type c, _, rfl, .ty c, tyX_rel st r1 et, kit_ty kb, p.bl st k.2⟩
    · exact k.elim
  · exact k.elim

/-! ### methods -/
abbrev RM := D → List D → Store → WK → Prop
def rmOf (C : Cl) (X : Cx) (r : RM) : V → List V → Hp → VK → Prop := fun y xs H Q => ∃ ι S d ds q, St3 (gx C X) ι H S ∧ RelD X.K ι H d y ∧ RelDs X.K ι H ds xs ∧ r d ds S q ∧ PoE (gx C X) ι H q Q
def MR3 (C : Cl) (X : Cx) (id : String) (r : RM) : Prop := MtR X id (rmOf C X r)
def tyM (T : String) (S : Store) : D → Prop
  | .str _ => T = "str"
  | .fl _ => T = "list"
  | .ref n => match S[n]? with
    | some (.lst _) => T = "list"
    | some (.dct _) => T = "dict"
    | _ => False
  | _ => False
theorem tyM_rel {G : Gx} {ι : List Addr} {H : Hp} {S : Store} {d : D} {v : V} {T : String} (st : St3 G ι H S) (r : RelD G.K ι H d v) (h : tyM T S d) : tyV G.K T v H := by
  cases d with
  | str z =>
    rw [r.str_.1]
    exact h
  | fl ds =>
    obtain ⟨a, xs, rfl, f, _⟩ := r.fl_
    exact .inl ⟨h, xs, f⟩
  | ref n =>
    obtain ⟨a, rfl, i⟩ := r.ref_
    have h : (match S[n]? with
      | some (.lst _) => T = "list"
      | some (.dct _) => T = "dict"
      | _ => False) := h
    split at h
    · rename_i l es
      obtain ⟨xs, h1, r2⟩ := st.obj _ _ _ es i
      exact .inl ⟨h, xs, SqL.of h1⟩
    · rename_i l es
      obtain ⟨xs, h1, r2⟩ := st.obj _ _ _ es i
      exact .inr (.inr (.inl ⟨h, .inl ⟨xs, h1⟩⟩))
    · exact h.elim
  | _ => exact h.elim
def wBM (T : String) (r : RM) (wo : WE) (wa : WA) : WE := fun ρ S q x => wo ρ S (fun d S1 => tyM T S1 d ∧ wa ρ S1 (fun ds S2 => r d ds S2 q) x) x
variable {o : Expr} {wo : WE} {rm : RM} {name : PySem.Str} {apos cpos : Pos}
theorem pe3_bm (pa : PlainAttrs T) (slot : Slot T name id) (hty : typeOf (.builtin id) = pure (.type "method_descriptor")) (hm : MR3 C X id rm) (ho : PE3 C X W o wo) (ha : PA3 C X W (e :: es) wr)
    (hbase : attributeBase o name X.env (eval o X.env) = eval o X.env := by rfl)
    (hfew : ((backTo cpos (starEach (e :: es) X.env)).all (fun x => !x.1) && (backToKw cpos (keywordEach [] X.env)).all (fun x => x.1.isSome)
      && decide ((e :: es).length + ([] : List Keyword).length + (if ([] : List Keyword).isEmpty then 0 else 1) < 30)) = true := by rfl)
    (hline : (apos.endLine == cpos.line) = true := by rfl) (hs : starEach (e :: es) X.env = (false, eval e X.env) :: starEach es X.env := by rfl) (hplain : (backTo cpos (starEach es X.env)).any (·.1) = false := by rfl) :
    PE3 C X W (.Call (.Attribute o name apos) (e :: es) [] cpos) (wBM T rm wo wr) :=
  pe_le (pe_bm pa slot hty hm ho ha hbase hfew hline hs hplain) fun σ H Q ⟨ι, S, ρ, q, x, R, h, p, px⟩ => ⟨ι, S, ρ, _, x, R, h, fun d S1 ι1 H1 v h1 e1 st1 rd =>
    ⟨tyM_rel st1 rd h1.1, ι1, S1, ρ, _, x, R.ext e1 st1, h1.2, fun ds S2 ι2 H2 vs h2 e2 st2 rds => ⟨ι2, S2, d, ds, q, st2, rd.ext e2, rds, h2, p.ext (e1.trans e2)⟩, px.ext e1⟩, px⟩
theorem pe3_bm0 (pa : PlainAttrs T) (slot : Slot T name id) (hty : typeOf (.builtin id) = pure (.type "method_descriptor")) (hm : MR3 C X id rm) (ho : PE3 C X W o wo)
    (hbase : attributeBase o name X.env (eval o X.env) = eval o X.env := by rfl) (hline : (apos.endLine == cpos.line) = true := by rfl) : PE3 C X W (.Call (.Attribute o name apos) [] [] cpos) (wBM T rm wo wNil) :=
  pe_le (pe_bm0 pa slot hty hm ho hbase hline) fun σ H Q ⟨ι, S, ρ, q, x, R, h, p, px⟩ => ⟨ι, S, ρ, _, x, R, h, fun d S1 ι1 H1 v h1 e1 st1 rd =>
    ⟨tyM_rel st1 rd h1.1, ι1, S1, d, [], q, st1, rd, .nil, h1.2, p.ext e1⟩, px⟩
theorem lst_nt {xs : List V} : NoTbl (.lst xs) := by intro _ z; cases z
theorem lst_nc {xs : List V} {a : Addr} : ∀ q, (HO.lst xs) ≠ CodeO a q := by
  intro _ z
  unfold CodeO at z
  cases z
theorem dct_nt {xs : List (Key × V)} : NoTbl (.dK xs) := by intro _ z; cases z
theorem dct_nc {xs : List (Key × V)} {a : Addr} : ∀ q, (HO.dK xs) ≠ CodeO a q := by
  intro _ z
  unfold CodeO at z
  cases z
section
variable {G : Gx} {ι : List Addr} {H : Hp} {S : Store} {a : Addr} {n : Nat} {xs ys : List V} {ds es : List D} {d : D} {v : V} {q : WK} {Q : VK}
/-- a list of the store changes; behind it -/
theorem PoE.setL (p : PoE G ι H q Q) (st : St3 G ι H S) (hi : ι[n]? = some a) (h1 : H a = some (.lst xs)) (r2 : RelDs G.K ι H es ys) (rv : RelD G.K ι H d v) (k : q d (S.set n (.lst es))) : Q v (upd H a (.lst ys)) := by
  have e : Ext3 G ι H ι (upd H a (.lst ys)) := Ext3.put (List.mem_of_getElem? hi) h1 lst_nt lst_nc
  exact p _ _ ι _ _ k e (st.put hi h1 lst_nt lst_nc ⟨ys, upd_same, r2.ext e⟩) (rv.ext e)
theorem PoE.setD {ms ns : List (Key × V)} {ks : List (Key × D)} (p : PoE G ι H q Q) (st : St3 G ι H S) (hi : ι[n]? = some a) (h1 : H a = some (.dK ms)) (r2 : RelKV G.K ι H ks ns) (rv : RelD G.K ι H d v) (k : q d (S.set n (.dct ks))) : Q v (upd H a (.dK ns)) := by
  have e : Ext3 G ι H ι (upd H a (.dK ns)) := Ext3.put (List.mem_of_getElem? hi) h1 dct_nt dct_nc
  exact p _ _ ι _ _ k e (st.put hi h1 dct_nt dct_nc ⟨ns, upd_same, r2.ext e⟩) (rv.ext e)
end
theorem rel_non {K : PySem.W.Frag} {ι : List Addr} {H : Hp} : RelD K ι H .non .non := by unfold RelD; rfl
def mAppend : RM := fun o ds S q => match o, ds with
  | .ref n, [d] => match S[n]? with
    | some (.lst l) => l.length < LIM ∧ q .non (S.set n (.lst (l ++ [d])))
    | _ => False
  | _, _ => False
theorem append3 : MR3 C X "list.append" mAppend := by
  intro pins s σ H x xs v us Q I rx rv ⟨ι, S, o, ds, q, st, ro, rd, k, p⟩
  unfold mAppend at k
  split at k
  · rename_i n d
    split at k
    · rename_i l es
      obtain ⟨a, rfl, i⟩ := ro.ref_
      obtain ⟨y, rfl, ry⟩ := rd.one
      obtain ⟨zs, h1, r2⟩ := st.obj _ _ _ es i
      exact mt_append pins s σ H _ _ v us Q I rx rv ⟨a, zs, y, rfl, rfl, h1, by rw [r2.length, lim_eq]; exact k.1, p.setL st i h1 (r2.append (.cons ry .nil)) rel_non k.2⟩
    · exact k.elim
  · exact k.elim
def mExtend : RM := fun o ds S q => match o, ds with
  | .ref n, [.ref m] => match S[n]?, S[m]? with
    | some (.lst l), some (.lst l') => l.length + l'.length ≤ LIM ∧ q .non (S.set n (.lst (l ++ l')))
    | _, _ => False
  | _, _ => False
theorem extend3 : MR3 C X "list.extend" mExtend := by
  intro pins s σ H x xs v us Q I rx rv ⟨ι, S, o, ds, q, st, ro, rd, k, p⟩
  unfold mExtend at k
  split at k
  · split at k
    · rename_i l l' es es'
      obtain ⟨a, rfl, i⟩ := ro.ref_
      obtain ⟨y, rfl, ry⟩ := rd.one
      obtain ⟨b, rfl, j⟩ := ry.ref_
      obtain ⟨zs, h1, r2⟩ := st.obj _ _ _ es i
      obtain ⟨zs', h1', r2'⟩ := st.obj _ _ _ es' j
      exact mt_extend pins s σ H _ _ v us Q I rx rv ⟨a, b, zs, zs', rfl, rfl, h1, h1', by rw [r2.length, r2'.length, lim_eq]; exact k.1, p.setL st i h1 (r2.append r2') rel_non k.2⟩
    · exact k.elim
  · exact k.elim
theorem RelDs.dropLast {K : PySem.W.Frag} {ι : List Addr} {H : Hp} {ds : List D} {xs : List V} (r : RelDs K ι H ds xs) : RelDs K ι H ds.dropLast xs.dropLast := by
  rw [List.dropLast_eq_take, List.dropLast_eq_take, r.length]
  exact r.take _
theorem RelDs.erase {K : PySem.W.Frag} {ι : List Addr} {H : Hp} : ∀ {ds : List D} {xs : List V} (i : Nat), RelDs K ι H ds xs → RelDs K ι H (ds.eraseIdx i) (xs.eraseIdx i)
  | [], xs, i, r => by
    rw [r.unnil]
    exact .nil
  | d :: ds, xs, 0, r => by
    obtain ⟨v, l, rfl, r1, r2⟩ := r.uncons
    exact r2
  | d :: ds, xs, i + 1, r => by
    obtain ⟨v, l, rfl, r1, r2⟩ := r.uncons
    exact .cons r1 (RelDs.erase i r2)
/-- pop(), pop(0), pop(k) -/
def mPop : RM := fun o ds S q => match o, ds with
  | .ref n, [] => match S[n]? with
    | some (.lst l) => match l[l.length - 1]? with
      | some d => q d (S.set n (.lst l.dropLast))
      | none => False
    | _ => False
  | .ref n, [.int i] => match S[n]? with
    | some (.lst l) => match ixN l.length i with
      | some j => match l[j]? with
        | some d => (-(2 ^ 63) ≤ i ∧ i < 2 ^ 63) ∧ q d (S.set n (.lst (l.eraseIdx j)))
        | none => False
      | none => False
    | _ => False
  | _, _ => False
theorem pop3 : MR3 C X "list.pop" mPop := by
  intro pins s σ H x xs v us Q I rx rv ⟨ι, S, o, ds, q, st, ro, rd, k, p⟩
  unfold mPop at k
  split at k
  · split at k
    · rename_i l es
      split at k
      · rename_i d ed
        obtain ⟨a, rfl, i⟩ := ro.ref_
        rw [rd.unnil] at rv
        obtain ⟨zs, h1, r2⟩ := st.obj _ _ _ es i
        obtain ⟨y, hy, ry⟩ := r2.get ed
        exact mt_pop pins s σ H _ _ v us Q I rx rv ⟨a, zs, y, rfl, rfl, h1, by rw [r2.length]; exact hy, p.setL st i h1 r2.dropLast ry k⟩
      · exact k.elim
    · exact k.elim
  · rename_i n i
    split at k
    · rename_i l es
      split at k
      · rename_i j ej
        split at k
        · rename_i d ed
          obtain ⟨a, rfl, ia⟩ := ro.ref_
          obtain ⟨y, rfl, ri⟩ := rd.one
          rw [ri.int_] at rv
          obtain ⟨zs, h1, r2⟩ := st.obj _ _ _ es ia
          obtain ⟨y, hy, ry⟩ := r2.get ed
          exact mt_popAt pins s σ H _ _ v us Q I rx rv ⟨a, zs, i, j, y, rfl, rfl, h1, k.1.1, k.1.2, by rw [r2.length]; exact (ixN_seq ej).1, hy, p.setL st ia h1 (r2.erase j) ry k.2⟩
        · exact k.elim
      · exact k.elim
    · exact k.elim
  · exact k.elim
theorem mem_joinL (c : Nat) (S : List Nat) : ∀ l : List (List Nat), c ∈ TL.joinL S l → c ∈ S ∨ ∃ p ∈ l, c ∈ p
  | [], h => by cases h
  | [p], h => .inr ⟨p, List.mem_singleton.mpr rfl, h⟩
  | p :: q :: r, h => by
    have h : c ∈ p ++ (S ++ TL.joinL S (q :: r)) := h
    rcases List.mem_append.mp h with h | h
    · exact .inr ⟨p, by simp, h⟩
    · rcases List.mem_append.mp h with h | h
      · exact .inl h
      · rcases mem_joinL c S (q :: r) h with h | ⟨t, h1, h2⟩
        · exact .inl h
        · exact .inr ⟨t, List.mem_cons_of_mem _ h1, h2⟩
theorem ok_iff {z : PySem.Str} : PyData.strOk z = true ↔ ∀ c ∈ z.cps.toList, c < 0x110000 := by
  unfold PyData.strOk
  rw [← Array.all_toList, List.all_eq_true]
  constructor
  · intro h c hc
    simpa using h c hc
  · intro h c hc
    simpa using h c hc
theorem ok_join {y : PySem.Str} {ys : List PySem.Str} (o : PyData.strOk y = true) (os : ∀ z ∈ ys, PyData.strOk z = true) : PyData.strOk (Txt.join y ys) = true := by
  rw [TL.join_eq, ok_iff]
  intro c hc
  have hc : c ∈ TL.tl (PySem.Str.join y ys) := hc
  rw [TL.tl_join] at hc
  rcases mem_joinL c _ _ hc with h | ⟨t, h1, h2⟩
  · exact ok_iff.mp o c h
  · obtain ⟨z, hz, rfl⟩ := List.mem_map.mp h1
    exact ok_iff.mp (os z hz) c h2
def seqD (S : Store) : D → Option (List D)
  | .tup ds => some ds
  | .fl ds => some ds
  | .ref n => match S[n]? with
    | some (.lst ds) => some ds
    | _ => none
  | _ => none
theorem seqD_rel {G : Gx} {ι : List Addr} {H : Hp} {S : Store} {d : D} {v : V} {ds : List D} (st : St3 G ι H S) (r : RelD G.K ι H d v) (h : seqD S d = some ds) : ∃ a xs, v = .ref a ∧ (SqL G.K H a xs ∨ SqT G.K H a xs) ∧ RelDs G.K ι H ds xs := by
  cases d with
  | tup es =>
    cases h
    obtain ⟨a, xs, e, f, r2⟩ := r.tup_
    exact ⟨a, xs, e, .inr f, r2⟩
  | fl es =>
    cases h
    obtain ⟨a, xs, e, f, r2⟩ := r.fl_
    exact ⟨a, xs, e, .inl f, r2⟩
  | ref n =>
    obtain ⟨a, xs, e, f, r2⟩ := lstD_rel st r h
    exact ⟨a, xs, e, .inl f, r2⟩
  | _ => cases h
def mJoin : RM := fun o ds S q => match o, ds with
  | .str y, [d] => match (seqD S d).bind strsD with
    | some ys => (ys.map (·.length)).sum + ys.length * y.length ≤ LIM ∧ q (.str (Txt.join y ys)) S
    | none => False
  | _, _ => False
theorem join3 : MR3 C X "str.join" mJoin := by
  intro pins s σ H x xs v us Q I rx rv ⟨ι, S, o, ds, q, st, ro, rd, k, p⟩
  unfold mJoin at k
  split at k
  · split at k
    · rename_i ys ey
      obtain ⟨l, h1, h2⟩ := Option.bind_eq_some_iff.mp ey
      obtain ⟨w', rfl, rw'⟩ := rd.one
      obtain ⟨e1, o1⟩ := ro.str_
      rw [e1] at rx
      obtain ⟨a, zs, rfl, f, r2⟩ := seqD_rel st rw' h1
      obtain ⟨e2, o2⟩ := strs_rel h2 r2
      rw [e2] at f
      exact mt_join pins s σ H _ _ v us Q I rx rv ⟨_, a, ys, rfl, rfl, f, k.1, p.str st (ok_join o1 o2) k.2⟩
    · exact k.elim
  · exact k.elim
end
end L3

set_option Elab.async false
set_option linter.all false
set_option maxRecDepth 100000
set_option maxHeartbeats 4000000
/-! L3: statements, targets, loops, list comprehensions. -/
namespace L3
open PySem PySem.Spec PyProof.Rows L2
open LamX (Tabs TabS CodeO)

/-! ### statements -/
def wNext : WS := fun E ρ S => E.nx ρ S
def wSeq (t u : WS) : WS := fun E ρ S => t { E with nx := u E } ρ S
def wBrk : WS := fun E ρ S => E.bk ρ S
def wCnt : WS := fun E ρ S => E.ct ρ S
def wDrop (w : WE) : WS := fun E ρ S => w ρ S (fun _ S1 => E.nx ρ S1) (E.xc ρ)
def wRet (w : WE) : WS := fun E ρ S => w ρ S E.rt (E.xc ρ)
def wRetN : WS := fun E _ S => E.rt .non S
def wIfS (c : WT) (t u : WS) : WS := fun E ρ S => c ρ S (fun b S1 => if b = true then t E ρ S1 else u E ρ S1) (E.xc ρ)
def wSet (i : Nat) (w : WE) : WS := fun E ρ S => w ρ S (fun d S1 => E.nx (put ρ i (some d)) S1) (E.xc ρ)
def wPar (i j : Nat) (w : WA) : WS := fun E ρ S => w ρ S (fun ds S1 => match ds with
  | [d, e] => E.nx (put (put ρ i (some d)) j (some e)) S1
  | _ => False) (E.xc ρ)
def wPar3 (i j l : Nat) (w : WA) : WS := fun E ρ S => w ρ S (fun ds S1 => match ds with
  | [d, e, f] => E.nx (put (put (put ρ i (some d)) j (some e)) l (some f)) S1
  | _ => False) (E.xc ρ)
def wAsg (w : WE) (g : WG) : WS := fun E ρ S => w ρ S (fun d S1 => g d ρ S1 E.nx (E.xc ρ)) (E.xc ρ)
def wAug (i : Nat) (w : WE) (r : R3) : WS := fun E ρ S => match slot ρ i with
  | some d => w ρ S (fun e S1 => r d e S1 (fun z S2 => E.nx (put ρ i (some z)) S2)) (E.xc ρ)
  | none => False

section
variable {G : Gx} {ι : List Addr} {H : Hp} {S : Store} {ρ : Env3} {σ : L2.St} {W : WX}
/-- the posts of a statement at the place it starts from -/
structure PoAll (G : Gx) (W : WX) (ι : List Addr) (H : Hp) (E : Ends3) (D : L2.Ends) : Prop where
  nx : PoS G ι H E.nx D.nx
  rt : PoE G ι H E.rt D.rt
  bk : PoS G ι H E.bk D.bk
  ct : PoS G ι H E.ct D.ct
  xc : PoXS G ι H E.xc W
theorem PoAll.ext {ι' : List Addr} {H' : Hp} {E : Ends3} {D : L2.Ends} (p : PoAll G W ι H E D) (e : Ext3 G ι H ι' H') : PoAll G W ι' H' E D := ⟨p.nx.ext e, p.rt.ext e, p.bk.ext e, p.ct.ext e, p.xc.ext e⟩
theorem liftS_mk {w : WS} {E : Ends3} {D : L2.Ends} (R : Rel3 G ι H S ρ σ) (h : w E ρ S) (p : PoAll G W ι H E D) : liftS G W w D σ H := ⟨ι, S, ρ, E, R, h, p.nx, p.rt, p.bk, p.ct, p.xc⟩
theorem liftS_un {w : WS} {D : L2.Ends} (h : liftS G W w D σ H) : ∃ ι S ρ E, Rel3 G ι H S ρ σ ∧ w E ρ S ∧ PoAll G W ι H E D := by
  obtain ⟨ι, S, ρ, E, R, h, a, b, c, d, e⟩ := h
  exact ⟨ι, S, ρ, E, R, h, a, b, c, d, e⟩
theorem RelSl.put {K : PySem.W.Frag} {d : D} {v : V} (i : Nat) (h : RelSl K ι H ρ σ) (r : RelD K ι H d v) : RelSl K ι H (L3.put ρ i (some d)) (σ.set i (some v)) := by
  have := RelSl.set (G := ⟨K, fun _ => none, []⟩) i h r
  rw [put_set]
  exact this
end

section
variable {C : Cl} {X : Cx} {W : WX} {e a b c : Expr} {wa wb : WE} {wt : WT} {wr : WA} {st : Stmt} {sts sts' : List Stmt} {t u : WS} {pos : Pos} {g : WG}
theorem pss3_nil : PSs3 C X W [] wNext := pss_le pss_nil fun D σ H h => by
  obtain ⟨ι, S, ρ, E, R, h, p⟩ := liftS_un h
  exact p.nx ρ S ι H σ h (Ext3.refl _ _ _) R.st R.sl
theorem pss3_cons (h1 : PS3 C X W st t) (h2 : PSs3 C X W sts u) : PSs3 C X W (st :: sts) (wSeq t u) := pss_le (pss_cons h1 h2) fun D σ H h => by
  obtain ⟨ι, S, ρ, E, R, h, p⟩ := liftS_un h
  exact liftS_mk R h ⟨fun ρ' S' ι' H' σ' h1 e1 st1 sl1 => liftS_mk ⟨st1, sl1, e1.tabs R.tb⟩ h1 (p.ext e1), p.rt, p.bk, p.ct, p.xc⟩
theorem pss3_one (h1 : PS3 C X W st t) : PSs3 C X W [st] t := pss_one h1
theorem ps3_pass : PS3 C X W (.Pass pos) wNext := ps_le ps_pass fun D σ H h => by
  obtain ⟨ι, S, ρ, E, R, h, p⟩ := liftS_un h
  exact p.nx ρ S ι H σ h (Ext3.refl _ _ _) R.st R.sl
theorem ps3_break : PS3 C X W (.Break pos) wBrk := ps_le ps_break fun D σ H h => by
  obtain ⟨ι, S, ρ, E, R, h, p⟩ := liftS_un h
  exact p.bk ρ S ι H σ h (Ext3.refl _ _ _) R.st R.sl
theorem ps3_continue : PS3 C X W (.Continue pos) wCnt := ps_le ps_continue fun D σ H h => by
  obtain ⟨ι, S, ρ, E, R, h, p⟩ := liftS_un h
  exact p.ct ρ S ι H σ h (Ext3.refl _ _ _) R.st R.sl
theorem ps3_expr (he : PE3 C X W e wa) (hs : swapsWith e none pos.line X.env = pure false := by rfl) : PS3 C X W (.Expr e pos) (wDrop wa) := ps_le (ps_expr he hs) fun D σ H h => by
  obtain ⟨ι, S, ρ, E, R, h, p⟩ := liftS_un h
  exact ⟨ι, S, ρ, _, _, R, h, fun d S1 ι1 H1 v h1 e1 st1 rd => p.nx ρ S1 ι1 H1 σ h1 e1 st1 (R.sl.ext e1), p.xc.at R.sl⟩
theorem ps3_ret (he : PE3 C X W e wa) : PS3 C X W (.Return (some e) pos) (wRet wa) := ps_le (ps_ret he) fun D σ H h => by
  obtain ⟨ι, S, ρ, E, R, h, p⟩ := liftS_un h
  exact ⟨ι, S, ρ, _, _, R, h, p.rt, p.xc.at R.sl⟩
theorem ps3_retN : PS3 C X W (.Return none pos) wRetN := ps_le ps_retN fun D σ H h => by
  obtain ⟨ι, S, ρ, E, R, h, p⟩ := liftS_un h
  exact p.rt.non R.st h
theorem ps3_if (hc : PT3 C X W c wt) (ha : PSs3 C X W sts t) (hb : PSs3 C X W sts' u) : PS3 C X W (.If c sts sts' pos) (wIfS wt t u) := ps_le (ps_if hc ha hb) fun D σ H h => by
  obtain ⟨ι, S, ρ, E, R, h, p⟩ := liftS_un h
  refine ⟨ι, S, ρ, _, _, R, h, fun k S1 ι1 H1 h1 e1 st1 => ?_, p.xc.at R.sl⟩
  cases k with
  | true => exact liftS_mk (R.ext e1 st1) h1 (p.ext e1)
  | false => exact liftS_mk (R.ext e1 st1) h1 (p.ext e1)
theorem ps3_set {i : Nat} {x : PySem.Str} {pos' : Pos} (hN : X.N.Nodup) (hi : X.N[i]? = some x) (hx : Loc X.env.scope x) (he : PE3 C X W e wa) (hs : swapsWith e (some (.Name x pos')) pos.line X.env = pure false := by rfl)
    (hf : X.fn x = true ∨ X.env.scope.names.lookup x = some .local := by first | exact .inl rfl | exact .inr rfl | assumption) : PS3 C X W (.Assign [.Name x pos'] e pos) (wSet i wa) := ps_le (ps_set hN hi hx he hs hf) fun D σ H h => by
  obtain ⟨ι, S, ρ, E, R, h, p⟩ := liftS_un h
  exact ⟨ι, S, ρ, _, _, R, h, fun d S1 ι1 H1 v h1 e1 st1 rd => p.nx _ S1 ι1 H1 _ h1 e1 st1 ((R.sl.ext e1).put i rd), p.xc.at R.sl⟩
theorem ps3_par {i j : Nat} {x y : PySem.Str} {px py pt : Pos} {kt k2 pt2} (hc : X.calm = true) (hN : X.N.Nodup) (hi : X.N[i]? = some x) (hj : X.N[j]? = some y) (hij : i ≠ j)
    (hx : X.env.scope.names.lookup x = some .local) (hy : X.env.scope.names.lookup y = some .local) (ha : PA3 C X W [a, b] wr)
    (hw : swappedStores [.Tuple [.Name x px, .Name y py] kt pt] (.Tuple [a, b] k2 pt2) X.env = pure (some [x, y]))
    (hs : swapsWithSole [.Tuple [.Name x px, .Name y py] kt pt] (.Tuple [a, b] k2 pt2) pos.line X.env = pure false := by rfl) :
    PS3 C X W (.Assign [.Tuple [.Name x px, .Name y py] kt pt] (.Tuple [a, b] k2 pt2) pos) (wPar i j wr) := ps_le (ps_par hc hN hi hj hij hx hy ha hw hs) fun D σ H h => by
  obtain ⟨ι, S, ρ, E, R, h, p⟩ := liftS_un h
  refine ⟨ι, S, ρ, _, _, R, h, fun ds S1 ι1 H1 vs h1 e1 st1 rd => ?_, p.xc.at R.sl⟩
  dsimp only at h1
  split at h1
  · obtain ⟨v, u, rfl, r1, r2⟩ := rd.two
    exact ⟨v, u, rfl, p.nx _ S1 ι1 H1 _ h1 e1 st1 (((R.sl.ext e1).put i r1).put j r2)⟩
  · exact h1.elim
theorem ps3_par3 {i j l : Nat} {x y z : PySem.Str} {px py pz pt : Pos} {kt k2 pt2} (hc : X.calm = true) (hN : X.N.Nodup) (hi : X.N[i]? = some x) (hj : X.N[j]? = some y) (hl : X.N[l]? = some z) (hij : i ≠ j) (hil : i ≠ l) (hjl : j ≠ l)
    (hx : X.env.scope.names.lookup x = some .local) (hy : X.env.scope.names.lookup y = some .local) (hz : X.env.scope.names.lookup z = some .local) (ha : PA3 C X W [a, b, c] wr)
    (hw : swappedStores [.Tuple [.Name x px, .Name y py, .Name z pz] kt pt] (.Tuple [a, b, c] k2 pt2) X.env = pure (some [x, y, z]))
    (hs : swapsWithSole [.Tuple [.Name x px, .Name y py, .Name z pz] kt pt] (.Tuple [a, b, c] k2 pt2) pos.line X.env = pure false := by rfl) :
    PS3 C X W (.Assign [.Tuple [.Name x px, .Name y py, .Name z pz] kt pt] (.Tuple [a, b, c] k2 pt2) pos) (wPar3 i j l wr) := ps_le (ps_par3 hc hN hi hj hl hij hil hjl hx hy hz ha hw hs) fun D σ H h => by
  obtain ⟨ι, S, ρ, E, R, h, p⟩ := liftS_un h
  refine ⟨ι, S, ρ, _, _, R, h, fun ds S1 ι1 H1 vs h1 e1 st1 rd => ?_, p.xc.at R.sl⟩
  dsimp only at h1
  split at h1
  · obtain ⟨v, l', rfl, r1, r2⟩ := rd.uncons
    obtain ⟨u, w', rfl, r2, r3⟩ := r2.two
    exact ⟨v, u, w', rfl, p.nx _ S1 ι1 H1 _ h1 e1 st1 ((((R.sl.ext e1).put i r1).put j r2).put l r3)⟩
  · exact h1.elim
theorem ps3_aug {i : Nat} {x : PySem.Str} {op : Operator} {r : R3} {pos' : Pos} (hN : X.N.Nodup) (hi : X.N[i]? = some x) (hx : Loc X.env.scope x) (he : PE3 C X W e wa) (ho : OpR3 C X (inplaceOp op) r)
    (hf : X.fn x = true ∨ X.env.scope.names.lookup x = some .local := by first | exact .inl rfl | exact .inr rfl | assumption) : PS3 C X W (.AugAssign (.Name x pos') op e pos) (wAug i wa r) := ps_le (ps_aug hN hi hx he ho hf) fun D σ H h => by
  obtain ⟨ι, S, ρ, E, R, h, p⟩ := liftS_un h
  unfold wAug at h
  split at h
  · rename_i d ed
    obtain ⟨v, h1, h2⟩ := R.sl.2 i d (slot_get ed)
    refine ⟨v, h1, ι, S, ρ, _, _, R, h, fun e S1 ι1 H1 y h3 e1 st1 rd => ?_, p.xc.at R.sl⟩
    exact ⟨ι1, S1, d, e, _, st1, e1.tabs R.tb, h2.ext e1, rd, h3, fun z S2 ι2 H2 zv h4 e2 st2 rz => p.nx _ S2 ι2 H2 _ h4 (e1.trans e2) st2 ((R.sl.ext (e1.trans e2)).put i rz)⟩
  · exact h.elim
/-- += of ints, texts -/
def addI : R3 := fun d e S q => match d, e with
  | .int i, .int j => q (.int (i + j)) S
  | .str i, .str j => i.length + j.length ≤ LIM ∧ q (.str (i ++ j)) S
  | _, _ => False
theorem iadd3 : OpR3 C X (inplaceOp .Add) addI := by
  intro pins s σ H x y v u Q I rx ry ⟨ι, S, d, e, q, st, tb, rd, re, k, p⟩
  unfold addI at k
  split at k
  · rw [rd.int_] at rx
    rw [re.int_] at ry
    exact iop_add pins s σ H _ _ v u Q I rx ry ⟨_, _, rfl, rfl, p.int st k⟩
  · obtain ⟨rfl, o1⟩ := rd.str_
    obtain ⟨rfl, o2⟩ := re.str_
    exact iop_add_str pins s σ H _ _ v u Q I rx ry ⟨_, _, rfl, rfl, by rw [lim_eq]; exact k.1, p.str st (ok_app o1 o2) k.2⟩
  · exact k.elim
def subI : R3 := fun d e S q => match d, e with
  | .int i, .int j => q (.int (i - j)) S
  | _, _ => False
theorem isub3 : OpR3 C X (inplaceOp .Sub) subI := by
  intro pins s σ H x y v u Q I rx ry ⟨ι, S, d, e, q, st, tb, rd, re, k, p⟩
  unfold subI at k
  split at k
  · rw [rd.int_] at rx
    rw [re.int_] at ry
    exact iop_sub pins s σ H _ _ v u Q I rx ry ⟨_, _, rfl, rfl, p.int st k⟩
  · exact k.elim

/-! ### targets -/
/-- what is wanted of a target's reading -/
structure GL (C : Cl) (X : Cx) (g : TG) (w : WG) : Prop where
  go : ∀ (W : WX) (v : V) (σ : L2.St) (H : Hp) (Q : L2.St → Hp → Prop), liftG (gx C X) W w v σ H Q → g v σ H Q
structure GsL (C : Cl) (X : Cx) (g : TGs) (w : WGs) : Prop where
  go : ∀ (W : WX) (v : List V) (σ : L2.St) (H : Hp) (Q : L2.St → Hp → Prop), liftGs (gx C X) W w v σ H Q → g v σ H Q
/-- it stores in these slots alone -/
def Only (g : TG) (vs : List Nat) : Prop := ∀ v σ H Q, g v σ H Q → g v σ H fun σ2 H2 => wipe σ2 vs = wipe σ vs ∧ Q σ2 H2
def Onlys (g : TGs) (vs : List Nat) : Prop := ∀ v σ H Q, g v σ H Q → g v σ H fun σ2 H2 => wipe σ2 vs = wipe σ vs ∧ Q σ2 H2
def wgName (i : Nat) : WG := fun d ρ S q _ => q (put ρ i (some d)) S
def wgNil : WGs := fun ds ρ S q _ => match ds with
  | [] => q ρ S
  | _ => False
def wgCons (g : WG) (r : WGs) : WGs := fun ds ρ S q x => match ds with
  | d :: ds => g d ρ S (fun ρ1 S1 => r ds ρ1 S1 q x) x
  | [] => False
def wgTup (n : Nat) (r : WGs) : WG := fun d ρ S q x => match d with
  | .tup ds => ds.length = n ∧ r ds ρ S q x
  | _ => False
theorem gl_name {i : Nat} : GL C X (gName i) (wgName i) := ⟨fun W v σ H Q ⟨ι, S, ρ, d, q, x, R, rd, h, p, px⟩ => p _ S ι H _ h (Ext3.refl _ _ _) R.st (R.sl.put i rd)⟩
theorem gl_nil : GsL C X gNil wgNil := ⟨fun W v σ H Q ⟨ι, S, ρ, ds, q, x, R, rd, h, p, px⟩ => by
  cases ds with
  | nil => exact ⟨rd.unnil, p ρ S ι H σ h (Ext3.refl _ _ _) R.st R.sl⟩
  | cons d l => exact False.elim h⟩
theorem gl_cons {g : TG} {r : TGs} {wg : WG} {ws : WGs} (h1 : GL C X g wg) (h2 : GsL C X r ws) : GsL C X (gCons g r) (wgCons wg ws) := ⟨fun W v σ H Q ⟨ι, S, ρ, ds, q, x, R, rd, h, p, px⟩ => by
  cases ds with
  | nil => exact False.elim h
  | cons d l =>
    obtain ⟨y, ys, rfl, r1, r2⟩ := rd.uncons
    refine ⟨y, ys, rfl, h1.go (fun cls dd _ H' => W cls dd σ H') y σ H _ ⟨ι, S, ρ, d, _, x, R, r1, h, fun ρ1 S1 ι1 H1 σ1 h3 e1 st1 sl1 => ?_, px⟩⟩
    exact h2.go (fun cls dd _ H' => W cls dd σ H') ys σ1 H1 _ ⟨ι1, S1, ρ1, l, q, x, ⟨st1, sl1, e1.tabs R.tb⟩, r2.ext e1, h3, p.ext e1, px.ext e1⟩⟩
theorem gl_tup {n : Nat} {r : TGs} {ws : WGs} (h2 : GsL C X r ws) : GL C X (gTup X.K n r) (wgTup n ws) := ⟨fun W v σ H Q ⟨ι, S, ρ, d, q, x, R, rd, h, p, px⟩ => by
  cases d with
  | tup ds =>
    obtain ⟨a, xs, rfl, f, r2⟩ := rd.tup_
    exact ⟨a, xs, rfl, f, by rw [r2.length]; exact h.1, h2.go W xs σ H Q ⟨ι, S, ρ, ds, q, x, R, r2, h.2, p, px⟩⟩
  | _ => exact False.elim h⟩
theorem wipe_set {σ : L2.St} {i : Nat} {o : Option V} : ∀ {vs : List Nat}, i ∈ vs → wipe (σ.set i o) vs = wipe σ vs
  | [], h => by cases h
  | v :: vs, h => by
    unfold wipe
    by_cases m : i ∈ vs
    · rw [wipe_set m]
    · have e : v = i := by
        rcases List.mem_cons.mp h with e | h
        · exact e.symm
        · exact absurd h m
      subst e
      have key : ∀ (vs : List Nat), v ∉ vs → wipe (σ.set v o) vs = (wipe σ vs).set v o := by
        intro vs
        induction vs with
        | nil => intro _; rfl
        | cons w' vs ih =>
          intro m
          unfold wipe
          rw [ih (fun z => m (List.mem_cons_of_mem _ z)), List.set_comm _ _ (fun z => m (by rw [z]; exact List.mem_cons_self))]
      rw [key vs m, List.set_set]
theorem wipe_idem {σ : L2.St} : ∀ vs : List Nat, wipe (wipe σ vs) vs = wipe σ vs := by
  have key : ∀ (us vs : List Nat), (∀ u ∈ us, u ∈ vs) → wipe (wipe σ us) vs = wipe σ vs := by
    intro us
    induction us with
    | nil => intro vs _; rfl
    | cons u us ih =>
      intro vs h
      show wipe ((wipe σ us).set u none) vs = wipe σ vs
      rw [wipe_set (h u List.mem_cons_self)]
      exact ih vs fun u' hu => h u' (List.mem_cons_of_mem _ hu)
  exact fun vs => key vs vs fun _ h => h
theorem only_name {i : Nat} {vs : List Nat} (h : i ∈ vs) : Only (gName i) vs := fun v σ H Q q => ⟨wipe_set h, q⟩
theorem onlys_nil {vs : List Nat} : Onlys gNil vs := fun v σ H Q q => ⟨q.1, rfl, q.2⟩
/-- a target's reading is monotone -/
def MonG (g : TG) : Prop := ∀ v σ H (Q Q' : L2.St → Hp → Prop), (∀ σ' H', Q σ' H' → Q' σ' H') → g v σ H Q → g v σ H Q'
def MonGs (g : TGs) : Prop := ∀ v σ H (Q Q' : L2.St → Hp → Prop), (∀ σ' H', Q σ' H' → Q' σ' H') → g v σ H Q → g v σ H Q'
structure OnlyM (g : TG) (vs : List Nat) : Prop where
  only : Only g vs
  mon : MonG g
structure OnlysM (g : TGs) (vs : List Nat) : Prop where
  only : Onlys g vs
  mon : MonGs g
theorem om_name {i : Nat} {vs : List Nat} (h : i ∈ vs) : OnlyM (gName i) vs := ⟨only_name h, fun v σ H Q Q' k q => k _ _ q⟩
theorem om_nil {vs : List Nat} : OnlysM gNil vs := ⟨onlys_nil, fun v σ H Q Q' k q => ⟨q.1, k _ _ q.2⟩⟩
theorem om_cons {g : TG} {r : TGs} {vs : List Nat} (h1 : OnlyM g vs) (h2 : OnlysM r vs) : OnlysM (gCons g r) vs := by
  refine ⟨fun v σ H Q ⟨y, ys, e, q⟩ => ⟨y, ys, e, ?_⟩, fun v σ H Q Q' k ⟨y, ys, e, q⟩ => ⟨y, ys, e, h1.mon y σ H _ _ (fun σ' H' z => h2.mon ys σ' H' _ _ k z) q⟩⟩
  refine h1.mon y σ H _ _ (fun σ' H' ⟨e1, z⟩ => ?_) (h1.only y σ H _ q)
  exact h2.mon ys σ' H' _ _ (fun σ2 H2 ⟨e2, z2⟩ => ⟨e2.trans e1, z2⟩) (h2.only ys σ' H' _ z)
theorem om_tup {K : PySem.W.Frag} {n : Nat} {r : TGs} {vs : List Nat} (h2 : OnlysM r vs) : OnlyM (gTup K n r) vs :=
  ⟨fun v σ H Q ⟨a, xs, e, f, l, q⟩ => ⟨a, xs, e, f, l, h2.only xs σ H Q q⟩, fun v σ H Q Q' k ⟨a, xs, e, f, l, q⟩ => ⟨a, xs, e, f, l, h2.mon xs σ H Q Q' k q⟩⟩
theorem ps3_asg {tg : Expr} {tgr : TG} (he : PE3 C X W e wa) (hg : PG X tg tgr) (hl : GL C X tgr g) (hs : swapsWithSole [tg] e pos.line X.env = pure false := by rfl) (hw : swappedStores [tg] e X.env = pure none := by rfl)
    (h1 : (assignEach [tg] X.env).map (·.2) = [assign tg X.env] := by rfl) : PS3 C X W (.Assign [tg] e pos) (wAsg wa g) := ps_le (ps_asg he hg hs hw h1) fun D σ H h => by
  obtain ⟨ι, S, ρ, E, R, h, p⟩ := liftS_un h
  exact ⟨ι, S, ρ, _, _, R, h, fun d S1 ι1 H1 v h1 e1 st1 rd => hl.go W v σ H1 _ ⟨ι1, S1, ρ, d, _, _, R.ext e1 st1, rd, h1, p.nx.ext e1, (p.xc.ext e1).at (R.sl.ext e1)⟩, p.xc.at R.sl⟩

/-! ### o[i] = v -/
/-- by values -/
def setD : D → D → D → Store → (Store → Prop) → Prop := fun o i d S q => match o with
  | .ref n => match S[n]? with
    | some (.lst l) => match i with
      | .int k => match ixN l.length k with
        | some j => q (S.set n (.lst (l.set j d)))
        | none => False
      | _ => False
    | some (.dct kds) => match keyD i with
      | some k => kds.length < LIM ∧ q (S.set n (.dct (putD kds k d)))
      | none => False
    | _ => False
  | _ => False
def setOf (C : Cl) (X : Cx) : TSet := fun o i v H Q => ∃ ι S do_ di dv q, St3 (gx C X) ι H S ∧ RelD X.K ι H do_ o ∧ RelD X.K ι H di i ∧ RelD X.K ι H dv v ∧ setD do_ di dv S q ∧ PoT (gx C X) ι H (fun (_ : Unit) => q) (fun _ => Q)
theorem pset3 (hu : X.A.units + 1 < cLine) : PSet X (setOf C X) := by
  intro pins s σ H o i v ov iv u Q I ro ri rv ⟨ι, S, do_, di, dv, q, st, r1, r2, r3, k, p⟩
  unfold setD at k
  split at k
  · rename_i n
    obtain ⟨a, rfl, ia⟩ := r1.ref_
    split at k
    · rename_i l es
      obtain ⟨xs, h1, rl⟩ := st.obj _ _ _ es ia
      split at k
      · rename_i kk
        split at k
        · rename_i j ej
          rw [r2.int_] at ri
          refine set_list pins s σ H _ _ v ov iv u Q I ro ri rv ⟨a, xs, kk, j, rfl, rfl, h1, by rw [rl.length]; exact ej, ?_⟩
          have rl2 := rl.set j r3
          have e : Ext3 (gx C X) ι H ι (upd H a (.lst (xs.set j v))) := Ext3.put (List.mem_of_getElem? ia) h1 lst_nt lst_nc
          exact p () _ ι _ k e (st.put ia h1 lst_nt lst_nc ⟨_, upd_same, rl2.ext e⟩)
        · exact k.elim
      · exact k.elim
    · rename_i kds es
      obtain ⟨kvs, h1, rl⟩ := st.obj _ _ _ es ia
      split at k
      · rename_i kk ek
        cases ro
        have ev := keyD_rel r2 ek
        subst ev
        have rl2 := rl.put (k := kk) r3
        have e : Ext3 (gx C X) ι H ι (upd H a (.dK (putK kvs kk v))) := Ext3.put (List.mem_of_getElem? ia) h1 dct_nt dct_nc
        exact d_setItem hu I (DPut.k h1 (by rw [rl.length, lim_eq]; exact k.1)) ri rv fun s' I' => ⟨_, I', p () _ ι _ k.2 e (st.put ia h1 dct_nt dct_nc ⟨_, upd_same, rl2.ext e⟩)⟩
      · exact k.elim
    · exact k.elim
  · exact k.elim
def wgSub (wo wi : WE) : WG := fun d ρ S q x => wo ρ S (fun o S1 => wi ρ S1 (fun i S2 => setD o i d S2 (fun S3 => q ρ S3)) x) x
/-- o[i] = e -/
theorem ps3_sub {o i : Expr} {wo wi : WE} {p2 : Pos} (hu : X.A.units + 1 < cLine) (ho : PE3 C X W o wo) (hi : PE3 C X W i wi) (he : PE3 C X W e wa)
    (ha : ∀ v, assign (.Subscript o i p2) X.env v = (do
      let ov ← holding [v] (eval o X.env)
      let iv ← holding [v, ov] (eval i X.env)
      standAt p2
      holding [v, ov, iv] (setItem ov iv v)
      release [v, ov, iv] []) := by intro _; rfl)
    (hs : swapsWithSole [.Subscript o i p2] e pos.line X.env = pure false := by rfl) (hw : swappedStores [.Subscript o i p2] e X.env = pure none := by rfl)
    (h1 : (assignEach [.Subscript o i p2] X.env).map (·.2) = [assign (.Subscript o i p2) X.env] := by rfl) : PS3 C X W (.Assign [.Subscript o i p2] e pos) (wAsg wa (wgSub wo wi)) :=
  ps_le (ps_asg he (pg_sub ho hi (pset3 hu) ha) hs hw h1) fun D σ H h => by
    obtain ⟨ι, S, ρ, E, R, h, p⟩ := liftS_un h
    refine ⟨ι, S, ρ, _, _, R, h, fun d S1 ι1 H1 v h1 e1 st1 rd => ?_, p.xc.at R.sl⟩
    refine ⟨ι1, S1, ρ, _, _, R.ext e1 st1, h1, fun o' S2 ι2 H2 ov h2 e2 st2 ro => ?_, (p.xc.ext e1).at (R.sl.ext e1)⟩
    refine ⟨ι2, S2, ρ, _, _, R.ext (e1.trans e2) st2, h2, fun i' S3 ι3 H3 iv h3 e3 st3 ri => ?_, (p.xc.ext (e1.trans e2)).at (R.sl.ext (e1.trans e2))⟩
    exact ⟨ι3, S3, o', i', d, _, st3, ro.ext e3, ri, (rd.ext e2).ext e3, h3, fun _ S4 ι4 H4 h4 e4 st4 => p.nx ρ S4 ι4 H4 σ h4 (((e1.trans e2).trans e3).trans e4) st4 (R.sl.ext (((e1.trans e2).trans e3).trans e4))⟩

/-! ### while -/
def wWhile (c : WT) (t : WS) : WS := fun E ρ S => ∃ P : Nat → Env3 → Store → Prop, (∃ m, P m ρ S) ∧ ∀ m ρ S, P m ρ S →
  c ρ S (fun b S1 => if b = true then t { E with nx := fun ρ' S' => ∃ m', m' < m ∧ P m' ρ' S', ct := fun ρ' S' => ∃ m', m' < m ∧ P m' ρ' S', bk := E.nx } ρ S1 else E.nx ρ S1) (E.xc ρ)
theorem ps3_while (hp : PassesOwn (model X.prog X.w) X.A X.env X.xe) (hc : PT3 C X W c wt) (hb : PSs3 C X W sts t) : PS3 C X W (.While c sts [] pos) (wWhile wt t) := ps_le (ps_while hp hc hb) fun D σ H h => by
  obtain ⟨ι0, S0, ρ0, E, R0, ⟨P, ⟨m0, w0⟩, turn⟩, p⟩ := liftS_un h
  refine ⟨fun m σ' H' => ∃ ι S ρ, Ext3 (gx C X) ι0 H ι H' ∧ Rel3 (gx C X) ι H' S ρ σ' ∧ P m ρ S, ⟨m0, ι0, S0, ρ0, Ext3.refl _ _ _, R0, w0⟩, fun m σ1 H1 ⟨ι, S, ρ, e, R, w1⟩ => ?_⟩
  refine ⟨ι, S, ρ, _, _, R, turn m ρ S w1, fun b S1 ι1 H2 h1 e1 st1 => ?_, (p.xc.ext e).at R.sl⟩
  cases b with
  | true =>
    rw [if_pos rfl] at h1 ⊢
    refine ⟨fun σ' H' => ∃ m', m' < m ∧ ∃ ι S ρ, Ext3 (gx C X) ι0 H ι H' ∧ Rel3 (gx C X) ι H' S ρ σ' ∧ P m' ρ S, fun σ' H' k => k, ?_⟩
    have back : PoS (gx C X) ι1 H2 (fun ρ' S' => ∃ m', m' < m ∧ P m' ρ' S') (fun σ' H' => ∃ m', m' < m ∧ ∃ ι S ρ, Ext3 (gx C X) ι0 H ι H' ∧ Rel3 (gx C X) ι H' S ρ σ' ∧ P m' ρ S) :=
      fun ρ' S' ι' H' σ' ⟨m', hm, k⟩ e2 st2 sl2 => ⟨m', hm, ι', S', ρ', (e.trans e1).trans e2, ⟨st2, sl2, e2.tabs (e1.tabs R.tb)⟩, k⟩
    have pe := p.ext (e.trans e1)
    exact liftS_mk (R.ext e1 st1) h1 ⟨back, pe.rt, pe.nx, back, pe.xc⟩
  | false =>
    rw [if_neg Bool.false_ne_true] at h1 ⊢
    exact p.nx ρ S1 ι1 H2 σ1 h1 (e.trans e1) st1 (R.sl.ext e1)

/-! ### what a loop walks -/
/-- the items, fixed when the loop starts; what must stay so of the store -/
abbrev WI := Env3 → Store → (List D → Store → (Store → Prop) → Prop) → XK3 → Prop
def Walks3 (G : Gx) (ι0 : List Addr) (H0 : Hp) (J : It) (ds : List D) (inv : Store → Prop) : Prop := ∀ (i : Nat) (ι : List Addr) (H : Hp) (S : Store), Ext3 G ι0 H0 ι H → St3 G ι H S → inv S →
  (ds.length ≤ i → J.stop i H) ∧ ∀ d, ds[i]? = some d → J.go i H ∧ ∀ x H', J.yld i H x H' → ∃ ι', Ext3 G ι H ι' H' ∧ St3 G ι' H' S ∧ RelD G.K ι' H' d x
def liftI (G : Gx) (W : WX) (w : WI) : TI := fun σ H R => ∃ ι S ρ q x, Rel3 G ι H S ρ σ ∧ w ρ S q x ∧
  (∀ ds S' inv ι' H' J, q ds S' inv → Ext3 G ι H ι' H' → St3 G ι' H' S' → Walks3 G ι' H' J ds inv → R J H') ∧ PoX G ι H x (fun cls d H' => W cls d σ H')
def PI3 (C : Cl) (X : Cx) (W : WX) (tg iter : Expr) (w : WI) : Prop := PI X tg iter (liftI (gx C X) W w)
theorem pi_le {tg iter : Expr} {t : TI} {w : WI} (h : PI X tg iter t) (i : ∀ σ H R, liftI (gx C X) W w σ H R → t σ H R) : PI3 C X W tg iter w := ⟨fun p s σ H R I k => h.run p s σ H R I (i σ H R k)⟩
/-- a list -/
def wiL (w : WE) : WI := fun ρ S q x => w ρ S (fun d S1 => match d with
  | .ref n => match S1[n]? with
    | some (.lst ds) => q ds S1 (fun S => S[n]? = some (.lst ds))
    | _ => False
  | .fl ds => q ds S1 (fun _ => True)
  | _ => False) x
theorem pi3_list {tg : Expr} (he : PE3 C X W e wa) : PI3 C X W tg e (wiL wa) := pi_le (pi_list he) fun σ H R' ⟨ι, S, ρ, q, x, R, h, p, px⟩ => by
  refine ⟨ι, S, ρ, _, x, R, h, fun d S1 ι1 H1 v h1 e1 st1 rd => ?_, px⟩
  dsimp only at h1
  split at h1
  · rename_i n
    split at h1
    · rename_i ds es
      obtain ⟨a, rfl, ia⟩ := rd.ref_
      obtain ⟨xs, k1, r2⟩ := st1.obj _ _ _ es ia
      refine ⟨a, rfl, ⟨xs, SqL.of k1⟩, p ds S1 _ ι1 H1 _ h1 e1 st1 fun i ι2 H2 S2 e2 st2 hi => ?_⟩
      obtain ⟨ys, k2, r3⟩ := st2.obj _ _ _ hi (e2.get ia)
      refine ⟨fun l => ⟨ys, SqL.of k2, by rw [r3.length]; exact l⟩, fun d hd => ?_⟩
      obtain ⟨y, hy, ry⟩ := r3.get hd
      refine ⟨⟨ys, y, SqL.of k2, hy⟩, fun z H' ⟨eH, hz⟩ => ?_⟩
      subst eH
      have := hz ys (SqL.of k2)
      rw [hy] at this
      cases this
      exact ⟨ι2, Ext3.refl _ _ _, st2, ry⟩
    · exact h1.elim
  · rename_i ds
    obtain ⟨a, xs, rfl, f, r2⟩ : ∃ a xs, v = .ref a ∧ FixL X.K ι1 H1 a xs ∧ RelDs X.K ι1 H1 ds xs := by
      unfold RelD at rd
      exact rd
    refine ⟨a, rfl, ⟨xs, f.sq⟩, p ds S1 _ ι1 H1 _ h1 e1 st1 fun i ι2 H2 S2 e2 st2 hi => ?_⟩
    have f2 : FixL X.K ι2 H2 a xs := FixL.ext (G := gx C X) e2 f
    have r3 := r2.ext e2
    refine ⟨fun l => ⟨xs, f2.sq, by rw [r3.length]; exact l⟩, fun d hd => ?_⟩
    obtain ⟨y, hy, ry⟩ := r3.get hd
    refine ⟨⟨xs, y, f2.sq, hy⟩, fun z H' ⟨eH, hz⟩ => ?_⟩
    subst eH
    have := hz xs f2.sq
    rw [hy] at this
    cases this
    exact ⟨ι2, Ext3.refl _ _ _, st2, ry⟩
  · exact h1.elim
def wiT (w : WE) : WI := fun ρ S q x => w ρ S (fun d S1 => match d with
  | .tup ds => q ds S1 (fun _ => True)
  | _ => False) x
theorem pi3_tup {tg : Expr} (he : PE3 C X W e wa) : PI3 C X W tg e (wiT wa) := pi_le (pi_tup he) fun σ H R' ⟨ι, S, ρ, q, x, R, h, p, px⟩ => by
  refine ⟨ι, S, ρ, _, x, R, h, fun d S1 ι1 H1 v h1 e1 st1 rd => ?_, px⟩
  dsimp only at h1
  split at h1
  · rename_i ds
    obtain ⟨a, xs, rfl, f, r2⟩ : ∃ a xs, v = .ref a ∧ FixT X.K ι1 H1 a xs ∧ RelDs X.K ι1 H1 ds xs := by
      unfold RelD at rd
      exact rd
    refine ⟨a, rfl, ⟨xs, f.sq⟩, p ds S1 _ ι1 H1 _ h1 e1 st1 fun i ι2 H2 S2 e2 st2 hi => ?_⟩
    have f2 : FixT X.K ι2 H2 a xs := FixT.ext (G := gx C X) e2 f
    have r3 := r2.ext e2
    refine ⟨fun l => ⟨xs, f2.sq, by rw [r3.length]; exact l⟩, fun d hd => ?_⟩
    obtain ⟨y, hy, ry⟩ := r3.get hd
    refine ⟨⟨xs, y, f2.sq, hy⟩, fun z H' ⟨eH, hz⟩ => ?_⟩
    subst eH
    have := hz xs f2.sq
    rw [hy] at this
    cases this
    exact ⟨ι2, Ext3.refl _ _ _, st2, ry⟩
  · exact h1.elim
def chD (c : Nat) : D := .str ⟨#[c]⟩
def wiS (w : WE) : WI := fun ρ S q x => w ρ S (fun d S1 => match d with
  | .str z => q (z.cps.toList.map chD) S1 (fun _ => True)
  | _ => False) x
theorem ok_one {z : PySem.Str} {i c : Nat} (o : PyData.strOk z = true) (h : z.cps.toList[i]? = some c) : PyData.strOk ⟨#[c]⟩ = true :=
  ok_iff.mpr fun k hk => by
    have e : k = c := by simpa using hk
    rw [e]
    exact ok_iff.mp o c (List.mem_of_getElem? h)
theorem pi3_str {tg : Expr} (he : PE3 C X W e wa) : PI3 C X W tg e (wiS wa) := pi_le (pi_str he) fun σ H R' ⟨ι, S, ρ, q, x, R, h, p, px⟩ => by
  refine ⟨ι, S, ρ, _, x, R, h, fun d S1 ι1 H1 v h1 e1 st1 rd => ?_, px⟩
  dsimp only at h1
  split at h1
  · rename_i z
    obtain ⟨rfl, o⟩ := rd.str_
    refine ⟨z, rfl, p _ S1 _ ι1 H1 _ h1 e1 st1 fun i ι2 H2 S2 e2 st2 hi => ⟨fun l => by rw [List.length_map, Array.length_toList] at l; exact l, fun d hd => ?_⟩⟩
    rw [List.getElem?_map] at hd
    obtain ⟨c, hc, rfl⟩ := Option.map_eq_some_iff.mp hd
    have hc' : z.cps[i]? = some c := by rw [← Array.getElem?_toList]; exact hc
    refine ⟨(Array.getElem?_eq_some_iff.mp hc').1, fun y H' ⟨eH, c', hc2, ey⟩ => ?_⟩
    subst eH
    rw [hc'] at hc2
    cases hc2
    refine ⟨ι2, Ext3.refl _ _ _, st2, ?_⟩
    unfold chD RelD
    exact ⟨ey, ok_one o hc⟩
  · exact h1.elim
/-- range(n), range(a, b) -/
def rngD (lo : Int) (n : Nat) : List D := (List.range n).map fun (i : Nat) => D.int (lo + (i : Int))
def wiR1 (w : WA) : WI := fun ρ S q x => w ρ S (fun ds S1 => match ds with
  | [.int j] => (-(2 ^ 62) ≤ j ∧ j < 2 ^ 62) ∧ q (rngD 0 j.toNat) S1 (fun _ => True)
  | _ => False) x
def wiR2 (w : WA) : WI := fun ρ S q x => w ρ S (fun ds S1 => match ds with
  | [.int i, .int j] => (-(2 ^ 62) ≤ i ∧ i < 2 ^ 62 ∧ -(2 ^ 62) ≤ j ∧ j < 2 ^ 62) ∧ q (rngD i (j - i).toNat) S1 (fun _ => True)
  | _ => False) x
theorem walks_rng {G : Gx} {ι : List Addr} {H : Hp} (lo : Int) (n : Nat) : Walks3 G ι H (Itr lo n) (rngD lo n) (fun _ => True) := fun i ι2 H2 S2 e2 st2 hi => by
  refine ⟨fun l => by unfold rngD at l; rw [List.length_map, List.length_range] at l; exact l, fun d hd => ?_⟩
  unfold rngD at hd
  rw [List.getElem?_map] at hd
  obtain ⟨k, hk, rfl⟩ := Option.map_eq_some_iff.mp hd
  obtain ⟨hl, ek⟩ := List.getElem?_eq_some_iff.mp hk
  rw [List.getElem_range] at ek
  rw [List.length_range] at hl
  subst ek
  refine ⟨hl, fun y H' ⟨eH, ey⟩ => ?_⟩
  subst eH
  exact ⟨ι2, Ext3.refl _ _ _, st2, by unfold RelD; exact ey⟩
theorem pi3_range1 {tg : Expr} {p' : Pos} (hg : Gl X "range") (hm : X.mg "range" = none) (ha : PA3 C X W [a] wr) (hs : starEach [a] X.env = [(false, eval a X.env)] := by rfl) : PI3 C X W tg (.Call (.Name "range" p') [a] [] pos) (wiR1 wr) :=
  pi_le (pi_range1 hg hm ha hs) fun σ H R' ⟨ι, S, ρ, q, x, R, h, p, px⟩ => by
    refine ⟨ι, S, ρ, _, x, R, h, fun ds S1 ι1 H1 v h1 e1 st1 rd => ?_, px⟩
    dsimp only at h1
    split at h1
    · rename_i j
      obtain ⟨u, rfl, r1⟩ := rd.one
      rw [r1.int_]
      exact ⟨j, rfl, h1.1.1, h1.1.2, p _ S1 _ ι1 H1 _ h1.2 e1 st1 (walks_rng 0 j.toNat)⟩
    · exact h1.elim
theorem pi3_range2 {tg : Expr} {p' : Pos} (hg : Gl X "range") (hm : X.mg "range" = none) (ha : PA3 C X W [a, b] wr) (hs : starEach [a, b] X.env = [(false, eval a X.env), (false, eval b X.env)] := by rfl) (hs2 : starEach [b] X.env = [(false, eval b X.env)] := by rfl) :
    PI3 C X W tg (.Call (.Name "range" p') [a, b] [] pos) (wiR2 wr) :=
  pi_le (pi_range2 hg hm ha hs hs2) fun σ H R' ⟨ι, S, ρ, q, x, R, h, p, px⟩ => by
    refine ⟨ι, S, ρ, _, x, R, h, fun ds S1 ι1 H1 v h1 e1 st1 rd => ?_, px⟩
    dsimp only at h1
    split at h1
    · rename_i i j
      obtain ⟨u, u', rfl, r1, r2⟩ := rd.two
      rw [r1.int_, r2.int_]
      exact ⟨i, j, rfl, h1.1, p _ S1 _ ι1 H1 _ h1.2 e1 st1 (walks_rng i (j - i).toNat)⟩
    · exact h1.elim

/-! ### for -/
def forW (g : WG) (t : WS) (inv : Store → Prop) (E : Ends3) : List D → Env3 → Store → Prop
  | [], ρ, S => inv S ∧ E.nx ρ S
  | d :: r, ρ, S => inv S ∧ g d ρ S (fun ρ1 S1 => t { E with nx := forW g t inv E r, ct := forW g t inv E r, bk := E.nx } ρ1 S1) (E.xc ρ)
def wFor (wi : WI) (g : WG) (t : WS) : WS := fun E ρ S => wi ρ S (fun ds S1 inv => forW g t inv E ds ρ S1) (E.xc ρ)
theorem forW_inv {g : WG} {t : WS} {inv : Store → Prop} {E : Ends3} : ∀ {r : List D} {ρ : Env3} {S : Store}, forW g t inv E r ρ S → inv S
  | [], _, _, h => h.1
  | _ :: _, _, _, h => h.1
theorem ps3_for {tg iter : Expr} {wi : WI} {tgr : TG} (hp : PassesOwn (model X.prog X.w) X.A X.env X.xe) (hc : X.calm = true) (hi : PI3 C X W tg iter wi) (hg : PG X tg tgr) (hl : GL C X tgr g) (hb : PSs3 C X W sts t)
    (hs : ∀ x, foldedSetIterable iter X.env x = pure x := by intro _; rfl) : PS3 C X W (.For tg iter sts [] pos) (wFor wi g t) := ps_le (ps_for hp hc hi hg hb hs) fun D σ H h => by
  obtain ⟨ι0, S0, ρ0, E, R0, h, p⟩ := liftS_un h
  refine ⟨ι0, S0, ρ0, _, _, R0, h, fun ds S1 inv ι1 H1 J h1 e1 st1 wk => ?_, p.xc.at R0.sl⟩
  have p1 := p.ext e1
  refine ⟨fun i m σ' H' => ∃ ι S ρ, Ext3 (gx C X) ι1 H1 ι H' ∧ Rel3 (gx C X) ι H' S ρ σ' ∧ forW g t inv E (ds.drop i) ρ S ∧ m = ds.length - i, ⟨ds.length, ι1, S1, ρ0, Ext3.refl _ _ _, R0.ext e1 st1, h1, rfl⟩, ?_⟩
  rintro i m σ' H' ⟨ι, S, ρ, e, R, w1, em⟩
  obtain ⟨k1, k2⟩ := wk i ι H' S e R.st (forW_inv w1)
  by_cases hi' : i < ds.length
  · right
    obtain ⟨d, hd⟩ : ∃ d, ds[i]? = some d := ⟨ds[i], List.getElem?_eq_getElem hi'⟩
    obtain ⟨go, step⟩ := k2 d hd
    have ed : ds.drop i = d :: ds.drop (i + 1) := by
      rw [List.drop_eq_getElem_cons hi']
      congr 1
      rw [List.getElem?_eq_getElem hi'] at hd
      exact Option.some.inj hd
    rw [ed] at w1
    refine ⟨go, fun σ' H' => ∃ ι S ρ, Ext3 (gx C X) ι1 H1 ι H' ∧ Rel3 (gx C X) ι H' S ρ σ' ∧ forW g t inv E (ds.drop (i + 1)) ρ S, fun σ2 H2 ⟨ι2, S2, ρ2, a1, a2, a3⟩ => ⟨ds.length - (i + 1), by omega, ι2, S2, ρ2, a1, a2, a3, rfl⟩, fun x H2 hy => ?_⟩
    obtain ⟨ι2, e2, st2, rd⟩ := step x H2 hy
    refine hl.go W x σ' H2 _ ⟨ι2, S, ρ, d, _, _, R.ext e2 st2, rd, w1.2, fun ρ3 S3 ι3 H3 σ3 h3 e3 st3 sl3 => ?_, ((p1.ext e).xc.ext e2).at (R.sl.ext e2)⟩
    have e4 := e.trans (e2.trans e3)
    have back : PoS (gx C X) ι3 H3 (forW g t inv E (ds.drop (i + 1))) (fun σ' H' => ∃ ι S ρ, Ext3 (gx C X) ι1 H1 ι H' ∧ Rel3 (gx C X) ι H' S ρ σ' ∧ forW g t inv E (ds.drop (i + 1)) ρ S) :=
      fun ρ' S' ι' H' σ' k e5 st5 sl5 => ⟨ι', S', ρ', e4.trans e5, ⟨st5, sl5, (e4.trans e5).tabs (e1.tabs R0.tb)⟩, k⟩
    have pe := p1.ext e4
    exact liftS_mk ⟨st3, sl3, e4.tabs (e1.tabs R0.tb)⟩ h3 ⟨back, pe.rt, pe.nx, back, pe.xc⟩
  · left
    refine ⟨k1 (by omega), ?_⟩
    rw [List.drop_eq_nil_of_le (by omega)] at w1
    exact (p1.ext e).nx ρ S ι H' σ' w1.2 (Ext3.refl _ _ _) R.st R.sl

/-! ### list comprehensions -/
def WF : WX := fun _ _ _ _ => False
def xF : XK3 := fun _ _ _ => False
def wipeD (ρ : Env3) : List Nat → Env3
  | [] => ρ
  | v :: vs => put (wipeD ρ vs) v none
theorem RelSl.wipe {K : PySem.W.Frag} {ι : List Addr} {H : Hp} {ρ : Env3} {σ : L2.St} (h : RelSl K ι H ρ σ) : ∀ vs : List Nat, RelSl K ι H (wipeD ρ vs) (L2.wipe σ vs)
  | [] => h
  | v :: vs => by
    unfold wipeD L2.wipe
    rw [put_set]
    exact RelSl.unset (G := ⟨K, fun _ => none, []⟩) v (RelSl.wipe h vs)
def wYes : WT := fun _ S q _ => q true S
def PTs3 (C : Cl) (X : Cx) (W : WX) (ifs : List Expr) (w : WT) : Prop := PTs X ifs (liftT (gx C X) W w)
theorem pts3_nil : PTs3 C X W [] wYes := ⟨fun pins s σ H Q I ⟨ι, S, ρ, q, x, R, h, p, px⟩ => pts_nil.run pins s σ H Q I (p true S ι H h (Ext3.refl _ _ _) R.st)⟩
theorem pts3_one (h : PT3 C X W c wt) : PTs3 C X W [c] wt := pts_one h
/-- the turns: n the new list's number, ρ the names with the block's own forgotten -/
def lcW (g : WG) (tt : WT) (te : WE) (inv : Store → Prop) (n : Nat) (ρ : Env3) (q : Store → Prop) : List D → Store → Prop
  | [], S => inv S ∧ q S
  | d :: r, S => inv S ∧ g d ρ S (fun ρ2 S2 => tt ρ2 S2 (fun b S3 => if b = true then te ρ2 S3 (fun y S4 => match S4[n]? with
      | some (.lst acc) => acc.length < LIM ∧ lcW g tt te inv n ρ q r (S4.set n (.lst (acc ++ [y])))
      | _ => False) xF else lcW g tt te inv n ρ q r S3) xF) xF
def wLc (wi : WI) (g : WG) (tt : WT) (te : WE) (vs : List Nat) : WE := fun ρ S q x => wi ρ S (fun ds S1 inv => lcW g tt te inv S1.length (wipeD ρ vs) (fun S2 => q (.ref S1.length) S2) ds (S1 ++ [.lst []])) x
theorem lcW_inv {g : WG} {tt : WT} {te : WE} {inv : Store → Prop} {n : Nat} {ρ : Env3} {q : Store → Prop} : ∀ {r : List D} {S : Store}, lcW g tt te inv n ρ q r S → inv S
  | [], _, h => h.1
  | _ :: _, _, h => h.1
theorem poxF {G : Gx} {ι : List Addr} {H : Hp} {Q : XK} : PoX G ι H xF Q := fun _ _ _ _ _ _ _ k => k.elim
theorem lc_lift {wi : WI} {tgr : TG} {te : WE} {vs : List Nat} {tt : WT} (hl : GL C X tgr g) (ho : OnlyM tgr vs) : ∀ σ H Q, liftE (gx C X) W (wLc wi g tt te vs) σ H Q → tLc (liftI (gx C X) W wi) tgr (liftT (gx C X) WF tt) (liftE (gx C X) WF te) vs σ H Q := fun σ0 H0 Q ⟨ι0, S0, ρ0, q, x, R0, h, p, px⟩ => by
  refine ⟨ι0, S0, ρ0, _, x, R0, h, fun ds S1 inv ι1 H1 J h1 e1 st1 wk D n => ?_, px⟩
  have eD : Ext3 (gx C X) ι1 H1 (ι1 ++ [D]) (upd H1 D (.lst [])) := Ext3.new n
  have stD : St3 (gx C X) (ι1 ++ [D]) (upd H1 D (.lst [])) (S1 ++ [.lst []]) := st1.new n ⟨[], upd_same, .nil⟩
  have iD : (ι1 ++ [D])[S1.length]? = some D := by rw [← st1.len, List.getElem?_append_right (Nat.le_refl _), Nat.sub_self] <;> rfl
  have sl1 : RelSl X.K ι1 H1 ρ0 σ0 := R0.sl.ext e1
  refine ⟨fun i m H' => ∃ ι S, Ext3 (gx C X) ι1 H1 ι H' ∧ ι[S1.length]? = some D ∧ St3 (gx C X) ι H' S ∧ lcW g tt te inv S1.length (wipeD ρ0 vs) (fun S2 => q (.ref S1.length) S2) (ds.drop i) S ∧ m = ds.length - i,
    ⟨ds.length, ι1 ++ [D], _, eD, iD, stD, h1, rfl⟩, ?_⟩
  rintro i m H' ⟨ι, S, e, iD', st, w1, em⟩
  obtain ⟨k1, k2⟩ := wk i ι H' S e st (lcW_inv w1)
  by_cases hi' : i < ds.length
  · right
    obtain ⟨d, hd⟩ : ∃ d, ds[i]? = some d := ⟨ds[i], List.getElem?_eq_getElem hi'⟩
    obtain ⟨go, step⟩ := k2 d hd
    have ed : ds.drop i = d :: ds.drop (i + 1) := by
      rw [List.drop_eq_getElem_cons hi']
      congr 1
      rw [List.getElem?_eq_getElem hi'] at hd
      exact Option.some.inj hd
    rw [ed] at w1
    refine ⟨go, fun H' => ∃ ι S, Ext3 (gx C X) ι1 H1 ι H' ∧ ι[S1.length]? = some D ∧ St3 (gx C X) ι H' S ∧ lcW g tt te inv S1.length (wipeD ρ0 vs) (fun S2 => q (.ref S1.length) S2) (ds.drop (i + 1)) S, fun H2 ⟨ι2, S2, a1, a2, a3, a4⟩ => ⟨ds.length - (i + 1), by omega, ι2, S2, a1, a2, a3, a4, rfl⟩, fun x' H2 hy => ?_⟩
    obtain ⟨ι2, e2, st2, rd⟩ := step x' H2 hy
    have e12 := e.trans e2
    have tb2 : Tabs C.T H2 := e12.tabs (e1.tabs R0.tb)
    have sl2 : RelSl X.K ι2 H2 (wipeD ρ0 vs) (wipe σ0 vs) := (sl1.ext e12).wipe vs
    have main : tgr x' (wipe σ0 vs) H2 fun σ3 H3 => ∃ ρ3 S3 ι3, Ext3 (gx C X) ι2 H2 ι3 H3 ∧ St3 (gx C X) ι3 H3 S3 ∧ RelSl X.K ι3 H3 ρ3 σ3 ∧ tt ρ3 S3 (fun b S3 => if b = true then te ρ3 S3 (fun y S4 => match S4[S1.length]? with
      | some (.lst acc) => acc.length < LIM ∧ lcW g tt te inv S1.length (wipeD ρ0 vs) (fun S2 => q (.ref S1.length) S2) (ds.drop (i + 1)) (S4.set S1.length (.lst (acc ++ [y])))
      | _ => False) xF else lcW g tt te inv S1.length (wipeD ρ0 vs) (fun S2 => q (.ref S1.length) S2) (ds.drop (i + 1)) S3) xF :=
      hl.go WF x' (wipe σ0 vs) H2 _ ⟨ι2, S, wipeD ρ0 vs, d, _, xF, ⟨st2, sl2, tb2⟩, rd, w1.2, fun ρ3 S3 ι3 H3 σ3 h3 e3 st3 sl3 => ⟨ρ3, S3, ι3, e3, st3, sl3, h3⟩, poxF⟩
    refine ho.mon x' _ H2 _ _ (fun σ3 H3 ⟨ew, ρ3, S3, ι3, e3, st3, sl3, h3⟩ => ⟨ew.trans (wipe_idem vs), ?_⟩) (ho.only x' _ H2 _ main)
    have tb3 : Tabs C.T H3 := e3.tabs tb2
    refine ⟨ι3, S3, ρ3, _, xF, ⟨st3, sl3, tb3⟩, h3, fun b S4 ι4 H4 h4 e4 st4 => ?_, poxF⟩
    have e24 := e12.trans (e3.trans e4)
    cases b with
    | false =>
      dsimp only at h4 ⊢
      rw [if_neg Bool.false_ne_true] at h4 ⊢
      exact ⟨ι4, S4, e24, (e2.trans (e3.trans e4)).get iD', st4, h4⟩
    | true =>
      dsimp only at h4 ⊢
      rw [if_pos rfl] at h4 ⊢
      refine ⟨ι4, S4, ρ3, _, xF, ⟨st4, sl3.ext e4, e4.tabs tb3⟩, h4, fun y S5 ι5 H5 u h5 e5 st5 ry => ?_, poxF⟩
      dsimp only at h5
      split at h5
      · rename_i acc ea
        have iD5 := (e2.trans (e3.trans (e4.trans e5))).get iD'
        obtain ⟨xs, hD, rl⟩ := st5.obj _ _ _ ea iD5
        have e6 : Ext3 (gx C X) ι5 H5 ι5 (upd H5 D (.lst (xs ++ [u]))) := Ext3.put (List.mem_of_getElem? iD5) hD lst_nt lst_nc
        exact ⟨xs, hD, by rw [rl.length, lim_eq]; exact h5.1, ι5, _, (e24.trans e5).trans e6, iD5, st5.put (so := .lst (acc ++ [y])) iD5 hD lst_nt lst_nc ⟨_, upd_same, (rl.append (.cons ry .nil)).ext e6⟩, h5.2⟩
      · exact h5.elim
  · left
    refine ⟨k1 (by omega), ?_⟩
    rw [List.drop_eq_nil_of_le (by omega)] at w1
    refine p _ S ι H' _ w1.2 (e1.trans e) st ?_
    unfold RelD
    exact ⟨D, iD', rfl⟩
theorem pe3_lc {elt tg iter : Expr} {ifs : List Expr} {scope : Scope} {own : List (PySem.Str × Nat)} {wi : WI} {tgr : TG} {tt : WT} {te : WE} (hc : X.calm = true) (hN : X.N.Nodup) (hi : PI3 C X W tg iter wi) (ok : BlkOk X.N X.env.scope scope own)
    (hg : ∀ (s : Shared) (H : Hp) (D : Addr) (cl : List (PySem.Str × Addr)) (fp : List Addr), PG (X.blk s H scope (compEnvC scope cl D X.env) fp) tg tgr) (hl : GL C X tgr g) (ho : OnlyM tgr (own.map (·.2)))
    (ht : ∀ (s : Shared) (H : Hp) (D : Addr) (cl : List (PySem.Str × Addr)) (fp : List Addr), PTs3 C (X.blk s H scope (compEnvC scope cl D X.env) fp) WF ifs tt)
    (he : ∀ (s : Shared) (H : Hp) (D : Addr) (cl : List (PySem.Str × Addr)) (fp : List Addr), PE3 C (X.blk s H scope (compEnvC scope cl D X.env) fp) WF elt te) (hs : ∀ x, foldedSetIterable iter X.env x = pure x := by intro _; rfl) :
    PE3 C X W (.ListComp elt [⟨tg, iter, ifs, 0⟩] scope pos) (wLc wi g tt te (own.map (·.2))) :=
  pe_le (pe_lc (tt := liftT (gx C X) WF tt) (te := liftE (gx C X) WF te) hc hN hi ok hg ht he hs) (lc_lift hl ho)
theorem ps3_setLc {i : Nat} {y : PySem.Str} {py spos : Pos} {elt tg iter : Expr} {ifs : List Expr} {scope : Scope} {own : List (PySem.Str × Nat)} {wi : WI} {tgr : TG} {tt : WT} {te : WE} (hc : X.calm = true) (hN : X.N.Nodup) (hy : X.N[i]? = some y) (hyl : X.env.scope.names.lookup y = some .local)
    (hsw : swapsWith (.ListComp elt [⟨tg, iter, ifs, 0⟩] scope pos) (some (.Name y py)) spos.line X.env = pure true) (hi : PI3 C X W tg iter wi) (ok : BlkOk X.N X.env.scope scope own)
    (hg : ∀ (s : Shared) (H : Hp) (D : Addr) (cl : List (PySem.Str × Addr)) (fp : List Addr), PG (X.blk s H scope (compEnvC scope cl D X.env) fp) tg tgr) (hl : GL C X tgr g) (ho : OnlyM tgr (own.map (·.2)))
    (ht : ∀ (s : Shared) (H : Hp) (D : Addr) (cl : List (PySem.Str × Addr)) (fp : List Addr), PTs3 C (X.blk s H scope (compEnvC scope cl D X.env) fp) WF ifs tt)
    (he : ∀ (s : Shared) (H : Hp) (D : Addr) (cl : List (PySem.Str × Addr)) (fp : List Addr), PE3 C (X.blk s H scope (compEnvC scope cl D X.env) fp) WF elt te) (hs : ∀ x, foldedSetIterable iter X.env x = pure x := by intro _; rfl) :
    PS3 C X W (.Assign [.Name y py] (.ListComp elt [⟨tg, iter, ifs, 0⟩] scope pos) spos) (wSet i (wLc wi g tt te (own.map (·.2)))) :=
  ps_le (ps_setLc (tt := liftT (gx C X) WF tt) (te := liftE (gx C X) WF te) hc hN hy hyl hsw hi ok hg ht he hs) fun D σ H h => by
    obtain ⟨ι, S, ρ, E, R, h, p⟩ := liftS_un h
    exact lc_lift hl ho σ H _ ⟨ι, S, ρ, _, _, R, h, fun d S1 ι1 H1 v h1 e1 st1 rd => p.nx _ S1 ι1 H1 _ h1 e1 st1 ((R.sl.ext e1).put i rd), p.xc.at R.sl⟩
end
end L3

set_option Elab.async false
set_option linter.all false
set_option maxRecDepth 100000
set_option maxHeartbeats 4000000
/-! L3x: an own exception, below ValueError by another own one, whose __init__ says super().__init__(text) and self.p = p. -/
namespace PySem
namespace XcX
open PySem.W PySem.Calls PyProof.Rows PySem.HandSPX
def xArgs (nm : Str) (p1 p2 : Pos) : Arguments := { posonlyargs := [], args := [{ arg := "self", annotation := none, pos := p1 }, { arg := nm, annotation := none, pos := p2 }], vararg := none, kwonlyargs := [], kw_defaults := [], kwarg := none, defaults := [] }
def xBody (nm msg : Str) (j : Nat) (q1 q2 q3 q4 q5 q6 r1 r2 r3 r4 : Pos) : List Stmt :=
  [.Expr (.Call (.Attribute (.Call (.Name "super" q1) [] [] q2) "__init__" q3) [.Constant (.str msg) j q4] [] q5) q6, .Assign [.Attribute (.Name "self" r1) nm r2] (.Name nm r3) r4]
/-- what the written part says of the class at C, of its __init__ at fI -/
structure XcTxt (prog : Program) (K : Frag) (name nm : Str) (C fI : Addr) : Prop where
  cls : ∃ n0 q N bs bm sn sub ab col dd k0 k1 k2 k3 k5, K.lookup C = some (excClassObj n0 q C N bs bm true sn sub ab col dd k0 k1 k2 k3 k5 "ValueError.__new__") ∧ refsVE bm = true
  sa : findIn K (.ref C) "__setattr__" = some (some (.builtin "object.__setattr__"))
  ga : findIn K (.ref C) "__getattribute__" = some (some (.builtin "BaseException.__getattribute__"))
  gg : findIn K (.ref C) "__getattr__" = some none
  noN : findIn K (.ref C) nm = some none
  iC : findIn K (.ref C) "__init__" = some (some (.ref fI))
  tC : typeIn K (.ref fI) = some (.type "function")
  kC : keepIn K (.ref C) = true
  exC : subIn K (.ref C) (.type "BaseException") = some true
  veC : subIn K (.ref C) (.type "ValueError") = some true
  tyC : typeIn K (.ref C) = some (.type "type")
  hdC : hasDictIn K C = true
  suC : ks_superIn K C C "__init__" = some (some (.builtin "ValueError.__init__"))
  mro : mroIn K C (.ref C) = some true
  opq : nsIn K cStatics "thirdparty.any" = some none
  kSu : (nm == ("super" : Str)) = false
  kCl : (nm == ("__class__" : Str)) = false
  kSe : (nm == ("self" : Str)) = false
  kDb : (nm == ("__debug__" : Str)) = false
  fn : ∃ (oc : Value) (od : Option Addr) (doc pm : Value) (an : Option Addr) (cda cc : Addr) (ct : Value) (osl : Array (Option Value)) (msg : Str) (j : Nat) (sc : Scope) (p1 p2 q1 q2 q3 q4 q5 q6 r1 r2 r3 r4 : Pos)
    (ccl cl : Value) (cdd cld : Option Addr) (ccs csl : Array (Option Value)) (vs : Array Value) (file : Str) (tf : Tok),
    K.lookup fI = some ⟨oc, od, .func (fnX "__init__" (name ++ ".__init__") (xArgs nm p1 p2) (xBody nm msg j q1 q2 q3 q4 q5 q6 r1 r2 r3 r4) sc [("__class__", cc)] .none .none doc pm an (.ref cda) ct), osl⟩ ∧
    codeIn K (.ref cda) (name ++ ".__init__") = true ∧ K.lookup cda = some ⟨ccl, cdd, .fields vs, ccs⟩ ∧ vs[2]? = some (.str file tf) ∧ ((prog.main.file : Str) == file) = true ∧
    K.lookup cc = some ⟨cl, cld, .cell (some (.ref C)), csl⟩ ∧
    sc.kind = .function ∧ sc.isCoroutine = false ∧ sc.isGenerator = false ∧ (∀ x ∈ sc.names, x.2 ≠ .cell) ∧ sc.names.lookup ("self" : Str) = some .local ∧ sc.names.lookup nm = some .local ∧
    sc.names.lookup ("super" : Str) = some .globalImplicit ∧ sc.names.lookup ("__class__" : Str) = some .free ∧ (prog.main.scope.names.lookup ("super" : Str)).isSome = false ∧
    (∀ u v : Value, bindArgs (fnX "__init__" (name ++ ".__init__") (xArgs nm p1 p2) (xBody nm msg j q1 q2 q3 q4 q5 q6 r1 r2 r3 r4) sc [("__class__", cc)] .none .none doc pm an (.ref cda) ct) ⟨[u, v], []⟩ = pure [(("self" : Str), u), (nm, v)]) ∧
    ∃ pl : Sem Bool, ∀ env : Env, eval (.Call (.Attribute (.Call (.Name "super" q1) [] [] q2) "__init__" q3) [.Constant (.str msg) j q4] [] q5) env = (do
      let ov ← attributeBase (.Call (.Name "super" q1) [] [] q2) "__init__" env (eval (.Call (.Name "super" q1) [] [] q2) env)
      standAt q3.atName
      let (f, first) ← holding [ov] (getMethod ov "__init__" pl)
      callWith q5 f first (backTo q5 (starEach [.Constant (.str msg) j q4] env)) [])
/-- what __init__ leaves of a fresh exception at x -/
structure XEnd (h h' : Heap) (x C dx t1 : Addr) (nm : Str) (v : Value) : Prop where
  keep : ∀ b o, b ≠ x → h.get? b = some o → h'.get? b = some o
  obj : h'.get? x = some { cls := .ref C, dict := some dx, data := .fields #[.ref t1, .none, .none, .none, .bool false, .none] }
  dbig : h.objs.size ≤ dx
  dne : dx ≠ x
  ns : h'.Ns1 dx (fun y => if y = nm then some v else none)
structure XMade (h h' : Heap) (e C d : Addr) (nm : Str) (v : Value) : Prop where
  keep : ∀ b o, h.get? b = some o → h'.get? b = some o
  new : h.objs.size ≤ e
  obj : ∃ oe vs, h'.get? e = some oe ∧ oe.cls = .ref C ∧ oe.dict = some d ∧ oe.data = .fields vs ∧ vs[1]? = some .none
  dbig : h.objs.size ≤ d
  dne : d ≠ e
  ns : h'.Ns1 d (fun y => if y = nm then some v else none)
theorem refs_has {bm : List Value} (h : refsVE bm = true) (T : String) (hT : veTail.contains (.type T) = true) : bm.contains (.type T) = true := (refsVE_contains T bm h).trans hT
section
variable {prog : Program} {w : World} {A : Around} {E : Value → Shared → Prop} {R : Result → Shared → Prop} {s : Shared} {K : Frag} {mg mb : Str → Option Value} {C fI : Addr} {name nm : Str}
/-- the built-in __init__ bound to the object at e, called -/
theorem x_call {bs bm : List Value} {n0 q : Str} {N : Addr} {hdct : Bool} {sn : List Str} {sub : List Value} {ab : Bool} {col : Option Bool} {dd : Option Addr} {k0 k1 k2 k3 k5 : Option Value} {u e t0 : Addr} {rest : List Value} {Q : Value → Shared → Prop}
    (hC : s.heap.get? C = some (excClassObj n0 q C N bs bm hdct sn sub ab col dd k0 k1 k2 k3 k5 "ValueError.__new__")) (he : s.heap.get? e = some (excO C t0)) (hu : s.heap.get? u = some (kxs_mw "ValueError.__init__" e)) (hz : rest.length ≤ sizeLine)
    (h : ∀ h' t1, (∀ b o, b ≠ e → s.heap.get? b = some o → h'.get? b = some o) → h'.get? e = some (excO C t1) → Q .none { s with heap := h' }) : wpAny (model prog w) A (call (.ref u) rest) Q E s := by
  obtain ⟨hh, g, d, tk, os⟩ := s
  refine wpAny_call (codeAny_of_tree ?_)
  show wpAny _ A.in1 (callAny (.ref u) ⟨rest, []⟩) _ _ _
  simp only [callAny]
  refine wpAny_bind (wpAny_load hu ?_)
  simp only [kxs_mw, show (Value.type "method-wrapper" == Value.type "method" || Value.type "method-wrapper" == Value.type "builtin_function_or_method" || Value.type "method-wrapper" == Value.type "method-wrapper") = true by decide, if_true]
  refine KFB.if_so (by decide) ?_
  refine wpAny_bind (check_bound_init F.excBase_ValueError.toExcCallFacts hC he rfl ?_)
  refine wpAny_bind (wpAny_pure (wpAny_pure ?_))
  refine ⟨plainId_quiet F.excBase_ValueError.init.plain _, codeAny_builtin F.excBase_ValueError.initEntry ?_⟩
  exact exc_init_tree (cls := .ref C) (t0 := t0) (dv := none) (c2 := .none) (c3 := .none) (b4 := .bool false) he hz fun h' k e' _ => h h' _ k e'
theorem x_init (T : XcTxt prog K name nm C fI) {x t0 : Addr} {v : Value} (X : K.In s.heap) (hlim : s.heap.NoLimit) (hg : s.heap.Ns mainGlobals mg) (hm : mg "super" = none) (hb : s.heap.Ns builtinsNs mb) (hbs : mb "super" = some (.type "super"))
    (hx : s.heap.get? x = some (excO C t0)) (hnx : K.lookup x = none) (hroom : A.depth < recursionLimit) (hq : ∀ h' tk dx t1, XEnd s.heap h' x C dx t1 nm v → R (.ok (.ret .none)) { s with heap := h', toks := tk }) :
    codeAny (model prog w) A (.call (.ref fI) ⟨[.ref x, v], []⟩) R s := by
  obtain ⟨oc, od, doc, pm, an, cda, cc, ct, osl, msg, j, sc, p1, p2, q1, q2, q3, q4, q5, q6, r1, r2, r3, r4, ccl, cl, cdd, cld, ccs, csl, vs, file, tf, ho, hcd, hcda, hvs, hfile, hcell, kk, kco, kgen, kcell, ksf, knm, ksu, kcl, ktop, kbind, pl, kev⟩ := T.fn
  obtain ⟨n0, q, N, bs, bm, sn, sub, ab, col, dd, k0, k1, k2, k3, k5, hC, hbm⟩ := T.cls
  have hcls : clsIn K C = some { name := n0, bases := bs, mro := .ref C :: bm, ns := N, qualname := q, hasDict := true, slotNames := sn, subclasses := sub, abstract := ab, collection := col, hasDel := false } := by unfold clsIn; rw [hC] <;> rfl
  refine ks_codeAny_call_defAt (binds := [("self", .ref x), (nm, v)]) hroom (X _ _ ho) rfl hlim (codeRec_of X hcd) rfl (BindsTo.of_eq (kbind _ _)) kcell (fun y hy => ?_) (fun h₁ hns hk => ?_) kco kgen kk
  · rcases List.mem_cons.mp hy with e | hy
    · rw [e]
      exact ksf
    · rw [List.mem_singleton.mp hy]
      exact knm
  · have X₁ : K.In h₁ := X.keeps hk
    have hx₁ := hk _ _ hx
    have hC₁ := X₁ _ _ hC
    have I₁ : InstAt h₁ x (excO C t0) C none := ⟨hx₁, rfl, rfl, trivial⟩
    have lx : [(("self" : Str), Value.ref x), (nm, v)].reverse.lookup ("self" : Str) = some (Value.ref x) := by
      have e : (("self" : Str) == nm) = false := by
        have := T.kSe
        rw [beq_eq_false_iff_ne] at this ⊢
        exact Ne.symm this
      simp [List.lookup, e]
    have lv : [(("self" : Str), Value.ref x), (nm, v)].reverse.lookup nm = some v := by simp [List.lookup]
    -- super().__init__(text)
    refine ks_wpAt_execs_cons (ks_wpAt_Expr_any (ks_wpAt_MethodCall (ks_wpAt_super_base ksu kcl rfl rfl (X₁ _ _ ho) rfl rfl rfl (X₁ _ _ hcda) rfl hvs hfile ktop ?_) (kev _)) ?_ ?_)
    · refine ks_loadName_global kk ksu (loadGlobal_builtin (hg.keeps hk) hm (hb.keeps hk) hbs ⟨rfl, ?_⟩)
      refine wpAny_loadName_free kk kcl rfl ⟨_, X₁ _ _ hcell, rfl⟩ ?_
      refine wpAny_loadName_local kk ksf hns lx ?_
      refine ks_wpAny_isType_cls hC₁ rfl ⟨rfl, ?_⟩
      refine ks_wpAny_call_super hC₁ rfl hx₁ rfl (fun c e => by cases e) (looks_mroIn X₁ T.mro) (fun h₂ e₂ k₂ => ?_)
      -- __init__ of it, bound
      have X₂ : K.In h₂ := X₁.keeps k₂
      have hx₂ := k₂ _ _ hx₁
      have hC₂ := k₂ _ _ hC₁
      have I₂ : InstAt h₂ x (excO C t0) C none := ⟨hx₂, rfl, rfl, trivial⟩
      have hsu : alongIn K "__init__" (((Value.ref C :: bm).dropWhile (· != .ref C)).drop 1) = some (some (.builtin "ValueError.__init__")) := by
        have z := T.suC
        unfold ks_superIn at z
        rw [hcls] at z
        exact z
      refine kxs_getMethod kxs_ValueError e₂ (looks_opaque X₂ T.opq) (l₀ := Value.ref C :: bm) (fun A Q E s k q => wpAny_bind ((looks_clsIn X₂ hcls) A _ E s k (wpAny_pure q))) rfl X₂ hsu (I₂.type.andThen (looks_subIn X₂ T.veC)) (ks_ne X₂ I₂ hcls) (by decide) ?_
      refine kxs_callWith (i := "ValueError.__init__") (x := x) rfl (evalArgs_plain ?_)
      have hpu : ∀ b o, h₂.get? b = some o → (h₂.push (kxs_mw "ValueError.__init__" x)).get? b = some o := fun b o e => Heap.get?_push_of_some _ e
      refine Calls.spliced_cons (Calls.Constant_str (k := j) (pos := q4) (Calls.spliced_nil ⟨Heap.get?_push_size _ rfl, ?_⟩))
      refine x_call (e := x) (t0 := t0) (hpu _ _ hC₂) (hpu _ _ hx₂) (Heap.get?_push_size _ rfl) (by show [_].length ≤ sizeLine; rw [sizeLine_eq]; exact (by decide : 1 ≤ 16777216)) fun h₃ t1 k₃ hx₃ => ?_
      -- self.p = p
      have k13 : ∀ b o, b ≠ x → h₁.get? b = some o → h₃.get? b = some o := fun b o hb e => k₃ b o hb (hpu _ _ (k₂ _ _ e))
      have k03 : ∀ b o, b ≠ x → s.heap.get? b = some o → h₃.get? b = some o := fun b o hb e => k13 b o hb (hk b o e)
      have X₃ : K.In h₃ := fun a o e => k03 a o (fun z => by rw [z, hnx] at e; cases e) (X a o e)
      have xL : s.heap.objs.size ≠ x := Nat.ne_of_gt (Heap.lt_size hx)
      have hns₃ : h₃.Ns s.heap.objs.size fun y => [(("self" : Str), Value.ref x), (nm, v)].reverse.lookup y := by
        obtain ⟨o, es, ep, e, r⟩ := hns
        exact ⟨o, es, ep, k13 _ _ xL e, r⟩
      refine wpAt_of_wpAny (wpAny_execs_cons (plainObj_wpAny_Assign_Attribute ?_))
      refine wpAny_Name (wpAny_loadName_local kk knm hns₃ lv (wpAny_Name (wpAny_loadName_local kk ksf hns₃ lx ?_) (by decide))) T.kDb
      refine set_plain X₃ (ox := excO C t1) (od := none) ⟨hx₃, rfl, rfl, trivial⟩ T.sa ?_
      refine exc_osa X₃ hx₃ hcls (show refsVE (.ref C :: bm) = true from hbm) rfl T.noN (fun h₄ tk₄ dx k₄ dn dne hx₄ hn₄ => ?_)
      have z1 : s.heap.objs.size < h₃.objs.size := hns₃.lt
      exact wpAny_execs_nil (hq h₄ tk₄ dx t1 ⟨fun b o hb e => k₄ b o hb (k03 b o hb e), hx₄, Nat.le_of_lt (Nat.lt_of_lt_of_le z1 dn), dne, hn₄⟩)
    · show (interactive _) = false
      have hk' : (callEnv (fnX "__init__" (name ++ ".__init__") (xArgs nm p1 p2) (xBody nm msg j q1 q2 q3 q4 q5 q6 r1 r2 r3 r4) sc [("__class__", cc)] .none .none doc pm an (.ref cda) ct) s.heap.objs.size fI).scope.kind = .function := kk
      simp [interactive, hk']
    · rfl
theorem x_made (T : XcTxt prog K name nm C fI) {v : Value} (X : K.In s.heap) (hlim : s.heap.NoLimit) (hg : s.heap.Ns mainGlobals mg) (hm : mg "super" = none) (hb : s.heap.Ns builtinsNs mb) (hbs : mb "super" = some (.type "super")) (hroom : A.depth + 1 < recursionLimit)
    (hq : ∀ h' tk e d, XMade s.heap h' e C d nm v → R (.ok (.ret (.ref e))) { s with heap := h', toks := tk }) :
    codeAny (model prog w) A (.call (.ref C) ⟨[v], []⟩) R s := by
  obtain ⟨n0, q, N, bs, bm, sn, sub, ab, col, dd, k0, k1, k2, k3, k5, hC, hbm⟩ := T.cls
  obtain ⟨hp, g, dr, tk, os⟩ := s
  have k : ∀ b o, hp.get? b = some o → ((hp.push (kdv_tup [v])).push (excO C hp.objs.size)).get? b = some o := fun b o e => Heap.get?_push_of_some _ (Heap.get?_push_of_some _ e)
  have hget : ((hp.push (kdv_tup [v])).push (excO C hp.objs.size)).get? (hp.objs.size + 1) = some (excO C hp.objs.size) := by heap_get
  have hnx : K.lookup (hp.objs.size + 1) = none := by
    cases e : K.lookup (hp.objs.size + 1) with
    | none => rfl
    | some o =>
      have z : hp.get? (hp.objs.size + 1) = some o := X _ _ e
      exact absurd (Nat.lt_of_succ_lt (Heap.lt_size z)) (Nat.lt_irrefl _)
  refine call_own F.excBase_ValueError (fun X => refsVE_contains X bm hbm) (X _ _ hC) (looks_findIn X T.iC) (fun self => bind_fn X self T.tC) (by show [_].length ≤ sizeLine; rw [sizeLine_eq]; exact (by decide : 1 ≤ 16777216)) ?_
  refine x_init (s := ⟨(hp.push (kdv_tup [v])).push (excO C hp.objs.size), g, dr, tk, os⟩) T (X.keeps k) (hlim.keeps k) (hg.keeps k) hm (hb.keeps k) hbs hget hnx ?_ fun h' tk' dx t1 ⟨k', hx, dn, dne, hns⟩ => ?_
  · show A.depth + 1 < recursionLimit
    exact hroom
  · have old : ∀ b o, hp.get? b = some o → h'.get? b = some o := fun b o e => k' b o (Nat.ne_of_lt (Nat.lt_succ_of_lt (Heap.lt_size e))) (k b o e)
    have z : hp.objs.size + 1 + 1 ≤ dx := by
      first
        | (simpa only [Heap.size_push] using dn)
        | exact dn
        | (have q := dn; rw [Heap.size_push, Heap.size_push] at q; exact q)
    exact ⟨rfl, hq h' tk' (hp.objs.size + 1) dx ⟨old, Nat.le_succ _, ⟨_, _, hx, rfl, rfl, rfl, rfl⟩, Nat.le_trans (Nat.le_trans (Nat.le_succ _) (Nat.le_succ _)) z, dne, hns⟩⟩
end
end XcX
end PySem

set_option Elab.async false
set_option linter.all false
set_option maxRecDepth 100000
set_option maxHeartbeats 4000000
/-! L3y: isinstance of an own exception, with or without a dict of its own. -/
namespace PySem
namespace XcX
open PySem PySem.Spec PySem.Calls PySem.W PyProof.Rows
section
variable {prog : Program} {w : World} {A : Around} {E : Value → Shared → Prop} {s : Shared} {K : Frag} {x D : Addr} {ox : Obj} {od : Option Obj}
theorem found_data {C : Addr} {name : Str} {a g : Value} (hc : (clsIn K C).isSome = true) (ha : findIn K (.ref C) name = some (some a)) (hg : specialIn K a "__get__" = some (some g)) (ht : takesIn K a = some true) : findObj K C od name = some (.bind g a) := by
  obtain ⟨cd, e⟩ := Option.isSome_iff_exists.mp hc
  unfold findObj
  rw [e, Option.bind_some, ha, Option.bind_some]
  simp [hg, ht]
/-- x.__class__, asked by isinstance -/
theorem cls_asked {Q : Option Value → Shared → Prop} (T : L2.ExcC K D) (X : K.In s.heap) (I : InstAt s.heap x ox D od) (h : Q (some (.ref D)) { s with toks := s.toks + 1 }) : wpAny (model prog w) A (getAttr? (.ref x) "__class__") Q E s := by
  have isC : (clsIn K D).isSome = true := by
    obtain ⟨cd, hc, _⟩ := any_some T.hd
    rw [hc] <;> rfl
  obtain ⟨hp, g, d, t, os⟩ := s
  have ly := I.type (M := model prog w)
  have lg := looks_findIn (M := model prog w) X T.hg
  have lh := looks_findIn (M := model prog w) X T.hk
  have lf := looks_find (M := model prog w) X I (found_data isC T.ha T.hn T.ht)
  have lb : Looks (model prog w) hp (isInstance (.ref x) (.type "BaseException")) true := ly.andThen (looks_subIn X T.hs)
  have n0 : (false && onTheHeap (Value.builtin "BaseException.__getattribute__")) = false := rfl
  have n1 : (onTheHeap (Value.ref D) && Value.builtin "BaseException.__getattribute__" == Value.builtin "object.__getattribute__") = false := by
    rw [show (Value.builtin "BaseException.__getattribute__" == Value.builtin "object.__getattribute__") = false from by decide +kernel] <;> rfl
  unfold getAttr? getAttrBy? getAttrBy
  refine wpAny_bind (wpAny_mkText (wpAny_bind (wpAny_attempt (wpAny_holding (wpAny_bind (ly.at (wpAny_bind (lg.at ?_))))))))
  show wpAny _ _ (if (onTheHeap (Value.ref D) && Value.builtin "BaseException.__getattribute__" == Value.builtin "object.__getattribute__") = true then _ else _) _ _ _
  rw [n1, if_neg Bool.false_ne_true]
  unfold getAttrByItsOwn hookBefore
  refine wpAny_bind ?_
  rw [if_pos (show onTheHeap (Value.ref D) = true from rfl)]
  refine lh.at (wpAny_bind (wpAny_attempt (wpAny_holding ?_)))
  unfold callGetattribute
  rw [n0, if_neg Bool.false_ne_true]
  unfold boundAndCalled
  rw [PySem.F.excAttr_ValueError.ga.bind (.ref x)]
  refine wpAny_bind (wpAny_pure ?_)
  show wpAny _ _ (call (.builtin "BaseException.__getattribute__") [.ref x, .str "__class__" t]) _ _ _
  refine wpAny_call (codeAny_call_builtin PySem.F.excAttr_ValueError.ga.plain PySem.F.entry_bexc_ga ?_)
  refine @check_slot (model prog w) _ _ ⟨hp, g, d, t + 1, os⟩ "BaseException.__getattribute__" "BaseException" "__getattribute__" (.ref x) [.str "__class__" t] [] _ (by decide +kernel) (by decide +kernel) lb (PySem.F.args_bexc_ga (.ref x) (.str "__class__" t)) ?_
  unfold Builtin.«object.__getattribute__»
  refine wpAny_bind (wpAny_of_eq (a := ((Value.ref x : Value), [Value.str "__class__" t])) (by first | rfl | (simp only [slotArgs]; rfl)) ?_)
  refine wpAny_bind (wpAny_pure (wpAny_bind (ly.at (wpAny_bind (lf.at ?_)))))
  show wpAny _ _ (holding [Value.builtin "object.__class__"] (call (.builtin "getset_descriptor.__get__") [.builtin "object.__class__", .ref x, .ref D]) >>= ret) _ _ _
  refine wpAny_bind (wpAny_holding (wpAny_call (class_get (s := ⟨hp, g, d, t + 1, os⟩) (ox := ox) (od := od) X I T.hm ?_)))
  refine wpAny_pure ?_
  show wpAny _ _ (handedOut (.ref D)) _ _ _
  rw [handedOut_of (v := .ref D) rfl]
  first
    | exact wpAny_pure (wpAny_pure h)
    | exact wpAny_pure h
    | exact wpAny_pure (wpAny_bind (wpAny_pure (wpAny_pure h)))
theorem kit_exc (T : L2.ExcC K D) : KitX K (.ref x) (.ref D) (fun h => ∃ ox od, InstAt h x ox D od) where
  ty := fun _ _ _ ⟨_, _, I⟩ => I.type
  it := fun _ _ X _ => by
    obtain ⟨cdD, hcD, _⟩ := any_some T.hd
    unfold clsIn at hcD
    split at hcD
    · rename_i c' d' cd' sl' ho
      intro A' Q' E' s' k q
      unfold isType loadHead
      exact wpAny_bind (wpAny_loadPart (k _ _ (X _ _ ho)) (wpAny_pure q))
    · cases hcD
  ne := fun h tp dd its n sl X htp => by
    obtain ⟨cdD, hcD, _⟩ := any_some T.hd
    refine Bool.eq_false_iff.mpr fun q => ?_
    have e : D = tp := Value.ref.inj (beq_iff_eq.mp q)
    subst e
    unfold clsIn at hcD
    split at hcD
    · rename_i c' d' cd' sl' ho
      have z := (X _ _ ho).symm.trans htp
      cases z
    · cases hcD
  ca := fun X ⟨_, _, I⟩ k => cls_asked T X I k
end
end XcX
end PySem

set_option Elab.async false
set_option linter.all false
set_option maxRecDepth 100000
set_option maxHeartbeats 4000000
/-! L3: calls, raise, try, exceptions as values. -/
namespace L3
open PySem PySem.Spec PyProof.Rows L2
open LamX (Tabs TabS CodeO)

/-! ### what a def promises -/
abbrev Sp3 := List D → Store → WK → XK3 → Prop
def liftSp (G : Gx) (n : Nat) (sp : Sp3) : Sp := fun vs H Q E => ∃ ι S ds q x, St3 G ι H S ∧ Tabs G.T H ∧ RelDs G.K ι H ds vs ∧ ds.length = n ∧ sp ds S q x ∧ PoE G ι H q Q ∧ PoX G ι H x E
/-- the def at f keeps sp: it stands k calls deep -/
def Fn3 (C : Cl) (P : Program) (w : World) (K : PySem.W.Frag) (mg : PySem.Str → Option Value) (base : Heap) (k : Nat) (f : Addr) (fd : FuncData) (ps : List PySem.Str) (sp : Sp3) : Prop :=
  FnOk P w K mg base (L2.CX P w) k f fd ps (liftSp ⟨K, C.cls, C.T⟩ ps.length sp)
theorem Fn3.mono {C : Cl} {P : Program} {w : World} {K : PySem.W.Frag} {mg : PySem.Str → Option Value} {base : Heap} {j k : Nat} {f : Addr} {fd : FuncData} {ps : List PySem.Str} {sp : Sp3} (F : Fn3 C P w K mg base j f fd ps sp) (h : j ≤ k) : Fn3 C P w K mg base k f fd ps sp := FnOk.mono F h
/-- another promise that is enough -/
theorem Fn3.imp {C : Cl} {P : Program} {w : World} {K : PySem.W.Frag} {mg : PySem.Str → Option Value} {base : Heap} {k : Nat} {f : Addr} {fd : FuncData} {ps : List PySem.Str} {sp sp' : Sp3} (F : Fn3 C P w K mg base k f fd ps sp) (h : ∀ ds S q x, sp' ds S q x → sp ds S q x) :
    Fn3 C P w K mg base k f fd ps sp' := FnOk.imp F fun vs H Q E ⟨ι, S, ds, q, x, a, b, c, d, e, r⟩ => ⟨ι, S, ds, q, x, a, b, c, d, h _ _ _ _ e, r⟩
def start3 (N : List PySem.Str) (ds : List D) : Env3 := ds.map some ++ List.replicate (N.length - ds.length) none
theorem start_rel {K : PySem.W.Frag} {ι : List Addr} {H : Hp} {N : List PySem.Str} {ds : List D} {vs : List V} (r : RelDs K ι H ds vs) : RelSl K ι H (start3 N ds) (L2.start N vs) := by
  have hl := r.length
  refine ⟨by unfold start3 L2.start; rw [List.length_append, List.length_append, List.length_map, List.length_map, List.length_replicate, List.length_replicate, hl], fun i d h => ?_⟩
  unfold start3 at h
  unfold L2.start
  by_cases hi : i < ds.length
  · rw [List.getElem?_append_left (by rw [List.length_map]; exact hi), List.getElem?_map] at h
    obtain ⟨e, h1, h2⟩ := Option.map_eq_some_iff.mp h
    cases h2
    obtain ⟨v, h3, h4⟩ := r.get h1
    exact ⟨v, by rw [List.getElem?_append_left (by rw [List.length_map, hl]; exact hi), List.getElem?_map, h3] <;> rfl, h4⟩
  · rw [List.getElem?_append_right (by rw [List.length_map]; omega), List.getElem?_replicate] at h
    split at h <;> cases h
/-- the wish at a def's entry -/
abbrev WX0 (E : XK) : WX := fun cls d _ H => E cls d H
def Ends0 (q : WK) (x : XK3) : Ends3 := ⟨fun _ S => q .non S, q, fun _ _ => False, fun _ _ => False, fun _ => x⟩
section
variable {C : Cl} {P : Program} {w : World} {K : PySem.W.Frag} {mg : PySem.Str → Option Value} {base : Heap} {k : Nat} {f : Addr} {name qual : PySem.Str} {params : Arguments} {body : List Stmt} {scope : Scope} {dV kV doc pm cdv ct oc : Value} {an od : Option Addr} {osl : Array (Option Value)} {N ps : List PySem.Str} {sp : Sp3} {t : WS}
theorem takes_cx {A : Around} {outer : List Env} {s : Shared} {H : Hp} {E : XK} : Takes (cxOf (L2.CX P w) P w K mg base N qual scope f cdv A outer s H E) (WX0 E) := takes_of rfl rfl rfl rfl
theorem passes_cx {CX : CXT} {A : Around} {outer : List Env} {s : Shared} {H : Hp} {E : XK} : PassesOwn (model P w) (cxOf CX P w K mg base N qual scope f cdv A outer s H E).A (cxOf CX P w K mg base N qual scope f cdv A outer s H E).env (cxOf CX P w K mg base N qual scope f cdv A outer s H E).xe := passes_of rfl
theorem ends0_all {G : Gx} {ι : List Addr} {H : Hp} {q : WK} {x : XK3} {Q : VK} {E : XK} (p : PoE G ι H q Q) (px : PoX G ι H x E) : PoAll G (WX0 E) ι H (Ends0 q x) { nx := fun _ H' => Q .non H', rt := Q } :=
  ⟨fun _ S' ι' H' _ h e st _ => p .non S' ι' H' .non h e st (by unfold RelD; rfl), p, fun _ _ _ _ _ h => h.elim, fun _ _ _ _ _ h => h.elim, fun _ c fs S' ι' H' _ cls dd h e st _ r => px c fs S' ι' H' cls dd h e st r⟩
/-- THE RULE: a def by its body -/
theorem fn3_of (lk : K.lookup f = some ⟨oc, od, .func (PySem.W.fnOf name qual params body scope dV kV doc pm an cdv ct), osl⟩) (hcd : PySem.W.codeIn K cdv qual = true) (S : FnScope N ps scope)
    (hbody : ∀ (A : Around) (outer : List Env) (s : Shared) (H : Hp) (E : XK), Room k (A.deeper (envOfC qual scope s.heap.objs.size f cdv)) → PSs3 C (cxOf (L2.CX P w) P w K mg base N qual scope f cdv A outer s H E) (WX0 E) body t)
    (hsp : ∀ ds S q x, ds.length = ps.length → sp ds S q x → t (Ends0 q x) (start3 N ds) S) : Fn3 C P w K mg base (k + 1) f (PySem.W.fnOf name qual params body scope dV kV doc pm an cdv ct) ps sp := by
  refine fn_of lk hcd S (fun vs H Q E ⟨ι, S, ds, q, x, a, b, c, d, e, r⟩ => by rw [c.length]; exact d) fun A outer s H vs Q E hr ⟨ι, S0, ds, q, x, st, tb, rd, hl, h, p, px⟩ => ?_
  refine ⟨_, hbody A outer s H E hr, ?_⟩
  exact liftS_mk (G := ⟨K, C.cls, C.T⟩) ⟨st, start_rel rd, tb⟩ (hsp ds S0 q x hl h) (ends0_all p px)
end

/-! ### calls -/
def wCall (sp : Sp3) (n : Nat) (wa : WA) : WE := fun ρ S q x => wa ρ S (fun ds S1 => ds.length = n ∧ sp ds S1 q x) x
section
variable {C : Cl} {X : Cx} {W : WX} {e : Expr} {es : List Expr} {wa : WE} {wr : WA} {pos p : Pos} {x : PySem.Str} {k : Nat} {f : Addr} {fd : FuncData} {ps : List PySem.Str} {sp : Sp3}
theorem pe3_call (F : Fn3 C X.prog X.w X.K X.mg X.base k f fd ps sp) (hr : Room k X.A) (hg : Gl X x) (hm : X.mg x = some (.ref f)) (hk : PySem.W.keepIn X.K (.ref f) = true) (hb : L2.Binds X.K fd ps []) (tk : Takes X W)
    (ha : PA3 C X W (e :: es) wr) (hdb : (x == ("__debug__" : PySem.Str)) = false := by decide) (he : starEach (e :: es) X.env = (false, eval e X.env) :: starEach es X.env := by rfl) (hpl : (backTo pos (starEach es X.env)).any (·.1) = false := by rfl) :
    PE3 C X W (.Call (.Name x p) (e :: es) [] pos) (wCall sp ps.length wr) :=
  pe_le (pe_callS (E := L2.WE W) F hr hg hm hk hb (fun σ => passAt tk σ) ha hdb he hpl) fun σ H Q ⟨ι, S, ρ, q, y, R, h, pq, px⟩ =>
    ⟨ι, S, ρ, _, y, R, h, fun ds S1 ι1 H1 vs h1 e1 st1 rds => ⟨ι1, S1, ds, q, y, st1, e1.tabs R.tb, rds, h1.1, h1.2, pq.ext e1, px.ext e1⟩, px⟩
/-- a def without parameters -/
theorem pe3_call0 (F : Fn3 C X.prog X.w X.K X.mg X.base k f fd [] sp) (hr : Room k X.A) (hg : Gl X x) (hm : X.mg x = some (.ref f)) (hk : PySem.W.keepIn X.K (.ref f) = true) (hb : L2.Binds X.K fd [] []) (tk : Takes X W)
    (hdb : (x == ("__debug__" : PySem.Str)) = false := by decide) : PE3 C X W (.Call (.Name x p) [] [] pos) (wCall sp 0 wNil) := ⟨fun pins s σ H Q I ⟨ι, S, ρ, q, y, R, h, pq, px⟩ => by
  refine wpAny_Call_Name_kw (ld_glob I hg hm ?_ hdb)
  exact PySem.W.callWith_K0 I.kIn hk (run_fnS (us := []) (E := L2.WE W) F hr hb (passAt tk σ) I .nil ⟨ι, S, [], q, y, R.st, R.tb, .nil, rfl, h.2, pq, px⟩)⟩

/-! ### raise -/
/-- an own exception with its one attribute -/
def wRz (c nm : PySem.Str) (w : WE) : WS := fun E ρ S => w ρ S (fun d S1 => E.xc ρ c [(nm, d)] S1) (E.xc ρ)
theorem relO_one {nm : PySem.Str} {v : V} {v' : Value} (r : L2.RelV v v') (f : PySem.Str) : RelO (List.lookup f [(nm, v)]) (if f = nm then some v' else none) := by
  by_cases hw : f = nm
  · subst hw
    rw [if_pos rfl]
    simp [List.lookup]
    exact r
  · rw [if_neg hw]
    have qw : (f == nm) = false := by simpa using hw
    simp [List.lookup, qw]
    trivial
theorem pmk_x {nm : PySem.Str} {Cc fI : Addr} {ta : TA} {a : Expr} (T : XcX.XcTxt X.prog X.K x nm Cc fI) (hr : Room k X.A) (ha : PA X [a] ta) (hg : Gl X x) (hm : X.mg x = some (.ref Cc)) (hs : X.mg "super" = none) (hdb : (x == ("__debug__" : PySem.Str)) = false := by decide)
    (he : starEach (a :: []) X.env = (false, eval a X.env) :: starEach [] X.env := by rfl) (hpl : (backTo pos (starEach [] X.env)).any (·.1) = false := by rfl) :
    PMk X (.Call (.Name x p) [a] [] pos) (fun σ H Q => ta σ H fun vs H1 => ∃ v, vs = [v] ∧ ∀ d, H1 d = none → Q (.ref Cc) (some d) (upd H1 d (.xd [(nm, v)]))) := by
  intro pins s σ H Q I h
  refine wpAny_Call_Name_kw (ld_glob I hg hm ?_ hdb)
  refine PySem.W.callWith_K (h₀ := X.base) I.ok.mod.kin T.kC (thn (ha.run pos pins s σ H _ I h) fun us s1 hh => ?_) he hpl
  obtain ⟨vs, H1, I1, r1, v, ev, q1⟩ := hh
  subst ev
  refine ⟨I1.kIn, ?_⟩
  obtain ⟨v', rfl, rv⟩ := r1.one
  show wpAny _ _ (call (.ref Cc) [v']) _ _ _
  have hlim := I1.nolimit
  have hgl := I1.mod.glob.keeps I1.bk
  obtain ⟨mb, hb1, hb2⟩ := I1.mod.blt
  have hbl := hb1.keeps I1.bk
  have hbs : mb "super" = some (.type "super") := (hb2 _ (by decide)).trans (by decide +kernel)
  obtain ⟨hp, g, dr, tk, os⟩ := s1
  refine wpAny_call (XcX.x_made T I1.kIn hlim hgl hs hbl hbs (by have := hr.dp; omega) fun h' tk' e d M => ?_)
  show MkP X pins σ Q (.ref e) ⟨h', g, dr, tk', os⟩
  obtain ⟨oe, fv, hoe, hc, hd, hdat, h1⟩ := M.obj
  have hns := M.ns
  obtain ⟨G', g1, g2⟩ := restrict h' fun b => decide (b ≠ e)
  have gk : ∀ b, b ≠ e → G'.get? b = h'.get? b := fun b hb => g1 b (decide_eq_true hb)
  have ge : G'.get? e = none := g2 e (by simp)
  have old : ∀ b o, hp.get? b = some o → G'.get? b = some o := fun b o q => (gk b (Nat.ne_of_lt (Nat.lt_of_lt_of_le (Heap.lt_size q) M.new))).trans (M.keep b o q)
  have ob : ObjOk X.prog X.w (upd H1 d (.xd [(nm, v)])) G' d (.xd [(nm, v)]) := ⟨_, hns.at (fun o q => (gk d M.dne).trans q), fun f => relO_one rv f⟩
  have J : L2.Inv X pins σ (upd H1 d (.xd [(nm, v)])) ⟨G', g, dr, tk', os⟩ := I1.laid (t' := tk') old M.dbig ob
  refine ⟨e, oe, fv, ⟨G', g, dr, tk', os⟩, _, .ref Cc, some d, rfl, J, fun b o q => ?_, ge, hoe, ⟨hc, hd⟩, hdat, h1, ?_, rfl, I1.bare, raises_own T.exC T.tyC, q1 d (I1.hok.fresh M.dbig)⟩
  · by_cases hb : b = e
    · have q' : G'.get? b = some o := q
      rw [hb, ge] at q'
      cases q'
    · exact (gk b hb).symm.trans q
  · rw [upd_ne (Ne.symm M.dne)]
    exact I1.hok.fresh M.new
theorem ps3_raiseX {nm : PySem.Str} {Cc fI : Addr} {p2 : Pos} (T : XcX.XcTxt X.prog X.K x nm Cc fI) (hcl : C.cls x = some Cc) (hc : X.calm = true) (tk : Takes X W) (hr : Room k X.A) (ha : PE3 C X W e wa) (hg : Gl X x) (hm : X.mg x = some (.ref Cc)) (hs : X.mg "super" = none)
    (hdb : (x == ("__debug__" : PySem.Str)) = false := by decide) (he : starEach (e :: []) X.env = (false, eval e X.env) :: starEach [] X.env := by rfl) (hpl : (backTo pos (starEach [] X.env)).any (·.1) = false := by rfl) :
    PS3 C X W (.Raise (some (.Call (.Name x p) [e] [] pos)) none p2) (wRz x nm wa) :=
  ps_le (ps_raise hc tk (pmk_x T hr (pa_cons ha pa_nil he) hg hm hs hdb he hpl)) fun D σ H h => by
    obtain ⟨ι, S, ρ, E, R, h, pp⟩ := liftS_un h
    refine ⟨ι, S, ρ, _, _, R, h, fun d S1 ι1 H1 v h1 e1 st1 rd => ?_, pp.xc.at R.sl⟩
    refine ⟨v, rfl, fun a n => ?_⟩
    have e2 : Ext3 (gx C X) ι1 H1 ι1 (upd H1 a (.xd [(nm, v)])) := Ext3.side n
    refine pp.xc ρ x _ S1 ι1 _ σ _ _ h1 (e1.trans e2) (st1.side n) ((R.sl.ext e1).ext e2) ⟨Cc, hcl, rfl, .inr ⟨a, _, rfl, upd_same, fun m => ?_, RelKV.cons (rd.ext e2) .nil⟩⟩
    obtain ⟨o, z⟩ := st1.some m
    rw [n] at z
    cases z
/-- an own exception with a text -/
def wRz0 (c : PySem.Str) : WS := fun E ρ S => E.xc ρ c [] S
theorem ps3_raise0 {bmB : List Value} {B newId initId : String} {m : PySem.Str} {j : Nat} {Cc : Addr} {p2 p3 : Pos} (F : ExcBaseFacts B newId initId bmB) (q : PySem.W.excIn X.K Cc bmB newId = true) (hcl : C.cls x = some Cc) (hc : X.calm = true) (tk : Takes X W) (hm : X.mg x = some (.ref Cc)) (kC : PySem.W.keepIn X.K (.ref Cc) = true) (r : Raises X (.ref Cc)) (hg : Gl X x)
    (hdb : (x == ("__debug__" : PySem.Str)) = false := by decide) : PS3 C X W (.Raise (some (.Call (.Name x p) [.Constant (.str m) j p2] [] pos)) none p3) (wRz0 x) :=
  ps_le (ps_raise hc tk (pmk_own F q hm kC r hg hdb)) fun D σ H h => by
    obtain ⟨ι, S, ρ, E, R, h, pp⟩ := liftS_un h
    exact pp.xc ρ x [] S ι H σ _ _ h (Ext3.refl _ _ _) R.st R.sl ⟨Cc, hcl, rfl, .inl ⟨rfl, rfl⟩⟩

/-! ### exceptions as values -/
theorem exv_at {P : Program} {w : World} {H : Hp} {h : Heap} {cls : Value} {d : Option Addr} {a b : Addr} (hok : HOk P w H h) (e : H b = some (ExV cls d a)) : ∃ oe vs, h.get? a = some oe ∧ Zc cls d oe ∧ oe.data = .fields vs := (hok b _ e).1
/-- e.f of a held exception -/
def xfP (n : PySem.Str) (q : WK) : WK := fun d S1 => match d with
  | .ref i => match S1[i]? with
    | some (.exc c fs) => match fs.lookup n with
      | some v => q v S1
      | none => False
    | _ => False
  | _ => False
def wXf (n : PySem.Str) (w : WE) : WE := fun ρ S q x => w ρ S (xfP n q) x
theorem RelKV.look {K : PySem.W.Frag} {ι : List Addr} {H : Hp} {n : PySem.Str} {d : D} : ∀ {fs : List (PySem.Str × D)} {gs : List (PySem.Str × V)}, RelKV K ι H fs gs → fs.lookup n = some d → ∃ v, gs.lookup n = some v ∧ RelD K ι H d v
  | [], gs, r, h => by cases h
  | (m, d') :: fs, gs, r, h => by
    obtain ⟨v, l, rfl, r1, r2⟩ := r.uncons
    rw [List.lookup_cons] at h ⊢
    cases e : n == m with
    | true =>
      rw [e] at h
      cases h
      exact ⟨v, rfl, r1⟩
    | false =>
      rw [e] at h
      exact RelKV.look r2 h
theorem pe3_xf {n : PySem.Str} (T : ∀ c Cc, C.cls c = some Cc → XfC X.K Cc ∧ PySem.W.findIn X.K (.ref Cc) n = some none) (he : PE3 C X W e wa) (hb : attributeBase e n X.env (eval e X.env) = eval e X.env := by rfl) : PE3 C X W (.Attribute e n pos) (wXf n wa) := by
  refine ⟨fun pins s σ H Q I ⟨ι, S, ρ, q, y, R, h, pq, px⟩ => ?_⟩
  refine attr_of hb (thn (he.run pins s σ H (fun v H1 => ∃ ι1 S1 d, xfP n q d S1 ∧ Ext3 (gx C X) ι H ι1 H1 ∧ St3 (gx C X) ι1 H1 S1 ∧ RelD X.K ι1 H1 d v) I ⟨ι, S, ρ, xfP n q, y, R, h, fun d S1 ι1 H1 v h1 e1 st1 rd => ⟨ι1, S1, d, h1, e1, st1, rd⟩, px⟩) fun u s1 ⟨v, H1, I1, rv, ι1, S1, d, h1, e1, st1, rd⟩ => ?_)
  unfold xfP at h1
  split at h1
  · rename_i i
    split at h1
    · rename_i c fs es
      split at h1
      · rename_i dv el
        obtain ⟨a, rfl, ia⟩ := rd.ref_
        obtain rfl : u = Value.ref a := rv
        obtain ⟨Cc, hcc, ⟨e0, _⟩ | ⟨dd, gs, h2, h3, h4, h5⟩⟩ := st1.obj _ _ _ es ia
        · rw [e0] at el
          cases el
        · obtain ⟨oe, vs, ha, hz, hd⟩ := exv_at I1.hok h2
          obtain ⟨TX, hno⟩ := T c Cc hcc
          have hx : ObjOk X.prog X.w H1 s1.heap dd (.xd gs) := I1.hok dd _ h3
          obtain ⟨mA, hns, hr⟩ := hx
          obtain ⟨od, ho, hl⟩ := lookIn_ns hns
          obtain ⟨v, lv, rv⟩ := h5.look el
          obtain ⟨u, hu, ru⟩ := RelO.some_of (v := v) (o := mA n) (by rw [← lv]; exact hr n)
          have J : PySem.W.InstAt s1.heap a oe Cc (some od) := ⟨ha, hz.1, by unfold PySem.W.notCls; rw [hd] <;> rfl, by rw [hz.2]; exact ho⟩
          exact HandSPX.exc_get I1.kIn J TX.ga TX.gg TX.exC (PySem.W.findObj_own TX.hdC hno rfl (by rw [hl, hu])) (handed_of ru) ⟨v, H1, I1.tok _, ru, (pq.ext e1).here st1 rv h1⟩
      · exact h1.elim
    · exact h1.elim
  · exact h1.elim
/-- isinstance(e, C) of an own class: a table of answers by the class of a held exception, and by built-in types -/
def wIsC (ie : PySem.Str → Option Bool) (it : String → Option Bool) (w : WE) : WE := fun ρ S q x => w ρ S (fun d S1 => match d with
  | .ref i => match S1[i]? with
    | some (.exc c _) => match ie c with
      | some b => q (.bl b) S1
      | none => False
    | _ => match (tyD S1 d).bind it with
      | some b => q (.bl b) S1
      | none => False
  | _ => match (tyD S1 d).bind it with
    | some b => q (.bl b) S1
    | none => False) x
theorem pe3_isC {ie : PySem.Str → Option Bool} {it : String → Option Bool} {c : PySem.Str} {D0 : Addr} {p2 : Pos} (hi : ∀ c' b Cc, ie c' = some b → C.cls c' = some Cc → ExcC X.K Cc ∧ PySem.W.kitOne X.K (.ref Cc) (.ref D0) = some b) (ht : ∀ t b, it t = some b → PySem.W.kitOne X.K (.type t) (.ref D0) = some b)
    (hg : Gl X "isinstance") (hm : X.mg "isinstance" = none) (hgc : Gl X c) (hmc : X.mg c = some (.ref D0)) (he : PE3 C X W e wa)
    (hdc : (c == ("__debug__" : PySem.Str)) = false := by decide)
    (hs : starEach [e, .Name c p2] X.env = (false, eval e X.env) :: starEach [.Name c p2] X.env := by rfl) (hs2 : starEach [.Name c p2] X.env = (false, eval (.Name c p2) X.env) :: starEach [] X.env := by rfl) (hpl : (backTo pos (starEach [.Name c p2] X.env)).any (·.1) = false := by rfl) :
    PE3 C X W (.Call (.Name "isinstance" p) [e, .Name c p2] [] pos) (wIsC ie it wa) := by
  have hn : PE X (.Name c p2) (tC (.ref D0)) := pe_glob hgc hmc (show L2.RelV (.ref D0) (.ref D0) from rfl) hdc
  have hr : CallR X (.builtin "isinstance") (fun xs H Q => ∃ ι S d v q, xs = [v, .ref D0] ∧ St3 (gx C X) ι H S ∧ RelD X.K ι H d v ∧ (match d with
      | .ref i => match S[i]? with
        | some (.exc c _) => match ie c with
          | some b => q (.bl b) S
          | none => False
        | _ => match (tyD S d).bind it with
          | some b => q (.bl b) S
          | none => False
      | _ => match (tyD S d).bind it with
        | some b => q (.bl b) S
        | none => False) ∧ PoE (gx C X) ι H q Q) := by
    intro pins s σ H xs us Q I rv ⟨ι, S, d, v, q, ex, st, rd, k, pq⟩
    subst ex
    have byT : ∀ b, (tyD S d).bind it = some b → q (.bl b) S → wpAny (model X.prog X.w) X.A (call (.builtin "isinstance") us) (EP X pins σ Q) X.xe s := fun b hb hq => by
      obtain ⟨t, h1, h2⟩ := Option.bind_eq_some_iff.mp hb
      exact call_isi pins s σ H _ us Q I rv ⟨v, .ref D0, .type t, .ref D0, b, rfl, .own D0, tyX_rel st rd h1, ht t b h2, pq.bl st hq⟩
    split at k
    · rename_i i
      split at k
      · rename_i c' fs es
        split at k
        · rename_i b eb
          obtain ⟨a, rfl, ia⟩ := rd.ref_
          obtain ⟨u1, u2, rfl, r1, r2⟩ := rv.two
          obtain rfl : u1 = Value.ref a := r1
          obtain rfl : u2 = Value.ref D0 := r2
          obtain ⟨Cc, hcc, hh⟩ := st.obj _ _ _ es ia
          obtain ⟨d0, hh⟩ : ∃ d0, H a = some (ExV (.ref Cc) d0 a) ∧ ∀ d, d0 = some d → ∃ gs, H d = some (.xd gs) := by
            rcases hh with ⟨_, h2⟩ | ⟨dd, gs, h2, h3, _⟩
            · exact ⟨none, h2, fun _ z => by cases z⟩
            · exact ⟨some dd, h2, fun _ z => by cases z; exact ⟨gs, h3⟩⟩
          obtain ⟨oe, vs, ha, hz, hd⟩ := exv_at I.hok hh.1
          obtain ⟨TE', hk⟩ := hi c' b Cc eb hcc
          have J : ∃ ox od, PySem.W.InstAt s.heap a ox Cc od := by
            cases d0 with
            | none => exact ⟨oe, none, ha, hz.1, by unfold PySem.W.notCls; rw [hd] <;> rfl, by rw [hz.2]; trivial⟩
            | some dd =>
              obtain ⟨gs, h3⟩ := hh.2 dd rfl
              have hx : ObjOk X.prog X.w H s.heap dd (.xd gs) := I.hok dd _ h3
              obtain ⟨mA, hns, hr⟩ := hx
              obtain ⟨od, ho, hl⟩ := lookIn_ns hns
              exact ⟨oe, some od, ha, hz.1, by unfold PySem.W.notCls; rw [hd] <;> rfl, by rw [hz.2]; exact ho⟩
          exact PySem.W.kia_one (XcX.kit_exc TE') I.kIn J hk (fun z => nomatch z) fun tk => ⟨.bl b, H, I.tok tk, rfl, pq.bl st k⟩
        · exact k.elim
      · split at k
        · rename_i b eb
          exact byT b eb k
        · exact k.elim
    · split at k
      · rename_i b eb
        exact byT b eb k
      · exact k.elim
  refine pe_le (pe_callB hr hg hm (by decide +kernel) (pa_cons he (pa_cons hn pa_nil hs2) hs) (by decide) (by decide) hs hpl) fun σ H Q ⟨ι, S, ρ, q, y, R, h, pq, px⟩ => ?_
  exact ⟨ι, S, ρ, _, y, R, h, fun d S1 ι1 H1 v h1 e1 st1 rd => ⟨ι1, S1, d, v, q, rfl, st1, rd, h1, pq.ext e1⟩, px⟩
end
end L3

set_option Elab.async false
set_option linter.all false
set_option maxRecDepth 100000
set_option maxHeartbeats 4000000
/-! L3: try, the caught exception as a value of the store. -/
namespace L3
open PySem PySem.Spec PyProof.Rows L2
open LamX (Tabs TabS CodeO)

section
variable {X : Cx} {pins : List (Addr × Obj)} {σ : L2.St} {H : Hp} {s : Shared} {a : Addr} {oe : Obj} {vs : Array Value} {cls : Value} {d : Option Addr}
theorem exv_own {x b : Addr} : ExV cls d b ≠ .own x := fun e => by
  unfold ExV at e
  cases e
/-- an exception that lies in the heap is known from now on -/
theorem inv_track (I : L2.Inv X pins σ H s) (he : s.heap.get? a = some oe) (hz : Zc cls d oe) (hd : oe.data = .fields vs) (na : H a = none) (nL : a ≠ X.env.locals) (n0 : X.s_0.heap.get? a = none) (npin : ∀ p ∈ X.pn ++ pins, p.1 ≠ a) :
    L2.Inv X pins σ (upd H a (ExV cls d a)) s := by
  have ne : ∀ {b : Addr} {o : HO}, H b = some o → b ≠ a := fun {b o} h => ne_of_none h na
  refine ⟨I.ok, I.os, I.bare, ⟨I.base.keep, I.base.slot, fun b o e n x => ?_, I.base.there, fun b xs e => ?_, fun b o u e => ?_, fun b ps e => ?_⟩, I.loc, I.cell, ?_, fun x c e => ?_, fun p hp => ?_, fun b o e => ?_, I.len⟩
  · rw [upd_ne (fun z => by rw [z, n0] at e; cases e)]
    exact I.base.free b o e n x
  · have z := I.base.tups b xs e
    rw [upd_ne (ne z)]
    exact z
  · have z := I.base.frzs b o u e
    rw [upd_ne (ne z)]
    exact z
  · obtain ⟨m, z⟩ := I.base.tbls b ps e
    exact ⟨m, by rw [upd_ne (ne z)]; exact z⟩
  · rw [upd_ne (Ne.symm nL)]
    exact I.free
  · rw [upd_ne (fun z => ?_)]
    · exact I.freeC x c e
    · obtain ⟨v, o, ho, hc⟩ := I.cell x c e
      rw [z, he] at ho
      cases ho
      rw [hd] at hc
      cases hc
  · obtain ⟨h1, h2, h3⟩ := I.pin p hp
    exact ⟨h1, by rw [upd_ne (npin p hp)]; exact h2, h3⟩
  · by_cases hb : b = a
    · subst hb
      rw [upd_same] at e
      cases e
      exact ⟨⟨oe, vs, he, hz, hd⟩, ⟨oe, he⟩, fun h1 h2 ⟨o, v, k1, k2, k3⟩ st => ⟨o, v, st _ k1, k2, k3⟩⟩
    · rw [upd_ne hb] at e
      exact (I.hok b o e).stay (fun _ _ _ k => k) (fun c k => by rw [upd_ne (ne k)]; exact k) fun c xs k => by rw [upd_ne (ne k)]; exact k
theorem inv_suite (I : L2.Inv X pins σ H s) (a : Addr) : L2.Inv (X.suite a (X.pn ++ pins)) [] σ H s :=
  ⟨I.ok.suite _ _, I.os, I.bare, I.base, I.loc, I.cell, I.free, I.freeC, fun p hp => I.pin p (by rw [List.append_nil] at hp; exact hp), I.hok, I.len⟩
theorem inv_unsuite {pn' : List (Addr × Obj)} (I : L2.Inv (X.suite a (X.pn ++ pins)) pn' σ H s) (ok : X.Ok) : L2.Inv X pins σ H s :=
  ⟨ok, I.os, I.bare, I.base, I.loc, I.cell, I.free, I.freeC, fun p hp => I.pin p (List.mem_append_left _ hp), I.hok, I.len⟩
end

/-- what 'except x as n' wishes of an exception of the body: slot i is n's; the exception is known in the suite -/
def wAsT (K : PySem.W.Frag) (c : Value) (i : Nat) (ts : TS) (Wout : WX) (D : L2.Ends) : WX := fun cls d σ H =>
  ∃ b, PySem.W.exmOne K cls c = some b ∧ (b = true → ∀ a, H a = none → ts { nx := fun σ' H' => D.nx (σ'.set i none) H', rt := D.rt, bk := fun σ' H' => D.bk (σ'.set i none) H', ct := fun σ' H' => D.ct (σ'.set i none) H' } (σ.set i (some (.ref a))) (upd H a (ExV cls d a))) ∧
    (b = false → Wout cls d σ H)
section
variable {X : Cx} {x n : PySem.Str} {c : Value} {i : Nat} {body suite : List Stmt} {b0 : Stmt} {np pos pos' : Pos} {tb : WX → TS} {ts : TS} {Wout : WX}
theorem ps_tryT (hs : X.stack = X.env :: X.outer) (hf : X.env.frame = some X.env.locals) (hex : X.ex = []) (hN : X.N.Nodup) (hi : X.N[i]? = some n) (hln : X.env.kindOf n = some .local) (hc : Names X x c) (tk : Takes X Wout)
    (hb : ∀ (W : WX) (pn : List (Addr × Obj)) (xe : Value → Shared → Prop), Takes (X.tr pn xe) W → PassesOwn (model X.prog X.w) X.A X.env xe → PSs (X.tr pn xe) body (tb W))
    (hsu : ∀ (a : Addr) (pn : List (Addr × Obj)), PSs (X.suite a pn) (b0 :: suite) ts) :
    PS X (.Try body [.ExceptHandler (some (.Name x np)) (some n) (b0 :: suite) pos'] [] [] pos) (fun D σ H => tb (wAsT X.K c i ts Wout D) D σ H) := by
  refine ⟨fun pins s σ H D I h => ?_⟩
  have ok := I.ok
  have fr0 : X.A.frames = some (X.env :: X.outer) := by rw [ok.frames, hs]
  refine wpAny_Try_except (wpAny_mono ((hb (wAsT X.K c i ts Wout D) (X.pn ++ pins) (fun er t1 => wpAny (model X.prog X.w) X.A (noteFrame er X.env) (fun _ t2 => wpAny (model X.prog X.w) X.A (setFlight er none) (fun _ t3 =>
    wpAny (model X.prog X.w) X.A (handleBy er X.env [.ExceptHandler (some (.Name x np)) (some n) (b0 :: suite) pos']) (SP X pins D) X.xe t3) X.xe t2) X.xe t1) (fun u s' xx => ?_) PassesOwn.looking).run [] s σ H D (I.toTry _) h) (fun fl t1 q => ?_) (fun _ _ q => q))
  · obtain ⟨a, B, sI, pins', σ', H', cls, d, rfl, J', nb, up, sky, na, os, ag, b, hb1, hyes, hno⟩ := xx
    have J : L2.Inv X pins σ' H' sI := J'.ofTry ok
    have sky' : Sky B (X.env :: X.outer) a (Zc cls d) X.env.locals s'.heap := by rw [← hs]; exact sky
    show wpAny (model X.prog X.w) X.A (noteFrame (.ref a) X.env) _ _ _
    refine Sky.land Zc.steady fr0 hf sky' fun h3 fl3 up3 => ?_
    have J3 : L2.Inv X pins σ' H' { s' with heap := h3 } := J.landed nb fl3.1 (up.trans up3) os ag
    obtain ⟨oe3, vs3, he3, hz3, hd3⟩ := fl3.there
    have nfr : a ∉ frs (X.env :: X.outer) := fun hm => by
      obtain ⟨_, o', e', hnf⟩ := fl3.2.2.1.mem hm
      rw [he3] at e'
      cases e'
      exact hnf _ hd3
    have nL : a ≠ X.env.locals := fun z => nfr (List.mem_filterMap.mpr ⟨X.env, List.mem_cons_self, by rw [hf, z]⟩)
    have nF : a ∉ X.fs := fun hm => by
      obtain ⟨e, he, q⟩ := List.mem_filterMap.mp hm
      exact nfr (List.mem_filterMap.mpr ⟨e, List.mem_cons_of_mem _ he, q⟩)
    have ng : B.get? a = none := fl3.2.1
    have nstk : ∀ b, b ∉ frs X.stack → ∀ o, sI.heap.get? b = some o → b ≠ a := fun b hb o e z => by
      have y := nb b o e hb
      rw [z, ng] at y
      cases y
    have nI : sI.heap.get? a = none := by
      cases e : sI.heap.get? a with
      | none => rfl
      | some o => exact absurd rfl (nstk a (by rw [hs]; exact nfr) o e)
    have n0 : X.s_0.heap.get? a = none := by
      cases e : X.s_0.heap.get? a with
      | none => rfl
      | some o =>
        obtain ⟨o', e'⟩ := J.base.there a o e (by rw [hex]; exact List.not_mem_nil)
        rw [nI] at e'
        cases e'
    have npin : ∀ p ∈ X.pn ++ pins, p.1 ≠ a := fun p hp z => by
      have y := (J.pin p hp).1
      rw [z, nI] at y
      cases y
    have S3 := J3.suite he3 hd3 na nL nF
    refine wpAny_handleBy_cons (codeAny_handlers_test ?_) (by intro q; cases q)
    have LT : PySem.W.Looks (model X.prog X.w) h3 (typeOf (.ref a)) cls := fun A Q E s k q => wpAny_typeOf_ref (k _ _ he3) (by rw [hz3.1]; exact q)
    have LM := PySem.W.exm_one (M := model X.prog X.w) (J3.kIn) LT hb1
    have named : ∀ {Q : Value → Shared → Prop} {E : Value → Shared → Prop}, Q c { s' with heap := h3 } → wpAny (model X.prog X.w) (X.A.mark (some (.ref a))) (eval (.Name x np) X.env) Q E { s' with heap := h3 } := fun {Q E} q => by
      obtain ⟨hg, hdbg, hm | ⟨hm, hv, hnn⟩⟩ := hc
      · exact ld_glob (X := X.suite a ((a, oe3) :: (X.pn ++ pins))) S3 hg hm q hdbg
      · exact ld_blt (X := X.suite a ((a, oe3) :: (X.pn ++ pins))) S3 hg hm hv q hnn hdbg
    refine named (LM.here ?_)
    cases b with
    | true =>
      refine codeAny_handlers_suite_as (HandSPX.lands_againZ fl3 fun h4 fl4 up4 => ?_)
      have J4 : L2.Inv X pins σ' H' { s' with heap := h4 } := J.landed nb fl4.1 ((up.trans up3).trans up4) os ag
      obtain ⟨oe4, vs4, he4, hz4, hd4⟩ := fl4.there
      have S4 := inv_suite (inv_track J4 he4 hz4 hd4 na nL n0 npin) a
      refine store_ok (X := X.suite a (X.pn ++ pins)) (v := .ref a) S4 hN hi (.inl hln) rfl (fun t5 S5 => ?_) (.inr hln)
      refine wpAny_mono ((hsu a (X.pn ++ pins)).run [] t5 _ _ _ S5 (hyes rfl a na)) (fun fl t6 q => ?_) (fun _ _ z => False.elim z)
      have done : ∀ {σ6 : L2.St} {H6 : Hp} {Q : Shared → Prop}, L2.Inv (X.suite a (X.pn ++ pins)) [] σ6 H6 t6 → (∀ t7, L2.Inv X pins (σ6.set i none) H6 t7 → Q t7) →
          wpAny (model X.prog X.w) X.A (do bindName X.env n .none; unbindBehindTheSuite X.env n pos') (fun _ t7 => Q t7) X.xe t6 := fun {σ6 H6 Q} S6 k => gone_ok (inv_unsuite S6 ok) hN hi hln k
      cases fl with
      | next =>
        obtain ⟨σ6, H6, S6, q6⟩ := q
        exact done S6 fun t7 J7 => ⟨_, _, J7, q6⟩
      | brk =>
        obtain ⟨σ6, H6, S6, q6⟩ := q
        exact done S6 fun t7 J7 => ⟨_, _, J7, q6⟩
      | cont =>
        obtain ⟨σ6, H6, S6, q6⟩ := q
        exact done S6 fun t7 J7 => ⟨_, _, J7, q6⟩
      | ret u =>
        obtain ⟨v6, σ6, H6, S6, r6, q6⟩ := q
        exact done S6 fun t7 J7 => ⟨_, _, _, J7, r6, q6⟩
    | false =>
      show wpAny _ X.A (handleBy (.ref a) X.env []) _ _ _
      refine wpAny_handleBy_nil ?_
      obtain ⟨k1, k2, k3, oe, vs, T, oT, ts', he, hz, hd, h1, hr⟩ := id fl3
      unfold PySem.passOn
      refine wpAny_bind (wpAny_field he hd h1 ?_)
      rw [if_neg (show ¬ ((Value.ref T == Value.none) = true) from by simp)]
      have fin : wpAny (model X.prog X.w) X.A (setFlight (.ref a) X.env.frame) (fun _ t4 => wpAny (model X.prog X.w) X.A (throw (.ref a) : Sem Flow) (SP X pins D) X.xe t4) X.xe { s' with heap := h3 } := by
        rw [hf]
        refine HandSPX.setFlight_upZ fl3 fun h4 hh4 up4 => wpAny_throw (tk _ _ ?_)
        exact ⟨a, B, sI, pins, σ', H', cls, d, rfl, J, nb, (up.trans up3).trans up4, .inr (.inr (by rw [hs]; exact hh4)), na, os, ag, hno rfl⟩
      first
        | exact wpAny_bind (wpAny_pure (wpAny_bind fin))
        | exact wpAny_bind fin
  · cases fl with
    | next =>
      obtain ⟨σ', H', J', q⟩ := q
      exact wpAny_execs_nil ⟨σ', H', J'.ofTry ok, q⟩
    | brk =>
      obtain ⟨σ', H', J', q⟩ := q
      exact ⟨σ', H', J'.ofTry ok, q⟩
    | cont =>
      obtain ⟨σ', H', J', q⟩ := q
      exact ⟨σ', H', J'.ofTry ok, q⟩
    | ret u =>
      obtain ⟨v, σ', H', J', r, q⟩ := q
      exact ⟨v, σ', H', J'.ofTry ok, r, q⟩
end

/-! ### a lambda handed to a def that calls it within try -/
/-- caught = None; try: work(); except x as error: caught = error; return caught -/
def TCaught (K : PySem.W.Frag) (CS : Addr) : (XK → Hp → VK → Prop) → Hp → VK → Prop := fun tl H Q =>
  tl (fun cls d H' => PySem.W.exmOne K cls (.ref CS) = some true ∧ ∀ a, H' a = none → Q (.ref a) (upd H' a (ExV cls d a))) H (fun _ H1 => ∃ v, (some (some V.non) : Option (Option V)) = some (some v) ∧ Q v H1)
theorem takes_len {X : Cx} {W : WX} (tk : Takes X W) : Takes X (fun cls d σ H => σ.length = X.N.length → W cls d σ H) := fun u s' ⟨a, B, sI, pins, σ, H, cls, d, e, I, nb, up, sky, na, os, ag, w⟩ =>
  tk u s' ⟨a, B, sI, pins, σ, H, cls, d, e, I, nb, up, sky, na, os, ag, w I.len⟩
abbrev sWo : PySem.Str := "work"
abbrev sCa : PySem.Str := "caught"
abbrev sEr : PySem.Str := "error"
abbrev sSE : PySem.Str := "StackError"
section
variable {X : Cx}
def caughtB (p1 p2 p3 p4 p5 p6 p7 p8 p9 q1 q2 q3 q4 q5 : Pos) (j : Nat) : List Stmt :=
  [.Assign [.Name "caught" p1] (.Constant .none j p2) p3,
   .Try [.Expr (.Call (.Name "work" p4) [] [] p5) p6] [.ExceptHandler (some (.Name "StackError" p7)) (some "error") [.Assign [.Name "caught" p8] (.Name "error" p9) q1] q2] [] [] q3,
   .Return (some (.Name "caught" q4)) q5]
theorem caught_gives {q : PySem.Str} {sg : Scope} {g CS : Addr} {cdg : Value} {j : Nat} {p1 p2 p3 p4 p5 p6 p7 p8 p9 q1 q2 q3 q4 q5 : Pos} (hge : sg.names.lookup sSE = some .globalImplicit) (hme : X.mg "StackError" = some (.ref CS))
    (l1 : sg.names.lookup sCa = some .local) (l2 : sg.names.lookup sEr = some .local)
    (s1 : ∀ env, swapsWith (.Constant .none j p2) (some (.Name "caught" p1)) p3.line env = pure false) (s2 : ∀ env, swapsWith (.Name "error" p9) (some (.Name "caught" p8)) q1.line env = pure false) (s3 : ∀ env, swapsWith (.Call (.Name "work" p4) [] [] p5) none p6.line env = pure false) :
    LamX.GivesTo X [sWo, sCa, sEr] "_law_caught" sg g cdg (caughtB p1 p2 p3 p4 p5 p6 p7 p8 p9 q1 q2 q3 q4 q5 j) "work" q (TCaught X.K CS) := by
  intro f c' s H Q tl act hc h
  have hgl : Gl (cxOf C8.CX0 X.prog X.w X.K X.mg X.base [sWo, sCa, sEr] "_law_caught" sg g cdg X.A X.stack s H C8.E0).nox "StackError" := hge
  generalize hZ : (cxOf C8.CX0 X.prog X.w X.K X.mg X.base [sWo, sCa, sEr] "_law_caught" sg g cdg X.A X.stack s H C8.E0).nox = Z at hgl
  have zN : Z.N = [sWo, sCa, sEr] := by rw [← hZ] <;> rfl
  have hN : Z.N.Nodup := by rw [zN]; decide
  have zm : Z.mg = X.mg := by rw [← hZ] <;> rfl
  have k1 : Z.env.scope.names.lookup sCa = some .local := by rw [← hZ]; exact l1
  have k2 : Z.env.scope.names.lookup sEr = some .local := by rw [← hZ]; exact l2
  have zK : Z.K = X.K := by rw [← hZ] <;> rfl
  have hs : Z.stack = Z.env :: Z.outer := by rw [← hZ] <;> rfl
  have hf : Z.env.frame = some Z.env.locals := by rw [← hZ] <;> rfl
  have hex : Z.ex = [] := by rw [← hZ] <;> rfl
  have pc1 : Z.N[1]? = some sCa := by rw [zN] <;> rfl
  have pc2 : Z.N[2]? = some sEr := by rw [zN] <;> rfl
  have tryP := ps_tryT (X := Z) (n := "error") (c := .ref CS) (i := 2) (np := p7) (pos' := q2) (pos := q3) (Wout := fun _ _ _ _ => False)
    (body := [.Expr (.Call (.Name "work" p4) [] [] p5) p6]) (b0 := .Assign [.Name "caught" p8] (.Name "error" p9) q1) (suite := [])
    (tb := fun W D σ H => ∃ Ech : XK, (∀ cls d (σ' : L2.St) H', Ech cls d H' → σ'.length = 3 → W cls d σ' H') ∧ σ[0]? = some (some (.ref f)) ∧ H c' = some (CodeO c' q) ∧ tl Ech H (fun _ H1 => D.nx σ H1))
    (ts := tAsg (tVar 2) (gName 1)) hs hf hex hN pc2 k2 ⟨hgl, by decide, .inl (by rw [zm]; exact hme)⟩ LamX.takes0 (fun W pn xe tk _ => ?_) (fun a pn => ?_)
  · refine ⟨_, pss_cons (ps_set (i := 1) hN pc1 (.inl k1) pe_non (s1 _) (.inr k1)) (pss_cons tryP (pss_one (ps_ret (pe_var (i := 1) pc1 (.inl k1))))), ?_⟩
    refine ⟨fun cls d H' => PySem.W.exmOne X.K cls (.ref CS) = some true ∧ ∀ a, H' a = none → Q (.ref a) (upd H' a (ExV cls d a)), fun cls d σ' H' ⟨e1, e2⟩ hl => ⟨true, by rw [zK]; exact e1, fun _ a n => ⟨.ref a, ?_, .ref a, ?_, e2 a n⟩, fun z => by cases z⟩, rfl, hc, h⟩
    · rw [List.getElem?_set_self (by omega)]
    · rw [List.getElem?_set_ne (by decide), List.getElem?_set_self (by rw [List.length_set]; omega)]
  · subst hZ
    refine ⟨fun pins s' σ H' D I h' => ?_⟩
    obtain ⟨Ech, hW, h1, h2, h3⟩ := h'
    have hp := act (fun cls d σ H => σ.length = 3 → W cls d σ H) pn xe Ech p4 p5 (takes_len tk) hW
    exact (pss_one (ps_expr hp (s3 _))).run pins s' σ H' D I ⟨h1, h2, h3⟩
  · exact pss_one (ps_set (X := Z.suite a pn) (i := 1) hN pc1 (.inl k1) (pe_var (X := Z.suite a pn) (i := 2) pc2 (.inl k2)) (s2 _) (.inr k1))

/-- _law_caught(lambda: e) -/
def wCaught (ok : PySem.Str → Bool) (w : WE) : WE := fun ρ S q _ => w ρ S (fun _ S' => q .non S') (fun c fs S' => ok c = true ∧ q (.ref S'.length) (S' ++ [.exc c fs]))
theorem takes_lam {A : Around} {outer : List Env} {s : Shared} {H : Hp} {E : XK} {scope : Scope} {f c' : Addr} : Takes (LamX.lamCx X A outer s H E scope f c') (WX0 E) := takes_of rfl rfl rfl rfl
theorem st3_same {G : Gx} {ι : List Addr} {H H' : Hp} {S : Store} (st : St3 G ι H S) (e : Ext3 G ι H ι H') (k : ∀ a o, H a = some o → NoTbl o → H' a = some o) : St3 G ι H' S :=
  ⟨st.nd, st.len, fun n o a h1 h2 => (st.obj n o a h1 h2).ext e fun u hu => by
    obtain ⟨u', z, _, _, nt⟩ := st.kind (List.mem_of_getElem? h2)
    rw [hu] at z
    cases z
    exact k a u hu nt⟩
theorem relO_exc {G : Gx} {ι : List Addr} {H : Hp} {S : Store} {c : PySem.Str} {fs : List (PySem.Str × D)} {cls : Value} {dd : Option Addr} {a : Addr} (st : St3 G ι H S) (r : RelX G ι H c fs cls dd) (n : H a = none) : RelO3 G (ι ++ [a]) (upd H a (ExV cls dd a)) (.exc c fs) a := by
  obtain ⟨Cc, hc, rfl, ⟨e1, e2⟩ | ⟨d, gs, e1, h1, h2, h3⟩⟩ := r
  · subst e2
    exact ⟨Cc, hc, .inl ⟨e1, upd_same⟩⟩
  · subst e1
    have e : Ext3 G ι H (ι ++ [a]) (upd H a (ExV (.ref Cc) (some d) a)) := Ext3.new n
    refine ⟨Cc, hc, .inr ⟨d, gs, upd_same, by rw [upd_ne (ne_of_none h1 n)]; exact h1, fun m => ?_, h3.ext e⟩⟩
    rcases List.mem_append.mp m with m | m
    · exact h2 m
    · exact ne_of_none h1 n (List.mem_singleton.mp m)
theorem pe3_caught {C : Cl} {W : WX} {ok : PySem.Str → Bool} {w : WE} {g c P CS : Addr} {k : Nat} {pg : Arguments} {bg : List Stmt} {sg : Scope} {dV kV doc pm cdv ct oc : Value} {an od : Option Addr} {osl : Array (Option Value)}
    {params : Arguments} {body : Expr} {scope : Scope} {p lpos pos : Pos} (hok : ∀ c' Cc, ok c' = true → C.cls c' = some Cc → PySem.W.exmOne X.K (.ref Cc) (.ref CS) = some true)
    (hG : ∀ q, LamX.GivesTo X [sWo, sCa, sEr] "_law_caught" sg g cdv bg sWo q (TCaught X.K CS))
    (hg : Gl X "_law_caught") (hm : X.mg "_law_caught" = some (.ref g)) (hk : PySem.W.keepIn X.K (.ref g) = true)
    (lk : X.K.lookup g = some ⟨oc, od, .func (PySem.W.fnOf "_law_caught" "_law_caught" pg bg sg dV kV doc pm an cdv ct), osl⟩) (hcg : PySem.W.codeIn X.K cdv "_law_caught" = true) (hb : L2.Binds X.K (PySem.W.fnOf "_law_caught" "_law_caught" pg bg sg dV kV doc pm an cdv ct) [sWo] []) (Sg : FnScope [sWo, sCa, sEr] [sWo] sg) (hva : Vis sg sWo)
    (TB : LamX.TabB X.base X.mg c P) (hcode : X.env.code = .ref c) (hmT : (P, X.env.qual ++ "<lambda>") ∈ C.T) (hu : ∀ p ∈ C.T, p.1 = P → p.2 = X.env.qual ++ "<lambda>") (hr : Room (k + 2) X.A) (L : LamX.LamS X.env.scope scope) (hdef : defaultsOf params X.env = ([], []) := by rfl)
    (hbind : ∀ (q : PySem.Str) (cl : List (PySem.Str × Addr)) (pm cv ctv : Value), bindArgs (PySem.W.kla_fn "<lambda>" q params body scope cl pm cv ctv) ⟨[], []⟩ = pure [] := by intros; rfl)
    (hbody : ∀ (A : Around) (outer : List Env) (s : Shared) (H : Hp) (E : XK) (f c' : Addr), Room k (A.deeper (LamX.lamEnv X scope s.heap.objs.size f c')) → PE3 C (LamX.lamCx X A outer s H E scope f c') (WX0 E) body w) :
    PE3 C X W (.Call (.Name "_law_caught" p) [.Lambda params body scope lpos] [] pos) (wCaught ok w) :=
  pe_le (LamX.pe_lamcall (T := C.T) (t := fun E => liftE (gx C X) (WX0 E) w) hg hm hk lk hcg hb Sg rfl hva (hG _) TB hcode hmT hu hr L hdef hbind hbody) fun σ H Q ⟨ι, S, ρ, q, x, R, h, pq, px⟩ => by
    refine ⟨R.tb, fun H1 eN tb1 => ?_⟩
    have e1 : Ext3 (gx C X) ι H ι H1 := ⟨⟨[], by simp⟩, fun a o h _ t => eN a o h t, fun _ _ h n => absurd h n, fun _ => tb1⟩
    have st1 : St3 (gx C X) ι H1 S := st3_same R.st e1 fun a o h t => eN a o h t
    refine ⟨ι, S, ρ, _, _, R.ext e1 st1, h, fun d S2 ι2 H2 v h2 e2 st2 rd => ⟨.non, rfl, (pq.ext (e1.trans e2)).non st2 h2⟩, fun c' fs S2 ι2 H2 cls dd ⟨h2, h3⟩ e2 st2 rx => ?_⟩
    obtain ⟨Cc, hcc, ecl, _⟩ := id rx
    refine ⟨by rw [ecl]; exact hok c' Cc h2 hcc, fun a n => ?_⟩
    have e3 : Ext3 (gx C X) ι2 H2 (ι2 ++ [a]) (upd H2 a (ExV cls dd a)) := Ext3.new n
    refine pq _ _ (ι2 ++ [a]) _ _ h3 ((e1.trans e2).trans e3) (st2.new n (relO_exc st2 rx n)) ?_
    unfold RelD
    exact ⟨a, by rw [← st2.len, List.getElem?_append_right (Nat.le_refl _), Nat.sub_self] <;> rfl, rfl⟩
end
end L3

set_option Elab.async false
set_option linter.all false
set_option maxRecDepth 100000
set_option maxHeartbeats 4000000
/-! L3: repr, defs that ask it, the law's end. -/
namespace L3
open PySem PySem.Spec PyProof.Rows L2
open LamX (Tabs TabS CodeO)

/-! ### repr -/
def rReprV (K : PySem.W.Frag) : List V → Hp → VK → Prop := fun xs H Q => ∃ v u, xs = [v] ∧ Dp K H v u ∧ u.canLay0 = true ∧ u.depth ≤ 40 ∧ u.showable = true ∧ u.shown.length ≤ LIM ∧ Q (.str u.shown) H
theorem call_reprV {X : Cx} (hgd : X.A.guards = some []) (hu : X.A.units + 50 < cLine) : CallR X (.builtin "repr") (rReprV X.K) := by
  intro pins s σ H xs us Q I rv ⟨v, u, e, dp, cl, dp2, sh, sz, q⟩
  subst e
  obtain ⟨w', rfl, rw'⟩ := rv.one
  have hz : u.shown.length ≤ sizeLine := by rw [lim_eq]; exact sz
  cases dp with
  | non =>
    cases rw'
    exact PySem.P.repr_of_none ⟨.str _, H, I.tok _, ⟨_, rfl⟩, q⟩
  | bl b =>
    cases rw'
    exact PySem.P.repr_of_bool ⟨.str _, H, I.tok _, ⟨_, rfl⟩, q⟩
  | int i =>
    obtain ⟨t, rfl⟩ := rw'
    exact PySem.P.repr_of_int (by simpa [PyData.showable] using sh) ⟨.str _, H, I.tok _, ⟨_, rfl⟩, q⟩
  | str z =>
    obtain ⟨t, rfl⟩ := rw'
    exact PySem.P.repr_of_str ⟨.str _, H, I.tok _, ⟨_, rfl⟩, q⟩ hz
  | lst h1 h2 =>
    cases rw'
    obtain ⟨as, r⟩ := Dp.reads I _ _ _ (Dp.lst h1 h2) (show L2.RelV (.ref _) (.ref _) from rfl)
    exact repr_of_reads' r sh (fun z => by rw [PyData.hasDict_of_canLay _ cl] at z; cases z) hgd (by omega) (fun _ _ z => z) (fun h' u' tk hk => ⟨.str _, H, I.kept (t' := tk) hk, ⟨_, rfl⟩, q⟩) hz
  | tup h1 h2 =>
    cases rw'
    obtain ⟨as, r⟩ := Dp.reads I _ _ _ (Dp.tup h1 h2) (show L2.RelV (.ref _) (.ref _) from rfl)
    exact repr_of_reads' r sh (fun z => by rw [PyData.hasDict_of_canLay _ cl] at z; cases z) hgd (by omega) (fun _ _ z => z) (fun h' u' tk hk => ⟨.str _, H, I.kept (t' := tk) hk, ⟨_, rfl⟩, q⟩) hz
/-- what repr asks of a value -/
def shOk (u : PyData) : Prop := u.showable = true ∧ u.shown.length ≤ LIM
/-- repr(a) == repr(b) -/
def wReprs (wa wb : WE) : WE := fun ρ S q x => wa ρ S (fun d S1 => match rdD S1 40 d with
  | some u => shOk u ∧ wb ρ S1 (fun e S2 => match rdD S2 40 e with
    | some v => shOk v ∧ q (.bl (decide (u.shown = v.shown))) S2
    | none => False) x
  | none => False) x
section
variable {C : Cl} {X : Cx} {W : WX} {a b e : Expr} {es : List Expr} {wa wb : WE} {wr : WA} {pos p p1 p2 p3 p4 : Pos}
theorem pe3_reprs (hgd : X.A.guards = some []) (hu : X.A.units + 50 < cLine) (hg : Gl X "repr") (hm : X.mg "repr" = none) (ha : PE3 C X W a wa) (hb : PE3 C X W b wb)
    (s1 : starEach [a] X.env = (false, eval a X.env) :: starEach [] X.env := by rfl) (s2 : starEach [b] X.env = (false, eval b X.env) :: starEach [] X.env := by rfl)
    (n1 : (backTo p2 (starEach [] X.env)).any (·.1) = false := by rfl) (n2 : (backTo p4 (starEach [] X.env)).any (·.1) = false := by rfl) :
    PE3 C X W (.Compare (.Call (.Name "repr" p1) [a] [] p2) [.Eq] [.Call (.Name "repr" p3) [b] [] p4] pos) (wReprs wa wb) := by
  have hv : bootBuiltins "repr" = some (.builtin "repr") := by decide +kernel
  refine pe_le (pe_cmpR op_eq (pe_callB (call_reprV hgd hu) hg hm hv (pa_cons ha pa_nil s1) (by decide) (by decide) s1 n1) (pe_callB (call_reprV hgd hu) hg hm hv (pa_cons hb pa_nil s2) (by decide) (by decide) s2 n2) (nomark _)) fun σ H Q ⟨ι, S, ρ, q, x, R, h, pq, px⟩ => ?_
  refine ⟨ι, S, ρ, _, x, R, h, fun d S1 ι1 H1 v h1 e1 st1 rd => ?_, px⟩
  dsimp only at h1
  split at h1
  · rename_i u eu
    obtain ⟨⟨k1, k2⟩, h1⟩ := h1
    obtain ⟨a1, a2, a3⟩ := dp_of st1 40 d v u eu rd
    refine ⟨v, u, rfl, a1, a2, a3, k1, k2, ?_⟩
    refine ⟨ι1, S1, ρ, _, x, R.ext e1 st1, h1, fun d2 S2 ι2 H2 v2 h2 e2 st2 rd2 => ?_, px.ext e1⟩
    dsimp only at h2
    split at h2
    · rename_i u2 eu2
      obtain ⟨⟨k3, k4⟩, h2⟩ := h2
      obtain ⟨b1, b2, b3⟩ := dp_of st2 40 d2 v2 u2 eu2 rd2
      refine ⟨v2, u2, rfl, b1, b2, b3, k3, k4, rfl, ?_⟩
      have e : decide (V.str u.shown = V.str u2.shown) = decide (u.shown = u2.shown) := by
        rw [Bool.eq_iff_iff]
        simp
      rw [e]
      exact (pq.ext (e1.trans e2)).bl st2 h2
    · exact h2.elim
  · exact h1.elim

/-! ### defs that ask repr -/
structure FnG (C : Cl) (P : Program) (w : World) (K : PySem.W.Frag) (mg : PySem.Str → Option Value) (base : Heap) (k : Nat) (f : Addr) (fd : FuncData) (ps : List PySem.Str) (sp : Sp3) : Prop where
  run : ∀ (A : Around) (outer : List Env) (s : Shared) (H : Hp) (args : Args) (us : List Value) (vs : List V) (Q : VK) (E : XK), Room k A → A.guards = some [] → Env0 P w K mg base A outer s H → BindsTo s fd args (ps.zip us) → Vals vs us → liftSp ⟨K, C.cls, C.T⟩ ps.length sp vs H Q E →
    codeAny (model P w) A (.call (.ref f) args) (CR (L2.CX P w) outer P w H s Q E) s
theorem FnG.imp {P : Program} {w : World} {K : PySem.W.Frag} {mg : PySem.Str → Option Value} {base : Heap} {k : Nat} {f : Addr} {fd : FuncData} {ps : List PySem.Str} {sp sp' : Sp3} (F : FnG C P w K mg base k f fd ps sp) (h : ∀ ds S q x, sp' ds S q x → sp ds S q x) : FnG C P w K mg base k f fd ps sp' :=
  ⟨fun A outer s H args us vs Q E hr hgd e0 hb r ⟨ι, S, ds, q, x, a, b, c, d, e, z⟩ => F.run A outer s H args us vs Q E hr hgd e0 hb r ⟨ι, S, ds, q, x, a, b, c, d, h _ _ _ _ e, z⟩⟩
theorem fnG_of {P : Program} {w : World} {K : PySem.W.Frag} {mg : PySem.Str → Option Value} {base : Heap} {k : Nat} {f : Addr} {name qual : PySem.Str} {params : Arguments} {body : List Stmt} {scope : Scope} {dV kV doc pm cdv ct oc : Value} {an od : Option Addr} {osl : Array (Option Value)} {N ps : List PySem.Str} {sp : Sp3} {t : WS}
    (lk : K.lookup f = some ⟨oc, od, .func (PySem.W.fnOf name qual params body scope dV kV doc pm an cdv ct), osl⟩) (hcd : PySem.W.codeIn K cdv qual = true) (S : FnScope N ps scope)
    (hbody : ∀ (A : Around) (outer : List Env) (s : Shared) (H : Hp) (E : XK), Room k (A.deeper (envOfC qual scope s.heap.objs.size f cdv)) → (cxOf (L2.CX P w) P w K mg base N qual scope f cdv A outer s H E).A.guards = some [] → PSs3 C (cxOf (L2.CX P w) P w K mg base N qual scope f cdv A outer s H E) (WX0 E) body t)
    (hsp : ∀ ds S q x, ds.length = ps.length → sp ds S q x → t (Ends0 q x) (start3 N ds) S) : FnG C P w K mg base (k + 1) f (PySem.W.fnOf name qual params body scope dV kV doc pm an cdv ct) ps sp := by
  refine ⟨fun A outer s H args us vs Q E hr hgd e0 hb r ⟨ι, S0, ds, q, x, st, tb, rd, hl, h, pq, px⟩ => ?_⟩
  refine LamX.run_ofS lk hcd S hr e0 hb r (by rw [rd.length]; exact hl) fun hr' => ⟨_, hbody A outer s H E hr' ?_, ?_⟩
  · exact hgd
  · exact liftS_mk (G := ⟨K, C.cls, C.T⟩) ⟨st, start_rel rd, tb⟩ (hsp ds S0 q x hl h) (ends0_all pq px)
theorem pe3_callG {x : PySem.Str} {k : Nat} {f : Addr} {fd : FuncData} {ps : List PySem.Str} {sp : Sp3} (F : FnG C X.prog X.w X.K X.mg X.base k f fd ps sp) (hgd : X.A.guards = some []) (hr : Room k X.A) (hg : Gl X x) (hm : X.mg x = some (.ref f)) (hk : PySem.W.keepIn X.K (.ref f) = true) (hb : L2.Binds X.K fd ps []) (tk : Takes X W)
    (ha : PA3 C X W (e :: es) wr) (hdb : (x == ("__debug__" : PySem.Str)) = false := by decide) (he : starEach (e :: es) X.env = (false, eval e X.env) :: starEach es X.env := by rfl) (hpl : (backTo pos (starEach es X.env)).any (·.1) = false := by rfl) :
    PE3 C X W (.Call (.Name x p) (e :: es) [] pos) (wCall sp ps.length wr) := ⟨fun pins s σ H Q I ⟨ι, S, ρ, q, y, R, h, pq, px⟩ => by
  refine wpAny_Call_Name_kw (ld_glob I hg hm ?_ hdb)
  refine PySem.W.callWith_K (h₀ := X.base) I.ok.mod.kin hk (thn (ha.run pos pins s σ H (fun vs H1 => liftSp (gx C X) ps.length sp vs H1 Q (L2.WE W σ)) I ⟨ι, S, ρ, _, y, R, h, fun ds S1 ι1 H1 vs h1 e1 st1 rds => ⟨ι1, S1, ds, q, y, st1, e1.tabs R.tb, rds, h1.1, h1.2, pq.ext e1, px.ext e1⟩, px⟩) fun us s1 ⟨vs, H1, I1, r, hsp⟩ => ⟨I1.kIn, ?_⟩) he hpl
  have hl : us.length = ps.length := by
    obtain ⟨_, _, ds, _, _, _, _, rd, hl, _⟩ := hsp
    rw [← r.length, rd.length]
    exact hl
  have bd := hb s1 us I1.kIn (by rw [List.append_nil]; exact hl)
  rw [List.append_nil] at bd
  refine wpAny_call (codeAny_mono (F.run X.A X.stack s1 H1 ⟨us, []⟩ us vs Q (L2.WE W σ) hr hgd I1.env0 bd r hsp) fun r s' hq => ?_)
  cases r with
  | error er => exact passAt tk σ pins H1 s1 er s' I1 hq
  | ok fl =>
    cases fl with
    | ret u => exact I1.after hq
    | next => exact False.elim hq
    | brk => exact False.elim hq
    | cont => exact False.elim hq⟩
end

/-! ### the law's end -/
theorem law_ends {P : Program} {w : World} {K : PySem.W.Frag} {mg mb : PySem.Str → Option Value} {CX : CXT} {fa a : Addr} {cs : List (Addr × Addr)} {s₁ : Shared} {vs : List Value} {ns : List Int}
    (KX : K.In s₁.heap) (hns : s₁.heap.Ns mainGlobals mg) (hb : s₁.heap.Ns builtinsNs mb) (hbb : ∀ x : PySem.Str, x ≠ "__name__" → mb x = bootBuiltins x) (hlim : s₁.heap.NoLimit) (hg : s₁.gens = #[])
    (hT : ∀ p ∈ cs, s₁.heap.get? p.2 = some { cls := .none, data := .fields #[] }) (nT : ∀ p ∈ cs, K.lookup p.2 = none) (C : ∀ p ∈ cs, PySem.W.CodeHd s₁.heap p.1 p.2)
    (hbm : ∃ (bm : Addr) (ob : Obj), mg "__builtins__" = some (.ref bm) ∧ bm ≠ builtinsNs ∧ s₁.heap.get? bm = some ob ∧ ob.cls = .type "module" ∧ ob.dict = some builtinsNs ∧ ob.data = .plain)
    (ha : s₁.heap.get? a = some { cls := .type "list", data := .seq vs.toArray }) (hi : IntsAre vs ns) (hl : ns.length ≤ sizeLine)
    (run : ∀ (base : Heap) (H : Hp), (∀ p ∈ cs, LamX.TabB base mg p.1 p.2) → Env0 P w K mg base callerA [] s₁ H → (∀ p ∈ cs, H p.2 = some (.tbl #[])) → SqL K H a (ns.map V.int) → (∀ b ps, H b = some (.tbl ps) → b ∈ cs.map (·.2)) →
      codeAny (model P w) callerA (.call (.ref fa) ⟨[.ref a], []⟩) (CR CX [] P w H s₁ (fun v _ => v = .bl true) fun _ _ _ => False) s₁)
    (hCX : ∀ H e s', CX [] H s₁ (fun _ _ _ => False) e s' → False) :
    codeAny (model P w) callerA (.call (.ref fa) ⟨[.ref a], []⟩) (fun r s' => r = .ok (.ret (.bool true)) ∧ OldK s₁.heap s'.heap ∧ s'.os = s₁.os ∧ AllBare s'.gens) s₁ := by
  have rv := vals_ints hi
  have lenV := hi.length
  have isT : ∀ b : Addr, b ∈ cs.map (·.2) → s₁.heap.get? b = some { cls := .none, data := .fields #[] } := fun b hb => by
    obtain ⟨p, hp, e⟩ := List.mem_map.mp hb
    rw [← e]
    exact hT p hp
  have aT : a ∉ cs.map (·.2) := fun z => by
    have q := isT a z
    rw [ha] at q
    have z' : Data.seq vs.toArray _ = Data.fields #[] := congrArg Obj.data (Option.some.inj q)
    cases z'
  have memT : ∀ p ∈ cs, p.2 ∈ cs.map (·.2) := fun p hp => List.mem_map.mpr ⟨p, hp, rfl⟩
  -- from an abstract heap in which nothing but the script and the tables may be tracked
  have core : ∀ H : Hp, (∀ p ∈ cs, H p.2 = some (.tbl #[])) → (∀ b, H b = none ∨ b ∈ cs.map (·.2) ∨ ∃ o xs, H b = some (.frz o (.lst xs))) → SqL K H a (ns.map V.int) → HOk P w H s₁.heap → (∀ b, H b ≠ none → b = a ∨ b ∈ cs.map (·.2)) → (H a ≠ none → K.lookup a = none) →
      codeAny (model P w) callerA (.call (.ref fa) ⟨[.ref a], []⟩) (fun r s' => r = .ok (.ret (.bool true)) ∧ OldK s₁.heap s'.heap ∧ s'.os = s₁.os ∧ AllBare s'.gens) s₁ := by
    intro H hH hO hS hok hA hK
    have base_of : ∀ {b : Addr} {o : Obj}, s₁.heap.get? b = some o → H b = none → (hidT s₁.heap H).get? b = some o := fun e n => hidT_get e n
    have noD : ∀ {b : Addr} {o : Obj}, s₁.heap.get? b = some o → (∀ vs n, o.data ≠ .seq vs n) → o.data ≠ .fields #[] → H b = none := fun {b o} e h1 h2 => by
      cases q : H b with
      | none => rfl
      | some u =>
        rcases hA b (by rw [q]; simp) with e' | e'
        · rw [e', ha] at e
          cases e
          exact (h1 _ _ rfl).elim
        · rw [isT b e'] at e
          cases e
          exact (h2 rfl).elim
    have noA : ∀ {b : Addr} {o : Obj} {es : Array DictEntry} {ep : Nat}, s₁.heap.get? b = some o → o.data = .dict es ep → H b = none := fun {b o es ep} e d => by
      refine noD e (fun vs n z => ?_) fun z => ?_
      · rw [d] at z
        cases z
      · rw [d] at z
        cases z
    have nsK : ∀ {b : Addr} {m : PySem.Str → Option Value}, s₁.heap.Ns b m → (hidT s₁.heap H).Ns b m := fun {b m} ⟨o, es, ep, e, d, r⟩ => ⟨o, es, ep, base_of e (noA e d), d, r⟩
    have hKb : K.In (hidT s₁.heap H) := fun b o e => base_of (KX b o e) (by
      cases q : H b with
      | none => rfl
      | some u =>
        rcases hA b (by rw [q]; simp) with e' | e'
        · rw [e'] at e q
          rw [hK (by rw [q]; simp)] at e
          cases e
        · obtain ⟨p, hp, ep⟩ := List.mem_map.mp e'
          rw [← ep, nT p hp] at e
          cases e)
    have hM : L2.Mod K mg (hidT s₁.heap H) := ⟨hKb, nsK hns, ⟨mb, nsK hb, hbb⟩, let ⟨mc, h1, h2⟩ := hlim; ⟨mc, nsK h1, h2⟩⟩
    have TB : ∀ p ∈ cs, LamX.TabB (hidT s₁.heap H) mg p.1 p.2 := fun p hp => by
      have hTp := hT p hp
      refine ⟨?_, ?_, fun z => ?_⟩
      · obtain ⟨o, us, file, tf, flags, tg, inF, text, tt, e1, r1, r2, r3, r4, r5, r6, r7, r8, hne⟩ := C p hp
        refine ⟨o, us, file, tf, flags, tg, inF, text, tt, base_of e1 (noD e1 (fun vs n z => ?_) fun z => ?_), r1, r2, r3, r4, r5, r6, r7, r8, hne⟩
        · rw [r2] at z
          cases z
        · rw [r2] at z
          cases z
          simp at r3
      · obtain ⟨bm, ob, b1, b2, b3, b4, b5, b6⟩ := hbm
        have nG : bm ≠ mainGlobals := fun q => by
          obtain ⟨o, es, ep, e, hd, _⟩ := hns
          rw [q, e] at b3
          cases b3
          rw [hd] at b6
          cases b6
        have nP : bm ≠ p.2 := fun q => by
          rw [q, hTp] at b3
          cases b3
          cases b6
        refine ⟨bm, ob, b1, b2, nG, nP, base_of b3 (noD b3 (fun vs n z => ?_) fun z => ?_), b4, b5, b6⟩
        · rw [b6] at z
          cases z
        · rw [b6] at z
          cases z
      · obtain ⟨o, es, ep, e, hd, _⟩ := hns
        rw [z, hTp] at e
        cases e
        cases hd
    have e0 : Env0 P w K mg (hidT s₁.heap H) callerA [] s₁ H := ⟨rfl, hM, fun b o e => of_hidT e, Nat.le_of_eq (hidT_size _ _), trivial, fun b hb => absurd (show b ∈ ([] : List Addr) from hb) (by simp), hok, .of_eq hg⟩
    refine codeAny_mono (run _ H TB e0 hH hS fun b ps z => ?_) fun r s' h => ?_
    · rcases hO b with q | q | ⟨ob, xs, q⟩
      · rw [q] at z
        cases z
      · exact q
      · rw [q] at z
        cases z
    cases r with
    | error e => exact (hCX H e s' h).elim
    | ok fl =>
      cases fl with
      | next => exact False.elim h
      | brk => exact False.elim h
      | cont => exact False.elim h
      | ret u =>
        obtain ⟨v, H', os, bare, un, hok', r', q⟩ := h
        have q' : v = .bl true := q
        subst q'
        obtain rfl : u = Value.bool true := r'
        have key : ∀ b o, b ∉ cs.map (·.2) → s₁.heap.get? b = some o → s'.heap.get? b = some o := fun b o nb e => by
          cases q : H b with
          | none => exact un.keep b o e q (by intro z; exact absurd (show b ∈ ([] : List Addr) from z) (by simp)) (by simp)
          | some u =>
            rcases hO b with z | z | ⟨ob, xs, z⟩
            · rw [q] at z; cases z
            · exact absurd z nb
            · have z2 := un.frzs b ob _ z
              obtain ⟨e1, _⟩ := hok b _ z
              obtain ⟨e2, _⟩ := hok' b _ z2
              rw [e] at e1; cases e1
              exact e2
        have grown : ∀ p ∈ cs, ∃ more : Array Value, s'.heap.get? p.2 = some { cls := .none, data := .fields more } := fun p hp => by
          obtain ⟨more, z⟩ := un.tbls p.2 #[] (hH p hp)
          exact ⟨_, hok' p.2 _ z⟩
        refine ⟨rfl, ⟨fun b o e => ?_, fun b o e => ?_⟩, os, bare⟩
        · by_cases hb : b ∈ cs.map (·.2)
          · obtain ⟨p, hp, ep⟩ := List.mem_map.mp hb
            obtain ⟨more, hm⟩ := grown p hp
            rw [← ep] at e ⊢
            rw [hT p hp] at e
            cases e
            exact .inr (.inl ⟨((C p hp).tab (hT p hp)).isCodeTable, rfl, #[], more, rfl, by rw [Array.empty_append]; exact hm⟩)
          · exact .inl (key b o hb e)
        · by_cases hb : b ∈ cs.map (·.2)
          · obtain ⟨p, hp, ep⟩ := List.mem_map.mp hb
            obtain ⟨more, hm⟩ := grown p hp
            rw [← ep]
            exact ⟨_, hm⟩
          · exact ⟨o, key b o hb e⟩
  cases hk : K.lookup a with
  | some o =>
    have e := KX a o hk
    rw [ha] at e
    cases e
    refine core (fun b => if b ∈ cs.map (·.2) then some (.tbl #[]) else none) (fun p hp => if_pos (memT p hp)) (fun b => ?_) (.inr ⟨_, vs.toArray, _, hk, rfl, rfl, rfl, by rw [List.size_toArray, lenV]; exact hl, by simpa using rv⟩) (fun b u z => ?_) (fun b z => ?_) fun z => absurd (show (if a ∈ cs.map (·.2) then some (HO.tbl #[]) else none) = none from if_neg aT) z
    · by_cases hb : b ∈ cs.map (·.2)
      · exact .inr (.inl hb)
      · exact .inl (if_neg hb)
    · by_cases hb : b ∈ cs.map (·.2)
      · have z' := (if_pos hb).symm.trans z
        cases z'
        exact isT b hb
      · have z' := (if_neg hb).symm.trans z
        cases z'
    · by_cases hb : b ∈ cs.map (·.2)
      · exact .inr hb
      · exact absurd (if_neg hb) z
  | none =>
    refine core (fun b => if b = a then some (.frz { cls := .type "list", data := .seq vs.toArray } (.lst (ns.map V.int))) else if b ∈ cs.map (·.2) then some (.tbl #[]) else none) (fun p hp => (if_neg (show ¬ p.2 = a from fun z => aT (by rw [← z]; exact memT p hp))).trans (if_pos (memT p hp))) (fun b => ?_)
      (.inl (.inr ⟨{ cls := .type "list", data := .seq vs.toArray }, if_pos rfl⟩)) (fun b u z => ?_) (fun b z => ?_) fun _ => hk
    · by_cases hb : b = a
      · exact .inr (.inr ⟨_, _, if_pos hb⟩)
      · by_cases hb2 : b ∈ cs.map (·.2)
        · exact .inr (.inl hb2)
        · exact .inl ((if_neg hb).trans (if_neg hb2))
    · by_cases hb : b = a
      · have z' := (if_pos hb).symm.trans z
        cases z'
        rw [hb]
        exact ⟨ha, by rw [List.length_map]; exact hl, vs, _, rv, ha⟩
      · have z1 := (if_neg hb).symm.trans z
        by_cases hb2 : b ∈ cs.map (·.2)
        · have z' := (if_pos hb2).symm.trans z1
          cases z'
          exact isT b hb2
        · have z' := (if_neg hb2).symm.trans z1
          cases z'
    · by_cases hb : b = a
      · exact .inl hb
      · by_cases hb2 : b ∈ cs.map (·.2)
        · exact .inr hb2
        · exact absurd ((if_neg hb).trans (if_neg hb2)) z
/-- what is known of the law's promise at the head's heap -/
def LawG (l : PySem.W.OpenLaw) (w : World) (K : PySem.W.Frag) (k n : Nat) (x : PySem.Str) (mg : PySem.Str → Option Value) (fa : Addr) (h : Heap) : Prop :=
  ∃ (C : Cl) (fd : FuncData) (cs : List (Addr × Addr)) (sp : Sp3), (∀ p ∈ cs, h.get? p.2 = some { cls := .none, data := .fields #[] }) ∧ (∀ p ∈ cs, K.lookup p.2 = none) ∧ (∀ p ∈ cs, PySem.W.CodeHd h p.1 p.2) ∧ (∀ (s : Shared) (u : Value), BindsTo s fd ⟨[u], []⟩ [(x, u)]) ∧
    (∀ p ∈ C.T, ∃ c, (c, p.1) ∈ cs) ∧
    (∀ (ns : List Int), ns.length ≤ n → (∀ z ∈ ns, Builtin.Int.intBits z ≤ 1048576) → sp [.fl (ns.map D.int)] [] (fun d _ => d = .bl true) fun _ _ _ => False) ∧
    ∀ base : Heap, K.In base → base.Ns mainGlobals mg → (∀ p ∈ cs, LamX.TabB base mg p.1 p.2) → FnG C l.prog w K mg base k fa fd [x] sp
theorem walkG {l : PySem.W.OpenLaw} {n k : Nat} {q : Program} {loose : List PySem.Str} {XP : (PySem.Str → Option Value) → Heap → Prop} {YP : World → Heap → Prop} {d : DefRec} {x : PySem.Str}
    (hn : l.most = some n) (hn2 : n ≤ sizeLine) (hdf : d.params.defaults = []) (hr : Room k callerA)
    (F : ∀ (w : World) (mg : PySem.Str → Option Value) (fa : Addr) (h : Heap), YP w h → h.Ns mainGlobals mg → mg d.name = some (.ref fa) → ∃ K : PySem.W.Frag, K.In h ∧ LawG l w K k n x mg fa h) :
    PySem.W.WalkO q loose XP YP l.row.toRowW d [] (fun f vs => PySem.call f vs) := by
  refine Att.attach_callB hn hdf fun w s₀ s₁ mg mb fa o pm cd doc a vs ns G Y ho hd hcd hmg hobj hints hlen hbits hg => ?_
  obtain ⟨K, KX, C, fd, cs, sp, hT, nT, hC, hb, hTc, hsp, hF⟩ := F w mg fa _ Y G.T.g hmg
  refine law_ends (CX := L2.CX l.prog w) KX G.T.g G.T.b G.T.builtins G.T.nolimit hg hT nT hC G.T.bmain hobj hints (Nat.le_trans hlen hn2) (fun base H TB e0 hH hS hO => ?_) fun H e s' ⟨_, _, _, _, _, _, _, _, _, _, _, _, z⟩ => z
  refine (hF base e0.mod.kin e0.mod.glob TB).run callerA [] s₁ H ⟨[.ref a], []⟩ [.ref a] [.ref a] _ _ hr rfl e0 (hb s₁ (.ref a)) (.cons rfl .nil) ?_
  refine ⟨[], [], [.fl (ns.map D.int)], _, _, ⟨.nil, rfl, fun n o a h => by simp at h⟩, fun p hp => ?_, ?_, rfl, hsp ns hlen hbits, fun d S' ι' H' v hd _ _ rd => ?_, fun _ _ _ _ _ _ _ z => z.elim⟩
  · obtain ⟨c, hc⟩ := hTc p hp
    exact LamX.TabS.nil (hH _ hc)
  · refine .cons ?_ .nil
    unfold RelD
    refine ⟨a, ns.map V.int, rfl, ?_, RelDs.map_of D.int V.int (fun i => rel_int i) ns⟩
    rcases hS with z | z
    · exact .inl ⟨z, by simp⟩
    · exact .inr (.inr z)
  · subst hd
    exact rd.bl_
end L3

set_option Elab.async false
set_option linter.all false
set_option maxRecDepth 100000
set_option maxHeartbeats 4000000
/-! L3: words for a def's derivation; defs by name. -/
namespace L3
open PySem PySem.Spec PyProof.Rows L2
open LamX (Tabs TabS CodeO)

theorem room65 {k : Nat} {A : Around} (r : Room k A) : A.units + 65 < cLine := by have := r.un; omega
theorem room64 {k : Nat} {A : Around} (r : Room k A) : A.units + 64 < cLine := by have := r.un; omega
theorem room50 {k : Nat} {A : Around} (r : Room k A) : A.units + 50 < cLine := by have := r.un; omega
theorem room1 {k : Nat} {A : Around} (r : Room k A) : A.units + 1 < cLine := by have := r.un; omega

section
variable {C : Cl} {X : Cx} {W : WX} {e : Expr} {es : List Expr} {wr : WA} {pos p : Pos} {x : PySem.Str}
/-! ### names, constants -/
theorem v3 {i : Nat} (hN : X.N[i]? = some x := by rfl) (hv : Vis X.env.scope x := by first | exact .inl rfl | exact .inr (.inl rfl) | exact .inr (.inr rfl)) (hd : (x == ("__debug__" : PySem.Str)) = false := by decide) (hcd : (x == ("__classdict__" : PySem.Str)) = false := by decide) : PE3 C X W (.Name x pos) (wVar i) :=
  pe3_var (pe_var hN hv hd hcd)
theorem k3i {i : Int} {j} : PE3 C X W (.Constant (.int i) j pos) (wC (.int i)) := pe3_c pe_int fun _ _ => rel_int i
theorem k3b {i : Bool} {j} : PE3 C X W (.Constant (.bool i) j pos) (wC (.bl i)) := pe3_c pe_bl fun _ _ => rel_bl i
theorem k3n {j} : PE3 C X W (.Constant .none j pos) (wC .non) := pe3_c pe_non fun _ _ => rel_non
theorem k3s {z : PySem.Str} {j} (o : PyData.strOk z = true := by decide +kernel) : PE3 C X W (.Constant (.str z) j pos) (wC (.str z)) := pe3_c pe_str fun _ _ => by unfold RelD; exact ⟨rfl, o⟩
theorem g3s {z : PySem.Str} (h : ∃ t, X.mg x = some (.str z t)) (o : PyData.strOk z = true) (hg : Gl X x := by rfl) (hd : (x == ("__debug__" : PySem.Str)) = false := by decide) : PE3 C X W (.Name x pos) (wC (.str z)) := by
  obtain ⟨t, hm⟩ := h
  exact pe3_c (pe_glob hg hm (show L2.RelV (.str z) (.str z t) from ⟨t, rfl⟩) hd) fun _ _ => by unfold RelD; exact ⟨rfl, o⟩
theorem g3i {z : Int} (h : ∃ t, X.mg x = some (.int z t)) (hg : Gl X x := by rfl) (hd : (x == ("__debug__" : PySem.Str)) = false := by decide) : PE3 C X W (.Name x pos) (wC (.int z)) := by
  obtain ⟨t, hm⟩ := h
  exact pe3_c (pe_glob hg hm (show L2.RelV (.int z) (.int z t) from ⟨t, rfl⟩) hd) fun _ _ => rel_int z
/-- a tuple of the module -/
theorem g3t {ds : List D} {xs : List V} {a : Addr} (hm : X.mg x = some (.ref a)) (ht : SqT X.K (fun _ => none) a xs) (r : ∀ ι H, RelDs X.K ι H ds xs) (hg : Gl X x := by rfl) (hd : (x == ("__debug__" : PySem.Str)) = false := by decide) : PE3 C X W (.Name x pos) (wC (.tup ds)) :=
  pe3_c (pe_glob hg hm (show L2.RelV (.ref a) (.ref a) from rfl) hd) fun ι H => by
    unfold RelD
    exact ⟨a, xs, rfl, .inr ht, r ι H⟩
theorem relS {K : PySem.W.Frag} {ι : List Addr} {H : Hp} : ∀ {l : List PySem.Str}, (l.all fun z => PyData.strOk z) = true → RelDs K ι H (l.map D.str) (l.map V.str)
  | [], _ => .nil
  | z :: l, h => by
    rw [List.all_cons, Bool.and_eq_true] at h
    exact .cons (by unfold RelD; exact ⟨rfl, h.1⟩) (relS h.2)
/-- a built-in type as a value -/
theorem ty3 {n : String} (hm : X.mg x = none) (hv : bootBuiltins x = some (.type n)) (hg : Gl X x := by rfl) (hn : x ≠ "__name__" := by decide) (hd : (x == ("__debug__" : PySem.Str)) = false := by decide) : PE3 C X W (.Name x pos) (wC (.ty n)) :=
  pe3_c (pe_bltn hg hm hv (show L2.RelV (.ty n) (.type n) from rfl) hn hd) fun _ _ => by unfold RelD; rfl
end

/-! ### defs by name -/
structure Def3 (C : Cl) (P : Program) (w : World) (K : PySem.W.Frag) (mg : PySem.Str → Option Value) (base : Heap) (k : Nat) (x : PySem.Str) (ps : List PySem.Str) (sp : Sp3) : Prop where
  ex : ∃ f fd, Fn3 C P w K mg base k f fd ps sp ∧ mg x = some (.ref f) ∧ PySem.W.keepIn K (.ref f) = true ∧ L2.Binds K fd ps []
structure DefG (C : Cl) (P : Program) (w : World) (K : PySem.W.Frag) (mg : PySem.Str → Option Value) (base : Heap) (k : Nat) (x : PySem.Str) (ps : List PySem.Str) (sp : Sp3) : Prop where
  ex : ∃ f fd, FnG C P w K mg base k f fd ps sp ∧ mg x = some (.ref f) ∧ PySem.W.keepIn K (.ref f) = true ∧ L2.Binds K fd ps []
section
variable {C : Cl} {X : Cx} {W : WX} {e : Expr} {es : List Expr} {wr : WA} {pos p : Pos} {x : PySem.Str} {k : Nat} {ps : List PySem.Str} {sp : Sp3}
theorem pe3_def {n : Nat} (D : Def3 C X.prog X.w X.K X.mg X.base k x ps sp) (hr : Room k X.A) (tk : Takes X W) (ha : PA3 C X W (e :: es) wr) (hg : Gl X x := by rfl) (hdb : (x == ("__debug__" : PySem.Str)) = false := by decide)
    (he : starEach (e :: es) X.env = (false, eval e X.env) :: starEach es X.env := by rfl) (hpl : (backTo pos (starEach es X.env)).any (·.1) = false := by rfl) (hn : ps.length = n := by rfl) : PE3 C X W (.Call (.Name x p) (e :: es) [] pos) (wCall sp n wr) := by
  subst hn
  obtain ⟨f, fd, F, hm, hk, hb⟩ := D.ex
  exact pe3_call F hr hg hm hk hb tk ha hdb he hpl
theorem pe3_def0 (D : Def3 C X.prog X.w X.K X.mg X.base k x [] sp) (hr : Room k X.A) (tk : Takes X W) (hg : Gl X x := by rfl) (hdb : (x == ("__debug__" : PySem.Str)) = false := by decide) : PE3 C X W (.Call (.Name x p) [] [] pos) (wCall sp 0 wNil) := by
  obtain ⟨f, fd, F, hm, hk, hb⟩ := D.ex
  exact pe3_call0 F hr hg hm hk hb tk hdb
theorem pe3_defG {n : Nat} (D : DefG C X.prog X.w X.K X.mg X.base k x ps sp) (hgd : X.A.guards = some []) (hr : Room k X.A) (tk : Takes X W) (ha : PA3 C X W (e :: es) wr) (hg : Gl X x := by rfl) (hdb : (x == ("__debug__" : PySem.Str)) = false := by decide)
    (he : starEach (e :: es) X.env = (false, eval e X.env) :: starEach es X.env := by rfl) (hpl : (backTo pos (starEach es X.env)).any (·.1) = false := by rfl) (hn : ps.length = n := by rfl) : PE3 C X W (.Call (.Name x p) (e :: es) [] pos) (wCall sp n wr) := by
  subst hn
  obtain ⟨f, fd, F, hm, hk, hb⟩ := D.ex
  exact pe3_callG F hgd hr hg hm hk hb tk ha hdb he hpl
theorem Def3.imp {P : Program} {w : World} {K : PySem.W.Frag} {mg : PySem.Str → Option Value} {base : Heap} {sp' : Sp3} (D : Def3 C P w K mg base k x ps sp) (h : ∀ ds S q x, sp' ds S q x → sp ds S q x) : Def3 C P w K mg base k x ps sp' := by
  obtain ⟨f, fd, F, hm, hk, hb⟩ := D.ex
  exact ⟨f, fd, F.imp h, hm, hk, hb⟩
end
section
variable {C : Cl} {P : Program} {w : World} {K : PySem.W.Frag} {mg : PySem.Str → Option Value} {base : Heap} {k : Nat} {x : PySem.Str} {ps N : List PySem.Str} {sp : Sp3} {params : Arguments} {body : List Stmt} {scope : Scope} {f : Addr} {fd : FuncData}
abbrev BindsBy (x : PySem.Str) (params : Arguments) (body : List Stmt) (scope : Scope) (ps : List PySem.Str) : Prop := ∀ (kV doc pm : Value) (an : Option Addr) (cdv ct : Value) (us : List Value), us.length = ps.length → bindArgs (PySem.W.fnOf x x params body scope .none kV doc pm an cdv ct) ⟨us, []⟩ = pure (ps.zip us)
theorem def3_of (F : FunD K x x params body scope [] [] f fd) (hm : mg x = some (.ref f)) (S : FnScope N ps scope) (hb : BindsBy x params body scope ps)
    (h : ∃ t, (∀ (cdv : Value) (A : Around) (outer : List Env) (s : Shared) (H : Hp) (E : XK), Room k (A.deeper (envOfC x scope s.heap.objs.size f cdv)) → PSs3 C (cxOf (L2.CX P w) P w K mg base N x scope f cdv A outer s H E) (WX0 E) body t) ∧
      ∀ ds S q x', ds.length = ps.length → sp ds S q x' → t (Ends0 q x') (start3 N ds) S) : Def3 C P w K mg base (k + 1) x ps sp := by
  obtain ⟨t, ht, hs⟩ := h
  have bd := F.bindsN (ps := ps) hb
  obtain ⟨oc, od, dV, kV, doc, pm, an, cdv, ct, osl, rfl, lk, hcd, _, _⟩ := F.ex
  exact ⟨f, _, fn3_of lk hcd S (fun A outer s H E hr => ht cdv A outer s H E hr) hs, hm, F.kp, bd⟩
theorem defG_of (F : FunD K x x params body scope [] [] f fd) (hm : mg x = some (.ref f)) (hf : f = He.fAd K (x, none)) (S : FnScope N ps scope) (hb : BindsBy x params body scope ps)
    (h : ∃ t, (∀ (cdv : Value) (A : Around) (outer : List Env) (s : Shared) (H : Hp) (E : XK), cdv = .ref (He.codeOf K (x, none)) → Room k (A.deeper (envOfC x scope s.heap.objs.size f cdv)) → (cxOf (L2.CX P w) P w K mg base N x scope f cdv A outer s H E).A.guards = some [] →
        PSs3 C (cxOf (L2.CX P w) P w K mg base N x scope f cdv A outer s H E) (WX0 E) body t) ∧
      ∀ ds S q x', ds.length = ps.length → sp ds S q x' → t (Ends0 q x') (start3 N ds) S) : FnG C P w K mg base (k + 1) f fd ps sp ∧ DefG C P w K mg base (k + 1) x ps sp := by
  obtain ⟨t, ht, hs⟩ := h
  have bd := F.bindsN (ps := ps) hb
  obtain ⟨oc, od, dV, kV, doc, pm, an, cdv, ct, osl, rfl, lk, hcd, _, _⟩ := F.ex
  have ec : cdv = .ref (He.codeOf K (x, none)) := by
    obtain ⟨c, ec⟩ := He.codeIn_ref hcd
    rw [hf] at lk
    rw [He.codeOf_eq lk ec]
    exact ec
  have g := fnG_of lk hcd S (fun A outer s H E hr hgd => ht cdv A outer s H E ec hr hgd) hs
  exact ⟨g, f, _, g, hm, F.kp, bd⟩
end
end L3

set_option Elab.async false
set_option linter.all false
set_option maxRecDepth 100000
set_option maxHeartbeats 4000000
/-! L3: names for the printed derivations. -/
namespace L3
open PySem PySem.Spec PyProof.Rows L2
theorem bt_len : bootBuiltins "len" = some (.builtin "len") := by decide +kernel
theorem bt_abs : bootBuiltins "abs" = some (.builtin "abs") := by decide +kernel
theorem bt_min : bootBuiltins "min" = some (.builtin "min") := by decide +kernel
theorem bt_max : bootBuiltins "max" = some (.builtin "max") := by decide +kernel
theorem bt_all : bootBuiltins "all" = some (.builtin "all") := by decide +kernel
theorem bt_any : bootBuiltins "any" = some (.builtin "any") := by decide +kernel
theorem bt_isinstance : bootBuiltins "isinstance" = some (.builtin "isinstance") := by decide +kernel
theorem bt_int : bootBuiltins "int" = some (.type "int") := by decide +kernel
theorem bt_bool : bootBuiltins "bool" = some (.type "bool") := by decide +kernel
theorem bt_str : bootBuiltins "str" = some (.type "str") := by decide +kernel
theorem bt_tuple : bootBuiltins "tuple" = some (.type "tuple") := by decide +kernel
theorem bt_list : bootBuiltins "list" = some (.type "list") := by decide +kernel
theorem bt_dict : bootBuiltins "dict" = some (.type "dict") := by decide +kernel
section
variable {C : Cl} {X : Cx} {W : WX} {e a b : Expr} {es : List Expr} {wa wb wo : WE} {wr : WA} {pos p cpos apos : Pos} {k : Nat}
theorem in3f (hr : Room k X.A) : OpR3 C X (compareOp .In) (inD false) := in3 false (room65 hr)
theorem in3t (hr : Room k X.A) : OpR3 C X (compareOp .NotIn) (inD true) := in3 true (room65 hr)
theorem is3f : OpR3 C X (compareOp .Is) (isD false) := is3 false
theorem is3t : OpR3 C X (compareOp .IsNot) (isD true) := is3 true
theorem eq3r (hr : Room k X.A) : OpR3 C X (compareOp .Eq) eqD := eq3 (room64 hr)
theorem ne3r (hr : Room k X.A) : OpR3 C X (compareOp .NotEq) neD := ne3 (room64 hr)
theorem ix3r (hr : Room k X.A) (ha : PE3 C X W a wa) (hb : PE3 C X W b wb) (hs : PlainIx b := by intro _ _; rfl) : PE3 C X W (.Subscript a b pos) (wOp ixD wa wb) := pe3_ix (room1 hr) ha hb hs
end
end L3
namespace L3
open PySem PySem.Spec PyProof.Rows L2
section
variable {C : Cl} {X : Cx} {W : WX} {pos : Pos} {x : PySem.Str}
theorem g3tS {l : List PySem.Str} (h : ∃ a, X.mg x = some (.ref a) ∧ SqT X.K (fun _ => none) a (l.map V.str)) (o : (l.all fun z => PyData.strOk z) = true) (hg : Gl X x := by rfl) (hd : (x == ("__debug__" : PySem.Str)) = false := by decide) : PE3 C X W (.Name x pos) (wC (.tup (l.map D.str))) := by
  obtain ⟨a, hm, ht⟩ := h
  exact g3t hm ht (fun _ _ => relS o) hg hd
end
/-! ### _law_caught -/
/-- what the module says of _law_caught, of the tables; x: the def that hands a lambda over -/
structure LamC (C : Cl) (K : PySem.W.Frag) (mg : PySem.Str → Option Value) (base : Heap) (ok : PySem.Str → Bool) (stC : Stmt) (x : PySem.Str) : Prop where
  fn : ∃ fd, FunD K "_law_caught" "_law_caught" (defArgs stC) (defBody stC) (defScope stC) [] [] (He.ga K "_law_caught") fd
  mg_ : mg "_law_caught" = some (.ref (He.ga K "_law_caught"))
  se : mg "StackError" = some (.ref (He.ga K "StackError"))
  ok_ : ∀ c' Cc, ok c' = true → C.cls c' = some Cc → PySem.W.exmOne K (.ref Cc) (.ref (He.ga K "StackError")) = some true
  tb : LamX.TabB base mg (He.cT K (x, none)).1 (He.cT K (x, none)).2
  mem : ((He.cT K (x, none)).2, x ++ ".<locals>." ++ "<lambda>") ∈ C.T
  uniq : ∀ p ∈ C.T, p.1 = (He.cT K (x, none)).2 → p.2 = x ++ ".<locals>." ++ "<lambda>"
end L3
namespace L3
open PySem PySem.Spec PyProof.Rows L2
theorem lam_caught {C : Cl} {X : Cx} {W : WX} {ok : PySem.Str → Bool} {stC : Stmt} {x : PySem.Str} {w : WE} {k : Nat} {params : Arguments} {body : Expr} {scope : Scope} {p lpos pos : Pos} (L : LamC C X.K X.mg X.base ok stC x)
    (hG : ∀ (q : PySem.Str) (g : Addr) (cdv : Value), LamX.GivesTo X [sWo, sCa, sEr] "_law_caught" (defScope stC) g cdv (defBody stC) sWo q (TCaught X.K (He.ga X.K "StackError"))) (Sg : FnScope [sWo, sCa, sEr] [sWo] (defScope stC)) (hb : BindsBy "_law_caught" (defArgs stC) (defBody stC) (defScope stC) [sWo])
    (hva : Vis (defScope stC) sWo) (ec : X.env.code = .ref (He.codeOf X.K (x, none))) (hq : X.env.qual = x ++ ".<locals>.") (hr : Room (k + 2) X.A) (hg : Gl X "_law_caught")
    (hbody : ∀ (A : Around) (outer : List Env) (s : Shared) (H : Hp) (E : XK) (f c' : Addr), Room k (A.deeper (LamX.lamEnv X scope s.heap.objs.size f c')) → PE3 C (LamX.lamCx X A outer s H E scope f c') (WX0 E) body w)
    (Ls : LamX.LamS X.env.scope scope) (hdef : defaultsOf params X.env = ([], []) := by rfl)
    (hbind : ∀ (q : PySem.Str) (cl : List (PySem.Str × Addr)) (pm cv ctv : Value), bindArgs (PySem.W.kla_fn "<lambda>" q params body scope cl pm cv ctv) ⟨[], []⟩ = pure [] := by intros; rfl) :
    PE3 C X W (.Call (.Name "_law_caught" p) [.Lambda params body scope lpos] [] pos) (wCaught ok w) := by
  obtain ⟨fd, F⟩ := L.fn
  have bd := F.bindsN (ps := [sWo]) hb
  obtain ⟨oc, od, dV, kV, doc, pm, an, cdv, ct, osl, rfl, lk, hcd, _, _⟩ := F.ex
  refine pe3_caught (CS := He.ga X.K "StackError") L.ok_ (fun q => hG q _ _) hg L.mg_ F.kp lk hcd bd Sg hva L.tb ec ?_ (fun p hp e => ?_) hr Ls hdef hbind hbody
  · rw [hq]
    exact L.mem
  · rw [hq]
    exact L.uniq p hp e
end L3

set_option Elab.async false
set_option linter.all false
set_option maxRecDepth 100000
set_option maxHeartbeats 4000000
/-! L3: the head's facts. -/
namespace L3
open PySem PySem.Spec PyProof.Rows L2
open PySem.W (Frag findIn nsIn codeIn keepIn typeIn subIn mroIn kitOne exmOne hasDictIn specialIn takesIn ks_superIn)

/-! ### own exceptions -/
def xcCls (K : Frag) (C : Addr) : Bool := match K.lookup C with
  | some ⟨.type "type", _, .cls cd, sl⟩ => (match cd.mro, sl.toList with
    | .ref C' :: bm, [_, _, _, _, some (.builtin n), _] => C' == C && (n == "ValueError.__new__" && (!cd.hasDel && (cd.hasDict && PySem.HandSPX.refsVE bm)))
    | _, _ => false)
  | _ => false
theorem xcCls_ok {K : Frag} {C : Addr} (h : xcCls K C = true) : ∃ n0 q N bs bm sn sub ab col dd k0 k1 k2 k3 k5, K.lookup C = some (excClassObj n0 q C N bs bm true sn sub ab col dd k0 k1 k2 k3 k5 "ValueError.__new__") ∧ PySem.HandSPX.refsVE bm = true := by
  unfold xcCls at h
  split at h
  · rename_i dd cd sl ho
    split at h
    · rename_i C' bm k0 k1 k2 k3 n k5 hm hs
      simp only [Bool.and_eq_true, beq_iff_eq, Bool.not_eq_true'] at h
      obtain ⟨e1, e2, hdel, hdc, ht⟩ := h
      subst e1 e2
      obtain ⟨nm, bs, mro, ns, qn, hd, sn, sub, ab, col, del⟩ := cd
      dsimp only at hm hdel hdc
      subst hm hdel hdc
      have hsl : sl = #[k0, k1, k2, k3, some (.builtin "ValueError.__new__"), k5] := by
        obtain ⟨l⟩ := sl
        simp only at hs
        rw [hs]
      subst hsl
      exact ⟨_, _, _, _, _, _, _, _, _, _, _, _, _, _, _, ho, ht⟩
    · cases h
  · cases h
/-- the words that isinstance, attributes ask of such a class -/
def excB (K : Frag) (D : Addr) : Bool :=
  decide (findIn K (.ref D) "__getattribute__" = some (some (.builtin "BaseException.__getattribute__"))) && (decide (findIn K (.ref D) "__getattr__" = some none) && (decide (subIn K (.ref D) (.type "BaseException") = some true) && (hasDictIn K D &&
    (decide (findIn K (.ref D) "__class__" = some (some (.builtin "object.__class__"))) && (decide (specialIn K (.builtin "object.__class__") "__get__" = some (some (.builtin "getset_descriptor.__get__"))) && (decide (takesIn K (.builtin "object.__class__") = some true) && decide (mroIn K D (.type "object") = some true)))))))
theorem excB_ok {K : Frag} {D : Addr} (h : excB K D = true) : ExcC K D ∧ XfC K D := by
  unfold excB at h
  simp only [Bool.and_eq_true, decide_eq_true_eq] at h
  obtain ⟨h1, h2, h3, h4, h5, h6, h7, h8⟩ := h
  exact ⟨⟨h1, h2, h3, h4, h5, h6, h7, h8⟩, ⟨h1, h2, h3, h4⟩⟩
/-- .. and raise, super -/
def xcB (K : Frag) (C fI : Addr) (nm : PySem.Str) : Bool :=
  xcCls K C && (decide (findIn K (.ref C) "__setattr__" = some (some (.builtin "object.__setattr__"))) && (decide (findIn K (.ref C) nm = some none) && (decide (findIn K (.ref C) "__init__" = some (some (.ref fI))) && (decide (typeIn K (.ref fI) = some (.type "function")) && (keepIn K (.ref C) &&
    (decide (subIn K (.ref C) (.type "ValueError") = some true) && (decide (typeIn K (.ref C) = some (.type "type")) && (decide (ks_superIn K C C "__init__" = some (some (.builtin "ValueError.__init__"))) && (decide (mroIn K C (.ref C) = some true) && decide (nsIn K cStatics "thirdparty.any" = some none))))))))))
/-- its __init__ -/
abbrev FnCW : Type := Option (PySem.Str × PySem.Str × Arguments × FuncBody × Scope × Addr × List PySem.Str × Addr)
def fnC (K : Frag) (a : Addr) : FnCW := match K.lookup a with
  | some ⟨_, _, .func fd, _⟩ => some (fd.name, fd.qualname, fd.params, fd.body, fd.scope, fd.globals, fd.closure.map (·.1), fd.builtins)
  | _ => none
def initB (P : Program) (K : Frag) (C fI : Addr) (qual : PySem.Str) : Bool := match K.lookup fI with
  | some ⟨_, _, .func fd, _⟩ => (match fd.defaults, fd.kwdefaults, fd.code, fd.closure with
    | .none, .none, .ref cda, [(_, cc)] => codeIn K (.ref cda) qual && ((match K.lookup cda with
      | some ⟨_, _, .fields vs, _⟩ => (match (vs[2]? : Option Value) with
        | some (.str file _) => (P.main.file : PySem.Str) == file
        | _ => false)
      | _ => false) && (match K.lookup cc with
      | some ⟨_, _, .cell (some (.ref D)), _⟩ => D == C
      | _ => false))
    | _, _, _, _ => false)
  | _ => false
/-- one such class: its name, its attribute, the def of its __init__ -/
structure XcD where
  name : PySem.Str
  nm : PySem.Str
  st : Stmt
def XcD.C (K : Frag) (x : XcD) : Addr := He.ga K x.name
def XcD.I (K : Frag) (x : XcD) : Addr := He.ma K (He.ga K x.name) "__init__"
def XcD.ok (P : Program) (K : Frag) (x : XcD) : Bool := excB K (x.C K) && (xcB K (x.C K) (x.I K) x.nm && initB P K (x.C K) (x.I K) (x.name ++ ".__init__"))
def XcD.val (x : XcD) : FnCW := some ("__init__", x.name ++ ".__init__", defArgs x.st, .stmts (defBody x.st), defScope x.st, mainGlobals, ["__class__"], builtinsNs)
/-- what is seen of the text -/
structure XcS (P : Program) (x : XcD) : Prop where
  kSu : (x.nm == ("super" : PySem.Str)) = false
  kCl : (x.nm == ("__class__" : PySem.Str)) = false
  kSe : (x.nm == ("self" : PySem.Str)) = false
  kDb : (x.nm == ("__debug__" : PySem.Str)) = false
  kind : (defScope x.st).kind = .function
  co : (defScope x.st).isCoroutine = false
  gen : (defScope x.st).isGenerator = false
  cell : ∀ y ∈ (defScope x.st).names, y.2 ≠ .cell
  l1 : (defScope x.st).names.lookup ("self" : PySem.Str) = some .local
  l2 : (defScope x.st).names.lookup x.nm = some .local
  l3 : (defScope x.st).names.lookup ("super" : PySem.Str) = some .globalImplicit
  l4 : (defScope x.st).names.lookup ("__class__" : PySem.Str) = some .free
  top : (P.main.scope.names.lookup ("super" : PySem.Str)).isSome = false
  text : ∃ (msg : PySem.Str) (j : Nat) (p1 p2 q1 q2 q3 q4 q5 q6 r1 r2 r3 r4 : Pos), defArgs x.st = XcX.xArgs x.nm p1 p2 ∧ defBody x.st = XcX.xBody x.nm msg j q1 q2 q3 q4 q5 q6 r1 r2 r3 r4 ∧
    (∀ (doc pm : Value) (an : Option Addr) (cda cc : Addr) (ct : Value) (u v : Value), bindArgs (PySem.W.fnX "__init__" (x.name ++ ".__init__") (XcX.xArgs x.nm p1 p2) (XcX.xBody x.nm msg j q1 q2 q3 q4 q5 q6 r1 r2 r3 r4) (defScope x.st) [("__class__", cc)] .none .none doc pm an (.ref cda) ct) ⟨[u, v], []⟩ = pure [((("self" : PySem.Str)), u), (x.nm, v)]) ∧
    ∃ pl : Sem Bool, ∀ env : Env, eval (.Call (.Attribute (.Call (.Name "super" q1) [] [] q2) "__init__" q3) [.Constant (.str msg) j q4] [] q5) env = (do
      let ov ← attributeBase (.Call (.Name "super" q1) [] [] q2) "__init__" env (eval (.Call (.Name "super" q1) [] [] q2) env)
      standAt q3.atName
      let (f, first) ← holding [ov] (getMethod ov "__init__" pl)
      callWith q5 f first (backTo q5 (starEach [.Constant (.str msg) j q4] env)) [])
theorem xct_of {P : Program} {K : Frag} {x : XcD} (S : XcS P x) (h : x.ok P K = true) (e : fnC K (x.I K) = x.val) : XcX.XcTxt P K x.name x.nm (x.C K) (x.I K) := by
  unfold XcD.ok at h
  obtain ⟨h1, h⟩ := Bool.and_eq_true_iff.mp h
  obtain ⟨h2, h3⟩ := Bool.and_eq_true_iff.mp h
  obtain ⟨E1, E2⟩ := excB_ok h1
  unfold xcB at h2
  simp only [Bool.and_eq_true, decide_eq_true_eq] at h2
  obtain ⟨k1, k2, k3, k4, k5, k6, k7, k8, k9, k10, k11⟩ := h2
  refine ⟨xcCls_ok k1, k2, E1.hg, E1.hk, k3, k4, k5, k6, E1.hs, k7, k8, E1.hd, k9, k10, k11, S.kSu, S.kCl, S.kSe, S.kDb, ?_⟩
  obtain ⟨msg, j, p1, p2, q1, q2, q3, q4, q5, q6, r1, r2, r3, r4, ta, tb, tbind, pl, tev⟩ := S.text
  unfold initB at h3
  unfold fnC at e
  split at h3
  · rename_i oc od fd osl ho
    rw [ho] at e
    obtain ⟨n1, n2, n3, n4, n5, n6, n7, n8, n9, n10, n11, n12, n13, n14, n15⟩ := fd
    have e : (some (n1, n2, n3, n4, n5, n6, n7.map (·.1), n15) : FnCW) = x.val := e
    unfold XcD.val at e
    simp only [Option.some.injEq, Prod.mk.injEq] at e
    obtain ⟨a1, a2, a3, a4, a5, a6, a7, a8⟩ := e
    dsimp only at h3
    split at h3
    · rename_i cda y cc
      obtain ⟨c1, h3⟩ := Bool.and_eq_true_iff.mp h3
      obtain ⟨c2, c3⟩ := Bool.and_eq_true_iff.mp h3
      split at c2
      · rename_i ccl cdd vs ccs hcda
        split at c2
        · rename_i file tf hvs
          split at c3
          · rename_i cl cld D csl hcc
            have eD := beq_iff_eq.mp c3
            subst eD
            have ey : y = "__class__" := by simpa using a7
            subst ey a1 a2 a3 a4 a5 a6 a8
            rw [ta, tb] at ho
            exact ⟨oc, od, n10, n11, n12, cda, cc, n14, osl, msg, j, _, p1, p2, q1, q2, q3, q4, q5, q6, r1, r2, r3, r4, ccl, cl, cdd, cld, ccs, csl, vs, file, tf, ho, c1, hcda, hvs, c2, hcc, S.kind, S.co, S.gen, S.cell, S.l1, S.l2, S.l3, S.l4, S.top, fun u v => tbind _ _ _ _ _ _ u v, pl, tev⟩
          · cases c3
        · cases c2
      · cases c2
    · cases h3
  · cases h3

/-! ### the Hook -/
abbrev AlI : Type := He.AlX × List FnCW
/-- the part of the heap that is looked at -/
def frI (n : Nat) (g : Addr → Option Obj) : Frag := He.frT g (He.asD g n ++ [cStatics])
def obsI (n : Nat) (fa : List He.Fa) (fn : List He.DefD) (tf : List He.Defn) (ex : Frag → Bool) (xs : List XcD) (g : Addr → Option Obj) : AlI := ((He.obsT fa fn [] (frI n g), ex (frI n g) && He.tabsB g tf (frI n g)), xs.map fun x => fnC (frI n g) (x.I (frI n g)))
def valI (fn : List He.DefD) (xs : List XcD) (w : World) : AlI := (He.valX fn [] w, xs.map XcD.val)
structure SaysI (fa : List He.Fa) (fn : List He.DefD) (tf : List He.Defn) (ex : Frag → Bool) (xs : List XcD) (w : World) (h : Heap) (K : Frag) : Prop where
  x : He.SaysX fa fn [] tf ex w h K
  i : xs.map (fun x => fnC K (x.I K)) = xs.map XcD.val
theorem saysI_of {n : Nat} {fa : List He.Fa} {fn : List He.DefD} {tf : List He.Defn} {ex : Frag → Bool} {xs : List XcD} {w : World} {h : Heap} (e : obsI n fa fn tf ex xs h.get? = valI fn xs w) : SaysI fa fn tf ex xs w h (frI n h.get?) := by
  have e0 : ((He.obsT fa fn [] (frI n h.get?), ex (frI n h.get?) && He.tabsB h.get? tf (frI n h.get?)) : He.AlX) = He.valX fn [] w := congrArg (fun z : AlI => z.1) e
  have e2 : (ex (frI n h.get?) && He.tabsB h.get? tf (frI n h.get?)) = true := congrArg (fun z : He.AlX => z.2) e0
  obtain ⟨h1, h2⟩ := He.ba e2
  have tabs : ∀ p ∈ tf, PySem.W.codeHdIn (frI n h.get?) (He.cT (frI n h.get?) p).1 (He.cT (frI n h.get?) p).2 = true ∧ ∃ o, h.get? (He.cT (frI n h.get?) p).2 = some o ∧ He.emptyTab o = true := fun p hp => by
    obtain ⟨h3, h4⟩ := He.ba (List.all_eq_true.mp h2 p hp)
    refine ⟨h3, ?_⟩
    cases q : h.get? (He.cT (frI n h.get?) p).2 with
    | none =>
      rw [q] at h4
      cases h4
    | some o =>
      rw [q] at h4
      exact ⟨o, rfl, h4⟩
  refine ⟨⟨congrArg (fun z : He.AlX => z.1) e0, h1, fun p hp => (tabs p hp).1, fun p hp => ?_, fun p hp => ?_⟩, congrArg (fun z : AlI => z.2) e⟩
  · obtain ⟨_, o, q, z⟩ := tabs p hp
    exact He.frT_none q z
  · obtain ⟨_, o, q, z⟩ := tabs p hp
    rw [q, He.emptyTab_eq z]
def hookI (n : Nat) (fa : List He.Fa) (fn : List He.DefD) (tf : List He.Defn) (ex : Frag → Bool) (xs : List XcD) : PySem.W.Hook where
  α := AlI
  obs := fun s => obsI n fa fn tf ex xs s.heap.get?
  val := fun w => valI fn xs w
  says := fun w h => ∃ K : Frag, K.In h ∧ SaysI fa fn tf ex xs w h K
  of := fun _ _ e => ⟨_, He.frT_in, saysI_of e⟩
  keeps := fun _ _ _ ⟨K, hK, c⟩ k => ⟨K, Frag.In.keeps hK k, ⟨⟨c.x.t, c.x.more, c.x.hd, c.x.out, fun p hp => k _ _ (c.x.empty p hp)⟩, c.i⟩⟩
theorem obsI_eq {n : Nat} {fa : List He.Fa} {fn : List He.DefD} {tf : List He.Defn} {ex : Frag → Bool} {xs : List XcD} {g : Addr → Option Obj} {s : Shared} (h : ∀ a, g a = s.heap.get? a) : obsI n fa fn tf ex xs g = (hookI n fa fn tf ex xs).obs s := by
  have e : g = s.heap.get? := funext h
  rw [e] <;> rfl
theorem SaysI.init {fa : List He.Fa} {fn : List He.DefD} {tf : List He.Defn} {ex : Frag → Bool} {xs : List XcD} {w : World} {h : Heap} {K : Frag} (c : SaysI fa fn tf ex xs w h K) {x : XcD} (m : x ∈ xs) : fnC K (x.I K) = x.val := List.map_inj_left.mp c.i x m
end L3
namespace L3
open PySem PySem.Spec PyProof.Rows L2
/-- the first statement of a class's body -/
def initOf (s : Stmt) : Stmt := match s with
  | .ClassDef _ _ _ b _ _ _ _ _ _ _ => b.getD 0 (.Pass ⟨0, 0, 0, 0⟩)
  | _ => .Pass ⟨0, 0, 0, 0⟩
/-- the classes by name -/
def clsOf (ns : List PySem.Str) (K : PySem.W.Frag) (T : List (Addr × PySem.Str)) : Cl := ⟨fun x => if ns.contains x = true then some (He.ga K x) else none, T⟩
theorem clsOf_mem {ns : List PySem.Str} {K : PySem.W.Frag} {T : List (Addr × PySem.Str)} {c : PySem.Str} {a : Addr} (h : (clsOf ns K T).cls c = some a) : c ∈ ns ∧ a = He.ga K c := by
  have h : (if ns.contains c = true then some (He.ga K c) else none) = some a := h
  split at h
  · rename_i q
    cases h
    exact ⟨by simpa using q, rfl⟩
  · cases h
/-- what is asked of each class -/
def clB (K : PySem.W.Frag) (ats : List PySem.Str) (c : PySem.Str) : Bool := excB K (He.ga K c) && (decide (PySem.W.exmOne K (.ref (He.ga K c)) (.ref (He.ga K "StackError")) = some true) && ats.all fun a => decide (PySem.W.findIn K (.ref (He.ga K c)) a = some none))
/-- isinstance's answers for the class D0 -/
def isB (K : PySem.W.Frag) (ns : List PySem.Str) (t : PySem.Str → Option Bool) (D0 : PySem.Str) : Bool := (ns.all fun c => decide (PySem.W.kitOne K (.ref (He.ga K c)) (.ref (He.ga K D0)) = t c)) && decide (PySem.W.kitOne K (.type "NoneType") (.ref (He.ga K D0)) = some false)
theorem isB_ie {K : PySem.W.Frag} {ns ats : List PySem.Str} {t : PySem.Str → Option Bool} {D0 : PySem.Str} {T : List (Addr × PySem.Str)} (h : isB K ns t D0 = true) (hc : (ns.all (clB K ats)) = true) (c' : PySem.Str) (b : Bool) (Cc : Addr) (e : t c' = some b) (m : (clsOf ns K T).cls c' = some Cc) : ExcC K Cc ∧ PySem.W.kitOne K (.ref Cc) (.ref (He.ga K D0)) = some b := by
  obtain ⟨h1, rfl⟩ := clsOf_mem m
  have k := List.all_eq_true.mp hc c' h1
  unfold clB at k
  obtain ⟨k1, _⟩ := Bool.and_eq_true_iff.mp k
  obtain ⟨z, _⟩ := Bool.and_eq_true_iff.mp h
  exact ⟨(excB_ok k1).1, (of_decide_eq_true (List.all_eq_true.mp z c' h1)).trans e⟩
theorem isB_it {K : PySem.W.Frag} {ns : List PySem.Str} {t : PySem.Str → Option Bool} {D0 : PySem.Str} (h : isB K ns t D0 = true) (u : String) (b : Bool) (e : (if u = "NoneType" then some false else none) = some b) : PySem.W.kitOne K (.type u) (.ref (He.ga K D0)) = some b := by
  split at e
  · rename_i q
    subst q
    rw [← e]
    exact of_decide_eq_true (Bool.and_eq_true_iff.mp h).2
  · cases e
theorem clB_xf {K : PySem.W.Frag} {ns ats : List PySem.Str} {T : List (Addr × PySem.Str)} (hc : (ns.all (clB K ats)) = true) {a : PySem.Str} (ha : a ∈ ats) (c : PySem.Str) (Cc : Addr) (m : (clsOf ns K T).cls c = some Cc) : XfC K Cc ∧ PySem.W.findIn K (.ref Cc) a = some none := by
  obtain ⟨h1, rfl⟩ := clsOf_mem m
  have k := List.all_eq_true.mp hc c h1
  unfold clB at k
  obtain ⟨k1, k2⟩ := Bool.and_eq_true_iff.mp k
  obtain ⟨_, k3⟩ := Bool.and_eq_true_iff.mp k2
  exact ⟨(excB_ok k1).2, of_decide_eq_true (List.all_eq_true.mp k3 a ha)⟩
theorem clB_ok {K : PySem.W.Frag} {ns ats : List PySem.Str} {T : List (Addr × PySem.Str)} (hc : (ns.all (clB K ats)) = true) (c : PySem.Str) (Cc : Addr) (m : (clsOf ns K T).cls c = some Cc) : PySem.W.exmOne K (.ref Cc) (.ref (He.ga K "StackError")) = some true := by
  obtain ⟨h1, rfl⟩ := clsOf_mem m
  have k := List.all_eq_true.mp hc c h1
  unfold clB at k
  obtain ⟨_, k2⟩ := Bool.and_eq_true_iff.mp k
  exact of_decide_eq_true (Bool.and_eq_true_iff.mp k2).1
end L3

set_option Elab.async false
set_option linter.all false
set_option maxRecDepth 100000
set_option maxHeartbeats 4000000
/-! L3: steps through a reading. -/
namespace L3
open PySem PySem.Spec PyProof.Rows L2
def isK (ie : PySem.Str → Option Bool) (it : String → Option Bool) (q : WK) (d : D) (S1 : Store) : Prop := match d with
  | .ref i => match S1[i]? with
    | some (.exc c _) => match ie c with
      | some b => q (.bl b) S1
      | none => False
    | _ => match (tyD S1 d).bind it with
      | some b => q (.bl b) S1
      | none => False
  | _ => match (tyD S1 d).bind it with
    | some b => q (.bl b) S1
    | none => False
section
variable {E : Ends3} {ρ : Env3} {S : Store} {q : WK} {x : XK3} {t u : WS} {w wa wb wc : WE} {wr : WA} {wt wu : WT} {i j l n : Nat} {d e : D} {r r' : R3} {g : WG} {gs : WGs} {qs : Env3 → Store → Prop} {qb : Bool → Store → Prop} {qa : List D → Store → Prop} {qo : Option Int → Store → Prop}
theorem s_seq (h : t { E with nx := u E } ρ S) : wSeq t u E ρ S := h
theorem s_next (h : E.nx ρ S) : wNext E ρ S := h
theorem s_brk (h : E.bk ρ S) : wBrk E ρ S := h
theorem s_cnt (h : E.ct ρ S) : wCnt E ρ S := h
theorem s_drop (h : w ρ S (fun _ S1 => E.nx ρ S1) (E.xc ρ)) : wDrop w E ρ S := h
theorem s_ret (h : w ρ S E.rt (E.xc ρ)) : wRet w E ρ S := h
theorem s_ifS (h : wt ρ S (fun b S1 => if b = true then t E ρ S1 else u E ρ S1) (E.xc ρ)) : wIfS wt t u E ρ S := h
theorem s_set (h : w ρ S (fun d S1 => E.nx (put ρ i (some d)) S1) (E.xc ρ)) : wSet i w E ρ S := h
theorem s_par (h : wr ρ S (fun ds S1 => match ds with
  | [d, e] => E.nx (put (put ρ i (some d)) j (some e)) S1
  | _ => False) (E.xc ρ)) : wPar i j wr E ρ S := h
theorem s_asg (h : w ρ S (fun d S1 => g d ρ S1 E.nx (E.xc ρ)) (E.xc ρ)) : wAsg w g E ρ S := h
theorem s_aug (h1 : slot ρ i = some d) (h : w ρ S (fun e S1 => r d e S1 (fun z S2 => E.nx (put ρ i (some z)) S2)) (E.xc ρ)) : wAug i w r E ρ S := by
  unfold wAug
  rw [h1]
  exact h
theorem s_for {wi : WI} (h : wi ρ S (fun ds S1 inv => forW g t inv E ds ρ S1) (E.xc ρ)) : wFor wi g t E ρ S := h
theorem s_gsub {wo wi : WE} (h : wo ρ S (fun o S1 => wi ρ S1 (fun i S2 => setD o i d S2 (fun S3 => qs ρ S3)) x) x) : wgSub wo wi d ρ S qs x := h
theorem s_gname (h : qs (put ρ i (some d)) S) : wgName i d ρ S qs x := h
theorem s_var (h1 : slot ρ i = some d) (h : q d S) : wVar i ρ S q x := by
  unfold wVar
  rw [h1]
  exact h
theorem s_c (h : q d S) : wC d ρ S q x := h
theorem s_op (h : wa ρ S (fun d S1 => wb ρ S1 (fun e S2 => r d e S2 q) x) x) : wOp r wa wb ρ S q x := h
theorem s_B (h : w ρ S (fun d S' => match d with | .bl b => qb b S' | _ => False) x) : wB w ρ S qb x := h
def truK (qb : Bool → Store → Prop) (d : D) (S' : Store) : Prop := match truD S' d with | some k => qb k S' | none => False
theorem s_tru (h : w ρ S (truK qb) x) : wTru w ρ S qb x := h
theorem s_truB {b : Bool} (h : qb b S) : truK qb (.bl b) S := h
def notK (q : WK) (d : D) (S1 : Store) : Prop := match truD S1 d with | some k => q (.bl (!k)) S1 | none => False
theorem s_notB {b : Bool} (h : q (.bl (!b)) S) : notK q (.bl b) S := h
def andK (A : WE) (ρ : Env3) (x : XK3) (q : WK) (d : D) (S1 : Store) : Prop := match d with | .bl true => A ρ S1 q x | .bl false => q (.bl false) S1 | _ => False
theorem s_andB {b : Bool} {A : WE} (h1 : b = true → A ρ S q x) (h2 : b = false → q (.bl false) S) : andK A ρ x q (.bl b) S := by
  cases b with
  | true => exact h1 rfl
  | false => exact h2 rfl
def orK (A : WE) (ρ : Env3) (x : XK3) (q : WK) (d : D) (S1 : Store) : Prop := match d with | .bl true => q (.bl true) S1 | .bl false => A ρ S1 q x | _ => False
theorem s_orB {b : Bool} {A : WE} (h1 : b = true → q (.bl true) S) (h2 : b = false → A ρ S q x) : orK A ρ x q (.bl b) S := by
  cases b with
  | true => exact h1 rfl
  | false => exact h2 rfl
theorem s_and (h : wt ρ S (fun c S1 => if c = true then wu ρ S1 qb x else qb false S1) x) : wAnd wt wu ρ S qb x := h
theorem s_or (h : wt ρ S (fun c S1 => if c = true then qb true S1 else wu ρ S1 qb x) x) : wOr wt wu ρ S qb x := h
theorem s_not (h : wt ρ S (fun c S1 => qb (!c) S1) x) : wNot wt ρ S qb x := h
theorem s_if (h : wt ρ S (fun c S1 => if c = true then wa ρ S1 q x else wb ρ S1 q x) x) : wIf wt wa wb ρ S q x := h
theorem s_andV (h : wa ρ S (andK wb ρ x q) x) : wAndV wa wb ρ S q x := h
theorem s_notV (h : w ρ S (notK q) x) : wNotV w ρ S q x := h
theorem s_nil (h : qa [] S) : wNil ρ S qa x := h
theorem s_cons (h : wa ρ S (fun d S1 => wr ρ S1 (fun ds S2 => qa (d :: ds) S2) x) x) : wCons wa wr ρ S qa x := h
theorem s_tup (h : wr ρ S (fun ds S1 => ds.length ≤ LIM ∧ q (.tup ds) S1) x) : wTup wr ρ S q x := h
theorem s_lst (h : wr ρ S (fun ds S1 => ds.length ≤ LIM ∧ q (.ref S1.length) (S1 ++ [.lst ds])) x) : wLst wr ρ S q x := h
theorem s_cb {r : RC} (h : wr ρ S (fun ds S1 => r ds S1 q) x) : wCB r wr ρ S q x := h
theorem s_call {sp : Sp3} (h : wr ρ S (fun ds S1 => ds.length = n ∧ sp ds S1 q x) x) : wCall sp n wr ρ S q x := h
theorem s_bm {T : String} {r : RM} {wo : WE} (h : wo ρ S (fun d S1 => tyM T S1 d ∧ wr ρ S1 (fun ds S2 => r d ds S2 q) x) x) : wBM T r wo wr ρ S q x := h
theorem s_sl {wl wh : WO} (h : w ρ S (fun d S1 => wl ρ S1 (fun lo S2 => wh ρ S2 (fun hi S3 => slD d lo hi S3 q) x) x) x) : wSl w wl wh ρ S q x := h
theorem s_np (h : qo none S) : wNoPart ρ S qo x := h
theorem s_part (h : w ρ S (fun d S' => match d with | .int i => qo (some i) S' | _ => False) x) : wPart w ρ S qo x := h
/-! ### operators on ints, texts -/
theorem s_addI {a b : Int} (h : q (.int (a + b)) S) : addD (.int a) (.int b) S q := h
theorem s_addS {a b : PySem.Str} (h1 : a.length + b.length ≤ LIM) (h : q (.str (a ++ b)) S) : addD (.str a) (.str b) S q := ⟨h1, h⟩
theorem s_sub {a b : Int} (h : q (.int (a - b)) S) : subD (.int a) (.int b) S q := h
theorem s_mulI {a b : Int} (h1 : CMulW a b) (h : q (.int (a * b)) S) : mulD (.int a) (.int b) S q := ⟨h1, h⟩
theorem s_fdiv {a b : Int} (h1 : CDivW a b) (h : q (.int (a / b)) S) : fdivD (.int a) (.int b) S q := ⟨h1, h⟩
theorem s_mod {a b : Int} (h1 : 0 < b) (h : q (.int (a % b)) S) : modD (.int a) (.int b) S q := ⟨h1, h⟩
theorem s_pow {a b : Int} (h1 : CPow a b) (h : q (.int (a ^ b.toNat)) S) : powD (.int a) (.int b) S q := ⟨h1, h⟩
theorem s_lt {a b : Int} (h : q (.bl (decide (a < b))) S) : ltD (.int a) (.int b) S q := h
theorem s_le {a b : Int} (h : q (.bl (decide (a ≤ b))) S) : leD (.int a) (.int b) S q := h
theorem s_gt {a b : Int} (h : q (.bl (decide (b < a))) S) : gtD (.int a) (.int b) S q := h
theorem s_ge {a b : Int} (h : q (.bl (decide (b ≤ a))) S) : geD (.int a) (.int b) S q := h
theorem eqv_int {a b : Int} : PyData.eqv (.int a) (.int b) = decide (a = b) := by
  rw [Bool.eq_iff_iff]
  simp [PyData.eqv]
theorem eqv_str {a b : PySem.Str} : PyData.eqv (.str a) (.str b) = decide (a = b) := by
  rw [Bool.eq_iff_iff]
  simp [PyData.eqv]
theorem s_eqI {a b : Int} (h : q (.bl (decide (a = b))) S) : eqD (.int a) (.int b) S q := by
  show q (.bl (PyData.eqv (.int a) (.int b))) S
  rw [eqv_int]
  exact h
theorem s_eqS {a b : PySem.Str} (h : q (.bl (decide (a = b))) S) : eqD (.str a) (.str b) S q := by
  show q (.bl (PyData.eqv (.str a) (.str b))) S
  rw [eqv_str]
  exact h
theorem s_neS {a b : PySem.Str} (h : q (.bl (!decide (a = b))) S) : neD (.str a) (.str b) S q := by
  show q (.bl (!PyData.eqv (.str a) (.str b))) S
  rw [eqv_str]
  exact h
theorem s_inS {b : Bool} {a z : PySem.Str} (h : q (.bl (b ^^ subS a z)) S) : inD b (.str a) (.str z) S q := h
theorem s_int {a : Int} (h : q (.int a) S) : rInt [.int a] S q := h
theorem s_abs {a : Int} (h : q (.int (if a < 0 then -a else a)) S) : rAbs [.int a] S q := h
theorem s_lenS {z : PySem.Str} (h1 : z.length ≤ LIM) (h : q (.int z.length) S) : rLen [.str z] S q := by
  unfold rLen lenD
  simp only [h1, if_true]
  exact h
theorem s_lenL {ds : List D} (h1 : S[n]? = some (.lst ds)) (h : q (.int ds.length) S) : rLen [.ref n] S q := by
  unfold rLen lenD
  simp only [h1]
  exact h
theorem s_ixS {z : PySem.Str} {a : Int} {c : Nat} (h1 : z.length ≤ LIM) (h2 : L2.atI z.cps.toList a = some c) (h : q (.str ⟨#[c]⟩) S) : ixD (.str z) (.int a) S q := by
  unfold ixD
  simp only [h2]
  exact ⟨h1, h⟩
theorem s_ixL {ds : List D} {a : Int} (h1 : S[n]? = some (.lst ds)) (h2 : L2.atI ds a = some d) (h : q d S) : ixD (.ref n) (.int a) S q := by
  unfold ixD
  simp only [h1, h2]
  exact h
theorem s_slS {z : PySem.Str} {lo hi : Option Int} (h1 : z.length ≤ LIM) (h : q (.str (cutS z lo hi)) S) : slD (.str z) lo hi S q := ⟨h1, h⟩
theorem s_append {ds : List D} (h1 : S[n]? = some (.lst ds)) (h2 : ds.length < LIM) (h : q .non (S.set n (.lst (ds ++ [d])))) : mAppend (.ref n) [d] S q := by
  unfold mAppend
  simp only [h1]
  exact ⟨h2, h⟩
theorem s_tyL {ds : List D} (h1 : S[n]? = some (.lst ds)) : tyM "list" S (.ref n) := by
  unfold tyM
  simp only [h1]
theorem s_ite {b : Bool} {A B : Prop} (h1 : b = true → A) (h2 : b = false → B) : if b = true then A else B := by
  cases b with
  | true => exact h1 rfl
  | false => exact h2 rfl
theorem s_iteP {p : Prop} [Decidable p] {A B : Prop} (h1 : p → A) (h2 : ¬ p → B) : if decide p = true then A else B :=
  s_ite (fun h => h1 (of_decide_eq_true h)) (fun h => h2 (of_decide_eq_false h))
theorem s_iteN {p : Prop} [Decidable p] {A B : Prop} (h1 : ¬ p → A) (h2 : p → B) : if (!decide p) = true then A else B :=
  s_ite (fun h => h1 (by simpa using h)) (fun h => h2 (by simpa using h))
theorem s_iteT {b : Bool} {A B : Prop} (e : b = true) (h : A) : if b = true then A else B := by
  rw [if_pos e]
  exact h
theorem s_iteF {b : Bool} {A B : Prop} (e : b = false) (h : B) : if b = true then A else B := by
  rw [if_neg (by rw [e] <;> exact Bool.false_ne_true)]
  exact h
theorem s_pop0 {ds : List D} {S : Store} {n : Nat} {d : D} {q : WK} (h1 : S[n]? = some (.lst (d :: ds))) (h : q d (S.set n (.lst ds))) : mPop (.ref n) [.int 0] S q := by
  unfold mPop
  simp only [h1]
  have e : ixN (d :: ds).length 0 = some 0 := by simp [ixN]
  simp only [e]
  exact ⟨by decide, h⟩
def onL (qi : List D → Store → (Store → Prop) → Prop) (d : D) (S1 : Store) : Prop := match d with
  | .ref n => match S1[n]? with
    | some (.lst ds) => qi ds S1 (fun S => S[n]? = some (.lst ds))
    | _ => False
  | .fl ds => qi ds S1 (fun _ => True)
  | _ => False
theorem s_wiL {qi : List D → Store → (Store → Prop) → Prop} (h : w ρ S (onL qi) x) : wiL w ρ S qi x := h
theorem s_onL {qi : List D → Store → (Store → Prop) → Prop} {ds : List D} (h1 : S[n]? = some (.lst ds)) (h : qi ds S (fun S => S[n]? = some (.lst ds))) : onL qi (.ref n) S := by
  unfold onL
  dsimp only
  rw [h1]
  exact h
theorem s_onF {qi : List D → Store → (Store → Prop) → Prop} {ds : List D} (h : qi ds S (fun _ => True)) : onL qi (.fl ds) S := h
def onS (qi : List D → Store → (Store → Prop) → Prop) (d : D) (S1 : Store) : Prop := match d with
  | .str z => qi (z.cps.toList.map chD) S1 (fun _ => True)
  | _ => False
theorem s_wiS {qi : List D → Store → (Store → Prop) → Prop} (h : w ρ S (onS qi) x) : wiS w ρ S qi x := h
theorem s_onS {z : PySem.Str} {qi : List D → Store → (Store → Prop) → Prop} (h : qi (z.cps.toList.map chD) S (fun _ => True)) : onS qi (.str z) S := h
def onT (qi : List D → Store → (Store → Prop) → Prop) (d : D) (S1 : Store) : Prop := match d with
  | .tup ds => qi ds S1 (fun _ => True)
  | _ => False
theorem s_wiT {qi : List D → Store → (Store → Prop) → Prop} (h : w ρ S (onT qi) x) : wiT w ρ S qi x := h
theorem s_onT {ds : List D} {qi : List D → Store → (Store → Prop) → Prop} (h : qi ds S (fun _ => True)) : onT qi (.tup ds) S := h
def onR1 (qi : List D → Store → (Store → Prop) → Prop) (ds : List D) (S1 : Store) : Prop := match ds with
  | [.int j] => (-(2 ^ 62) ≤ j ∧ j < 2 ^ 62) ∧ qi (rngD 0 j.toNat) S1 (fun _ => True)
  | _ => False
theorem s_wiR1 {qi : List D → Store → (Store → Prop) → Prop} (h : wr ρ S (onR1 qi) x) : wiR1 wr ρ S qi x := h
theorem s_onR1 {j : Int} {qi : List D → Store → (Store → Prop) → Prop} (h1 : -(2 ^ 62) ≤ j ∧ j < 2 ^ 62) (h : qi (rngD 0 j.toNat) S (fun _ => True)) : onR1 qi [.int j] S := ⟨h1, h⟩
theorem s_lc {wi : WI} {tt : WT} {te : WE} {vs : List Nat} (h : wi ρ S (fun ds S1 inv => lcW g tt te inv S1.length (wipeD ρ vs) (fun S2 => q (.ref S1.length) S2) ds (S1 ++ [.lst []])) x) : wLc wi g tt te vs ρ S q x := h
theorem s_lcNext {acc : List D} {y : D} {A : Store → Prop} {S4 : Store} (h1 : S4[n]? = some (.lst acc)) (h2 : acc.length < LIM) (h : A (S4.set n (.lst (acc ++ [y])))) : match S4[n]? with
      | some (.lst acc) => acc.length < LIM ∧ A (S4.set n (.lst (acc ++ [y])))
      | _ => False := by
  rw [h1]
  exact ⟨h2, h⟩
theorem s_yes (h : qb true S) : wYes ρ S qb x := h
theorem s_lcYes {A B : Prop} (h : A) : if true = true then A else B := by
  rw [if_pos rfl]
  exact h
theorem s_lcNo {A B : Prop} (h : B) : if false = true then A else B := by
  rw [if_neg Bool.false_ne_true]
  exact h
theorem s_gtup {ds : List D} (h1 : ds.length = n) (h : gs ds ρ S qs x) : wgTup n gs (.tup ds) ρ S qs x := ⟨h1, h⟩
theorem s_gcons {ds : List D} (h : g d ρ S (fun ρ1 S1 => gs ds ρ1 S1 qs x) x) : wgCons g gs (d :: ds) ρ S qs x := h
theorem s_gnil (h : qs ρ S) : wgNil [] ρ S qs x := h
theorem s_tuple {wr : WA} (h : wr ρ S (fun ds S1 => ds.length ≤ LIM ∧ q (.tup ds) S1) x) : wTup wr ρ S q x := h
theorem s_rz {c nm : PySem.Str} (h : w ρ S (fun d S1 => E.xc ρ c [(nm, d)] S1) (E.xc ρ)) : wRz c nm w E ρ S := h
theorem s_orV (h : wa ρ S (orK wb ρ x q) x) : wOrV wa wb ρ S q x := h
theorem s_xf {nm : PySem.Str} (h : w ρ S (xfP nm q) x) : wXf nm w ρ S q x := h
theorem s_chain (h : wa ρ S (fun d S1 => wb ρ S1 (fun e S2 => r d e S2 (fun z S3 => match z with
  | .bl true => wc ρ S3 (fun f S4 => r' e f S4 q) x
  | .bl false => q (.bl false) S3
  | _ => False)) x) x) : wChain r r' wa wb wc ρ S q x := h
theorem s_isi {c t : String} (h1 : tyD S d = some t) (h2 : c ∈ ["bool", "int", "str", "tuple", "list", "dict"]) (h : q (.bl (isiB t c)) S) : rIsiD [d, .ty c] S q := by
  unfold rIsiD
  dsimp only
  rw [h1]
  exact ⟨h2, h⟩
theorem s_allD {bs : List Bool} (h1 : S[n]? = some (.lst (bs.map .bl))) (h : q (.bl (bs.all _root_.id)) S) : rAllD [.ref n] S q := by
  unfold rAllD lstD
  simp only [h1, Option.bind_some, blsD_map]
  exact h
def chainK (r' : R3) (wc : WE) (ρ : Env3) (x : XK3) (q : WK) (e : D) (z : D) (S3 : Store) : Prop := match z with
  | .bl true => wc ρ S3 (fun f S4 => r' e f S4 q) x
  | .bl false => q (.bl false) S3
  | _ => False
theorem s_chain2 (h : wa ρ S (fun d S1 => wb ρ S1 (fun e S2 => r d e S2 (chainK r' wc ρ x q e)) x) x) : wChain r r' wa wb wc ρ S q x := h
theorem s_chainB {b : Bool} (h1 : b = true → wc ρ S (fun f S4 => r' e f S4 q) x) (h2 : b = false → q (.bl false) S) : chainK r' wc ρ x q e (.bl b) S := by
  cases b with
  | true => exact h1 rfl
  | false => exact h2 rfl
theorem rd_strs {S : Store} {k : Nat} : ∀ l : List PySem.Str, seqO ((l.map D.str).map (rdD S k)) = some (l.map PyData.str)
  | [] => rfl
  | a :: l => by
    rw [List.map_cons, List.map_cons, rdD_str]
    unfold seqO
    rw [rd_strs l] <;> rfl
theorem s_inL {b : Bool} {z : PySem.Str} {l : List PySem.Str} (h1 : S[n]? = some (.lst (l.map .str))) (h : q (.bl (b ^^ l.any fun y => decide (y = z))) S) : inD b (.str z) (.ref n) S q := by
  unfold inD
  simp only [h1, rdD_str, rd_strs]
  rw [List.any_map]
  have e : ((fun y => PyData.eqv y (PyData.str z)) ∘ PyData.str) = fun y => decide (y = z) := funext fun y => eqv_str
  rw [e]
  exact h
theorem inF_strs {z : PySem.Str} : ∀ l : List PySem.Str, inF (.str z) (l.map .str) = l.any fun y => decide (y = z) := fun l => by
  unfold inF
  rw [List.any_map]
  rfl
theorem s_lenF {ds : List D} (h : q (.int ds.length) S) : rLen [.fl ds] S q := by
  unfold rLen lenD
  exact h
theorem s_lenT {ds : List D} (h : q (.int ds.length) S) : rLen [.tup ds] S q := by
  unfold rLen lenD
  exact h
theorem s_min2 {a b : Int} (h : q (.int (if b < a then b else a)) S) : rMin2 [.int a, .int b] S q := h
theorem s_join {y : PySem.Str} {l : List PySem.Str} (h1 : S[n]? = some (.lst (l.map .str))) (h2 : (l.map (·.length)).sum + l.length * y.length ≤ LIM) (h : q (.str (Txt.join y l)) S) : mJoin (.str y) [.ref n] S q := by
  unfold mJoin seqD
  simp only [h1, Option.bind_some, strsD_map]
  exact ⟨h2, h⟩
theorem s_mulS {z : PySem.Str} {k : Int} (h1 : 1 < k ∧ k < 2 ^ 31 ∧ 0 < z.length ∧ z.length * k.toNat ≤ LIM) (h : q (.str (strRep z k.toNat)) S) : mulD (.str z) (.int k) S q := ⟨h1.1, h1.2.1, h1.2.2.1, h1.2.2.2, h⟩
theorem s_caught {ok : PySem.Str → Bool} (h : w ρ S (fun _ S' => q .non S') (fun c fs S' => ok c = true ∧ q (.ref S'.length) (S' ++ [.exc c fs]))) : wCaught ok w ρ S q x := h
theorem s_isC {ie : PySem.Str → Option Bool} {it : String → Option Bool} (h : w ρ S (isK ie it q) x) : wIsC ie it w ρ S q x := h
theorem s_isE {ie : PySem.Str → Option Bool} {it : String → Option Bool} {c : PySem.Str} {fs : List (PySem.Str × D)} {b : Bool} (h1 : S[n]? = some (.exc c fs)) (h2 : ie c = some b) (h : q (.bl b) S) : isK ie it q (.ref n) S := by
  unfold isK
  dsimp only
  rw [h1]
  dsimp only
  rw [h2]
  exact h
theorem s_xfP {c nm : PySem.Str} {fs : List (PySem.Str × D)} (h1 : S[n]? = some (.exc c fs)) (h2 : fs.lookup nm = some d) (h : q d S) : xfP nm q (.ref n) S := by
  unfold xfP
  dsimp only
  rw [h1]
  dsimp only
  rw [h2]
  exact h
theorem s_forW {ds : List D} {inv : Store → Prop} (h1 : inv S) (h : g d ρ S (fun ρ1 S1 => t { E with nx := forW g t inv E ds, ct := forW g t inv E ds, bk := E.nx } ρ1 S1) (E.xc ρ)) : forW g t inv E (d :: ds) ρ S := ⟨h1, h⟩
theorem s_forN {inv : Store → Prop} (h1 : inv S) (h : E.nx ρ S) : forW g t inv E [] ρ S := ⟨h1, h⟩
theorem s_tupcL {ds : List D} (h1 : S[n]? = some (.lst ds)) (h : q (.tup ds) S) : rTupc [.ref n] S q := by
  unfold rTupc
  simp only [h1]
  exact h
theorem ty_lst {ds : List D} (h1 : S[n]? = some (.lst ds)) : tyD S (.ref n) = some "list" := by
  unfold tyD
  simp only [h1]
theorem rd_ints {S : Store} {k : Nat} : ∀ l : List Int, seqO ((l.map D.int).map (rdD S k)) = some (l.map PyData.int)
  | [] => rfl
  | a :: l => by
    rw [List.map_cons, List.map_cons, rdD_int]
    unfold seqO
    rw [rd_ints l] <;> rfl
theorem s_inInts {b : Bool} {z : Int} {l : List Int} (h1 : S[n]? = some (.lst (l.map .int))) (h : q (.bl (b ^^ l.any fun y => decide (y = z))) S) : inD b (.int z) (.ref n) S q := by
  unfold inD
  simp only [h1, rdD_int, rd_ints]
  rw [List.any_map]
  have e : ((fun y => PyData.eqv y (PyData.int z)) ∘ PyData.int) = fun y => decide (y = z) := funext fun y => eqv_int
  rw [e]
  exact h
theorem s_pairs0 {qp : List (D × D) → Store → Prop} (h : qp [] S) : wPairs [] ρ S qp x := h
theorem s_pairs {qp : List (D × D) → Store → Prop} {wk wv : WE} {prs : List (WE × WE)} (h : wk ρ S (fun a S1 => wv ρ S1 (fun b S2 => wPairs prs ρ S2 (fun ps S3 => qp ((a, b) :: ps) S3) x) x) x) : wPairs ((wk, wv) :: prs) ρ S qp x := h
def dispK (S : Store) (q : WK) (ps : List (D × D)) (S2 : Store) : Prop := match S2[S.length]?, keysD ps with
  | some (.dct []), some kds => kds.length ≤ 15 ∧ q (.ref S.length) (S2.set S.length (.dct (mergeD [] kds)))
  | _, _ => False
theorem s_wDisp {prs : List (WE × WE)} (h : wPairs prs ρ (S ++ [.dct []]) (dispK S q) x) : wDisp prs ρ S q x := h
theorem s_dispK {ps : List (D × D)} {S2 : Store} {kds : List (Key × D)} (h1 : S2[S.length]? = some (.dct [])) (h2 : keysD ps = some kds) (h3 : kds.length ≤ 15) (h : q (.ref S.length) (S2.set S.length (.dct (mergeD [] kds)))) : dispK S q ps S2 := by
  unfold dispK
  rw [h1, h2]
  exact ⟨h3, h⟩
theorem s_inCf {c : Nat} {z : PySem.Str} (h : q (.bl (decide (c ∈ z.cps.toList))) S) : inD false (.str ⟨#[c]⟩) (.str z) S q := by
  show q (.bl (false ^^ subS ⟨#[c]⟩ z)) S
  rw [subS_one, Bool.false_xor]
  exact h
theorem s_inCt {c : Nat} {z : PySem.Str} (h : q (.bl (!decide (c ∈ z.cps.toList))) S) : inD true (.str ⟨#[c]⟩) (.str z) S q := by
  show q (.bl (true ^^ subS ⟨#[c]⟩ z)) S
  rw [subS_one, Bool.true_xor]
  exact h
theorem s_neI {a b : Int} (h : q (.bl (!decide (a = b))) S) : neD (.int a) (.int b) S q := by
  show q (.bl (!PyData.eqv (.int a) (.int b))) S
  rw [eqv_int]
  exact h
/-- a loop: what holds at each turn -/
theorem s_while {wt : WT} (P : Nat → Env3 → Store → Prop) (m : Nat) (h0 : P m ρ S) (h : ∀ m ρ S, P m ρ S → wt ρ S (fun b S1 => if b = true then t { E with nx := fun ρ' S' => ∃ m', m' < m ∧ P m' ρ' S', ct := fun ρ' S' => ∃ m', m' < m ∧ P m' ρ' S', bk := E.nx } ρ S1 else E.nx ρ S1) (E.xc ρ)) : wWhile wt t E ρ S := ⟨P, ⟨m, h0⟩, h⟩
/-- all stays -/
def Kp (S S' : Store) : Prop := ∀ (m : Nat) (o : SO), S[m]? = some o → S'[m]? = some o
theorem Kp.refl {S : Store} : Kp S S := fun _ _ h => h
theorem Kp.trans {S S1 S2 : Store} (a : Kp S S1) (b : Kp S1 S2) : Kp S S2 := fun m o h => b m o (a m o h)
/-! ### what stands in a store -/
theorem at_set_ne {o o' : SO} {m : Nat} (h : m ≠ n) (k : S[m]? = some o) : (S.set n o')[m]? = some o := by
  rw [List.getElem?_set_ne (Ne.symm h)]
  exact k
theorem at_set_eq {o o' : SO} (k : S[n]? = some o) : (S.set n o')[n]? = some o' := by
  rw [List.getElem?_set_self (List.getElem?_eq_some_iff.mp k).1]
theorem at_app {o : SO} {T : Store} (k : S[n]? = some o) : (S ++ T)[n]? = some o := by
  rw [List.getElem?_append_left (List.getElem?_eq_some_iff.mp k).1]
  exact k
theorem at_new {o : SO} : (S ++ [o])[S.length]? = some o := by simp
theorem Kp.app {S T : Store} : Kp S (S ++ T) := fun _ _ h => at_app h
theorem Kp.set {S0 S : Store} {o : SO} (k : Kp S0 S) (h : S0[n]? = none) : Kp S0 (S.set n o) := fun m o' hm => at_set_ne (fun e => by rw [e, h] at hm; cases hm) (k m o' hm)
end
end L3

set_option Elab.async false
set_option linter.all false
set_option maxRecDepth 100000
set_option maxHeartbeats 8000000
/-! printed by gen.py: the readings and the derivations. -/
namespace K02
open PySem PySem.Spec PyProof.Rows L2 L3
def top (i : Nat) : Stmt := PySem.Challenge.pw_foldedstacks_k02_whole_tokens_of_funs.main.body.getD i (.Pass ⟨0, 0, 0, 0⟩)
abbrev st__law_begun : Stmt := top 19
abbrev st__law_caught : Stmt := top 23
abbrev st__law_mixed : Stmt := top 20
abbrev st__law_take : Stmt := top 21
abbrev st__law_pick : Stmt := top 22
abbrev st__law_same : Stmt := top 24
abbrev st__law_scanned : Stmt := top 25
abbrev st_need_text : Stmt := top 16
abbrev st_token_end : Stmt := top 14
abbrev st_is_row_of : Stmt := top 11
abbrev st_is_numeral : Stmt := top 13
abbrev st_scanned : Stmt := top 15
abbrev st_fun_tokens : Stmt := top 17
abbrev st_is_name : Stmt := top 12
abbrev st__law_is_name : Stmt := top 26
abbrev st_law : Stmt := top 27
abbrev cl_StackError : Stmt := top 1
abbrev cl_BadText : Stmt := top 2
abbrev N__law_begun : List PySem.Str := ["script", "large", "cell"]
abbrev ps__law_begun : List PySem.Str := ["script"]
theorem nd__law_begun : N__law_begun.Nodup := by decide +kernel
theorem sc__law_begun : FnScope N__law_begun ps__law_begun (defScope st__law_begun) := ⟨rfl, rfl, rfl, nd__law_begun, rfl, by decide +kernel, by decide +kernel⟩
theorem bd__law_begun : BindsBy "_law_begun" (defArgs st__law_begun) (defBody st__law_begun) (defScope st__law_begun) ps__law_begun := fun _ _ _ _ _ _ us hl => match us, hl with | [_], _ => rfl
abbrev N__law_caught : List PySem.Str := ["work", "caught", "error"]
abbrev ps__law_caught : List PySem.Str := ["work"]
theorem nd__law_caught : N__law_caught.Nodup := by decide +kernel
theorem sc__law_caught : FnScope N__law_caught ps__law_caught (defScope st__law_caught) := ⟨rfl, rfl, rfl, nd__law_caught, rfl, by decide +kernel, by decide +kernel⟩
theorem bd__law_caught : BindsBy "_law_caught" (defArgs st__law_caught) (defBody st__law_caught) (defScope st__law_caught) ps__law_caught := fun _ _ _ _ _ _ us hl => match us, hl with | [_], _ => rfl
abbrev N__law_mixed : List PySem.Str := ["draw", "turn", "found", "prime", "stirred", "cell"]
abbrev ps__law_mixed : List PySem.Str := ["draw"]
theorem nd__law_mixed : N__law_mixed.Nodup := by decide +kernel
theorem sc__law_mixed : FnScope N__law_mixed ps__law_mixed (defScope st__law_mixed) := ⟨rfl, rfl, rfl, nd__law_mixed, rfl, by decide +kernel, by decide +kernel⟩
theorem bd__law_mixed : BindsBy "_law_mixed" (defArgs st__law_mixed) (defBody st__law_mixed) (defScope st__law_mixed) ps__law_mixed := fun _ _ _ _ _ _ us hl => match us, hl with | [_], _ => rfl
abbrev N__law_take : List PySem.Str := ["draw", "many", "found"]
abbrev ps__law_take : List PySem.Str := ["draw", "many"]
theorem nd__law_take : N__law_take.Nodup := by decide +kernel
theorem sc__law_take : FnScope N__law_take ps__law_take (defScope st__law_take) := ⟨rfl, rfl, rfl, nd__law_take, rfl, by decide +kernel, by decide +kernel⟩
theorem bd__law_take : BindsBy "_law_take" (defArgs st__law_take) (defBody st__law_take) (defScope st__law_take) ps__law_take := fun _ _ _ _ _ _ us hl => match us, hl with | [_, _], _ => rfl
abbrev N__law_pick : List PySem.Str := ["draw", "some"]
abbrev ps__law_pick : List PySem.Str := ["draw", "some"]
theorem nd__law_pick : N__law_pick.Nodup := by decide +kernel
theorem sc__law_pick : FnScope N__law_pick ps__law_pick (defScope st__law_pick) := ⟨rfl, rfl, rfl, nd__law_pick, rfl, by decide +kernel, by decide +kernel⟩
theorem bd__law_pick : BindsBy "_law_pick" (defArgs st__law_pick) (defBody st__law_pick) (defScope st__law_pick) ps__law_pick := fun _ _ _ _ _ _ us hl => match us, hl with | [_, _], _ => rfl
abbrev N__law_same : List PySem.Str := ["told", "due"]
abbrev ps__law_same : List PySem.Str := ["told", "due"]
theorem nd__law_same : N__law_same.Nodup := by decide +kernel
theorem sc__law_same : FnScope N__law_same ps__law_same (defScope st__law_same) := ⟨rfl, rfl, rfl, nd__law_same, rfl, by decide +kernel, by decide +kernel⟩
theorem bd__law_same : BindsBy "_law_same" (defArgs st__law_same) (defBody st__law_same) (defScope st__law_same) ps__law_same := fun _ _ _ _ _ _ us hl => match us, hl with | [_, _], _ => rfl
abbrev N__law_scanned : List PySem.Str := ["text", "letters", "figures", "found", "at", "sign", "end", "kind", "token"]
abbrev ps__law_scanned : List PySem.Str := ["text"]
theorem nd__law_scanned : N__law_scanned.Nodup := by decide +kernel
theorem sc__law_scanned : FnScope N__law_scanned ps__law_scanned (defScope st__law_scanned) := ⟨rfl, rfl, rfl, nd__law_scanned, rfl, by decide +kernel, by decide +kernel⟩
theorem bd__law_scanned : BindsBy "_law_scanned" (defArgs st__law_scanned) (defBody st__law_scanned) (defScope st__law_scanned) ps__law_scanned := fun _ _ _ _ _ _ us hl => match us, hl with | [_], _ => rfl
abbrev N_need_text : List PySem.Str := ["text"]
abbrev ps_need_text : List PySem.Str := ["text"]
theorem nd_need_text : N_need_text.Nodup := by decide +kernel
theorem sc_need_text : FnScope N_need_text ps_need_text (defScope st_need_text) := ⟨rfl, rfl, rfl, nd_need_text, rfl, by decide +kernel, by decide +kernel⟩
theorem bd_need_text : BindsBy "need_text" (defArgs st_need_text) (defBody st_need_text) (defScope st_need_text) ps_need_text := fun _ _ _ _ _ _ us hl => match us, hl with | [_], _ => rfl
abbrev N_token_end : List PySem.Str := ["text", "at", "signs"]
abbrev ps_token_end : List PySem.Str := ["text", "at"]
theorem nd_token_end : N_token_end.Nodup := by decide +kernel
theorem sc_token_end : FnScope N_token_end ps_token_end (defScope st_token_end) := ⟨rfl, rfl, rfl, nd_token_end, rfl, by decide +kernel, by decide +kernel⟩
theorem bd_token_end : BindsBy "token_end" (defArgs st_token_end) (defBody st_token_end) (defScope st_token_end) ps_token_end := fun _ _ _ _ _ _ us hl => match us, hl with | [_, _], _ => rfl
abbrev N_is_row_of : List PySem.Str := ["signs", "thing", "sign"]
abbrev ps_is_row_of : List PySem.Str := ["signs", "thing"]
theorem nd_is_row_of : N_is_row_of.Nodup := by decide +kernel
theorem sc_is_row_of : FnScope N_is_row_of ps_is_row_of (defScope st_is_row_of) := ⟨rfl, rfl, rfl, nd_is_row_of, rfl, by decide +kernel, by decide +kernel⟩
theorem bd_is_row_of : BindsBy "is_row_of" (defArgs st_is_row_of) (defBody st_is_row_of) (defScope st_is_row_of) ps_is_row_of := fun _ _ _ _ _ _ us hl => match us, hl with | [_, _], _ => rfl
abbrev N_is_numeral : List PySem.Str := ["token"]
abbrev ps_is_numeral : List PySem.Str := ["token"]
theorem nd_is_numeral : N_is_numeral.Nodup := by decide +kernel
theorem sc_is_numeral : FnScope N_is_numeral ps_is_numeral (defScope st_is_numeral) := ⟨rfl, rfl, rfl, nd_is_numeral, rfl, by decide +kernel, by decide +kernel⟩
theorem bd_is_numeral : BindsBy "is_numeral" (defArgs st_is_numeral) (defBody st_is_numeral) (defScope st_is_numeral) ps_is_numeral := fun _ _ _ _ _ _ us hl => match us, hl with | [_], _ => rfl
abbrev N_scanned : List PySem.Str := ["text", "found", "at", "end", "token"]
abbrev ps_scanned : List PySem.Str := ["text"]
theorem nd_scanned : N_scanned.Nodup := by decide +kernel
theorem sc_scanned : FnScope N_scanned ps_scanned (defScope st_scanned) := ⟨rfl, rfl, rfl, nd_scanned, rfl, by decide +kernel, by decide +kernel⟩
theorem bd_scanned : BindsBy "scanned" (defArgs st_scanned) (defBody st_scanned) (defScope st_scanned) ps_scanned := fun _ _ _ _ _ _ us hl => match us, hl with | [_], _ => rfl
abbrev N_fun_tokens : List PySem.Str := ["text"]
abbrev ps_fun_tokens : List PySem.Str := ["text"]
theorem nd_fun_tokens : N_fun_tokens.Nodup := by decide +kernel
theorem sc_fun_tokens : FnScope N_fun_tokens ps_fun_tokens (defScope st_fun_tokens) := ⟨rfl, rfl, rfl, nd_fun_tokens, rfl, by decide +kernel, by decide +kernel⟩
theorem bd_fun_tokens : BindsBy "fun_tokens" (defArgs st_fun_tokens) (defBody st_fun_tokens) (defScope st_fun_tokens) ps_fun_tokens := fun _ _ _ _ _ _ us hl => match us, hl with | [_], _ => rfl
abbrev N_is_name : List PySem.Str := ["thing"]
abbrev ps_is_name : List PySem.Str := ["thing"]
theorem nd_is_name : N_is_name.Nodup := by decide +kernel
theorem sc_is_name : FnScope N_is_name ps_is_name (defScope st_is_name) := ⟨rfl, rfl, rfl, nd_is_name, rfl, by decide +kernel, by decide +kernel⟩
theorem bd_is_name : BindsBy "is_name" (defArgs st_is_name) (defBody st_is_name) (defScope st_is_name) ps_is_name := fun _ _ _ _ _ _ us hl => match us, hl with | [_], _ => rfl
abbrev N__law_is_name : List PySem.Str := ["thing", "sign"]
abbrev ps__law_is_name : List PySem.Str := ["thing"]
theorem nd__law_is_name : N__law_is_name.Nodup := by decide +kernel
theorem sc__law_is_name : FnScope N__law_is_name ps__law_is_name (defScope st__law_is_name) := ⟨rfl, rfl, rfl, nd__law_is_name, rfl, by decide +kernel, by decide +kernel⟩
theorem bd__law_is_name : BindsBy "_law_is_name" (defArgs st__law_is_name) (defBody st__law_is_name) (defScope st__law_is_name) ps__law_is_name := fun _ _ _ _ _ _ us hl => match us, hl with | [_], _ => rfl
abbrev N_law : List PySem.Str := ["script", "draw", "pieces", "lap", "text", "k", "at", "due", "error", "thing", "odd", "long"]
abbrev ps_law : List PySem.Str := ["script"]
theorem nd_law : N_law.Nodup := by decide +kernel
theorem sc_law : FnScope N_law ps_law (defScope st_law) := ⟨rfl, rfl, rfl, nd_law, rfl, by decide +kernel, by decide +kernel⟩
theorem bd_law : BindsBy "law" (defArgs st_law) (defBody st_law) (defScope st_law) ps_law := fun _ _ _ _ _ _ us hl => match us, hl with | [_], _ => rfl
def l_KEPT : List PySem.Str := ["any", "call", "catch", "cost", "either", "else", "fun", "if", "local", "mark", "or", "raise", "return", "try", "while"]
abbrev d_KEPT : L3.D := .tup (l_KEPT.map D.str)
def clsNames : List PySem.Str := ["StackError", "BadText"]
def t_ok (c : PySem.Str) : Bool := clsNames.contains c
def y_BadText : List PySem.Str := ["BadText"]
def t_ie_BadText (c : PySem.Str) : Option Bool := if c ∈ y_BadText then some true else some false
def t_it_BadText (t : String) : Option Bool := if t = "NoneType" then some false else none
def w__law_begun : WS :=
  (wSeq (wSet 1 (wLc (wiL (wVar 0)) (wgName 2) (wB (wOp geD (wCB rAbs (wCons (wVar 2) wNil)) (wOp powD (wC (.int 10)) (wC (.int 18))))) (wOp subD (wCB rAbs (wCons (wVar 2) wNil)) (wOp powD (wC (.int 10)) (wC (.int 18)))) [2]))
  (wRet (wDisp [((wC (.str "large")), (wVar 1)), ((wC (.str "cells")), (wLc (wiL (wVar 0)) (wgName 2) wYes (wOp modD (wCB rInt (wCons (wCB rAbs (wCons (wVar 2) wNil)) wNil)) (wC (.int 2147483629))) [2])), ((wC (.str "rest")), (wC (.int 0))), ((wC (.str "turn")), (wC (.int 0)))])))
def w__law_mixed : WS :=
  (wSeq (wPar 1 2 (wCons (wOp addD (wOp ixD (wVar 0) (wC (.str "turn"))) (wC (.int 1))) (wCons (wC (.int 0)) wNil)))
  (wSeq (wAsg (wVar 1) (wgSub (wVar 0) (wC (.str "turn"))))
  (wSeq (wFor (wiL (wLst (wCons (wC (.int 2147483647)) (wCons (wC (.int 2147483587)) (wCons (wC (.int 2147483579)) wNil))))) (wgName 3) (wSeq (wSet 4 (wOp modD (wCB rInt (wCons (wOp addD (wOp mulD (wVar 1) (wC (.int 69621))) (wOp fdivD (wVar 3) (wC (.int 17)))) wNil)) (wVar 3)))
  (wSeq (wFor (wiL (wOp ixD (wVar 0) (wC (.str "cells")))) (wgName 5) (wSet 4 (wOp modD (wCB rInt (wCons (wOp addD (wOp addD (wOp mulD (wVar 4) (wC (.int 48271))) (wVar 5)) (wVar 1)) wNil)) (wVar 3))))
  (wSet 2 (wOp addD (wOp mulD (wVar 2) (wC (.int 2147483647))) (wOp modD (wCB rInt (wCons (wOp powD (wVar 4) (wC (.int 5))) wNil)) (wVar 3)))))))
  (wRet (wVar 2)))))
def w__law_take (sp__law_mixed : Sp3) : WS :=
  (wSeq (wIfS (wB (wOp eqD (wOp ixD (wVar 0) (wC (.str "rest"))) (wC (.int 0)))) (wAsg (wIf (wB (wOp neD (wOp ixD (wVar 0) (wC (.str "large"))) (wLst wNil))) (wBM "list" mPop (wOp ixD (wVar 0) (wC (.str "large"))) (wCons (wC (.int 0)) wNil)) (wCall sp__law_mixed 1 (wCons (wVar 0) wNil))) (wgSub (wVar 0) (wC (.str "rest")))) wNext)
  (wSeq (wSet 2 (wOp modD (wCB rInt (wCons (wOp ixD (wVar 0) (wC (.str "rest"))) wNil)) (wVar 1)))
  (wSeq (wAsg (wOp fdivD (wCB rInt (wCons (wOp ixD (wVar 0) (wC (.str "rest"))) wNil)) (wVar 1)) (wgSub (wVar 0) (wC (.str "rest"))))
  (wRet (wVar 2)))))
def w__law_pick (sp__law_take : Sp3) : WS :=
  (wRet (wOp ixD (wVar 1) (wCall sp__law_take 2 (wCons (wVar 0) (wCons (wCB rLen (wCons (wVar 1) wNil)) wNil)))))
def w__law_same : WS :=
  (wRet (wAndV (wOp eqD (wVar 0) (wVar 1)) (wReprs (wVar 0) (wVar 1))))
def w__law_scanned : WS :=
  (wSeq (wAsg (wTup (wCons (wC (.str "abcdefghijklmnopqrstuvwxyz")) (wCons (wC (.str "0123456789")) (wCons (wLst wNil) (wCons (wC (.int 0)) wNil))))) (wgTup 4 (wgCons (wgName 1) (wgCons (wgName 2) (wgCons (wgName 3) (wgCons (wgName 4) wgNil))))))
  (wSeq (wWhile (wB (wOp ltD (wVar 4) (wCB rLen (wCons (wVar 0) wNil)))) (wSeq (wPar 5 6 (wCons (wOp ixD (wVar 0) (wVar 4)) (wCons (wOp addD (wVar 4) (wC (.int 1))) wNil)))
  (wSeq (wIfS (wB (wOp (inD false) (wVar 5) (wC (.str " \n")))) (wSeq (wSet 4 (wOp addD (wVar 4) (wC (.int 1))))
  wCnt) wNext)
  (wSeq (wSet 7 (wIf (wB (wOp (inD false) (wVar 5) (wVar 1))) (wVar 1) (wIf (wB (wOp (inD false) (wVar 5) (wVar 2))) (wVar 2) (wC (.str "")))))
  (wSeq (wWhile (wAnd (wB (wOp neD (wVar 7) (wC (.str "")))) (wAnd (wB (wOp ltD (wVar 6) (wCB rLen (wCons (wVar 0) wNil)))) (wB (wOp (inD false) (wOp ixD (wVar 0) (wVar 6)) (wVar 7))))) (wSet 6 (wOp addD (wVar 6) (wC (.int 1)))))
  (wSeq (wIfS (wB (wOp eqD (wSl (wVar 0) (wPart (wVar 4)) (wPart (wOp addD (wVar 4) (wC (.int 2))))) (wC (.str "==")))) (wSet 6 (wOp addD (wVar 4) (wC (.int 2)))) wNext)
  (wSeq (wSet 8 (wSl (wVar 0) (wPart (wVar 4)) (wPart (wVar 6))))
  (wSeq (wIfS (wOr (wAnd (wB (wOp eqD (wVar 7) (wC (.str "")))) (wB (wOp (inD true) (wVar 5) (wC (.str "(){},;=!&|<+-*"))))) (wAnd (wB (wOp eqD (wVar 7) (wVar 2))) (wOr (wB (wOp gtD (wCB rLen (wCons (wVar 8) wNil)) (wC (.int 4)))) (wAnd (wB (wOp neD (wVar 8) (wC (.str "0")))) (wB (wOp eqD (wOp ixD (wVar 8) (wC (.int 0))) (wC (.str "0")))))))) (wRet (wVar 4)) wNext)
  (wSeq (wDrop (wBM "list" mAppend (wVar 3) (wCons (wTup (wCons (wVar 8) (wCons (wVar 4) wNil))) wNil)))
  (wSet 4 (wVar 6)))))))))))
  (wRet (wVar 3))))
def w_need_text : WS :=
  (wIfS (wOr (wNot (wTru (wCB rIsiD (wCons (wVar 0) (wCons (wC (.ty "str")) wNil))))) (wB (wOp gtD (wCB rLen (wCons (wVar 0) wNil)) (wC (.int 10000))))) (wRz "BadText" "at" (wC (.int 0))) wNext)
def w_token_end : WS :=
  (wSeq (wFor (wiT (wTup (wCons (wC (.str "abcdefghijklmnopqrstuvwxyz")) (wCons (wC (.str "0123456789")) wNil)))) (wgName 2) (wIfS (wB (wOp (inD false) (wOp ixD (wVar 0) (wVar 1)) (wVar 2))) (wSeq (wWhile (wAnd (wB (wOp ltD (wVar 1) (wCB rLen (wCons (wVar 0) wNil)))) (wB (wOp (inD false) (wOp ixD (wVar 0) (wVar 1)) (wVar 2)))) (wAug 1 (wC (.int 1)) addI))
  (wRet (wVar 1))) wNext))
  (wRet (wIf (wB (wOp eqD (wSl (wVar 0) (wPart (wVar 1)) (wPart (wOp addD (wVar 1) (wC (.int 2))))) (wC (.str "==")))) (wOp addD (wVar 1) (wC (.int 2))) (wOp addD (wVar 1) (wC (.int 1))))))
def w_is_row_of : WS :=
  (wRet (wAndV (wCB rIsiD (wCons (wVar 1) (wCons (wC (.ty "str")) wNil))) (wAndV (wOp neD (wVar 1) (wC (.str ""))) (wCB rAllD (wCons (wLc (wiS (wVar 1)) (wgName 2) wYes (wOp (inD false) (wVar 2) (wVar 0)) [2]) wNil)))))
def w_is_numeral (sp_is_row_of : Sp3) : WS :=
  (wRet (wAndV (wCall sp_is_row_of 2 (wCons (wC (.str "0123456789")) (wCons (wVar 0) wNil))) (wAndV (wOp leD (wCB rLen (wCons (wVar 0) wNil)) (wC (.int 4))) (wOrV (wOp eqD (wVar 0) (wC (.str "0"))) (wOp neD (wOp ixD (wVar 0) (wC (.int 0))) (wC (.str "0")))))))
def w_scanned (sp_is_numeral sp_token_end : Sp3) : WS :=
  (wSeq (wPar 1 2 (wCons (wLst wNil) (wCons (wC (.int 0)) wNil)))
  (wSeq (wWhile (wB (wOp ltD (wVar 2) (wCB rLen (wCons (wVar 0) wNil)))) (wSeq (wIfS (wB (wOp (inD false) (wOp ixD (wVar 0) (wVar 2)) (wC (.str " \n")))) (wSeq (wAug 2 (wC (.int 1)) addI)
  wCnt) wNext)
  (wSeq (wSet 3 (wCall sp_token_end 2 (wCons (wVar 0) (wCons (wVar 2) wNil))))
  (wSeq (wSet 4 (wSl (wVar 0) (wPart (wVar 2)) (wPart (wVar 3))))
  (wSeq (wIfS (wAnd (wB (wOp (inD true) (wOp ixD (wVar 0) (wVar 2)) (wOp addD (wC (.str "abcdefghijklmnopqrstuvwxyz")) (wC (.str "(){},;=!&|<+-*"))))) (wNot (wTru (wCall sp_is_numeral 1 (wCons (wVar 4) wNil))))) (wRz "BadText" "at" (wVar 2)) wNext)
  (wSeq (wDrop (wBM "list" mAppend (wVar 1) (wCons (wTup (wCons (wVar 4) (wCons (wVar 2) wNil))) wNil)))
  (wSet 2 (wVar 3))))))))
  (wRet (wVar 1))))
def w_fun_tokens (sp_need_text sp_scanned : Sp3) : WS :=
  (wSeq (wDrop (wCall sp_need_text 1 (wCons (wVar 0) wNil)))
  (wRet (wCB rTupc (wCons (wCall sp_scanned 1 (wCons (wVar 0) wNil)) wNil))))
def w_is_name (sp_is_row_of : Sp3) : WS :=
  (wRet (wAndV (wCall sp_is_row_of 2 (wCons (wC (.str "abcdefghijklmnopqrstuvwxyz")) (wCons (wVar 0) wNil))) (wAndV (wOp leD (wCB rLen (wCons (wVar 0) wNil)) (wC (.int 8))) (wOp (inD true) (wVar 0) (wC d_KEPT)))))
def w__law_is_name : WS :=
  (wSeq (wIfS (wOr (wNot (wTru (wCB rIsiD (wCons (wVar 0) (wCons (wC (.ty "str")) wNil))))) (wOr (wNot (wB (wChain leD leD (wC (.int 1)) (wCB rLen (wCons (wVar 0) wNil)) (wC (.int 8))))) (wB (wOp neD (wLc (wiS (wVar 0)) (wgName 1) (wB (wOp (inD true) (wVar 1) (wC (.str "abcdefghijklmnopqrstuvwxyz")))) (wC (.int 1)) [1]) (wLst wNil))))) (wRet (wC (.bl false))) wNext)
  (wRet (wOp (inD true) (wVar 0) (wLst (wCons (wC (.str "any")) (wCons (wC (.str "call")) (wCons (wC (.str "catch")) (wCons (wC (.str "cost")) (wCons (wC (.str "either")) (wCons (wC (.str "else")) (wCons (wC (.str "fun")) (wCons (wC (.str "if")) (wCons (wC (.str "local")) (wCons (wC (.str "mark")) (wCons (wC (.str "or")) (wCons (wC (.str "raise")) (wCons (wC (.str "return")) (wCons (wC (.str "try")) (wCons (wC (.str "while")) wNil)))))))))))))))))))
def w_law (sp__law_begun sp__law_is_name sp__law_pick sp__law_same sp__law_scanned sp__law_take sp_fun_tokens sp_is_name : Sp3) : WS :=
  (wSeq (wSet 1 (wCall sp__law_begun 1 (wCons (wVar 0) wNil)))
  (wSeq (wSet 2 (wLst (wCons (wC (.str "fun")) (wCons (wC (.str "f")) (wCons (wC (.str "any")) (wCons (wC (.str "x")) (wCons (wC (.str "abcdefghi")) (wCons (wC (.str "0")) (wCons (wC (.str "7")) (wCons (wC (.str "12")) (wCons (wC (.str "9999")) (wCons (wC (.str "(")) (wCons (wC (.str ")")) (wCons (wC (.str "{")) (wCons (wC (.str "}")) (wCons (wC (.str ";")) (wCons (wC (.str ",")) (wCons (wC (.str "=")) (wCons (wC (.str "==")) (wCons (wC (.str "!")) (wCons (wC (.str "&")) (wCons (wC (.str "|")) (wCons (wC (.str "<")) (wCons (wC (.str "+")) (wCons (wC (.str "-")) (wCons (wC (.str "*")) (wCons (wC (.str " ")) (wCons (wC (.str "\n")) wNil))))))))))))))))))))))))))))
  (wSeq (wFor (wiR1 (wCons (wOp addD (wC (.int 12)) (wCB rMin2 (wCons (wCB rLen (wCons (wVar 0) wNil)) (wCons (wC (.int 20)) wNil)))) wNil)) (wgName 3) (wSeq (wSet 4 (wBM "str" mJoin (wC (.str "")) (wCons (wLc (wiR1 (wCons (wCall sp__law_take 2 (wCons (wVar 1) (wCons (wC (.int 12)) wNil))) wNil)) (wgName 5) wYes (wCall sp__law_pick 2 (wCons (wVar 1) (wCons (wVar 2) wNil))) [5]) wNil)))
  (wSeq (wIfS (wB (wOp eqD (wCall sp__law_take 2 (wCons (wVar 1) (wCons (wC (.int 3)) wNil))) (wC (.int 0)))) (wSeq (wSet 6 (wCall sp__law_take 2 (wCons (wVar 1) (wCons (wOp addD (wCB rLen (wCons (wVar 4) wNil)) (wC (.int 1))) wNil))))
  (wSet 4 (wOp addD (wOp addD (wSl (wVar 4) wNoPart (wPart (wVar 6))) (wCall sp__law_pick 2 (wCons (wVar 1) (wCons (wLst (wCons (wC (.str "#")) (wCons (wC (.str ".")) (wCons (wC (.str "_")) (wCons (wC (.str "\t")) (wCons (wC (.str "00")) (wCons (wC (.str "007")) (wCons (wC (.str "12345")) (wCons (wC (.str "A")) (wCons (wC (.str ">")) (wCons (wC (.str "[")) (wCons (wC (.str "\"")) wNil)))))))))))) wNil)))) (wSl (wVar 4) (wPart (wVar 6)) wNoPart)))) wNext)
  (wSeq (wPar 7 8 (wCons (wCall sp__law_scanned 1 (wCons (wVar 4) wNil)) (wCons (wC .non) wNil)))
  (wSeq (wIfS (wTru (wCB rIsiD (wCons (wVar 7) (wCons (wC (.ty "int")) wNil)))) (wSeq (wSet 8 (wCaught t_ok (wCall sp_fun_tokens 1 (wCons (wVar 4) wNil))))
  (wIfS (wOr (wNot (wTru (wIsC t_ie_BadText t_it_BadText (wVar 8)))) (wNot (wTru (wCall sp__law_same 2 (wCons (wXf "at" (wVar 8)) (wCons (wVar 7) wNil)))))) (wRet (wC (.bl false))) wNext)) (wIfS (wNot (wTru (wCall sp__law_same 2 (wCons (wCall sp_fun_tokens 1 (wCons (wVar 4) wNil)) (wCons (wCB rTupc (wCons (wVar 7) wNil)) wNil))))) (wRet (wC (.bl false))) wNext))
  (wSeq (wSet 9 (wCall sp__law_pick 2 (wCons (wVar 1) (wCons (wLst (wCons (wC (.str "a")) (wCons (wC (.str "abcdefgh")) (wCons (wC (.str "abcdefghi")) (wCons (wC (.str "any")) (wCons (wC (.str "call")) (wCons (wC (.str "calls")) (wCons (wC (.str "or")) (wCons (wC (.str "ors")) (wCons (wC (.str "A")) (wCons (wC (.str "aB")) (wCons (wC (.str "a1")) (wCons (wC (.str "")) (wCons (wC .non) (wCons (wC (.int 5)) (wCons (wTup (wCons (wC (.str "a")) wNil)) (wCons (wC (.str "fun")) (wCons (wC (.str "while")) (wCons (wC (.str "catch")) (wCons (wC (.str "b_")) wNil)))))))))))))))))))) wNil))))
  (wIfS (wNot (wTru (wCall sp__law_same 2 (wCons (wCall sp_is_name 1 (wCons (wVar 9) wNil)) (wCons (wCall sp__law_is_name 1 (wCons (wVar 9) wNil)) wNil))))) (wRet (wC (.bl false))) wNext)))))))
  (wSeq (wFor (wiL (wLst (wCons (wC .non) (wCons (wC (.int 5)) (wCons (wTup (wCons (wC (.str "fun")) wNil)) (wCons (wLst (wCons (wC (.str "a")) wNil)) wNil)))))) (wgName 10) (wSeq (wSet 8 (wCaught t_ok (wCall sp_fun_tokens 1 (wCons (wVar 10) wNil))))
  (wIfS (wOr (wNot (wTru (wIsC t_ie_BadText t_it_BadText (wVar 8)))) (wNot (wTru (wCall sp__law_same 2 (wCons (wXf "at" (wVar 8)) (wCons (wC (.int 0)) wNil)))))) (wRet (wC (.bl false))) wNext)))
  (wSeq (wSet 11 (wOp mulD (wCall sp__law_pick 2 (wCons (wVar 1) (wCons (wLst (wCons (wC (.str "(")) (wCons (wC (.str "a ")) (wCons (wC (.str " ")) (wCons (wC (.str "==")) wNil))))) wNil))) (wC (.int 10000))))
  (wSeq (wIfS (wB (wOp (inD true) (wCB rLen (wCons (wCall sp_fun_tokens 1 (wCons (wSl (wVar 11) wNoPart (wPart (wC (.int 10000)))) wNil)) wNil)) (wLst (wCons (wC (.int 10000)) (wCons (wC (.int 5000)) (wCons (wC (.int 0)) wNil)))))) (wRet (wC (.bl false))) wNext)
  (wSeq (wSet 8 (wCaught t_ok (wCall sp_fun_tokens 1 (wCons (wOp addD (wSl (wVar 11) wNoPart (wPart (wC (.int 10000)))) (wC (.str " "))) wNil))))
  (wRet (wAndV (wIsC t_ie_BadText t_it_BadText (wVar 8)) (wCall sp__law_same 2 (wCons (wXf "at" (wVar 8)) (wCons (wC (.int 0)) wNil))))))))))))
theorem cg_caught {X : Cx} (hme : X.mg "StackError" = some (.ref (He.ga X.K "StackError"))) (q : PySem.Str) (g : Addr) (cdv : Value) : LamX.GivesTo X [sWo, sCa, sEr] "_law_caught" (defScope st__law_caught) g cdv (defBody st__law_caught) sWo q (TCaught X.K (He.ga X.K "StackError")) :=
  caught_gives rfl hme rfl rfl (fun _ => rfl) (fun _ => rfl) (fun _ => rfl)
structure EnvK (C : Cl) (P : Program) (K : PySem.W.Frag) (mg : PySem.Str → Option Value) : Prop where
  fr_abs : mg "abs" = none
  fr_all : mg "all" = none
  fr_int : mg "int" = none
  fr_isinstance : mg "isinstance" = none
  fr_len : mg "len" = none
  fr_min : mg "min" = none
  fr_range : mg "range" = none
  fr_repr : mg "repr" = none
  fr_str : mg "str" = none
  fr_super : mg "super" = none
  fr_tuple : mg "tuple" = none
  g_FIGURES : ∃ t, mg "FIGURES" = some (.str "0123456789" t)
  g_KEPT : ∃ a, mg "KEPT" = some (.ref a) ∧ SqT K (fun _ => none) a (l_KEPT.map V.str)
  g_MOST_FIGURES : ∃ t, mg "MOST_FIGURES" = some (.int 4 t)
  g_MOST_LETTERS : ∃ t, mg "MOST_LETTERS" = some (.int 8 t)
  g_MOST_SIGNS : ∃ t, mg "MOST_SIGNS" = some (.int 10000 t)
  g_SIGNS : ∃ t, mg "SIGNS" = some (.str "(){},;=!&|<+-*" t)
  g_SMALL : ∃ t, mg "SMALL" = some (.str "abcdefghijklmnopqrstuvwxyz" t)
  g_BadText : mg "BadText" = some (.ref (He.ga K "BadText"))
  xc_BadText : C.cls "BadText" = some (He.ga K "BadText")
  xt_BadText : XcX.XcTxt P K "BadText" "at" (He.ga K "BadText") (He.ma K (He.ga K "BadText") "__init__")
  ie_BadText : ∀ c' b Cc, t_ie_BadText c' = some b → C.cls c' = some Cc → ExcC K Cc ∧ PySem.W.kitOne K (.ref Cc) (.ref (He.ga K "BadText")) = some b
  it_BadText : ∀ t b, t_it_BadText t = some b → PySem.W.kitOne K (.type t) (.ref (He.ga K "BadText")) = some b
  xf_at : ∀ c Cc, C.cls c = some Cc → XfC K Cc ∧ PySem.W.findIn K (.ref Cc) "at" = some none
section
variable {C : Cl} {P : Program} {w : World} {K : PySem.W.Frag} {mg : PySem.Str → Option Value} {base : Heap} {f : Addr} {cdv : Value} {A : Around} {outer : List Env} {s : Shared} {H : Hp} {E : XK}
theorem dv__law_begun (hE : EnvK C P K mg) (hr : Room 0 (A.deeper (envOfC "_law_begun" (defScope st__law_begun) s.heap.objs.size f cdv))) :
    PSs3 C (cxOf (L2.CX P w) P w K mg base N__law_begun "_law_begun" (defScope st__law_begun) f cdv A outer s H E) (WX0 E) (defBody st__law_begun) (w__law_begun) :=
  (pss3_cons (ps3_setLc (i := 1) (own := [(("cell" : PySem.Str), 2)]) rfl nd__law_begun rfl rfl rfl (pi3_list (v3 (i := 0))) (show BlkOk N__law_begun (defScope st__law_begun) _ _ from blkOk_by (by decide +kernel)) (fun _ _ _ _ _ => (pg_name (i := 2) nd__law_begun rfl (by first | exact .inl rfl | exact .inr rfl) (by first | exact .inl rfl | exact .inr rfl))) gl_name (om_name (by decide)) (fun _ _ _ _ _ => (pts3_one (pt3_cmp ge3 (pe3_callB abs3 rfl hE.fr_abs bt_abs (pa3_cons (v3 (i := 2)) pa3_nil)) (pe3_op pow3 k3i k3i) (nomark _)))) (fun _ _ _ _ _ => (pe3_op sub3 (pe3_callB abs3 rfl hE.fr_abs bt_abs (pa3_cons (v3 (i := 2)) pa3_nil)) (pe3_op pow3 k3i k3i))))
  (pss3_one (ps3_ret (pe3_disp (.cons (k3s) (v3 (i := 1)) (.cons (k3s) (pe3_lc (own := [(("cell" : PySem.Str), 2)]) rfl nd__law_begun (pi3_list (v3 (i := 0))) (show BlkOk N__law_begun (defScope st__law_begun) _ _ from blkOk_by (by decide +kernel)) (fun _ _ _ _ _ => (pg_name (i := 2) nd__law_begun rfl (by first | exact .inl rfl | exact .inr rfl) (by first | exact .inl rfl | exact .inr rfl))) gl_name (om_name (by decide)) (fun _ _ _ _ _ => pts3_nil) (fun _ _ _ _ _ => (pe3_op mod3 (pe3_callTy intc3 rfl hE.fr_int bt_int (pa3_cons (pe3_callB abs3 rfl hE.fr_abs bt_abs (pa3_cons (v3 (i := 2)) pa3_nil)) pa3_nil)) k3i))) (.cons (k3s) k3i (.cons (k3s) k3i .nil))))))))
theorem dv__law_mixed (hE : EnvK C P K mg) (hr : Room 0 (A.deeper (envOfC "_law_mixed" (defScope st__law_mixed) s.heap.objs.size f cdv))) :
    PSs3 C (cxOf (L2.CX P w) P w K mg base N__law_mixed "_law_mixed" (defScope st__law_mixed) f cdv A outer s H E) (WX0 E) (defBody st__law_mixed) (w__law_mixed) :=
  (pss3_cons (ps3_par (i := 1) (j := 2) rfl nd__law_mixed rfl rfl (by decide) rfl rfl (pa3_cons (pe3_op add3 (ix3r hr (v3 (i := 0)) (k3s)) k3i) (pa3_cons k3i pa3_nil)) rfl)
  (pss3_cons (ps3_sub (room1 hr) (v3 (i := 0)) (k3s) (v3 (i := 1)))
  (pss3_cons (ps3_for passes_cx rfl (pi3_list (pe3_lst (pa3_cons k3i (pa3_cons k3i (pa3_cons k3i pa3_nil))))) (pg_name (i := 3) nd__law_mixed rfl (by first | exact .inl rfl | exact .inr rfl) (by first | exact .inl rfl | exact .inr rfl)) gl_name
  (pss3_cons (ps3_set (i := 4) nd__law_mixed rfl (by first | exact .inl rfl | exact .inr rfl) (pe3_op mod3 (pe3_callTy intc3 rfl hE.fr_int bt_int (pa3_cons (pe3_op add3 (pe3_op mul3 (v3 (i := 1)) k3i) (pe3_op fdiv3 (v3 (i := 3)) k3i)) pa3_nil)) (v3 (i := 3))) rfl (by first | exact .inl rfl | exact .inr rfl))
  (pss3_cons (ps3_for passes_cx rfl (pi3_list (ix3r hr (v3 (i := 0)) (k3s))) (pg_name (i := 5) nd__law_mixed rfl (by first | exact .inl rfl | exact .inr rfl) (by first | exact .inl rfl | exact .inr rfl)) gl_name
  (pss3_one (ps3_set (i := 4) nd__law_mixed rfl (by first | exact .inl rfl | exact .inr rfl) (pe3_op mod3 (pe3_callTy intc3 rfl hE.fr_int bt_int (pa3_cons (pe3_op add3 (pe3_op add3 (pe3_op mul3 (v3 (i := 4)) k3i) (v3 (i := 5))) (v3 (i := 1))) pa3_nil)) (v3 (i := 3))) rfl (by first | exact .inl rfl | exact .inr rfl))))
  (pss3_one (ps3_set (i := 2) nd__law_mixed rfl (by first | exact .inl rfl | exact .inr rfl) (pe3_op add3 (pe3_op mul3 (v3 (i := 2)) k3i) (pe3_op mod3 (pe3_callTy intc3 rfl hE.fr_int bt_int (pa3_cons (pe3_op pow3 (v3 (i := 4)) k3i) pa3_nil)) (v3 (i := 3)))) rfl (by first | exact .inl rfl | exact .inr rfl))))))
  (pss3_one (ps3_ret (v3 (i := 2)))))))
theorem dv__law_take {sp__law_mixed : Sp3} (hE : EnvK C P K mg) (D__law_mixed : Def3 C P w K mg base 1 "_law_mixed" ps__law_mixed sp__law_mixed) (hr : Room 1 (A.deeper (envOfC "_law_take" (defScope st__law_take) s.heap.objs.size f cdv))) :
    PSs3 C (cxOf (L2.CX P w) P w K mg base N__law_take "_law_take" (defScope st__law_take) f cdv A outer s H E) (WX0 E) (defBody st__law_take) (w__law_take sp__law_mixed) :=
  (pss3_cons (ps3_if (pt3_cmp (eq3r hr) (ix3r hr (v3 (i := 0)) (k3s)) k3i (nomark _))
  (pss3_one (ps3_sub (room1 hr) (v3 (i := 0)) (k3s) (pe3_if (pt3_cmp (ne3r hr) (ix3r hr (v3 (i := 0)) (k3s)) (pe3_lst pa3_nil) (nomark _)) (pe3_bm PySem.F.plainAttrs_list PySem.F.slot_list_pop PySem.F.type_list_pop pop3 (ix3r hr (v3 (i := 0)) (k3s)) (pa3_cons k3i pa3_nil)) (pe3_def D__law_mixed (hr.mono (by decide)) takes_cx (pa3_cons (v3 (i := 0)) pa3_nil)))))
  pss3_nil)
  (pss3_cons (ps3_set (i := 2) nd__law_take rfl (by first | exact .inl rfl | exact .inr rfl) (pe3_op mod3 (pe3_callTy intc3 rfl hE.fr_int bt_int (pa3_cons (ix3r hr (v3 (i := 0)) (k3s)) pa3_nil)) (v3 (i := 1))) rfl (by first | exact .inl rfl | exact .inr rfl))
  (pss3_cons (ps3_sub (room1 hr) (v3 (i := 0)) (k3s) (pe3_op fdiv3 (pe3_callTy intc3 rfl hE.fr_int bt_int (pa3_cons (ix3r hr (v3 (i := 0)) (k3s)) pa3_nil)) (v3 (i := 1))))
  (pss3_one (ps3_ret (v3 (i := 2)))))))
theorem dv__law_pick {sp__law_take : Sp3} (hE : EnvK C P K mg) (D__law_take : Def3 C P w K mg base 2 "_law_take" ps__law_take sp__law_take) (hr : Room 2 (A.deeper (envOfC "_law_pick" (defScope st__law_pick) s.heap.objs.size f cdv))) :
    PSs3 C (cxOf (L2.CX P w) P w K mg base N__law_pick "_law_pick" (defScope st__law_pick) f cdv A outer s H E) (WX0 E) (defBody st__law_pick) (w__law_pick sp__law_take) :=
  (pss3_one (ps3_ret (ix3r hr (v3 (i := 1)) (pe3_def D__law_take (hr.mono (by decide)) takes_cx (pa3_cons (v3 (i := 0)) (pa3_cons (pe3_callB len3 rfl hE.fr_len bt_len (pa3_cons (v3 (i := 1)) pa3_nil)) pa3_nil))))))
theorem dv__law_same (hE : EnvK C P K mg) (hr : Room 0 (A.deeper (envOfC "_law_same" (defScope st__law_same) s.heap.objs.size f cdv))) (hgd : (cxOf (L2.CX P w) P w K mg base N__law_same "_law_same" (defScope st__law_same) f cdv A outer s H E).A.guards = some []) :
    PSs3 C (cxOf (L2.CX P w) P w K mg base N__law_same "_law_same" (defScope st__law_same) f cdv A outer s H E) (WX0 E) (defBody st__law_same) (w__law_same) :=
  (pss3_one (ps3_ret (pe3_and (pe3_cmp (eq3r hr) (v3 (i := 0)) (v3 (i := 1)) (nomark _)) (pe3_one (pe3_reprs hgd (room50 hr) rfl hE.fr_repr (v3 (i := 0)) (v3 (i := 1)))))))
theorem dv__law_scanned (hE : EnvK C P K mg) (hr : Room 0 (A.deeper (envOfC "_law_scanned" (defScope st__law_scanned) s.heap.objs.size f cdv))) :
    PSs3 C (cxOf (L2.CX P w) P w K mg base N__law_scanned "_law_scanned" (defScope st__law_scanned) f cdv A outer s H E) (WX0 E) (defBody st__law_scanned) (w__law_scanned) :=
  (pss3_cons (ps3_asg (pe3_tup (pa3_cons (k3s) (pa3_cons (k3s) (pa3_cons (pe3_lst pa3_nil) (pa3_cons k3i pa3_nil))))) (pg_tup (n := 4) rfl (pgs_cons (pg_name (i := 1) nd__law_scanned rfl (by first | exact .inl rfl | exact .inr rfl) (by first | exact .inl rfl | exact .inr rfl)) (pgs_cons (pg_name (i := 2) nd__law_scanned rfl (by first | exact .inl rfl | exact .inr rfl) (by first | exact .inl rfl | exact .inr rfl)) (pgs_cons (pg_name (i := 3) nd__law_scanned rfl (by first | exact .inl rfl | exact .inr rfl) (by first | exact .inl rfl | exact .inr rfl)) (pgs_cons (pg_name (i := 4) nd__law_scanned rfl (by first | exact .inl rfl | exact .inr rfl) (by first | exact .inl rfl | exact .inr rfl)) pgs_nil))))) (gl_tup (gl_cons gl_name (gl_cons gl_name (gl_cons gl_name (gl_cons gl_name gl_nil))))))
  (pss3_cons (ps3_while passes_cx (pt3_cmp lt3 (v3 (i := 4)) (pe3_callB len3 rfl hE.fr_len bt_len (pa3_cons (v3 (i := 0)) pa3_nil)) (nomark _))
  (pss3_cons (ps3_par (i := 5) (j := 6) rfl nd__law_scanned rfl rfl (by decide) rfl rfl (pa3_cons (ix3r hr (v3 (i := 0)) (v3 (i := 4))) (pa3_cons (pe3_op add3 (v3 (i := 4)) k3i) pa3_nil)) rfl)
  (pss3_cons (ps3_if (pt3_cmp (in3f hr) (v3 (i := 5)) (k3s) (by with_unfolding_all rfl))
  (pss3_cons (ps3_set (i := 4) nd__law_scanned rfl (by first | exact .inl rfl | exact .inr rfl) (pe3_op add3 (v3 (i := 4)) k3i) rfl (by first | exact .inl rfl | exact .inr rfl))
  (pss3_one ps3_continue))
  pss3_nil)
  (pss3_cons (ps3_set (i := 7) nd__law_scanned rfl (by first | exact .inl rfl | exact .inr rfl) (pe3_if (pt3_cmp (in3f hr) (v3 (i := 5)) (v3 (i := 1)) (by with_unfolding_all rfl)) (v3 (i := 1)) (pe3_if (pt3_cmp (in3f hr) (v3 (i := 5)) (v3 (i := 2)) (by with_unfolding_all rfl)) (v3 (i := 2)) (k3s))) rfl (by first | exact .inl rfl | exact .inr rfl))
  (pss3_cons (ps3_while passes_cx (PW3.pt (pw3_and (pt3_cmp (ne3r hr) (v3 (i := 7)) (k3s) (nomark _)) (pw3_and (pt3_cmp lt3 (v3 (i := 6)) (pe3_callB len3 rfl hE.fr_len bt_len (pa3_cons (v3 (i := 0)) pa3_nil)) (nomark _)) (pw3_and1 (pt3_cmp (in3f hr) (ix3r hr (v3 (i := 0)) (v3 (i := 6))) (v3 (i := 7)) (by with_unfolding_all rfl))))))
  (pss3_one (ps3_set (i := 6) nd__law_scanned rfl (by first | exact .inl rfl | exact .inr rfl) (pe3_op add3 (v3 (i := 6)) k3i) rfl (by first | exact .inl rfl | exact .inr rfl))))
  (pss3_cons (ps3_if (pt3_cmp (eq3r hr) (pe3_slice (v3 (i := 0)) (po3_some (v3 (i := 4))) (po3_some (pe3_op add3 (v3 (i := 4)) k3i))) (k3s) (nomark _))
  (pss3_one (ps3_set (i := 6) nd__law_scanned rfl (by first | exact .inl rfl | exact .inr rfl) (pe3_op add3 (v3 (i := 4)) k3i) rfl (by first | exact .inl rfl | exact .inr rfl)))
  pss3_nil)
  (pss3_cons (ps3_set (i := 8) nd__law_scanned rfl (by first | exact .inl rfl | exact .inr rfl) (pe3_slice (v3 (i := 0)) (po3_some (v3 (i := 4))) (po3_some (v3 (i := 6)))) rfl (by first | exact .inl rfl | exact .inr rfl))
  (pss3_cons (ps3_if (PW3.pt (pw3_or (PW3.pt (pw3_and (pt3_cmp (eq3r hr) (v3 (i := 7)) (k3s) (nomark _)) (pw3_and1 (pt3_cmp (in3t hr) (v3 (i := 5)) (k3s) (by with_unfolding_all rfl))))) (pw3_or1 (PW3.pt (pw3_and (pt3_cmp (eq3r hr) (v3 (i := 7)) (v3 (i := 2)) (nomark _)) (pw3_and1 (PW3.pt (pw3_or (pt3_cmp gt3 (pe3_callB len3 rfl hE.fr_len bt_len (pa3_cons (v3 (i := 8)) pa3_nil)) k3i (nomark _)) (pw3_or1 (PW3.pt (pw3_and (pt3_cmp (ne3r hr) (v3 (i := 8)) (k3s) (nomark _)) (pw3_and1 (pt3_cmp (eq3r hr) (ix3r hr (v3 (i := 8)) k3i) (k3s) (nomark _))))))))))))))
  (pss3_one (ps3_ret (v3 (i := 4))))
  pss3_nil)
  (pss3_cons (ps3_expr (pe3_bm PySem.F.plainAttrs_list PySem.F.slot_list_append PySem.F.type_list_append append3 (v3 (i := 3)) (pa3_cons (pe3_tup (pa3_cons (v3 (i := 8)) (pa3_cons (v3 (i := 4)) pa3_nil))) pa3_nil)))
  (pss3_one (ps3_set (i := 4) nd__law_scanned rfl (by first | exact .inl rfl | exact .inr rfl) (v3 (i := 6)) rfl (by first | exact .inl rfl | exact .inr rfl))))))))))))
  (pss3_one (ps3_ret (v3 (i := 3))))))
theorem dv_need_text (hE : EnvK C P K mg) (hr : Room 0 (A.deeper (envOfC "need_text" (defScope st_need_text) s.heap.objs.size f cdv))) :
    PSs3 C (cxOf (L2.CX P w) P w K mg base N_need_text "need_text" (defScope st_need_text) f cdv A outer s H E) (WX0 E) (defBody st_need_text) (w_need_text) :=
  (pss3_one (ps3_if (PW3.pt (pw3_or (pt3_not (pt3_truth (pe3_callB isi3 rfl hE.fr_isinstance bt_isinstance (pa3_cons (v3 (i := 0)) (pa3_cons (ty3 hE.fr_str bt_str) pa3_nil))))) (pw3_or1 (pt3_cmp gt3 (pe3_callB len3 rfl hE.fr_len bt_len (pa3_cons (v3 (i := 0)) pa3_nil)) (g3i hE.g_MOST_SIGNS) (nomark _)))))
  (pss3_one (ps3_raiseX hE.xt_BadText hE.xc_BadText rfl takes_cx hr k3i rfl hE.g_BadText hE.fr_super))
  pss3_nil))
theorem dv_token_end (hE : EnvK C P K mg) (hr : Room 0 (A.deeper (envOfC "token_end" (defScope st_token_end) s.heap.objs.size f cdv))) :
    PSs3 C (cxOf (L2.CX P w) P w K mg base N_token_end "token_end" (defScope st_token_end) f cdv A outer s H E) (WX0 E) (defBody st_token_end) (w_token_end) :=
  (pss3_cons (ps3_for passes_cx rfl (pi3_tup (pe3_tup (pa3_cons (g3s hE.g_SMALL (by decide +kernel)) (pa3_cons (g3s hE.g_FIGURES (by decide +kernel)) pa3_nil)))) (pg_name (i := 2) nd_token_end rfl (by first | exact .inl rfl | exact .inr rfl) (by first | exact .inl rfl | exact .inr rfl)) gl_name
  (pss3_one (ps3_if (pt3_cmp (in3f hr) (ix3r hr (v3 (i := 0)) (v3 (i := 1))) (v3 (i := 2)) (by with_unfolding_all rfl))
  (pss3_cons (ps3_while passes_cx (PW3.pt (pw3_and (pt3_cmp lt3 (v3 (i := 1)) (pe3_callB len3 rfl hE.fr_len bt_len (pa3_cons (v3 (i := 0)) pa3_nil)) (nomark _)) (pw3_and1 (pt3_cmp (in3f hr) (ix3r hr (v3 (i := 0)) (v3 (i := 1))) (v3 (i := 2)) (by with_unfolding_all rfl)))))
  (pss3_one (ps3_aug (i := 1) nd_token_end rfl (by first | exact .inl rfl | exact .inr rfl) k3i iadd3 (by first | exact .inl rfl | exact .inr rfl))))
  (pss3_one (ps3_ret (v3 (i := 1)))))
  pss3_nil)))
  (pss3_one (ps3_ret (pe3_if (pt3_cmp (eq3r hr) (pe3_slice (v3 (i := 0)) (po3_some (v3 (i := 1))) (po3_some (pe3_op add3 (v3 (i := 1)) k3i))) (k3s) (nomark _)) (pe3_op add3 (v3 (i := 1)) k3i) (pe3_op add3 (v3 (i := 1)) k3i)))))
theorem dv_is_row_of (hE : EnvK C P K mg) (hr : Room 0 (A.deeper (envOfC "is_row_of" (defScope st_is_row_of) s.heap.objs.size f cdv))) :
    PSs3 C (cxOf (L2.CX P w) P w K mg base N_is_row_of "is_row_of" (defScope st_is_row_of) f cdv A outer s H E) (WX0 E) (defBody st_is_row_of) (w_is_row_of) :=
  (pss3_one (ps3_ret (pe3_and (pe3_callB isi3 rfl hE.fr_isinstance bt_isinstance (pa3_cons (v3 (i := 1)) (pa3_cons (ty3 hE.fr_str bt_str) pa3_nil))) (pe3_and (pe3_cmp (ne3r hr) (v3 (i := 1)) (k3s) (nomark _)) (pe3_one (pe3_callB (all3 rfl) rfl hE.fr_all bt_all (pa3_cons (pe3_lc (own := [(("sign" : PySem.Str), 2)]) rfl nd_is_row_of (pi3_str (v3 (i := 1))) (show BlkOk N_is_row_of (defScope st_is_row_of) _ _ from blkOk_by (by decide +kernel)) (fun _ _ _ _ _ => (pg_name (i := 2) nd_is_row_of rfl (by first | exact .inl rfl | exact .inr rfl) (by first | exact .inl rfl | exact .inr rfl))) gl_name (om_name (by decide)) (fun _ _ _ _ _ => pts3_nil) (fun _ _ _ _ _ => (pe3_cmp (in3f hr) (v3 (i := 2)) (v3 (i := 0)) (by with_unfolding_all rfl)))) pa3_nil)))))))
theorem dv_is_numeral {sp_is_row_of : Sp3} (hE : EnvK C P K mg) (D_is_row_of : Def3 C P w K mg base 1 "is_row_of" ps_is_row_of sp_is_row_of) (hr : Room 1 (A.deeper (envOfC "is_numeral" (defScope st_is_numeral) s.heap.objs.size f cdv))) :
    PSs3 C (cxOf (L2.CX P w) P w K mg base N_is_numeral "is_numeral" (defScope st_is_numeral) f cdv A outer s H E) (WX0 E) (defBody st_is_numeral) (w_is_numeral sp_is_row_of) :=
  (pss3_one (ps3_ret (pe3_and (pe3_def D_is_row_of (hr.mono (by decide)) takes_cx (pa3_cons (g3s hE.g_FIGURES (by decide +kernel)) (pa3_cons (v3 (i := 0)) pa3_nil))) (pe3_and (pe3_cmp le3 (pe3_callB len3 rfl hE.fr_len bt_len (pa3_cons (v3 (i := 0)) pa3_nil)) (g3i hE.g_MOST_FIGURES) (nomark _)) (pe3_one (pe3_or (pe3_cmp (eq3r hr) (v3 (i := 0)) (k3s) (nomark _)) (pe3_one (pe3_cmp (ne3r hr) (ix3r hr (v3 (i := 0)) k3i) (k3s) (nomark _)))))))))
theorem dv_scanned {sp_is_numeral sp_token_end : Sp3} (hE : EnvK C P K mg) (D_is_numeral : Def3 C P w K mg base 2 "is_numeral" ps_is_numeral sp_is_numeral) (D_token_end : Def3 C P w K mg base 1 "token_end" ps_token_end sp_token_end) (hr : Room 2 (A.deeper (envOfC "scanned" (defScope st_scanned) s.heap.objs.size f cdv))) :
    PSs3 C (cxOf (L2.CX P w) P w K mg base N_scanned "scanned" (defScope st_scanned) f cdv A outer s H E) (WX0 E) (defBody st_scanned) (w_scanned sp_is_numeral sp_token_end) :=
  (pss3_cons (ps3_par (i := 1) (j := 2) rfl nd_scanned rfl rfl (by decide) rfl rfl (pa3_cons (pe3_lst pa3_nil) (pa3_cons k3i pa3_nil)) rfl)
  (pss3_cons (ps3_while passes_cx (pt3_cmp lt3 (v3 (i := 2)) (pe3_callB len3 rfl hE.fr_len bt_len (pa3_cons (v3 (i := 0)) pa3_nil)) (nomark _))
  (pss3_cons (ps3_if (pt3_cmp (in3f hr) (ix3r hr (v3 (i := 0)) (v3 (i := 2))) (k3s) (by with_unfolding_all rfl))
  (pss3_cons (ps3_aug (i := 2) nd_scanned rfl (by first | exact .inl rfl | exact .inr rfl) k3i iadd3 (by first | exact .inl rfl | exact .inr rfl))
  (pss3_one ps3_continue))
  pss3_nil)
  (pss3_cons (ps3_set (i := 3) nd_scanned rfl (by first | exact .inl rfl | exact .inr rfl) (pe3_def D_token_end (hr.mono (by decide)) takes_cx (pa3_cons (v3 (i := 0)) (pa3_cons (v3 (i := 2)) pa3_nil))) rfl (by first | exact .inl rfl | exact .inr rfl))
  (pss3_cons (ps3_set (i := 4) nd_scanned rfl (by first | exact .inl rfl | exact .inr rfl) (pe3_slice (v3 (i := 0)) (po3_some (v3 (i := 2))) (po3_some (v3 (i := 3)))) rfl (by first | exact .inl rfl | exact .inr rfl))
  (pss3_cons (ps3_if (PW3.pt (pw3_and (pt3_cmp (in3t hr) (ix3r hr (v3 (i := 0)) (v3 (i := 2))) (pe3_op add3 (g3s hE.g_SMALL (by decide +kernel)) (g3s hE.g_SIGNS (by decide +kernel))) (by with_unfolding_all rfl)) (pw3_and1 (pt3_not (pt3_truth (pe3_def D_is_numeral (hr.mono (by decide)) takes_cx (pa3_cons (v3 (i := 4)) pa3_nil)))))))
  (pss3_one (ps3_raiseX hE.xt_BadText hE.xc_BadText rfl takes_cx hr (v3 (i := 2)) rfl hE.g_BadText hE.fr_super))
  pss3_nil)
  (pss3_cons (ps3_expr (pe3_bm PySem.F.plainAttrs_list PySem.F.slot_list_append PySem.F.type_list_append append3 (v3 (i := 1)) (pa3_cons (pe3_tup (pa3_cons (v3 (i := 4)) (pa3_cons (v3 (i := 2)) pa3_nil))) pa3_nil)))
  (pss3_one (ps3_set (i := 2) nd_scanned rfl (by first | exact .inl rfl | exact .inr rfl) (v3 (i := 3)) rfl (by first | exact .inl rfl | exact .inr rfl)))))))))
  (pss3_one (ps3_ret (v3 (i := 1))))))
theorem dv_fun_tokens {sp_need_text sp_scanned : Sp3} (hE : EnvK C P K mg) (D_need_text : Def3 C P w K mg base 1 "need_text" ps_need_text sp_need_text) (D_scanned : Def3 C P w K mg base 3 "scanned" ps_scanned sp_scanned) (hr : Room 3 (A.deeper (envOfC "fun_tokens" (defScope st_fun_tokens) s.heap.objs.size f cdv))) :
    PSs3 C (cxOf (L2.CX P w) P w K mg base N_fun_tokens "fun_tokens" (defScope st_fun_tokens) f cdv A outer s H E) (WX0 E) (defBody st_fun_tokens) (w_fun_tokens sp_need_text sp_scanned) :=
  (pss3_cons (ps3_expr (pe3_def D_need_text (hr.mono (by decide)) takes_cx (pa3_cons (v3 (i := 0)) pa3_nil)))
  (pss3_one (ps3_ret (pe3_callTy tupc3 rfl hE.fr_tuple bt_tuple (pa3_cons (pe3_def D_scanned (hr.mono (by decide)) takes_cx (pa3_cons (v3 (i := 0)) pa3_nil)) pa3_nil)))))
theorem dv_is_name {sp_is_row_of : Sp3} (hE : EnvK C P K mg) (D_is_row_of : Def3 C P w K mg base 1 "is_row_of" ps_is_row_of sp_is_row_of) (hr : Room 1 (A.deeper (envOfC "is_name" (defScope st_is_name) s.heap.objs.size f cdv))) :
    PSs3 C (cxOf (L2.CX P w) P w K mg base N_is_name "is_name" (defScope st_is_name) f cdv A outer s H E) (WX0 E) (defBody st_is_name) (w_is_name sp_is_row_of) :=
  (pss3_one (ps3_ret (pe3_and (pe3_def D_is_row_of (hr.mono (by decide)) takes_cx (pa3_cons (g3s hE.g_SMALL (by decide +kernel)) (pa3_cons (v3 (i := 0)) pa3_nil))) (pe3_and (pe3_cmp le3 (pe3_callB len3 rfl hE.fr_len bt_len (pa3_cons (v3 (i := 0)) pa3_nil)) (g3i hE.g_MOST_LETTERS) (nomark _)) (pe3_one (pe3_cmp (in3t hr) (v3 (i := 0)) (g3tS hE.g_KEPT (by decide +kernel)) (by with_unfolding_all rfl)))))))
theorem dv__law_is_name (hE : EnvK C P K mg) (hr : Room 0 (A.deeper (envOfC "_law_is_name" (defScope st__law_is_name) s.heap.objs.size f cdv))) :
    PSs3 C (cxOf (L2.CX P w) P w K mg base N__law_is_name "_law_is_name" (defScope st__law_is_name) f cdv A outer s H E) (WX0 E) (defBody st__law_is_name) (w__law_is_name) :=
  (pss3_cons (ps3_if (PW3.pt (pw3_or (pt3_not (pt3_truth (pe3_callB isi3 rfl hE.fr_isinstance bt_isinstance (pa3_cons (v3 (i := 0)) (pa3_cons (ty3 hE.fr_str bt_str) pa3_nil))))) (pw3_or (pt3_not (pt3_chain le3 le3 k3i (pe3_callB len3 rfl hE.fr_len bt_len (pa3_cons (v3 (i := 0)) pa3_nil)) k3i)) (pw3_or1 (pt3_cmp (ne3r hr) (pe3_lc (own := [(("sign" : PySem.Str), 1)]) rfl nd__law_is_name (pi3_str (v3 (i := 0))) (show BlkOk N__law_is_name (defScope st__law_is_name) _ _ from blkOk_by (by decide +kernel)) (fun _ _ _ _ _ => (pg_name (i := 1) nd__law_is_name rfl (by first | exact .inl rfl | exact .inr rfl) (by first | exact .inl rfl | exact .inr rfl))) gl_name (om_name (by decide)) (fun _ _ _ _ _ => (pts3_one (pt3_cmp (in3t hr) (v3 (i := 1)) (k3s) (by with_unfolding_all rfl)))) (fun _ _ _ _ _ => k3i)) (pe3_lst pa3_nil) (nomark _))))))
  (pss3_one (ps3_ret k3b))
  pss3_nil)
  (pss3_one (ps3_ret (pe3_cmp (in3t hr) (v3 (i := 0)) (pe3_lst (pa3_cons (k3s) (pa3_cons (k3s) (pa3_cons (k3s) (pa3_cons (k3s) (pa3_cons (k3s) (pa3_cons (k3s) (pa3_cons (k3s) (pa3_cons (k3s) (pa3_cons (k3s) (pa3_cons (k3s) (pa3_cons (k3s) (pa3_cons (k3s) (pa3_cons (k3s) (pa3_cons (k3s) (pa3_cons (k3s) pa3_nil)))))))))))))))) (by with_unfolding_all rfl)))))
theorem dv_law {sp__law_begun sp__law_is_name sp__law_pick sp__law_same sp__law_scanned sp__law_take sp_fun_tokens sp_is_name : Sp3} (hE : EnvK C P K mg) (LC : LamC C K mg base t_ok st__law_caught "law") (ec : cdv = .ref (He.codeOf K ("law", none))) (D__law_begun : Def3 C P w K mg base 1 "_law_begun" ps__law_begun sp__law_begun) (D__law_is_name : Def3 C P w K mg base 1 "_law_is_name" ps__law_is_name sp__law_is_name) (D__law_pick : Def3 C P w K mg base 3 "_law_pick" ps__law_pick sp__law_pick) (D__law_same : DefG C P w K mg base 1 "_law_same" ps__law_same sp__law_same) (D__law_scanned : Def3 C P w K mg base 1 "_law_scanned" ps__law_scanned sp__law_scanned) (D__law_take : Def3 C P w K mg base 2 "_law_take" ps__law_take sp__law_take) (D_fun_tokens : Def3 C P w K mg base 4 "fun_tokens" ps_fun_tokens sp_fun_tokens) (D_is_name : Def3 C P w K mg base 2 "is_name" ps_is_name sp_is_name) (hr : Room 6 (A.deeper (envOfC "law" (defScope st_law) s.heap.objs.size f cdv))) (hgd : (cxOf (L2.CX P w) P w K mg base N_law "law" (defScope st_law) f cdv A outer s H E).A.guards = some []) :
    PSs3 C (cxOf (L2.CX P w) P w K mg base N_law "law" (defScope st_law) f cdv A outer s H E) (WX0 E) (defBody st_law) (w_law sp__law_begun sp__law_is_name sp__law_pick sp__law_same sp__law_scanned sp__law_take sp_fun_tokens sp_is_name) :=
  (pss3_cons (ps3_set (i := 1) nd_law rfl (by first | exact .inl rfl | exact .inr rfl) (pe3_def D__law_begun (hr.mono (by decide)) takes_cx (pa3_cons (v3 (i := 0)) pa3_nil)) rfl (by first | exact .inl rfl | exact .inr rfl))
  (pss3_cons (ps3_set (i := 2) nd_law rfl (by first | exact .inl rfl | exact .inr rfl) (pe3_lst (pa3_cons (k3s) (pa3_cons (k3s) (pa3_cons (k3s) (pa3_cons (k3s) (pa3_cons (k3s) (pa3_cons (k3s) (pa3_cons (k3s) (pa3_cons (k3s) (pa3_cons (k3s) (pa3_cons (k3s) (pa3_cons (k3s) (pa3_cons (k3s) (pa3_cons (k3s) (pa3_cons (k3s) (pa3_cons (k3s) (pa3_cons (k3s) (pa3_cons (k3s) (pa3_cons (k3s) (pa3_cons (k3s) (pa3_cons (k3s) (pa3_cons (k3s) (pa3_cons (k3s) (pa3_cons (k3s) (pa3_cons (k3s) (pa3_cons (k3s) (pa3_cons (k3s) pa3_nil))))))))))))))))))))))))))) rfl (by first | exact .inl rfl | exact .inr rfl))
  (pss3_cons (ps3_for passes_cx rfl (pi3_range1 rfl hE.fr_range (pa3_cons (pe3_op add3 k3i (pe3_callB (min3 rfl) rfl hE.fr_min bt_min (pa3_cons (pe3_callB len3 rfl hE.fr_len bt_len (pa3_cons (v3 (i := 0)) pa3_nil)) (pa3_cons k3i pa3_nil)))) pa3_nil)) (pg_name (i := 3) nd_law rfl (by first | exact .inl rfl | exact .inr rfl) (by first | exact .inl rfl | exact .inr rfl)) gl_name
  (pss3_cons (ps3_set (i := 4) nd_law rfl (by first | exact .inl rfl | exact .inr rfl) (pe3_bm PySem.F.plainAttrs_str PySem.F.slot_str_join PySem.F.type_str_join join3 (k3s) (pa3_cons (pe3_lc (own := [(("k" : PySem.Str), 5)]) rfl nd_law (pi3_range1 rfl hE.fr_range (pa3_cons (pe3_def D__law_take (hr.mono (by decide)) takes_cx (pa3_cons (v3 (i := 1)) (pa3_cons k3i pa3_nil))) pa3_nil)) (show BlkOk N_law (defScope st_law) _ _ from blkOk_by (by decide +kernel)) (fun _ _ _ _ _ => (pg_name (i := 5) nd_law rfl (by first | exact .inl rfl | exact .inr rfl) (by first | exact .inl rfl | exact .inr rfl))) gl_name (om_name (by decide)) (fun _ _ _ _ _ => pts3_nil) (fun _ _ _ _ _ => (pe3_def D__law_pick (hr.mono (by decide)) LamX.takes0 (pa3_cons (v3 (i := 1)) (pa3_cons (v3 (i := 2)) pa3_nil))))) pa3_nil)) rfl (by first | exact .inl rfl | exact .inr rfl))
  (pss3_cons (ps3_if (pt3_cmp (eq3r hr) (pe3_def D__law_take (hr.mono (by decide)) takes_cx (pa3_cons (v3 (i := 1)) (pa3_cons k3i pa3_nil))) k3i (nomark _))
  (pss3_cons (ps3_set (i := 6) nd_law rfl (by first | exact .inl rfl | exact .inr rfl) (pe3_def D__law_take (hr.mono (by decide)) takes_cx (pa3_cons (v3 (i := 1)) (pa3_cons (pe3_op add3 (pe3_callB len3 rfl hE.fr_len bt_len (pa3_cons (v3 (i := 4)) pa3_nil)) k3i) pa3_nil))) rfl (by first | exact .inl rfl | exact .inr rfl))
  (pss3_one (ps3_set (i := 4) nd_law rfl (by first | exact .inl rfl | exact .inr rfl) (pe3_op add3 (pe3_op add3 (pe3_slice (v3 (i := 4)) po3_none (po3_some (v3 (i := 6)))) (pe3_def D__law_pick (hr.mono (by decide)) takes_cx (pa3_cons (v3 (i := 1)) (pa3_cons (pe3_lst (pa3_cons (k3s) (pa3_cons (k3s) (pa3_cons (k3s) (pa3_cons (k3s) (pa3_cons (k3s) (pa3_cons (k3s) (pa3_cons (k3s) (pa3_cons (k3s) (pa3_cons (k3s) (pa3_cons (k3s) (pa3_cons (k3s) pa3_nil)))))))))))) pa3_nil)))) (pe3_slice (v3 (i := 4)) (po3_some (v3 (i := 6))) po3_none)) rfl (by first | exact .inl rfl | exact .inr rfl))))
  pss3_nil)
  (pss3_cons (ps3_par (i := 7) (j := 8) rfl nd_law rfl rfl (by decide) rfl rfl (pa3_cons (pe3_def D__law_scanned (hr.mono (by decide)) takes_cx (pa3_cons (v3 (i := 4)) pa3_nil)) (pa3_cons k3n pa3_nil)) rfl)
  (pss3_cons (ps3_if (pt3_truth (pe3_callB isi3 rfl hE.fr_isinstance bt_isinstance (pa3_cons (v3 (i := 7)) (pa3_cons (ty3 hE.fr_int bt_int) pa3_nil))))
  (pss3_cons (ps3_set (i := 8) nd_law rfl (by first | exact .inl rfl | exact .inr rfl) (lam_caught (k := 4) LC (cg_caught LC.se) sc__law_caught bd__law_caught (.inl rfl) ec rfl (hr.mono (by decide)) rfl (fun A outer s H E f c2 hr => (pe3_def D_fun_tokens (hr.mono (by decide)) takes_lam (pa3_cons (v3 (i := 4)) pa3_nil))) (show LamX.LamS (defScope st_law) _ from LamX.lamS_by (by decide +kernel))) rfl (by first | exact .inl rfl | exact .inr rfl))
  (pss3_one (ps3_if (PW3.pt (pw3_or (pt3_not (pt3_truth (pe3_isC hE.ie_BadText hE.it_BadText rfl hE.fr_isinstance rfl hE.g_BadText (v3 (i := 8))))) (pw3_or1 (pt3_not (pt3_truth (pe3_defG D__law_same hgd (hr.mono (by decide)) takes_cx (pa3_cons (pe3_xf hE.xf_at (v3 (i := 8))) (pa3_cons (v3 (i := 7)) pa3_nil))))))))
  (pss3_one (ps3_ret k3b))
  pss3_nil)))
  (pss3_one (ps3_if (pt3_not (pt3_truth (pe3_defG D__law_same hgd (hr.mono (by decide)) takes_cx (pa3_cons (pe3_def D_fun_tokens (hr.mono (by decide)) takes_cx (pa3_cons (v3 (i := 4)) pa3_nil)) (pa3_cons (pe3_callTy tupc3 rfl hE.fr_tuple bt_tuple (pa3_cons (v3 (i := 7)) pa3_nil)) pa3_nil)))))
  (pss3_one (ps3_ret k3b))
  pss3_nil)))
  (pss3_cons (ps3_set (i := 9) nd_law rfl (by first | exact .inl rfl | exact .inr rfl) (pe3_def D__law_pick (hr.mono (by decide)) takes_cx (pa3_cons (v3 (i := 1)) (pa3_cons (pe3_lst (pa3_cons (k3s) (pa3_cons (k3s) (pa3_cons (k3s) (pa3_cons (k3s) (pa3_cons (k3s) (pa3_cons (k3s) (pa3_cons (k3s) (pa3_cons (k3s) (pa3_cons (k3s) (pa3_cons (k3s) (pa3_cons (k3s) (pa3_cons (k3s) (pa3_cons k3n (pa3_cons k3i (pa3_cons (pe3_tup (pa3_cons (k3s) pa3_nil)) (pa3_cons (k3s) (pa3_cons (k3s) (pa3_cons (k3s) (pa3_cons (k3s) pa3_nil)))))))))))))))))))) pa3_nil))) rfl (by first | exact .inl rfl | exact .inr rfl))
  (pss3_one (ps3_if (pt3_not (pt3_truth (pe3_defG D__law_same hgd (hr.mono (by decide)) takes_cx (pa3_cons (pe3_def D_is_name (hr.mono (by decide)) takes_cx (pa3_cons (v3 (i := 9)) pa3_nil)) (pa3_cons (pe3_def D__law_is_name (hr.mono (by decide)) takes_cx (pa3_cons (v3 (i := 9)) pa3_nil)) pa3_nil)))))
  (pss3_one (ps3_ret k3b))
  pss3_nil))))))))
  (pss3_cons (ps3_for passes_cx rfl (pi3_list (pe3_lst (pa3_cons k3n (pa3_cons k3i (pa3_cons (pe3_tup (pa3_cons (k3s) pa3_nil)) (pa3_cons (pe3_lst (pa3_cons (k3s) pa3_nil)) pa3_nil)))))) (pg_name (i := 10) nd_law rfl (by first | exact .inl rfl | exact .inr rfl) (by first | exact .inl rfl | exact .inr rfl)) gl_name
  (pss3_cons (ps3_set (i := 8) nd_law rfl (by first | exact .inl rfl | exact .inr rfl) (lam_caught (k := 4) LC (cg_caught LC.se) sc__law_caught bd__law_caught (.inl rfl) ec rfl (hr.mono (by decide)) rfl (fun A outer s H E f c2 hr => (pe3_def D_fun_tokens (hr.mono (by decide)) takes_lam (pa3_cons (v3 (i := 10)) pa3_nil))) (show LamX.LamS (defScope st_law) _ from LamX.lamS_by (by decide +kernel))) rfl (by first | exact .inl rfl | exact .inr rfl))
  (pss3_one (ps3_if (PW3.pt (pw3_or (pt3_not (pt3_truth (pe3_isC hE.ie_BadText hE.it_BadText rfl hE.fr_isinstance rfl hE.g_BadText (v3 (i := 8))))) (pw3_or1 (pt3_not (pt3_truth (pe3_defG D__law_same hgd (hr.mono (by decide)) takes_cx (pa3_cons (pe3_xf hE.xf_at (v3 (i := 8))) (pa3_cons k3i pa3_nil))))))))
  (pss3_one (ps3_ret k3b))
  pss3_nil))))
  (pss3_cons (ps3_set (i := 11) nd_law rfl (by first | exact .inl rfl | exact .inr rfl) (pe3_op mul3 (pe3_def D__law_pick (hr.mono (by decide)) takes_cx (pa3_cons (v3 (i := 1)) (pa3_cons (pe3_lst (pa3_cons (k3s) (pa3_cons (k3s) (pa3_cons (k3s) (pa3_cons (k3s) pa3_nil))))) pa3_nil))) k3i) rfl (by first | exact .inl rfl | exact .inr rfl))
  (pss3_cons (ps3_if (pt3_cmp (in3t hr) (pe3_callB len3 rfl hE.fr_len bt_len (pa3_cons (pe3_def D_fun_tokens (hr.mono (by decide)) takes_cx (pa3_cons (pe3_slice (v3 (i := 11)) po3_none (po3_some k3i)) pa3_nil)) pa3_nil)) (pe3_lst (pa3_cons k3i (pa3_cons k3i (pa3_cons k3i pa3_nil)))) (by with_unfolding_all rfl))
  (pss3_one (ps3_ret k3b))
  pss3_nil)
  (pss3_cons (ps3_set (i := 8) nd_law rfl (by first | exact .inl rfl | exact .inr rfl) (lam_caught (k := 4) LC (cg_caught LC.se) sc__law_caught bd__law_caught (.inl rfl) ec rfl (hr.mono (by decide)) rfl (fun A outer s H E f c2 hr => (pe3_def D_fun_tokens (hr.mono (by decide)) takes_lam (pa3_cons (pe3_op add3 (pe3_slice (v3 (i := 11)) po3_none (po3_some k3i)) (k3s)) pa3_nil))) (show LamX.LamS (defScope st_law) _ from LamX.lamS_by (by decide +kernel))) rfl (by first | exact .inl rfl | exact .inr rfl))
  (pss3_one (ps3_ret (pe3_and (pe3_isC hE.ie_BadText hE.it_BadText rfl hE.fr_isinstance rfl hE.g_BadText (v3 (i := 8))) (pe3_one (pe3_defG D__law_same hgd (hr.mono (by decide)) takes_cx (pa3_cons (pe3_xf hE.xf_at (v3 (i := 8))) (pa3_cons k3i pa3_nil))))))))))))))
end
end K02

set_option Elab.async false
set_option linter.all false
set_option maxRecDepth 100000
set_option maxHeartbeats 400000
namespace K02
open PySem PySem.Spec PyProof.Rows L2 L3
local macro_rules | `(tactic| kxs_still) => `(tactic| first | ((with_reducible refine' s_var ?svh ?svk); (case svh => exact rfl)) | with_reducible first
  | refine s_seq ?_ | refine s_set ?_ | refine s_ret ?_ | refine s_ifS ?_ | refine s_asg ?_ | refine s_par ?_ | refine s_drop ?_ | refine s_next ?_ | refine s_cnt ?_
  | refine s_gsub ?_ | refine s_gname ?_ | refine s_c ?_ | refine s_op ?_ | refine s_B ?_ | refine s_tru ?_ | refine s_and ?_ | refine s_or ?_ | refine s_not ?_ | refine s_if ?_ | refine s_andV ?_ | refine s_notV ?_
  | refine s_cons ?_ | refine s_nil ?_ | refine s_tup ?_ | refine s_lst ?_ | refine s_cb ?_ | refine s_call ?_ | refine s_bm ?_ | refine s_sl ?_ | refine s_np ?_ | refine s_part ?_
  | refine s_addI ?_ | refine s_sub ?_ | refine s_lt ?_ | refine s_le ?_ | refine s_gt ?_ | refine s_ge ?_ | refine s_eqI ?_ | refine s_eqS ?_ | refine s_neS ?_ | refine s_inS ?_ | refine s_int ?_ | refine s_abs ?_)
abbrev kS (z : PySem.Str) : Key := .inr z
/-- the draw -/
def drw (nl nc : Nat) (r t : Int) : List (Key × L3.D) := [(kS "large", .ref nl), (kS "cells", .ref nc), (kS "rest", .int r), (kS "turn", .int t)]
structure Drw (b n nl nc : Nat) (S : Store) : Prop where
  ne1 : nl ≠ n
  ne2 : nc ≠ n
  ne3 : nc ≠ nl
  at_ : ∃ (r t : Int), S[n]? = some (.dct (drw nl nc r t)) ∧ 0 ≤ t ∧ t + b ≤ 1000000
  large : ∃ L : List Int, S[nl]? = some (.lst (L.map .int))
  cells : ∃ Cs : List Int, S[nc]? = some (.lst (Cs.map .int)) ∧ ∀ c ∈ Cs, 0 ≤ c ∧ c < 2147483629
section
variable {S : Store} {q : WK} {qs : Store → Prop} {n nl nc : Nat} {r t v : Int}
theorem d_large (h : S[n]? = some (.dct (drw nl nc r t))) (k : q (.ref nl) S) : ixD (.ref n) (.str "large") S q := by
  unfold ixD
  simp only [h, keyD]
  have e : valD (drw nl nc r t) (kS "large") = some (.ref nl) := by simp [drw, valD, kS]
  rw [e]
  exact k
theorem d_cells (h : S[n]? = some (.dct (drw nl nc r t))) (k : q (.ref nc) S) : ixD (.ref n) (.str "cells") S q := by
  unfold ixD
  simp only [h, keyD]
  have e : valD (drw nl nc r t) (kS "cells") = some (.ref nc) := by
    have h1 : ((("large" : PySem.Str)) = ("cells" : PySem.Str)) = False := by simp; decide +kernel
    simp [drw, valD, kS, h1]
  rw [e]
  exact k
theorem d_rest (h : S[n]? = some (.dct (drw nl nc r t))) (k : q (.int r) S) : ixD (.ref n) (.str "rest") S q := by
  unfold ixD
  simp only [h, keyD]
  have e : valD (drw nl nc r t) (kS "rest") = some (.int r) := by
    have h1 : ((("large" : PySem.Str)) = ("rest" : PySem.Str)) = False := by simp; decide +kernel
    have h2 : ((("cells" : PySem.Str)) = ("rest" : PySem.Str)) = False := by simp; decide +kernel
    simp [drw, valD, kS, h1, h2]
  rw [e]
  exact k
theorem d_turn (h : S[n]? = some (.dct (drw nl nc r t))) (k : q (.int t) S) : ixD (.ref n) (.str "turn") S q := by
  unfold ixD
  simp only [h, keyD]
  have e : valD (drw nl nc r t) (kS "turn") = some (.int t) := by
    have h1 : ((("large" : PySem.Str)) = ("turn" : PySem.Str)) = False := by simp; decide +kernel
    have h2 : ((("cells" : PySem.Str)) = ("turn" : PySem.Str)) = False := by simp; decide +kernel
    have h3 : ((("rest" : PySem.Str)) = ("turn" : PySem.Str)) = False := by simp; decide +kernel
    simp [drw, valD, kS, h1, h2, h3]
  rw [e]
  exact k
theorem d_setR (h : S[n]? = some (.dct (drw nl nc r t))) (k : qs (S.set n (.dct (drw nl nc v t)))) : setD (.ref n) (.str "rest") (.int v) S qs := by
  unfold setD
  simp only [h, keyD]
  have e : putD (drw nl nc r t) (kS "rest") (.int v) = drw nl nc v t := by
    have h1 : ((("large" : PySem.Str)) = ("rest" : PySem.Str)) = False := by simp; decide +kernel
    have h2 : ((("cells" : PySem.Str)) = ("rest" : PySem.Str)) = False := by simp; decide +kernel
    have h3 : ((("turn" : PySem.Str)) = ("rest" : PySem.Str)) = False := by simp; decide +kernel
    simp [drw, putD, kS, h1, h2, h3]
  rw [e]
  exact ⟨by simp [drw, LIM], k⟩
theorem d_setT (h : S[n]? = some (.dct (drw nl nc r t))) (k : qs (S.set n (.dct (drw nl nc r v)))) : setD (.ref n) (.str "turn") (.int v) S qs := by
  unfold setD
  simp only [h, keyD]
  have e : putD (drw nl nc r t) (kS "turn") (.int v) = drw nl nc r v := by
    have h1 : ((("large" : PySem.Str)) = ("turn" : PySem.Str)) = False := by simp; decide +kernel
    have h2 : ((("cells" : PySem.Str)) = ("turn" : PySem.Str)) = False := by simp; decide +kernel
    have h3 : ((("rest" : PySem.Str)) = ("turn" : PySem.Str)) = False := by simp; decide +kernel
    simp [drw, putD, kS, h1, h2, h3]
  rw [e]
  exact ⟨by simp [drw, LIM], k⟩
/-- large != [] -/
theorem d_neL {L : List Int} {m : Nat} (h : S[n]? = some (.lst (L.map .int))) (h2 : S[m]? = some (.lst [])) (k : q (.bl (!L.isEmpty)) S) : neD (.ref n) (.ref m) S q := by
  unfold neD
  have e1 : rdD S 40 (.ref n) = some (.list (L.map PyData.int)) := by
    show (match S[n]? with
        | some (.lst ds) => (seqO (ds.map (rdD S 39))).map PyData.list
        | _ => none) = _
    rw [h]
    show (seqO ((L.map L3.D.int).map (rdD S 39))).map PyData.list = _
    rw [List.map_map]
    have e : L.map (rdD S 39 ∘ L3.D.int) = (L.map PyData.int).map some := by
      rw [List.map_map]
      exact List.map_congr_left fun i _ => rdD_int 39 i
    rw [e, seqO_map] <;> rfl
  have e2 : rdD S 40 (.ref m) = some (.list []) := by
    show (match S[m]? with
        | some (.lst ds) => (seqO (ds.map (rdD S 39))).map PyData.list
        | _ => none) = _
    rw [h2] <;> rfl
  rw [e1, e2]
  have e3 : PyData.eqv (.list (L.map PyData.int)) (.list []) = L.isEmpty := by
    cases L with
    | nil => simp [PyData.eqv, PyData.eqvAll]
    | cons a l => simp [PyData.eqv, PyData.eqvAll]
  show q (.bl (!PyData.eqv (.list (L.map PyData.int)) (.list []))) S
  rw [e3]
  exact k
end
/-- all but the draw's own stays -/
def Fr (n nl : Nat) (S S' : Store) : Prop := ∀ m o, m ≠ n → m ≠ nl → S[m]? = some o → S'[m]? = some o
theorem Fr.refl {n nl : Nat} {S : Store} : Fr n nl S S := fun _ _ _ _ h => h
theorem Fr.trans {n nl : Nat} {S S1 S2 : Store} (a : Fr n nl S S1) (b : Fr n nl S1 S2) : Fr n nl S S2 := fun m o h1 h2 k => b m o h1 h2 (a m o h1 h2 k)
theorem Fr.app {n nl : Nat} {S T : Store} : Fr n nl S (S ++ T) := fun _ _ _ _ k => at_app k
theorem Fr.set1 {n nl : Nat} {S : Store} {o : SO} : Fr n nl S (S.set n o) := fun _ _ h _ k => at_set_ne h k
theorem Fr.set2 {n nl : Nat} {S : Store} {o : SO} : Fr n nl S (S.set nl o) := fun _ _ _ h k => at_set_ne h k
theorem Drw.app {b n nl nc : Nat} {S T : Store} (d : Drw b n nl nc S) : Drw b n nl nc (S ++ T) := by
  obtain ⟨a1, a2, a3, ⟨r, t, h, h2⟩, ⟨L, hL⟩, ⟨Cs, hC, h3⟩⟩ := d
  exact ⟨a1, a2, a3, ⟨r, t, at_app h, h2⟩, ⟨L, at_app hL⟩, ⟨Cs, at_app hC, h3⟩⟩
theorem Drw.less {b b' n nl nc : Nat} {S : Store} (d : Drw b n nl nc S) (h : b' ≤ b) : Drw b' n nl nc S := by
  obtain ⟨a1, a2, a3, ⟨r, t, k, h2, h4⟩, z, z2⟩ := d
  exact ⟨a1, a2, a3, ⟨r, t, k, h2, by omega⟩, z, z2⟩
def sp_mixed : Sp3 := fun ds S q _ => ∃ b n nl nc, ds = [.ref n] ∧ Drw (b + 1) n nl nc S ∧ ∀ r S', Drw b n nl nc S' → Fr n nl S S' → q (.int r) S'
def sp_take : Sp3 := fun ds S q _ => ∃ b n nl nc many, ds = [.ref n, .int many] ∧ 0 < many ∧ many < 1000000 ∧ Drw (b + 1) n nl nc S ∧ ∀ i S', 0 ≤ i → i < many → Drw b n nl nc S' → Fr n nl S S' → q (.int i) S'
theorem divOk {m : Int} (h0 : 0 < m) (h1 : m < 1000000) (i : Int) : CDivW i m := ⟨h0, by
  have : m.natAbs < 2 ^ 20 := by omega
  have := (Nat.log2_lt (by omega)).mpr this
  omega⟩
theorem take_ok (ds : List L3.D) (S : Store) (q : WK) (x : XK3) (h : sp_take ds S q x) : w__law_take sp_mixed (Ends0 q x) (start3 N__law_take ds) S := by
  obtain ⟨b, n, nl, nc, many, rfl, h0, h1, hD, hq⟩ := h
  -- what stands behind the first statement
  have rest : ∀ S1 r t, Drw b n nl nc S1 → S1[n]? = some (.dct (drw nl nc r t)) → Fr n nl S S1 →
      wSeq (wSet 2 (wOp modD (wCB rInt (wCons (wOp ixD (wVar 0) (wC (.str "rest"))) wNil)) (wVar 1)))
        (wSeq (wAsg (wOp fdivD (wCB rInt (wCons (wOp ixD (wVar 0) (wC (.str "rest"))) wNil)) (wVar 1)) (wgSub (wVar 0) (wC (.str "rest")))) (wRet (wVar 2))) (Ends0 q x) (start3 N__law_take [.ref n, .int many]) S1 := by
    intro S1 r t hD1 hn fr
    repeat kxs_still
    refine d_rest hn ?_
    repeat kxs_still
    refine s_mod h0 ?_
    repeat kxs_still
    refine d_rest hn ?_
    repeat kxs_still
    refine s_fdiv (divOk h0 h1 _) ?_
    repeat kxs_still
    refine d_setR hn ?_
    repeat kxs_still
    refine hq _ _ (Int.emod_nonneg _ (by omega)) (Int.emod_lt_of_pos _ h0) ?_ (fr.trans Fr.set1)
    obtain ⟨a1, a2, a3, ⟨r', t', k, h2, h4⟩, ⟨L, hL⟩, ⟨Cs, hC, h3⟩⟩ := hD1
    rw [hn] at k
    cases k
    exact ⟨a1, a2, a3, ⟨_, _, at_set_eq hn, h2, h4⟩, ⟨L, at_set_ne a1 hL⟩, ⟨Cs, at_set_ne a2 hC, h3⟩⟩
  obtain ⟨r, t, hn, ht0, ht⟩ := hD.at_
  obtain ⟨L, hL⟩ := hD.large
  unfold w__law_take
  repeat kxs_still
  refine d_rest hn ?_
  repeat kxs_still
  refine s_iteP (fun hr => ?_) (fun hr => ?_)
  · repeat kxs_still
    refine d_large hn ?_
    repeat kxs_still
    refine ⟨by simp [LIM], ?_⟩
    refine d_neL (at_app hL) at_new ?_
    repeat kxs_still
    cases L with
    | nil =>
      refine s_iteF rfl ?_
      repeat kxs_still
      refine ⟨rfl, b, n, nl, nc, rfl, hD.app, fun v S1 hD1 fr => ?_⟩
      repeat kxs_still
      obtain ⟨r1, t1, hn1, _, _⟩ := hD1.at_
      refine d_setR hn1 ?_
      repeat kxs_still
      refine rest _ v t1 ?_ (at_set_eq hn1) (Fr.app.trans (fr.trans Fr.set1))
      obtain ⟨a1, a2, a3, ⟨r', t', k, h2, h4⟩, ⟨L, hL⟩, ⟨Cs, hC, h3⟩⟩ := hD1
      rw [hn1] at k
      cases k
      exact ⟨a1, a2, a3, ⟨_, _, at_set_eq hn1, h2, h4⟩, ⟨L, at_set_ne a1 hL⟩, ⟨Cs, at_set_ne a2 hC, h3⟩⟩
    | cons v L =>
      refine s_iteT rfl ?_
      repeat kxs_still
      refine d_large (at_app hn) ?_
      repeat kxs_still
      refine ⟨s_tyL (at_app hL), ?_⟩
      repeat kxs_still
      refine s_pop0 (at_app hL) ?_
      repeat kxs_still
      have hn1 := at_set_ne (o' := .lst (L.map .int)) (Ne.symm hD.ne1) (at_app (T := [.lst []]) hn)
      refine d_setR hn1 ?_
      repeat kxs_still
      refine rest _ v t ?_ (at_set_eq hn1) (Fr.app.trans (Fr.set2.trans Fr.set1))
      obtain ⟨a1, a2, a3, ⟨r', t', k, h2, h4⟩, ⟨L', hL'⟩, ⟨Cs, hC, h3⟩⟩ := hD
      exact ⟨a1, a2, a3, ⟨_, _, at_set_eq hn1, ht0, by omega⟩, ⟨L, at_set_ne a1 (at_set_eq (at_app hL))⟩, ⟨Cs, at_set_ne a2 (at_set_ne a3 (at_app hC)), h3⟩⟩
  · repeat kxs_still
    exact rest S r t (hD.less (by omega)) hn Fr.refl
end K02

set_option Elab.async false
set_option linter.all false
set_option maxRecDepth 100000
set_option maxHeartbeats 400000
namespace K02
open PySem PySem.Spec PyProof.Rows L2 L3
local macro_rules | `(tactic| kxs_still) => `(tactic| first | ((with_reducible refine' s_var ?svh ?svk); (case svh => exact rfl)) | with_reducible first
  | refine s_seq ?_ | refine s_set ?_ | refine s_ret ?_ | refine s_ifS ?_ | refine s_asg ?_ | refine s_par ?_ | refine s_drop ?_ | refine s_next ?_ | refine s_cnt ?_
  | refine s_gsub ?_ | refine s_gname ?_ | refine s_c ?_ | refine s_op ?_ | refine s_B ?_ | refine s_tru ?_ | refine s_and ?_ | refine s_or ?_ | refine s_not ?_ | refine s_if ?_ | refine s_andV ?_ | refine s_notV ?_
  | refine s_cons ?_ | refine s_nil ?_ | refine s_tup ?_ | refine s_lst ?_ | refine s_cb ?_ | refine s_call ?_ | refine s_bm ?_ | refine s_sl ?_ | refine s_np ?_ | refine s_part ?_
  | refine s_addI ?_ | refine s_sub ?_ | refine s_lt ?_ | refine s_le ?_ | refine s_gt ?_ | refine s_ge ?_ | refine s_eqI ?_ | refine s_eqS ?_ | refine s_neS ?_ | refine s_inS ?_ | refine s_int ?_ | refine s_abs ?_)
theorem log2_200 {i : Int} (h0 : 0 ≤ i) (h : i < 2 ^ 200) : i.natAbs.log2 < 400000 := by
  by_cases e : i = 0
  · subst e
    decide
  · have : i.natAbs < 2 ^ 200 := by omega
    have := (Nat.log2_lt (by omega)).mpr this
    omega
theorem mulOk {i j : Int} (h0 : 0 ≤ i) (h1 : i < 2 ^ 200) (h2 : 0 ≤ j) (h3 : j < 2 ^ 200) : CMulW i j := by
  have := log2_200 h0 h1
  have := log2_200 h2 h3
  unfold CMulW
  omega
theorem divOk2 {m : Int} (h0 : 0 < m) (h1 : m < 2 ^ 200) (i : Int) : CDivW i m := ⟨h0, by
  have : m.natAbs < 2 ^ 200 := by omega
  have := (Nat.log2_lt (by omega)).mpr this
  omega⟩
theorem mix_in {E : Ends3} {S : Store} {inv : Store → Prop} {dr f : L3.D} {p t : Int} (hi : inv S) (hp0 : 0 < p) (hp : p < 2 ^ 31) (ht0 : 0 ≤ t) (ht : t < 2 ^ 31) : ∀ (Cs : List Int) (st : Int) (c : Option L3.D), 0 ≤ st → st < 2 ^ 31 → (∀ c ∈ Cs, 0 ≤ c ∧ c < 2147483629) →
    (∀ st' c', 0 ≤ st' → st' < 2 ^ 31 → E.nx [some dr, some (.int t), some f, some (.int p), some (.int st'), c'] S) →
    forW (wgName 5) (wSet 4 (wOp modD (wCB rInt (wCons (wOp addD (wOp addD (wOp mulD (wVar 4) (wC (.int 48271))) (wVar 5)) (wVar 1)) wNil)) (wVar 3))) inv E (Cs.map .int) [some dr, some (.int t), some f, some (.int p), some (.int st), c] S
  | [], st, c, h0, h1, hC, k => ⟨hi, k st c h0 h1⟩
  | a :: Cs, st, c, h0, h1, hC, k => by
    refine ⟨hi, ?_⟩
    obtain ⟨ha0, ha⟩ := hC a (.head _)
    repeat kxs_still
    refine s_mulI (mulOk h0 (by omega) (by decide) (by decide)) ?_
    repeat kxs_still
    refine s_mod hp0 ?_
    repeat kxs_still
    exact mix_in hi hp0 hp ht0 ht Cs _ _ (Int.emod_nonneg _ (by omega)) (Int.lt_trans (Int.emod_lt_of_pos _ hp0) hp) (fun c hc => hC c (.tail _ hc)) k
theorem mix_out {E : Ends3} {S : Store} {inv : Store → Prop} {n nl nc : Nat} {r t : Int} {Cs : List Int} (hi : inv S) (hn : S[n]? = some (.dct (drw nl nc r t))) (hc : S[nc]? = some (.lst (Cs.map .int))) (ht0 : 0 ≤ t) (ht : t < 2 ^ 31) (hC : ∀ c ∈ Cs, 0 ≤ c ∧ c < 2147483629) : ∀ (ps : List Int) (f B : Int) (p s c : Option L3.D), (∀ p ∈ ps, 0 < p ∧ p < 2 ^ 31) → 0 ≤ f → f < B → B * 2147483647 ^ ps.length < 2 ^ 150 →
    (∀ f' p' s' c', 0 ≤ f' → E.nx [some (.ref n), some (.int t), some (.int f'), p', s', c'] S) →
    forW (wgName 3) (wSeq (wSet 4 (wOp modD (wCB rInt (wCons (wOp addD (wOp mulD (wVar 1) (wC (.int 69621))) (wOp fdivD (wVar 3) (wC (.int 17)))) wNil)) (wVar 3)))
      (wSeq (wFor (wiL (wOp ixD (wVar 0) (wC (.str "cells")))) (wgName 5) (wSet 4 (wOp modD (wCB rInt (wCons (wOp addD (wOp addD (wOp mulD (wVar 4) (wC (.int 48271))) (wVar 5)) (wVar 1)) wNil)) (wVar 3))))
        (wSet 2 (wOp addD (wOp mulD (wVar 2) (wC (.int 2147483647))) (wOp modD (wCB rInt (wCons (wOp powD (wVar 4) (wC (.int 5))) wNil)) (wVar 3)))))) inv E (ps.map .int) [some (.ref n), some (.int t), some (.int f), p, s, c] S
  | [], f, B, p, s, c, hp, h0, h1, h2, k => ⟨hi, k f p s c h0⟩
  | a :: ps, f, B, p, s, c, hp, h0, h1, h2, k => by
    refine ⟨hi, ?_⟩
    obtain ⟨ha0, ha⟩ := hp a (.head _)
    repeat kxs_still
    refine s_mulI (mulOk ht0 (by omega) (by decide) (by decide)) ?_
    repeat kxs_still
    refine s_fdiv (divOk2 (by decide) (by decide) _) ?_
    repeat kxs_still
    refine s_mod ha0 ?_
    repeat kxs_still
    refine s_for ?_
    refine s_wiL ?_
    repeat kxs_still
    refine d_cells hn ?_
    refine s_onL hc ?_
    have hf : f < 2 ^ 150 := by
      have : (1:Int) ≤ 2147483647 ^ (a :: ps).length := Int.pow_pos (by decide)
      have : B * 1 ≤ B * 2147483647 ^ (a :: ps).length := Int.mul_le_mul_of_nonneg_left this (by omega)
      omega
    refine mix_in hc ha0 ha ht0 ht Cs _ _ (Int.emod_nonneg _ (by omega)) (Int.lt_trans (Int.emod_lt_of_pos _ ha0) ha) hC fun st' c' hs0 hs => ?_
    repeat kxs_still
    refine s_mulI (mulOk h0 (by omega) (by decide) (by decide)) ?_
    repeat kxs_still
    refine s_pow ⟨by decide, by decide, by omega⟩ ?_
    repeat kxs_still
    refine s_mod ha0 ?_
    repeat kxs_still
    have hx0 := Int.emod_nonneg (st' ^ (5 : Int).toNat) (b := a) (by omega)
    have hx1 := Int.emod_lt_of_pos (st' ^ (5 : Int).toNat) ha0
    refine mix_out hi hn hc ht0 ht hC ps _ (B * 2147483647) _ _ _ (fun p h => hp p (.tail _ h)) (by omega) (by omega) ?_ k
    rw [List.length_cons, Int.pow_succ] at h2
    rw [Int.mul_assoc, Int.mul_comm 2147483647]
    exact h2
theorem mixed_ok (ds : List L3.D) (S : Store) (q : WK) (x : XK3) (h : sp_mixed ds S q x) : w__law_mixed (Ends0 q x) (start3 N__law_mixed ds) S := by
  obtain ⟨b, n, nl, nc, rfl, hD, hq⟩ := h
  obtain ⟨a1, a2, a3, ⟨r, t, hn, h2, h4⟩, ⟨L, hL⟩, ⟨Cs, hC, h3⟩⟩ := hD
  unfold w__law_mixed
  repeat kxs_still
  refine d_turn hn ?_
  repeat kxs_still
  refine d_setT hn ?_
  repeat kxs_still
  refine s_for ?_
  refine s_wiL ?_
  repeat kxs_still
  refine ⟨by simp [LIM], ?_⟩
  refine s_onL at_new ?_
  refine mix_out at_new (at_app (at_set_eq hn)) (at_app (at_set_ne a2 hC)) (by omega) (by omega) h3 [2147483647, 2147483587, 2147483579] 0 1 _ _ _ (by decide) (by omega) (by omega) (by decide) fun f' p' s' c' h0 => ?_
  repeat kxs_still
  refine hq _ _ ?_ (Fr.set1.trans Fr.app)
  exact Drw.app ⟨a1, a2, a3, ⟨_, _, at_set_eq hn, by omega, by omega⟩, ⟨L, at_set_ne a1 hL⟩, ⟨Cs, at_set_ne a2 hC, h3⟩⟩
theorem atI_get {α : Type} {xs : List α} {i : Int} (h0 : 0 ≤ i) (h1 : i < xs.length) : L2.atI xs i = xs[i.toNat]? := by
  unfold L2.atI ixN
  rw [if_pos h0, if_pos h1] <;> rfl
def sp_pick : Sp3 := fun ds S q _ => ∃ b n nl nc m L, ds = [.ref n, .ref m] ∧ m ≠ n ∧ m ≠ nl ∧ S[m]? = some (.lst L) ∧ L ≠ [] ∧ L.length < 1000000 ∧ Drw (b + 1) n nl nc S ∧ ∀ d S', d ∈ L → Drw b n nl nc S' → Fr n nl S S' → q d S'
theorem pick_ok (ds : List L3.D) (S : Store) (q : WK) (x : XK3) (h : sp_pick ds S q x) : w__law_pick sp_take (Ends0 q x) (start3 N__law_pick ds) S := by
  obtain ⟨b, n, nl, nc, m, L, rfl, m1, m2, hL, l0, l1, hD, hq⟩ := h
  unfold w__law_pick
  repeat kxs_still
  refine s_lenL hL ?_
  repeat kxs_still
  have := List.length_pos_iff.mpr l0
  refine ⟨rfl, b, n, nl, nc, L.length, rfl, by omega, by omega, hD, fun i S' i0 i1 hD' fr => ?_⟩
  have hi : i.toNat < L.length := by omega
  refine s_ixL (fr m _ m1 m2 hL) (d := L[i.toNat]) ?_ (hq _ _ (List.getElem_mem hi) hD' fr)
  rw [atI_get i0 i1, List.getElem?_eq_getElem hi]
/-- the numbers kept -/
theorem begun_large {q : Store → Prop} : ∀ (ns : List Int), (∀ z ∈ ns, Builtin.Int.intBits z ≤ 1048576) → ∀ (n : Nat) (acc : List Int) (S : Store), acc.length + ns.length ≤ 63 → S[n]? = some (.lst (acc.map .int)) → ∀ (a b c : Option L3.D), n + 1 = S.length →
    (∀ S1 L, S1.length = S.length → (∀ m o, m ≠ n → S[m]? = some o → S1[m]? = some o) → S1[n]? = some (.lst (List.map L3.D.int L)) → q S1) →
    lcW (wgName 2) (wB (wOp geD (wCB rAbs (wCons (wVar 2) wNil)) (wOp powD (wC (.int 10)) (wC (.int 18))))) (wOp subD (wCB rAbs (wCons (wVar 2) wNil)) (wOp powD (wC (.int 10)) (wC (.int 18)))) (fun _ => True) n [a, b, none] q (ns.map .int) S
  | [], hb, n, acc, S, hl, h, a, b, c, hs, k => ⟨trivial, k S acc rfl (fun _ _ _ h => h) h⟩
  | z :: ns, hb, n, acc, S, hl, h, a, b, c, hs, k => by
    refine ⟨trivial, ?_⟩
    repeat kxs_still
    refine s_pow ⟨by decide, by decide, by decide⟩ ?_
    repeat kxs_still
    refine s_iteP (fun h1 => ?_) (fun h1 => ?_)
    · repeat kxs_still
      refine s_pow ⟨by decide, by decide, by decide⟩ ?_
      repeat kxs_still
      refine s_lcNext h (by rw [List.length_map]; simp [LIM] at *; omega) ?_
      have e : (acc.map L3.D.int) ++ [L3.D.int ((if z < 0 then -z else z) - 10 ^ (18 : Int).toNat)] = (acc ++ [(if z < 0 then -z else z) - 10 ^ (18 : Int).toNat]).map .int := by simp
      rw [e]
      refine begun_large ns (fun z h => hb z (.tail _ h)) n _ _ (by simp at hl ⊢; omega) (at_set_eq h) a b c (by simpa using hs) fun S1 L e1 e2 e3 => k S1 L (by simpa using e1) (fun m o hm ho => e2 m o hm (at_set_ne hm ho)) e3
    · exact begun_large ns (fun z h => hb z (.tail _ h)) n acc S (by simp at hl ⊢; omega) h a b c hs k
theorem begun_cells {q : Store → Prop} : ∀ (ns : List Int), (∀ z ∈ ns, Builtin.Int.intBits z ≤ 1048576) → ∀ (n : Nat) (acc : List Int) (S : Store), acc.length + ns.length ≤ 63 → (∀ c ∈ acc, 0 ≤ c ∧ c < 2147483629) → S[n]? = some (.lst (acc.map .int)) → ∀ (a b c : Option L3.D),
    (∀ S1 L, S1.length = S.length → (∀ m o, m ≠ n → S[m]? = some o → S1[m]? = some o) → (∀ c ∈ L, 0 ≤ c ∧ c < 2147483629) → S1[n]? = some (.lst (List.map L3.D.int L)) → q S1) →
    lcW (wgName 2) wYes (wOp modD (wCB rInt (wCons (wCB rAbs (wCons (wVar 2) wNil)) wNil)) (wC (.int 2147483629))) (fun _ => True) n [a, b, none] q (ns.map .int) S
  | [], hb, n, acc, S, hl, hA, h, a, b, c, k => ⟨trivial, k S acc rfl (fun _ _ _ h => h) hA h⟩
  | z :: ns, hb, n, acc, S, hl, hA, h, a, b, c, k => by
    refine ⟨trivial, ?_⟩
    repeat kxs_still
    refine s_yes ?_
    refine s_lcYes ?_
    repeat kxs_still
    refine s_mod (by decide) ?_
    refine s_lcNext h (by rw [List.length_map]; simp [LIM] at *; omega) ?_
    have e : ∀ v : Int, (acc.map L3.D.int) ++ [L3.D.int v] = (acc ++ [v]).map .int := fun v => by simp
    rw [e]
    refine begun_cells ns (fun z h => hb z (.tail _ h)) n _ _ (by simp at hl ⊢; omega) ?_ (at_set_eq h) a b c fun S1 L e1 e2 e3 e4 => k S1 L (by simpa using e1) (fun m o hm ho => e2 m o hm (at_set_ne hm ho)) e3 e4
    intro c hc
    rcases List.mem_append.mp hc with hc | hc
    · exact hA c hc
    · rw [List.mem_singleton.mp hc]
      exact ⟨Int.emod_nonneg _ (by decide), Int.emod_lt_of_pos _ (by decide)⟩
def sp_begun : Sp3 := fun ds S q _ => ∃ ns : List Int, ds = [.fl (ns.map .int)] ∧ ns.length ≤ 63 ∧ (∀ z ∈ ns, Builtin.Int.intBits z ≤ 1048576) ∧ ∀ n nl nc S', Drw 1000000 n nl nc S' → q (.ref n) S'
theorem merge_drw {a b : L3.D} : mergeD [] [(.inr "large", a), (.inr "cells", b), (.inr "rest", .int 0), (.inr "turn", .int 0)] = [(kS "large", a), (kS "cells", b), (kS "rest", .int 0), (kS "turn", .int 0)] := by
  have h1 : ((("large" : PySem.Str)) = ("cells" : PySem.Str)) = False := by simp; decide +kernel
  have h2 : ((("large" : PySem.Str)) = ("rest" : PySem.Str)) = False := by simp; decide +kernel
  have h3 : ((("cells" : PySem.Str)) = ("rest" : PySem.Str)) = False := by simp; decide +kernel
  have h4 : ((("large" : PySem.Str)) = ("turn" : PySem.Str)) = False := by simp; decide +kernel
  have h5 : ((("cells" : PySem.Str)) = ("turn" : PySem.Str)) = False := by simp; decide +kernel
  have h6 : ((("rest" : PySem.Str)) = ("turn" : PySem.Str)) = False := by simp; decide +kernel
  simp [mergeD, putD, kS, h1, h2, h3, h4, h5, h6]
theorem begun_ok (ds : List L3.D) (S : Store) (q : WK) (x : XK3) (h : sp_begun ds S q x) : w__law_begun (Ends0 q x) (start3 N__law_begun ds) S := by
  obtain ⟨ns, rfl, hl, hb, hq⟩ := h
  unfold w__law_begun
  repeat kxs_still
  refine s_lc ?_
  refine s_wiL ?_
  repeat kxs_still
  refine s_onF ?_
  refine begun_large ns hb S.length [] _ (by simpa using hl) at_new _ _ none (by simp) fun S1 L e1 e2 e3 => ?_
  repeat kxs_still
  refine s_wDisp ?_
  refine s_pairs ?_
  repeat kxs_still
  refine s_pairs ?_
  repeat kxs_still
  refine s_lc ?_
  refine s_wiL ?_
  repeat kxs_still
  refine s_onF ?_
  refine begun_cells ns hb _ [] _ (by simpa using hl) (by simp) at_new _ _ none fun S2 Cs e4 e5 e6 e7 => ?_
  refine s_pairs ?_
  repeat kxs_still
  refine s_pairs ?_
  repeat kxs_still
  refine s_pairs0 ?_
  have hm : S.length < S1.length := by rw [e1]; simp
  refine s_dispK (e5 _ _ (by simp) (at_app at_new)) rfl (by show 4 ≤ 15; decide) ?_
  rw [merge_drw]
  refine hq _ _ _ _ ⟨?_, ?_, ?_, ⟨0, 0, at_set_eq (e5 _ _ (by simp) (at_app at_new)), by decide, by decide⟩, ⟨L, at_set_ne (by omega) (e5 _ _ (by simp; omega) (at_app (at_app e3)))⟩, ⟨Cs, at_set_ne (by simp) e7, e6⟩⟩
  all_goals simp
  all_goals omega
end K02

set_option Elab.async false
set_option linter.all false
set_option maxRecDepth 100000
set_option maxHeartbeats 400000
/-! tokens: what both readers go by. -/
namespace K02
open PySem PySem.Spec PyProof.Rows L2 L3
abbrev cs (z : PySem.Str) : List Nat := z.cps.toList
abbrev zSmall : PySem.Str := "abcdefghijklmnopqrstuvwxyz"
abbrev zFig : PySem.Str := "0123456789"
abbrev zSign : PySem.Str := "(){},;=!&|<+-*"
abbrev zBl : PySem.Str := " \n"
theorem mem_tw {α : Type} {p : α → Bool} : ∀ {l : List α} {a : α}, a ∈ l.takeWhile p → p a = true
  | [], a, h => by cases h
  | b :: l, a, h => by
    rw [List.takeWhile_cons] at h
    split at h
    · rename_i hb
      rcases List.mem_cons.mp h with e | h
      · rw [e]
        exact hb
      · exact mem_tw h
    · cases h
def run (p : PySem.Str) (l : List Nat) (j : Nat) : Nat := j + ((l.drop j).takeWhile fun c => decide (c ∈ cs p)).length
theorem run_in {p : PySem.Str} {l : List Nat} {j c : Nat} (h : l[j]? = some c) (hc : c ∈ cs p) : run p l j = run p l (j + 1) := by
  obtain ⟨hj, rfl⟩ := List.getElem?_eq_some_iff.mp h
  unfold run
  rw [List.drop_eq_getElem_cons hj, List.takeWhile_cons_of_pos (by simpa using hc), List.length_cons]
  omega
theorem run_out {p : PySem.Str} {l : List Nat} {j c : Nat} (h : l[j]? = some c) (hc : ¬ c ∈ cs p) : run p l j = j := by
  obtain ⟨hj, rfl⟩ := List.getElem?_eq_some_iff.mp h
  unfold run
  rw [List.drop_eq_getElem_cons hj, List.takeWhile_cons_of_neg (by simpa using hc)] <;> rfl
theorem run_end {p : PySem.Str} {l : List Nat} {j : Nat} (h : l.length ≤ j) : run p l j = j := by
  unfold run
  rw [List.drop_eq_nil_of_le h] <;> rfl
theorem run_le {p : PySem.Str} {l : List Nat} {j : Nat} (h : j ≤ l.length) : j ≤ run p l j ∧ run p l j ≤ l.length := by
  unfold run
  have := (List.takeWhile_prefix (fun c => decide (c ∈ cs p)) (l := l.drop j)).length_le
  rw [List.length_drop] at this
  omega
theorem run_all {p : PySem.Str} {l : List Nat} {i j k c : Nat} (hi : run p l j = run p l i) (h1 : i ≤ k) (h2 : k < run p l i) (h : l[k]? = some c) : c ∈ cs p := by
  have e : (l.drop i)[k - i]? = some c := by rw [List.getElem?_drop, show i + (k - i) = k by omega]; exact h
  have hl : k - i < ((l.drop i).takeWhile fun c => decide (c ∈ cs p)).length := by
    unfold run at h2
    omega
  have pre := List.takeWhile_prefix (fun c => decide (c ∈ cs p)) (l := l.drop i)
  obtain ⟨t, ht⟩ := pre
  rw [← ht, List.getElem?_append_left hl] at e
  have := List.mem_of_getElem? e
  simpa using mem_tw this
/-- a part of a text -/
theorem cs_cut {z : PySem.Str} {i e : Nat} (hi : i ≤ z.length) : cs (cutS z (some (i : Int)) (some (e : Int))) = ((cs z).drop i).take (e - i) := by
  have hl : (cs z).length = z.length := by simp [cs, PySem.Str.length]
  unfold cutS
  rw [HT.sIx_nat, HT.sIx_nat, Nat.min_eq_left hi]
  show ((cs z).drop i).take (min e z.length - i) = _
  rw [← hl]
  by_cases h : e ≤ (cs z).length
  · rw [Nat.min_eq_left h]
  · rw [Nat.min_eq_right (by omega), List.take_of_length_le (by rw [List.length_drop] <;> omega), List.take_of_length_le (by rw [List.length_drop] <;> omega)]
theorem cut_len {z : PySem.Str} {i e : Nat} (hi : i ≤ z.length) (he : e ≤ z.length) : (cutS z (some (i : Int)) (some (e : Int))).length = e - i := by
  show (cutS z (some (i : Int)) (some (e : Int))).cps.size = _
  rw [← Array.length_toList]
  show (cs _).length = _
  rw [cs_cut hi, List.length_take, List.length_drop]
  have hl : (cs z).length = z.length := by simp [cs, PySem.Str.length]
  omega
theorem cut_at {z : PySem.Str} {i e k : Nat} (hi : i ≤ z.length) (hk : k < e - i) : (cs (cutS z (some (i : Int)) (some (e : Int))))[k]? = (cs z)[i + k]? := by
  rw [cs_cut hi, List.getElem?_take_of_lt hk, List.getElem?_drop]
def Kd (c : Nat) : PySem.Str := if c ∈ cs zSmall then zSmall else if c ∈ cs zFig then zFig else ""
def tEnd (z : PySem.Str) (c i : Nat) : Nat := if cutS z (some (i : Int)) (some ((i + 2 : Nat) : Int)) = "==" then i + 2 else if Kd c = "" then i + 1 else run (Kd c) (cs z) (i + 1)
def tok (z : PySem.Str) (i e : Nat) : PySem.Str := cutS z (some (i : Int)) (some (e : Int))
def tBad (z : PySem.Str) (c i : Nat) : Prop := (Kd c = "" ∧ ¬ c ∈ cs zSign) ∨ (Kd c = zFig ∧ (4 < (tok z i (tEnd z c i)).length ∨ (tok z i (tEnd z c i) ≠ "0" ∧ c = 48)))
inductive Sc (z : PySem.Str) : Nat → List (Nat × Nat) → Option Nat → Prop where
  | done {i : Nat} (h : z.length ≤ i) : Sc z i [] none
  | blank {i c : Nat} {l : List (Nat × Nat)} {r : Option Nat} (h : (cs z)[i]? = some c) (hb : c ∈ cs zBl) (k : Sc z (i + 1) l r) : Sc z i l r
  | bad {i c : Nat} (h : (cs z)[i]? = some c) (hb : ¬ c ∈ cs zBl) (k : tBad z c i) : Sc z i [] (some i)
  | tok {i c : Nat} {l : List (Nat × Nat)} {r : Option Nat} (h : (cs z)[i]? = some c) (hb : ¬ c ∈ cs zBl) (k : ¬ tBad z c i) (k2 : Sc z (tEnd z c i) l r) : Sc z i ((i, tEnd z c i) :: l) r
theorem kd_cases (c : Nat) : (Kd c = zSmall ∧ c ∈ cs zSmall) ∨ (Kd c = zFig ∧ c ∈ cs zFig ∧ ¬ c ∈ cs zSmall) ∨ (Kd c = "" ∧ ¬ c ∈ cs zFig ∧ ¬ c ∈ cs zSmall) := by
  unfold Kd
  by_cases h : c ∈ cs zSmall
  · rw [if_pos h]
    exact .inl ⟨rfl, h⟩
  · rw [if_neg h]
    by_cases h2 : c ∈ cs zFig
    · rw [if_pos h2]
      exact .inr (.inl ⟨rfl, h2, h⟩)
    · rw [if_neg h2]
      exact .inr (.inr ⟨rfl, h2, h⟩)
theorem cs_len (z : PySem.Str) : (cs z).length = z.length := by simp [cs, PySem.Str.length]
theorem cut_eq2 {z : PySem.Str} {i : Nat} (hi : i < z.length) (h : cutS z (some (i : Int)) (some ((i + 2 : Nat) : Int)) = "==") : (cs z)[i]? = some 61 ∧ i + 2 ≤ z.length := by
  have h0 := cut_at (e := i + 2) (k := 0) (Nat.le_of_lt hi) (by omega)
  have h1 := cut_at (e := i + 2) (k := 1) (Nat.le_of_lt hi) (by omega)
  rw [h] at h0 h1
  refine ⟨h0.symm.trans (by decide +kernel), ?_⟩
  have := (List.getElem?_eq_some_iff.mp (h1.symm.trans (by decide +kernel : _ = some 61))).1
  rw [cs_len] at this
  omega
theorem tEnd_gt {z : PySem.Str} {c i : Nat} (hi : (cs z)[i]? = some c) : i < tEnd z c i ∧ tEnd z c i ≤ z.length := by
  have hl := (List.getElem?_eq_some_iff.mp hi).1
  rw [cs_len] at hl
  unfold tEnd
  split
  · rename_i h
    exact ⟨by omega, (cut_eq2 hl h).2⟩
  · split
    · omega
    · have := run_le (p := Kd c) (l := cs z) (j := i + 1) (by rw [cs_len]; omega)
      rw [cs_len] at this
      omega
theorem Sc.ex (z : PySem.Str) : ∀ (m i : Nat), z.length - i = m → ∃ l r, Sc z i l r := fun m => by
  induction m using Nat.strongRecOn with
  | _ m ih =>
    intro i hm
    by_cases hi : z.length ≤ i
    · exact ⟨_, _, .done hi⟩
    · have hl : i < (cs z).length := by rw [cs_len]; omega
      have hc := List.getElem?_eq_getElem hl
      by_cases hb : (cs z)[i] ∈ cs zBl
      · obtain ⟨l, r, k⟩ := ih (z.length - (i + 1)) (by omega) (i + 1) rfl
        exact ⟨_, _, .blank hc hb k⟩
      · by_cases ht : tBad z (cs z)[i] i
        · exact ⟨_, _, .bad hc hb ht⟩
        · have := tEnd_gt hc
          obtain ⟨l, r, k⟩ := ih (z.length - tEnd z (cs z)[i] i) (by omega) _ rfl
          exact ⟨_, _, .tok hc hb ht k⟩
end K02

set_option Elab.async false
set_option linter.all false
set_option maxRecDepth 100000
set_option maxHeartbeats 400000
/-! the law's own reader. -/
namespace K02
open PySem PySem.Spec PyProof.Rows L2 L3
local macro_rules | `(tactic| kxs_still) => `(tactic| first | ((with_reducible refine' s_var ?svh ?svk); (case svh => exact rfl)) | with_reducible first
  | refine s_seq ?_ | refine s_set ?_ | refine s_ret ?_ | refine s_ifS ?_ | refine s_asg ?_ | refine s_par ?_ | refine s_drop ?_ | refine s_next ?_ | refine s_cnt ?_
  | refine s_gsub ?_ | refine s_gname ?_ | refine s_gcons ?_ | refine s_gnil ?_ | refine s_c ?_ | refine s_op ?_ | refine s_B ?_ | refine s_tru ?_ | refine s_and ?_ | refine s_or ?_ | refine s_not ?_ | refine s_if ?_ | refine s_andV ?_ | refine s_notV ?_
  | refine s_cons ?_ | refine s_nil ?_ | refine s_tup ?_ | refine s_lst ?_ | refine s_cb ?_ | refine s_call ?_ | refine s_bm ?_ | refine s_sl ?_ | refine s_np ?_ | refine s_part ?_
  | refine s_lcYes ?_ | refine s_lcNo ?_
  | refine s_addI ?_ | refine s_sub ?_ | refine s_lt ?_ | refine s_le ?_ | refine s_gt ?_ | refine s_ge ?_ | refine s_eqI ?_ | refine s_eqS ?_ | refine s_neS ?_ | refine s_inCf ?_ | refine s_inCt ?_ | refine s_inS ?_ | refine s_int ?_ | refine s_abs ?_)
def tokD (z : PySem.Str) (t : Nat × Nat) : L3.D := .tup [.str (tok z t.1 t.2), .int (t.1 : Int)]
def sp_lscan : Sp3 := fun ds S q _ => ∃ z L r, ds = [.str z] ∧ z.length ≤ 100000 ∧ Sc z 0 L r ∧ (∀ (i : Nat), r = some i → ∀ S', Kp S S' → q (.int (i : Int)) S') ∧ (r = none → ∀ n S', Kp S S' → S'[n]? = some (.lst (L.map (tokD z))) → q (.ref n) S')
theorem kd_step {ρ : Env3} {S : Store} {q : WK} {x : XK3} {c : Nat} (h0 : slot ρ 5 = some (.str ⟨#[c]⟩)) (h1 : slot ρ 1 = some (.str zSmall)) (h2 : slot ρ 2 = some (.str zFig)) (h : q (.str (Kd c)) S) :
    wIf (wB (wOp (inD false) (wVar 5) (wVar 1))) (wVar 1) (wIf (wB (wOp (inD false) (wVar 5) (wVar 2))) (wVar 2) (wC (.str ""))) ρ S q x := by
  repeat kxs_still
  refine s_var h0 (s_var h1 ?_)
  repeat kxs_still
  unfold Kd at h
  refine s_iteP (fun hs => ?_) (fun hs => ?_)
  · refine s_var h1 ?_
    rw [if_pos hs] at h
    exact h
  · rw [if_neg hs] at h
    repeat kxs_still
    refine s_var h0 (s_var h2 ?_)
    repeat kxs_still
    refine s_iteP (fun hs => ?_) (fun hs => ?_)
    · refine s_var h2 ?_
      rw [if_pos hs] at h
      exact h
    · rw [if_neg hs] at h
      exact h
theorem atI_nat {α : Type} {xs : List α} {i : Nat} {a : α} (h : xs[i]? = some a) : L2.atI xs (i : Int) = some a := by
  have := (List.getElem?_eq_some_iff.mp h).1
  rw [atI_get (by omega) (by omega), Int.toNat_natCast]
  exact h
def tEnd1 (z : PySem.Str) (c i : Nat) : Nat := if Kd c = "" then i + 1 else run (Kd c) (cs z) (i + 1)
abbrev w_lrest : WS :=
  (wSeq (wIfS (wB (wOp eqD (wSl (wVar 0) (wPart (wVar 4)) (wPart (wOp addD (wVar 4) (wC (.int 2))))) (wC (.str "==")))) (wSet 6 (wOp addD (wVar 4) (wC (.int 2)))) wNext)
  (wSeq (wSet 8 (wSl (wVar 0) (wPart (wVar 4)) (wPart (wVar 6))))
  (wSeq (wIfS (wOr (wAnd (wB (wOp eqD (wVar 7) (wC (.str "")))) (wB (wOp (inD true) (wVar 5) (wC (.str "(){},;=!&|<+-*"))))) (wAnd (wB (wOp eqD (wVar 7) (wVar 2))) (wOr (wB (wOp gtD (wCB rLen (wCons (wVar 8) wNil)) (wC (.int 4)))) (wAnd (wB (wOp neD (wVar 8) (wC (.str "0")))) (wB (wOp eqD (wOp ixD (wVar 8) (wC (.int 0))) (wC (.str "0")))))))) (wRet (wVar 4)) wNext)
  (wSeq (wDrop (wBM "list" mAppend (wVar 3) (wCons (wTup (wCons (wVar 8) (wCons (wVar 4) wNil))) wNil)))
  (wSet 4 (wVar 6))))))
theorem tEnd_eq {z : PySem.Str} {c i : Nat} : tEnd z c i = if cutS z (some (i : Int)) (some ((i + 2 : Nat) : Int)) = "==" then i + 2 else tEnd1 z c i := rfl
theorem zFig_ne : zFig ≠ "" := by decide +kernel
theorem one_eq {a b : Nat} : ((⟨#[a]⟩ : PySem.Str) = ⟨#[b]⟩) ↔ a = b := by simp
theorem lrest2_ok {E : Ends3} {S : Store} {z : PySem.Str} {i c e n : Nat} {acc : List (Nat × Nat)} {l : L3.D} (hz : z.length ≤ LIM) (hc : (cs z)[i]? = some c) (he : e = tEnd z c i) (hn : S[n]? = some (.lst (acc.map (tokD z)))) (ha : acc.length < LIM)
    (h1 : tBad z c i → E.rt (.int (i : Int)) S) (h2 : ¬ tBad z c i → E.nx [some (.str z), some l, some (.str zFig), some (.ref n), some (.int (e : Int)), some (.str ⟨#[c]⟩), some (.int (e : Int)), some (.str (Kd c)), some (.str (tok z i e))] (S.set n (.lst ((acc ++ [(i, e)]).map (tokD z))))) :
    (wSeq (wIfS (wOr (wAnd (wB (wOp eqD (wVar 7) (wC (.str "")))) (wB (wOp (inD true) (wVar 5) (wC (.str "(){},;=!&|<+-*"))))) (wAnd (wB (wOp eqD (wVar 7) (wVar 2))) (wOr (wB (wOp gtD (wCB rLen (wCons (wVar 8) wNil)) (wC (.int 4)))) (wAnd (wB (wOp neD (wVar 8) (wC (.str "0")))) (wB (wOp eqD (wOp ixD (wVar 8) (wC (.int 0))) (wC (.str "0")))))))) (wRet (wVar 4)) wNext)
      (wSeq (wDrop (wBM "list" mAppend (wVar 3) (wCons (wTup (wCons (wVar 8) (wCons (wVar 4) wNil))) wNil)))
        (wSet 4 (wVar 6)))) E [some (.str z), some l, some (.str zFig), some (.ref n), some (.int (i : Int)), some (.str ⟨#[c]⟩), some (.int (e : Int)), some (.str (Kd c)), some (.str (tok z i e))] S := by
  have hi := (List.getElem?_eq_some_iff.mp hc).1
  rw [cs_len] at hi
  have hb := tEnd_gt hc
  rw [← he] at hb
  have hl : (tok z i e).length = e - i := cut_len (by omega) hb.2
  have h0 : (cs (tok z i e))[0]? = some c := by rw [tok, cut_at (by omega) (by omega)]; exact hc
  have good : ¬ tBad z c i → (wSeq (wDrop (wBM "list" mAppend (wVar 3) (wCons (wTup (wCons (wVar 8) (wCons (wVar 4) wNil))) wNil)))
        (wSet 4 (wVar 6))) E [some (.str z), some l, some (.str zFig), some (.ref n), some (.int (i : Int)), some (.str ⟨#[c]⟩), some (.int (e : Int)), some (.str (Kd c)), some (.str (tok z i e))] S := fun hb => by
    repeat kxs_still
    refine ⟨s_tyL hn, ?_⟩
    repeat kxs_still
    refine ⟨by simp [LIM], ?_⟩
    repeat kxs_still
    refine s_append hn (by rw [List.length_map]; exact ha) ?_
    have := h2 hb
    rw [List.map_append] at this
    repeat kxs_still
  unfold tBad at h1 good
  rw [← he] at h1 good
  repeat kxs_still
  rcases kd_cases c with ⟨hk, hm⟩ | ⟨hk, hm, hm2⟩ | ⟨hk, hm, hm2⟩
  · refine s_iteP (fun h => absurd (hk.symm.trans h) (by decide +kernel)) (fun h => ?_)
    repeat kxs_still
    refine s_iteP (fun h => absurd (hk.symm.trans h) (by decide +kernel)) (fun h => ?_)
    repeat kxs_still
    exact good (by rw [hk]; rintro (⟨h, _⟩ | ⟨h, _⟩) <;> revert h <;> decide +kernel)
  · refine s_iteP (fun h => absurd (hk.symm.trans h) (by decide +kernel)) (fun h => ?_)
    repeat kxs_still
    refine s_iteP (fun _ => ?_) (fun h => absurd hk h)
    repeat kxs_still
    refine s_lenS (by omega) ?_
    repeat kxs_still
    refine s_iteP (fun h4 => ?_) (fun h4 => ?_)
    · repeat kxs_still
      exact h1 (.inr ⟨hk, .inl (by omega)⟩)
    · repeat kxs_still
      refine s_iteN (fun h5 => ?_) (fun h5 => ?_)
      · repeat kxs_still
        refine s_ixS (by omega) (atI_nat h0) ?_
        repeat kxs_still
        refine s_iteP (fun h6 => ?_) (fun h6 => ?_)
        · repeat kxs_still
          exact h1 (.inr ⟨hk, .inr ⟨h5, one_eq.mp h6⟩⟩)
        · repeat kxs_still
          refine good ?_
          rintro (⟨h, _⟩ | ⟨_, h | ⟨_, h⟩⟩)
          · exact absurd (hk.symm.trans h) zFig_ne
          · omega
          · exact h6 (one_eq.mpr h)
      · repeat kxs_still
        refine good ?_
        rintro (⟨h, _⟩ | ⟨_, h | ⟨h, _⟩⟩)
        · exact absurd (hk.symm.trans h) zFig_ne
        · omega
        · exact h h5
  · refine s_iteP (fun _ => ?_) (fun h => absurd hk h)
    repeat kxs_still
    refine s_iteN (fun h3 => ?_) (fun h3 => ?_)
    · repeat kxs_still
      exact h1 (.inl ⟨hk, h3⟩)
    · repeat kxs_still
      refine s_iteP (fun h => absurd (h.symm.trans hk) zFig_ne) (fun _ => ?_)
      repeat kxs_still
      refine good ?_
      rintro (⟨_, h⟩ | ⟨h, _⟩)
      · exact h h3
      · exact absurd (h.symm.trans hk) zFig_ne
theorem lrest_ok {E : Ends3} {S : Store} {z : PySem.Str} {i j c n : Nat} {acc : List (Nat × Nat)} {l : L3.D} {tk : Option L3.D} (hz : z.length ≤ LIM) (hc : (cs z)[i]? = some c) (hj : j = tEnd1 z c i) (hn : S[n]? = some (.lst (acc.map (tokD z)))) (ha : acc.length < LIM)
    (h1 : tBad z c i → E.rt (.int (i : Int)) S) (h2 : ¬ tBad z c i → E.nx [some (.str z), some l, some (.str zFig), some (.ref n), some (.int (tEnd z c i : Int)), some (.str ⟨#[c]⟩), some (.int (tEnd z c i : Int)), some (.str (Kd c)), some (.str (tok z i (tEnd z c i)))] (S.set n (.lst ((acc ++ [(i, tEnd z c i)]).map (tokD z))))) :
    w_lrest E [some (.str z), some l, some (.str zFig), some (.ref n), some (.int (i : Int)), some (.str ⟨#[c]⟩), some (.int (j : Int)), some (.str (Kd c)), tk] S := by
  subst hj
  repeat kxs_still
  refine s_slS hz ?_
  repeat kxs_still
  refine s_iteP (fun h => ?_) (fun h => ?_)
  · have e : tEnd z c i = i + 2 := if_pos h
    repeat kxs_still
    refine s_slS hz ?_
    exact lrest2_ok (e := i + 2) hz hc e.symm hn ha h1 (e ▸ h2)
  · have e : tEnd z c i = tEnd1 z c i := if_neg h
    repeat kxs_still
    refine s_slS hz ?_
    exact lrest2_ok (e := tEnd1 z c i) hz hc e.symm hn ha h1 (e ▸ h2)
theorem lscan_ok (ds : List L3.D) (S : Store) (q : WK) (x : XK3) (h : sp_lscan ds S q x) : w__law_scanned (Ends0 q x) (start3 N__law_scanned ds) S := by
  obtain ⟨z, L, r, rfl, hz, hS, hq1, hq2⟩ := h
  have hzL : z.length ≤ LIM := Nat.le_trans hz (by decide)
  unfold w__law_scanned
  repeat kxs_still
  refine ⟨by simp [LIM], ?_⟩
  repeat kxs_still
  refine ⟨by simp [LIM], ?_⟩
  refine s_gtup rfl ?_
  repeat kxs_still
  refine s_while (fun m ρ S' => ∃ (i : Nat) (acc l : List (Nat × Nat)) (se en kd tk : Option L3.D), ρ = [some (.str z), some (.str zSmall), some (.str zFig), some (.ref S.length), some (.int (i : Int)), se, en, kd, tk] ∧ m = z.length - i ∧ i ≤ z.length ∧ Kp S S' ∧ S'[S.length]? = some (.lst (acc.map (tokD z))) ∧ acc.length ≤ i ∧ acc ++ l = L ∧ Sc z i l r) z.length
    ⟨0, [], L, none, none, none, none, rfl, rfl, Nat.zero_le _, Kp.app, at_new, Nat.le_refl _, rfl, hS⟩ ?_
  rintro m ρ S1 ⟨i, acc, l, se, en, kd, tk, rfl, hm, hi, kp, hn, ha, hL, hSc⟩
  repeat kxs_still
  refine s_lenS hzL ?_
  repeat kxs_still
  refine s_iteP (fun h1 => ?_) (fun h1 => ?_)
  · have hl : i < z.length := by omega
    have hlc : i < (cs z).length := by rw [cs_len]; omega
    obtain ⟨c, hc⟩ : ∃ c, (cs z)[i]? = some c := ⟨_, List.getElem?_eq_getElem hlc⟩
    repeat kxs_still
    refine s_ixS hzL (atI_nat hc) ?_
    repeat kxs_still
    refine s_iteP (fun hb => ?_) (fun hb => ?_)
    · repeat kxs_still
      cases hSc with
      | done h => omega
      | bad h hb' k =>
        rw [hc] at h
        cases h
        exact absurd hb hb'
      | tok h hb' k k2 =>
        rw [hc] at h
        cases h
        exact absurd hb hb'
      | blank h hb' k =>
        exact ⟨_, by omega, i + 1, acc, l, _, _, _, _, rfl, rfl, by omega, kp, hn, by omega, hL, k⟩
    · with_reducible refine s_next ?_
      with_reducible refine s_seq ?_
      with_reducible refine s_set ?_
      refine kd_step (c := c) rfl rfl rfl ?_
      with_reducible refine s_seq ?_
      have hl1 := run_le (p := Kd c) (l := cs z) (j := i + 1) (by omega)
      rw [cs_len] at hl1
      refine s_while (fun m ρ S' => ∃ (j : Nat), ρ = [some (.str z), some (.str zSmall), some (.str zFig), some (.ref S.length), some (.int (i : Int)), some (.str ⟨#[c]⟩), some (.int (j : Int)), some (.str (Kd c)), tk] ∧ S' = S1 ∧ i < j ∧ j ≤ z.length ∧ m = z.length - j ∧ (Kd c ≠ "" → run (Kd c) (cs z) j = run (Kd c) (cs z) (i + 1)) ∧ (Kd c = "" → j = i + 1)) (z.length - (i + 1))
        ⟨i + 1, rfl, rfl, by omega, by omega, rfl, fun _ => rfl, fun _ => rfl⟩ ?_
      rintro m' ρ' S' ⟨j, rfl, rfl, hj1, hj2, hm', hr, hk⟩
      have fin : j = tEnd1 z c i → ∀ E : Ends3, (∀ (i : Nat) S2, r = some i → Kp S S2 → E.rt (.int (i : Int)) S2) →
          (∀ (i2 : Nat) (acc l : List (Nat × Nat)) (se en kd tk : Option L3.D) S2, i < i2 → i2 ≤ z.length → Kp S S2 → S2[S.length]? = some (.lst (acc.map (tokD z))) → acc.length ≤ i2 → acc ++ l = L → Sc z i2 l r → E.nx [some (.str z), some (.str zSmall), some (.str zFig), some (.ref S.length), some (.int (i2 : Int)), se, en, kd, tk] S2) →
          w_lrest E [some (.str z), some (.str zSmall), some (.str zFig), some (.ref S.length), some (.int (i : Int)), some (.str ⟨#[c]⟩), some (.int (j : Int)), some (.str (Kd c)), tk] S' := fun ej E hE1 hE2 => by
        refine lrest_ok hzL hc ej hn (Nat.lt_of_le_of_lt ha (by simp [LIM]; omega)) (fun hb2 => ?_) (fun hb2 => ?_)
        · cases hSc with
          | done h => omega
          | blank h hb' k =>
            rw [hc] at h
            cases h
            exact absurd hb' hb
          | tok h hb' k k2 =>
            rw [hc] at h
            cases h
            exact absurd hb2 k
          | bad h hb' k => exact hE1 i S' rfl kp
        · cases hSc with
          | done h => omega
          | blank h hb' k =>
            rw [hc] at h
            cases h
            exact absurd hb' hb
          | bad h hb' k =>
            rw [hc] at h
            cases h
            exact absurd k hb2
          | tok h hb' k k2 =>
            rename_i l
            rw [hc] at h
            cases h
            have := tEnd_gt hc
            exact hE2 _ (acc ++ [(i, tEnd z c i)]) l _ _ _ _ _ this.1 this.2 (kp.set (by simp)) (at_set_eq hn) (by simp; omega) (by simpa using hL) k2
      with_reducible refine s_and ?_
      repeat kxs_still
      refine s_iteN (fun hk2 => ?_) (fun hk2 => ?_)
      · repeat kxs_still
        refine s_lenS hzL ?_
        repeat kxs_still
        refine s_iteP (fun h2 => ?_) (fun h2 => ?_)
        · have hlc : j < (cs z).length := by rw [cs_len]; omega
          obtain ⟨c2, hc2⟩ : ∃ c, (cs z)[j]? = some c := ⟨_, List.getElem?_eq_getElem hlc⟩
          repeat kxs_still
          refine s_ixS hzL (atI_nat hc2) ?_
          repeat kxs_still
          refine s_iteP (fun h3 => ?_) (fun h3 => ?_)
          · repeat kxs_still
            exact ⟨_, by omega, j + 1, rfl, rfl, by omega, by omega, rfl, fun h => by rw [← hr h, run_in hc2 h3], fun h => absurd h hk2⟩
          · exact fin (by unfold tEnd1; rw [if_neg hk2, ← hr hk2, run_out hc2 h3]) _ (fun i' S2 e k => hq1 i' e S2 k) (fun i2 acc l se en kd tk S2 h1 h2 h3 h4 h5 h6 h7 => ⟨_, by omega, i2, acc, l, se, en, kd, tk, rfl, rfl, h2, h3, h4, h5, h6, h7⟩)
        · repeat kxs_still
          exact fin (by unfold tEnd1; rw [if_neg hk2, ← hr hk2, run_end (by rw [cs_len]; omega)]) _ (fun i' S2 e k => hq1 i' e S2 k) (fun i2 acc l se en kd tk S2 h1 h2 h3 h4 h5 h6 h7 => ⟨_, by omega, i2, acc, l, se, en, kd, tk, rfl, rfl, h2, h3, h4, h5, h6, h7⟩)
      · repeat kxs_still
        exact fin (by unfold tEnd1; rw [if_pos hk2]; exact hk hk2) _ (fun i' S2 e k => hq1 i' e S2 k) (fun i2 acc l se en kd tk S2 h1 h2 h3 h4 h5 h6 h7 => ⟨_, by omega, i2, acc, l, se, en, kd, tk, rfl, rfl, h2, h3, h4, h5, h6, h7⟩)
  · cases hSc with
    | done h =>
      rw [List.append_nil] at hL
      subst hL
      repeat kxs_still
      exact hq2 rfl _ _ kp hn
    | blank h hb' k =>
      have := (List.getElem?_eq_some_iff.mp h).1
      rw [cs_len] at this
      omega
    | bad h hb' k =>
      have := (List.getElem?_eq_some_iff.mp h).1
      rw [cs_len] at this
      omega
    | tok h hb' k k2 =>
      have := (List.getElem?_eq_some_iff.mp h).1
      rw [cs_len] at this
      omega
end K02

set_option Elab.async false
set_option linter.all false
set_option maxRecDepth 100000
set_option maxHeartbeats 400000
/-! the program's own parts. -/
namespace K02
open PySem PySem.Spec PyProof.Rows L2 L3
local macro_rules | `(tactic| kxs_still) => `(tactic| first | ((with_reducible refine' s_var ?svh ?svk); (case svh => exact rfl)) | with_reducible first
  | refine s_seq ?_ | refine s_set ?_ | refine s_ret ?_ | refine s_ifS ?_ | refine s_asg ?_ | refine s_par ?_ | refine s_drop ?_ | refine s_next ?_ | refine s_cnt ?_ | refine s_rz ?_
  | refine s_gsub ?_ | refine s_gname ?_ | refine s_gcons ?_ | refine s_gnil ?_ | refine s_c ?_ | refine s_op ?_ | refine s_B ?_ | refine s_tru ?_ | refine s_and ?_ | refine s_or ?_ | refine s_not ?_ | refine s_if ?_ | refine s_andV ?_ | refine s_orV ?_ | refine s_notV ?_ | refine s_xf ?_ | refine s_chain ?_
  | refine s_cons ?_ | refine s_nil ?_ | refine s_tup ?_ | refine s_lst ?_ | refine s_cb ?_ | refine s_call ?_ | refine s_bm ?_ | refine s_sl ?_ | refine s_np ?_ | refine s_part ?_
  | refine s_lcYes ?_ | refine s_lcNo ?_ | refine s_yes ?_
  | refine s_addI ?_ | refine s_sub ?_ | refine s_lt ?_ | refine s_le ?_ | refine s_gt ?_ | refine s_ge ?_ | refine s_eqI ?_ | refine s_eqS ?_ | refine s_neS ?_ | refine s_inCf ?_ | refine s_inCt ?_ | refine s_inS ?_ | refine s_int ?_ | refine s_abs ?_)
/-- need_text -/
def sp_need : Sp3 := fun ds S q x => ∃ d t, ds = [d] ∧ tyD S d = some t ∧ ((∃ z, d = .str z ∧ z.length ≤ LIM ∧ (z.length ≤ 10000 → q .non S) ∧ (10000 < z.length → x "BadText" [("at", .int 0)] S)) ∨ (isiB t "str" = false ∧ x "BadText" [("at", .int 0)] S))
theorem need_ok (ds : List L3.D) (S : Store) (q : WK) (x : XK3) (h : sp_need ds S q x) : w_need_text (Ends0 q x) (start3 N_need_text ds) S := by
  obtain ⟨d, t, rfl, ht, h⟩ := h
  unfold w_need_text
  repeat kxs_still
  refine s_isi ht (by decide) ?_
  refine s_truB ?_
  rcases h with ⟨z, rfl, hz, h1, h2⟩ | ⟨h1, h2⟩
  · cases ht
    refine s_lcNo ?_
    repeat kxs_still
    refine s_lenS hz ?_
    repeat kxs_still
    refine s_iteP (fun h => ?_) (fun h => ?_)
    · repeat kxs_still
      exact h2 (by omega)
    · repeat kxs_still
      exact h1 (by omega)
  · rw [h1]
    refine s_lcYes ?_
    refine s_lcYes ?_
    refine s_rz ?_
    refine s_c ?_
    exact h2
/-- token_end -/
def sp_tend : Sp3 := fun ds S q _ => ∃ z i c, ds = [.str z, .int ((i : Nat) : Int)] ∧ z.length ≤ LIM ∧ (cs z)[i]? = some c ∧ q (.int (tEnd z c i : Int)) S
theorem tend_loop {E : Ends3} {S : Store} {z p : PySem.Str} {i : Nat} (hz : z.length ≤ LIM) (hi : i ≤ z.length) (h : E.nx [some (.str z), some (.int (run p (cs z) i : Int)), some (.str p)] S) :
    wWhile (wAnd (wB (wOp ltD (wVar 1) (wCB rLen (wCons (wVar 0) wNil)))) (wB (wOp (inD false) (wOp ixD (wVar 0) (wVar 1)) (wVar 2)))) (wAug 1 (wC (.int 1)) addI) E [some (.str z), some (.int (i : Int)), some (.str p)] S := by
  refine s_while (fun m ρ S' => ∃ j : Nat, ρ = [some (.str z), some (.int (j : Int)), some (.str p)] ∧ S' = S ∧ j ≤ z.length ∧ m = z.length - j ∧ run p (cs z) j = run p (cs z) i) _ ⟨i, rfl, rfl, hi, rfl, rfl⟩ ?_
  rintro m ρ S' ⟨j, rfl, rfl, hj, hm, hr⟩
  repeat kxs_still
  refine s_lenS hz ?_
  repeat kxs_still
  refine s_iteP (fun h2 => ?_) (fun h2 => ?_)
  · have hlc : j < (cs z).length := by rw [cs_len]; omega
    obtain ⟨c2, hc2⟩ : ∃ c, (cs z)[j]? = some c := ⟨_, List.getElem?_eq_getElem hlc⟩
    repeat kxs_still
    refine s_ixS hz (atI_nat hc2) ?_
    repeat kxs_still
    refine s_iteP (fun h3 => ?_) (fun h3 => ?_)
    · refine s_aug rfl ?_
      repeat kxs_still
      exact ⟨_, by omega, j + 1, rfl, rfl, by omega, rfl, by rw [← hr, run_in hc2 h3]⟩
    · rw [← hr, run_out hc2 h3] at h
      exact h
  · repeat kxs_still
    rw [← hr, run_end (by rw [cs_len]; omega)] at h
    exact h
theorem tend_ok (ds : List L3.D) (S : Store) (q : WK) (x : XK3) (h : sp_tend ds S q x) : w_token_end (Ends0 q x) (start3 N_token_end ds) S := by
  obtain ⟨z, i, c, rfl, hz, hc, hq⟩ := h
  have hi := (List.getElem?_eq_some_iff.mp hc).1
  rw [cs_len] at hi
  have not2 : (c ∈ cs zSmall ∨ c ∈ cs zFig) → ¬ cutS z (some (i : Int)) (some ((i + 2 : Nat) : Int)) = "==" := fun h1 h2 => by
    have := (cut_eq2 hi h2).1
    rw [hc] at this
    cases this
    revert h1
    decide +kernel
  unfold w_token_end
  with_reducible refine s_seq ?_
  refine s_for ?_
  refine s_wiT ?_
  repeat kxs_still
  refine ⟨by simp [LIM], ?_⟩
  refine s_onT ?_
  refine ⟨trivial, ?_⟩
  repeat kxs_still
  refine s_ixS hz (atI_nat hc) ?_
  repeat kxs_still
  refine s_iteP (fun h1 => ?_) (fun h1 => ?_)
  · repeat kxs_still
    refine tend_loop hz (by omega) ?_
    repeat kxs_still
    have e : tEnd z c i = run zSmall (cs z) i := by
      unfold tEnd
      rw [if_neg (not2 (.inl h1)), run_in hc h1]
      unfold Kd
      rw [if_pos h1] <;> rfl
    rw [e] at hq
    exact hq
  · repeat kxs_still
    refine ⟨trivial, ?_⟩
    repeat kxs_still
    refine s_ixS hz (atI_nat hc) ?_
    repeat kxs_still
    refine s_iteP (fun h2 => ?_) (fun h2 => ?_)
    · repeat kxs_still
      refine tend_loop hz (by omega) ?_
      repeat kxs_still
      have e : tEnd z c i = run zFig (cs z) i := by
        unfold tEnd
        rw [if_neg (not2 (.inr h2)), run_in hc h2]
        unfold Kd
        rw [if_neg h1, if_pos h2] <;> rfl
      rw [e] at hq
      exact hq
    · repeat kxs_still
      refine ⟨trivial, ?_⟩
      repeat kxs_still
      refine s_slS hz ?_
      repeat kxs_still
      have k : Kd c = "" := by
        unfold Kd
        rw [if_neg h1, if_neg h2]
      refine s_iteP (fun h3 => ?_) (fun h3 => ?_)
      · have e : tEnd z c i = i + 2 := if_pos h3
        repeat kxs_still
        rw [e] at hq
        exact hq
      · have e : tEnd z c i = i + 1 := (if_neg h3).trans (if_pos k)
        repeat kxs_still
        rw [e] at hq
        exact hq
end K02

set_option Elab.async false
set_option linter.all false
set_option maxRecDepth 100000
set_option maxHeartbeats 400000
/-! names, numerals, tokens. -/
namespace K02
open PySem PySem.Spec PyProof.Rows L2 L3
local macro_rules | `(tactic| kxs_still) => `(tactic| first | ((with_reducible refine' s_var ?svh ?svk); (case svh => exact rfl)) | with_reducible first
  | refine s_seq ?_ | refine s_set ?_ | refine s_ret ?_ | refine s_ifS ?_ | refine s_asg ?_ | refine s_par ?_ | refine s_drop ?_ | refine s_next ?_ | refine s_cnt ?_ | refine s_rz ?_
  | refine s_gsub ?_ | refine s_gname ?_ | refine s_gcons ?_ | refine s_gnil ?_ | refine s_c ?_ | refine s_op ?_ | refine s_B ?_ | refine s_tru ?_ | refine s_and ?_ | refine s_or ?_ | refine s_not ?_ | refine s_if ?_ | refine s_andV ?_ | refine s_orV ?_ | refine s_notV ?_ | refine s_xf ?_ | refine s_chain ?_
  | refine s_cons ?_ | refine s_nil ?_ | refine s_tup ?_ | refine s_lst ?_ | refine s_cb ?_ | refine s_call ?_ | refine s_bm ?_ | refine s_sl ?_ | refine s_np ?_ | refine s_part ?_
  | refine s_lcYes ?_ | refine s_lcNo ?_ | refine s_yes ?_
  | refine s_addI ?_ | refine s_sub ?_ | refine s_lt ?_ | refine s_le ?_ | refine s_gt ?_ | refine s_ge ?_ | refine s_eqI ?_ | refine s_eqS ?_ | refine s_neS ?_ | refine s_inCf ?_ | refine s_inCt ?_ | refine s_inS ?_ | refine s_int ?_ | refine s_abs ?_)
/-- is_row_of: of a text, of another value -/
def rowB (a z : PySem.Str) : Bool := (!decide (z = "")) && (cs z).all fun c => decide (c ∈ cs a)
def sp_row : Sp3 := fun ds S q _ => ∃ a d, ds = [.str a, d] ∧ ((∃ z, d = .str z ∧ z.length < LIM ∧ ∀ S', Kp S S' → q (.bl (rowB a z)) S') ∨ (∃ t, tyD S d = some t ∧ isiB t "str" = false ∧ q (.bl false) S))
theorem row_lc {q : Store → Prop} {a : PySem.Str} {e2 : Option L3.D} {S0 : Store} {n : Nat} (hn : S0[n]? = none) : ∀ (l : List Nat) (acc : List Bool) (S : Store), acc.length + l.length < LIM → S[n]? = some (.lst (acc.map .bl)) → Kp S0 S →
    (∀ S1, Kp S0 S1 → S1[n]? = some (.lst ((acc ++ l.map fun c => decide (c ∈ cs a)).map .bl)) → q S1) →
    lcW (wgName 2) wYes (wOp (inD false) (wVar 2) (wVar 0)) (fun _ => True) n [some (.str a), e2, none] q (l.map chD) S
  | [], acc, S, hl, h, kp, k => ⟨trivial, k S kp (by rw [List.map_nil, List.append_nil] <;> exact h)⟩
  | c :: l, acc, S, hl, h, kp, k => by
    refine ⟨trivial, ?_⟩
    repeat kxs_still
    refine s_lcNext h (by rw [List.length_map]; simp at hl; omega) ?_
    have e : ∀ v : Bool, (acc.map L3.D.bl) ++ [L3.D.bl v] = (acc ++ [v]).map .bl := fun v => by simp
    rw [e]
    refine row_lc hn l _ _ (by simp at hl ⊢; omega) (at_set_eq h) (kp.set hn) fun S1 k1 k2 => k S1 k1 ?_
    rw [k2]
    simp
    rw [subS_one]
    simp
theorem row_ok (ds : List L3.D) (S : Store) (q : WK) (x : XK3) (h : sp_row ds S q x) : w_is_row_of (Ends0 q x) (start3 N_is_row_of ds) S := by
  obtain ⟨a, d, rfl, h⟩ := h
  unfold w_is_row_of
  repeat kxs_still
  rcases h with ⟨z, rfl, hz, h⟩ | ⟨t, ht, ht2, h⟩
  · refine s_isi (t := "str") rfl (by decide) ?_
    refine s_andB (fun _ => ?_) (fun h => absurd h (by decide))
    repeat kxs_still
    refine s_andB (fun h1 => ?_) (fun h1 => ?_)
    · repeat kxs_still
      refine s_lc ?_
      refine s_wiS ?_
      repeat kxs_still
      refine s_onS ?_
      refine row_lc (S0 := S) (by simp) (cs z) [] _ (by rw [cs_len]; simpa using hz) at_new Kp.app fun S1 k1 k2 => ?_
      repeat kxs_still
      have := h S1 k1
      unfold rowB at this
      rw [h1, Bool.true_and] at this
      refine s_allD k2 ?_
      rw [List.nil_append, List.all_map]
      exact this
    · have := h S Kp.refl
      unfold rowB at this
      rw [h1, Bool.false_and] at this
      exact this
  · refine s_isi ht (by decide) ?_
    rw [ht2]
    exact s_andB (fun h => absurd h (by decide)) fun _ => h
/-- is_numeral -/
def numB (t : PySem.Str) (c : Nat) : Bool := rowB zFig t && (decide ((t.length : Int) ≤ 4) && (decide (t = "0") || !decide (c = 48)))
def sp_num : Sp3 := fun ds S q _ => ∃ t c, ds = [.str t] ∧ t.length < LIM ∧ (cs t)[0]? = some c ∧ ∀ S', Kp S S' → q (.bl (numB t c)) S'
theorem dec_one {a b : Nat} : decide ((⟨#[a]⟩ : PySem.Str) = ⟨#[b]⟩) = decide (a = b) := by simp
theorem num_ok (ds : List L3.D) (S : Store) (q : WK) (x : XK3) (h : sp_num ds S q x) : w_is_numeral sp_row (Ends0 q x) (start3 N_is_numeral ds) S := by
  obtain ⟨t, c, rfl, hl, hc, h⟩ := h
  unfold numB at h
  unfold w_is_numeral
  repeat kxs_still
  refine ⟨rfl, zFig, _, rfl, .inl ⟨t, rfl, hl, fun S' kp => ?_⟩⟩
  have h := h S' kp
  refine s_andB (fun h1 => ?_) (fun h1 => ?_)
  · rw [h1, Bool.true_and] at h
    repeat kxs_still
    refine s_lenS (by omega) ?_
    repeat kxs_still
    refine s_andB (fun h2 => ?_) (fun h2 => ?_)
    · rw [h2, Bool.true_and] at h
      repeat kxs_still
      refine s_orB (fun h3 => ?_) (fun h3 => ?_)
      · rw [h3, Bool.true_or] at h
        exact h
      · rw [h3, Bool.false_or] at h
        repeat kxs_still
        refine s_ixS (by omega) (atI_nat hc) ?_
        repeat kxs_still
        rw [← dec_one] at h
        exact h
    · rw [h2, Bool.false_and] at h
      exact h
  · rw [h1, Bool.false_and] at h
    exact h
/-- is_name -/
def kept (z : PySem.Str) : Bool := inF (.str z) [.str "any", .str "call", .str "catch", .str "cost", .str "either", .str "else", .str "fun", .str "if", .str "local", .str "mark", .str "or", .str "raise", .str "return", .str "try", .str "while"]
def nameB (z : PySem.Str) : Bool := rowB zSmall z && (decide ((z.length : Int) ≤ 8) && !kept z)
def sp_isname : Sp3 := fun ds S q _ => ∃ d, ds = [d] ∧ ((∃ z, d = .str z ∧ z.length < LIM ∧ ∀ S', Kp S S' → q (.bl (nameB z)) S') ∨ (∃ t, tyD S d = some t ∧ isiB t "str" = false ∧ q (.bl false) S))
theorem isname_ok (ds : List L3.D) (S : Store) (q : WK) (x : XK3) (h : sp_isname ds S q x) : w_is_name sp_row (Ends0 q x) (start3 N_is_name ds) S := by
  obtain ⟨d, rfl, h⟩ := h
  unfold w_is_name
  repeat kxs_still
  rcases h with ⟨z, rfl, hz, h⟩ | ⟨t, ht, ht2, h⟩
  · refine ⟨rfl, zSmall, _, rfl, .inl ⟨z, rfl, hz, fun S' kp => ?_⟩⟩
    have h := h S' kp
    unfold nameB at h
    refine s_andB (fun h1 => ?_) (fun h1 => ?_)
    · rw [h1, Bool.true_and] at h
      repeat kxs_still
      refine s_lenS (by omega) ?_
      repeat kxs_still
      refine s_andB (fun h2 => ?_) (fun h2 => ?_)
      · rw [h2, Bool.true_and] at h
        repeat kxs_still
        refine ⟨rfl, rfl, ?_⟩
        rw [Bool.true_xor]
        exact h
      · rw [h2, Bool.false_and] at h
        exact h
    · rw [h1, Bool.false_and] at h
      exact h
  · exact ⟨rfl, zSmall, _, rfl, .inr ⟨t, ht, ht2, s_andB (fun h => absurd h (by decide)) fun _ => h⟩⟩
end K02

set_option Elab.async false
set_option linter.all false
set_option maxRecDepth 100000
set_option maxHeartbeats 400000
/-! the program's reader. -/
namespace K02
open PySem PySem.Spec PyProof.Rows L2 L3
local macro_rules | `(tactic| kxs_still) => `(tactic| first | ((with_reducible refine' s_var ?svh ?svk); (case svh => exact rfl)) | with_reducible first
  | refine s_seq ?_ | refine s_set ?_ | refine s_ret ?_ | refine s_ifS ?_ | refine s_asg ?_ | refine s_par ?_ | refine s_drop ?_ | refine s_next ?_ | refine s_cnt ?_ | refine s_rz ?_
  | refine s_gsub ?_ | refine s_gname ?_ | refine s_gcons ?_ | refine s_gnil ?_ | refine s_c ?_ | refine s_op ?_ | refine s_B ?_ | refine s_tru ?_ | refine s_and ?_ | refine s_or ?_ | refine s_not ?_ | refine s_if ?_ | refine s_andV ?_ | refine s_orV ?_ | refine s_notV ?_ | refine s_xf ?_ | refine s_chain ?_
  | refine s_cons ?_ | refine s_nil ?_ | refine s_tup ?_ | refine s_lst ?_ | refine s_cb ?_ | refine s_call ?_ | refine s_bm ?_ | refine s_sl ?_ | refine s_np ?_ | refine s_part ?_
  | refine s_lcYes ?_ | refine s_lcNo ?_ | refine s_yes ?_
  | refine s_addI ?_ | refine s_sub ?_ | refine s_lt ?_ | refine s_le ?_ | refine s_gt ?_ | refine s_ge ?_ | refine s_eqI ?_ | refine s_eqS ?_ | refine s_neS ?_ | refine s_inCf ?_ | refine s_inCt ?_ | refine s_inS ?_ | refine s_int ?_ | refine s_abs ?_)
theorem big_iff (c : Nat) : c ∈ cs ((("abcdefghijklmnopqrstuvwxyz" : PySem.Str)) ++ ("(){},;=!&|<+-*" : PySem.Str)) ↔ c ∈ cs zSmall ∨ c ∈ cs zSign := by
  have : ∀ a b : PySem.Str, cs (a ++ b) = cs a ++ cs b := fun a b => by
    show (a.cps ++ b.cps).toList = _
    simp [cs]
  rw [this]
  exact List.mem_append
theorem fig_not {c : Nat} (h : c ∈ cs zFig) : ¬ (c ∈ cs zSmall ∨ c ∈ cs zSign) := by
  have : ∀ c ∈ cs zFig, ¬ (c ∈ cs zSmall ∨ c ∈ cs zSign) := by decide +kernel
  exact this c h
theorem str_len0 {t : PySem.Str} {c : Nat} (h : (cs t)[0]? = some c) : t ≠ "" := fun e => by
  have n : (cs "")[0]? = none := by decide +kernel
  rw [e, n] at h
  cases h
/-- what is refused is what the law refuses -/
theorem bad_iff {z : PySem.Str} {c i : Nat} (hc : (cs z)[i]? = some c) : (¬ (c ∈ cs zSmall ∨ c ∈ cs zSign) ∧ numB (tok z i (tEnd z c i)) c = false) ↔ tBad z c i := by
  have hi := (List.getElem?_eq_some_iff.mp hc).1
  rw [cs_len] at hi
  have hb := tEnd_gt hc
  have hl : (tok z i (tEnd z c i)).length = tEnd z c i - i := cut_len (by omega) hb.2
  have h0 : (cs (tok z i (tEnd z c i)))[0]? = some c := by rw [tok, cut_at (by omega) (by omega)]; exact hc
  have hne := str_len0 h0
  unfold tBad
  rcases kd_cases c with ⟨hk, hm⟩ | ⟨hk, hm, hm2⟩ | ⟨hk, hm, hm2⟩
  · constructor
    · rintro ⟨h, _⟩
      exact absurd (.inl hm) h
    · rintro (⟨h, _⟩ | ⟨h, _⟩)
      · exact absurd (hk.symm.trans h) (by decide +kernel)
      · exact absurd (hk.symm.trans h) (by decide +kernel)
  · have all : rowB zFig (tok z i (tEnd z c i)) = true := by
      unfold rowB
      rw [decide_eq_false hne, Bool.not_false, Bool.true_and, List.all_eq_true]
      intro d hd
      obtain ⟨k, hk', rfl⟩ := List.mem_iff_getElem.mp hd
      have hk2 : k < tEnd z c i - i := by rw [← hl, ← cs_len]; exact hk'
      have e := (cut_at (z := z) (i := i) (e := tEnd z c i) (k := k) (by omega) hk2).symm.trans (List.getElem?_eq_getElem hk')
      have nt : ¬ cutS z (some (i : Int)) (some ((i + 2 : Nat) : Int)) = "==" := fun h2 => by
        have := (cut_eq2 hi h2).1
        rw [hc] at this
        cases this
        revert hm
        decide +kernel
      have eE : tEnd z c i = run zFig (cs z) (i + 1) := by
        unfold tEnd
        rw [if_neg nt, hk, if_neg zFig_ne]
      rw [decide_eq_true_eq]
      refine run_all (i := i) (j := i) (k := i + k) rfl (by omega) ?_ e
      rw [run_in hc hm, ← eE]
      omega
    unfold numB
    rw [all, Bool.true_and]
    constructor
    · rintro ⟨_, h⟩
      refine .inr ⟨hk, ?_⟩
      by_cases h4 : ((tok z i (tEnd z c i)).length : Int) ≤ 4
      · rw [decide_eq_true h4, Bool.true_and, Bool.or_eq_false_iff] at h
        exact .inr ⟨of_decide_eq_false h.1, by simpa using h.2⟩
      · exact .inl (by omega)
    · rintro (⟨h, _⟩ | ⟨_, h | ⟨h1, h2⟩⟩)
      · exact absurd (hk.symm.trans h) zFig_ne
      · exact ⟨fig_not hm, by rw [decide_eq_false (by omega), Bool.false_and]⟩
      · exact ⟨fig_not hm, by rw [decide_eq_false h1, decide_eq_true h2] <;> simp⟩
  · have none : rowB zFig (tok z i (tEnd z c i)) = false := by
      unfold rowB
      rw [Bool.and_eq_false_iff]
      refine .inr (List.all_eq_false.mpr ⟨c, List.mem_of_getElem? h0, by simpa using hm⟩)
    unfold numB
    rw [none, Bool.false_and]
    constructor
    · rintro ⟨h, _⟩
      exact .inl ⟨hk, fun h2 => h (.inr h2)⟩
    · rintro (⟨_, h⟩ | ⟨h, _⟩)
      · exact ⟨fun h2 => h2.elim hm2 h, rfl⟩
      · exact absurd (h.symm.trans hk) zFig_ne
def sp_scan : Sp3 := fun ds S q x => ∃ z L r, ds = [.str z] ∧ z.length ≤ 100000 ∧ Sc z 0 L r ∧ (∀ (i : Nat), r = some i → ∀ S', Kp S S' → x "BadText" [("at", .int (i : Int))] S') ∧ (r = none → ∀ n S', Kp S S' → S'[n]? = some (.lst (L.map (tokD z))) → q (.ref n) S')
theorem scan_ok (ds : List L3.D) (S : Store) (q : WK) (x : XK3) (h : sp_scan ds S q x) : w_scanned sp_num sp_tend (Ends0 q x) (start3 N_scanned ds) S := by
  obtain ⟨z, L, r, rfl, hz, hS, hq1, hq2⟩ := h
  have hzL : z.length < LIM := Nat.lt_of_le_of_lt hz (by decide)
  have hzL' : z.length ≤ LIM := Nat.le_of_lt hzL
  unfold w_scanned
  repeat kxs_still
  refine ⟨by simp [LIM], ?_⟩
  repeat kxs_still
  refine s_while (fun m ρ S' => ∃ (i : Nat) (acc l : List (Nat × Nat)) (e t : Option L3.D), ρ = [some (.str z), some (.ref S.length), some (.int (i : Int)), e, t] ∧ m = z.length - i ∧ i ≤ z.length ∧ Kp S S' ∧ S'[S.length]? = some (.lst (acc.map (tokD z))) ∧ acc.length ≤ i ∧ acc ++ l = L ∧ Sc z i l r) z.length
    ⟨0, [], L, none, none, rfl, rfl, Nat.zero_le _, Kp.app, at_new, Nat.le_refl _, rfl, hS⟩ ?_
  rintro m ρ S1 ⟨i, acc, l, en, tk, rfl, hm, hi, kp, hn, ha, hL, hSc⟩
  repeat kxs_still
  refine s_lenS hzL' ?_
  repeat kxs_still
  refine s_iteP (fun h1 => ?_) (fun h1 => ?_)
  · have hl : i < z.length := by omega
    have hlc : i < (cs z).length := by rw [cs_len]; omega
    obtain ⟨c, hc⟩ : ∃ c, (cs z)[i]? = some c := ⟨_, List.getElem?_eq_getElem hlc⟩
    have hbt := tEnd_gt hc
    have htl : (tok z i (tEnd z c i)).length = tEnd z c i - i := cut_len (by omega) hbt.2
    have h0 : (cs (tok z i (tEnd z c i)))[0]? = some c := by rw [tok, cut_at (by omega) (by omega)]; exact hc
    repeat kxs_still
    refine s_ixS hzL' (atI_nat hc) ?_
    repeat kxs_still
    refine s_iteP (fun hb => ?_) (fun hb => ?_)
    · with_reducible refine s_seq ?_
      refine s_aug rfl ?_
      repeat kxs_still
      cases hSc with
      | done h => omega
      | bad h hb' k =>
        rw [hc] at h
        cases h
        exact absurd hb hb'
      | tok h hb' k k2 =>
        rw [hc] at h
        cases h
        exact absurd hb hb'
      | blank h hb' k =>
        exact ⟨_, by omega, i + 1, acc, l, _, _, rfl, rfl, by omega, kp, hn, by omega, hL, k⟩
    · repeat kxs_still
      refine ⟨rfl, z, i, c, rfl, hzL', hc, ?_⟩
      repeat kxs_still
      refine s_slS hzL' ?_
      repeat kxs_still
      refine s_ixS hzL' (atI_nat hc) ?_
      repeat kxs_still
      refine s_addS (by decide +kernel) ?_
      repeat kxs_still
      -- the token is taken
      have good : ¬ tBad z c i → ∀ S2, Kp S1 S2 → ∀ E : Ends3, (∀ S3, Kp S S3 → S3[S.length]? = some (.lst ((acc ++ [(i, tEnd z c i)]).map (tokD z))) → E.nx [some (.str z), some (.ref S.length), some (.int (tEnd z c i : Int)), some (.int (tEnd z c i : Int)), some (.str (tok z i (tEnd z c i)))] S3) →
          (wSeq (wDrop (wBM "list" mAppend (wVar 1) (wCons (wTup (wCons (wVar 4) (wCons (wVar 2) wNil))) wNil))) (wSet 2 (wVar 3))) E [some (.str z), some (.ref S.length), some (.int (i : Int)), some (.int (tEnd z c i : Int)), some (.str (tok z i (tEnd z c i)))] S2 := fun _ S2 kp2 E hE => by
        repeat kxs_still
        refine ⟨s_tyL (kp2 _ _ hn), ?_⟩
        repeat kxs_still
        refine ⟨by simp [LIM], ?_⟩
        repeat kxs_still
        refine s_append (kp2 _ _ hn) (by rw [List.length_map]; exact Nat.lt_of_le_of_lt ha (by simp [LIM] at hzL ⊢; omega)) ?_
        repeat kxs_still
        refine hE _ ((kp.trans kp2).set (by simp)) ?_
        rw [List.map_append]
        exact at_set_eq (kp2 _ _ hn)
      have take : ¬ tBad z c i → ∀ S3, Kp S S3 → S3[S.length]? = some (.lst ((acc ++ [(i, tEnd z c i)]).map (tokD z))) → ∃ m', m' < m ∧ ∃ (i2 : Nat) (acc l : List (Nat × Nat)) (e t : Option L3.D), [some (.str z), some (.ref S.length), some (.int (tEnd z c i : Int)), some (.int (tEnd z c i : Int)), some (.str (tok z i (tEnd z c i)))] = [some (.str z), some (.ref S.length), some (.int (i2 : Int)), e, t] ∧ m' = z.length - i2 ∧ i2 ≤ z.length ∧ Kp S S3 ∧ S3[S.length]? = some (.lst (acc.map (tokD z))) ∧ acc.length ≤ i2 ∧ acc ++ l = L ∧ Sc z i2 l r := fun nb S3 k3 h3 => by
        cases hSc with
        | done h => omega
        | blank h hb' k =>
          rw [hc] at h
          cases h
          exact absurd hb' hb
        | bad h hb' k =>
          rw [hc] at h
          cases h
          exact absurd k nb
        | tok h hb' k k2 =>
          rename_i l
          rw [hc] at h
          cases h
          exact ⟨_, by omega, tEnd z c i, acc ++ [(i, tEnd z c i)], l, _, _, rfl, rfl, hbt.2, k3, h3, by simp; omega, by simpa using hL, k2⟩
      have raise : tBad z c i → ∀ S3, Kp S S3 → x "BadText" [("at", .int (i : Int))] S3 := fun nb S3 k3 => by
        cases hSc with
        | done h => omega
        | blank h hb' k =>
          rw [hc] at h
          cases h
          exact absurd hb' hb
        | bad h hb' k => exact hq1 i rfl S3 k3
        | tok h hb' k k2 =>
          rw [hc] at h
          cases h
          exact absurd nb k
      refine s_iteN (fun h2 => ?_) (fun h2 => ?_)
      · have h2' : ¬ (c ∈ cs zSmall ∨ c ∈ cs zSign) := fun h => h2 ((big_iff c).mpr h)
        repeat kxs_still
        refine ⟨rfl, _, c, rfl, (by show (tok z i (tEnd z c i)).length < LIM; omega), h0, fun S2 kp2 => ?_⟩
        refine s_truB ?_
        refine s_ite (fun h3 => ?_) (fun h3 => ?_)
        · change (!numB (tok z i (tEnd z c i)) c) = true at h3
          have nb : tBad z c i := (bad_iff hc).mp ⟨h2', by simpa using h3⟩
          with_reducible refine s_rz ?_
          repeat kxs_still
          exact raise nb S2 (kp.trans kp2)
        · change (!numB (tok z i (tEnd z c i)) c) = false at h3
          have nb : ¬ tBad z c i := fun h => by
            have := ((bad_iff hc).mpr h).2
            rw [this] at h3
            cases h3
          with_reducible refine s_next ?_
          exact good nb S2 kp2 _ (take nb)
      · have nb : ¬ tBad z c i := fun h => ((bad_iff hc).mpr h).1 ((big_iff c).mp h2)
        refine s_lcNo ?_
        with_reducible refine s_next ?_
        exact good nb S1 Kp.refl _ (take nb)
  · cases hSc with
    | done h =>
      rw [List.append_nil] at hL
      subst hL
      repeat kxs_still
      exact hq2 rfl _ _ kp hn
    | blank h hb' k =>
      have := (List.getElem?_eq_some_iff.mp h).1
      rw [cs_len] at this
      omega
    | bad h hb' k =>
      have := (List.getElem?_eq_some_iff.mp h).1
      rw [cs_len] at this
      omega
    | tok h hb' k k2 =>
      have := (List.getElem?_eq_some_iff.mp h).1
      rw [cs_len] at this
      omega
end K02

set_option Elab.async false
set_option linter.all false
set_option maxRecDepth 100000
set_option maxHeartbeats 400000
/-! what the law asks, one by one. -/
namespace K02
open PySem PySem.Spec PyProof.Rows L2 L3
local macro_rules | `(tactic| kxs_still) => `(tactic| first | ((with_reducible refine' s_var ?svh ?svk); (case svh => exact rfl)) | with_reducible first
  | refine s_seq ?_ | refine s_set ?_ | refine s_ret ?_ | refine s_ifS ?_ | refine s_asg ?_ | refine s_par ?_ | refine s_drop ?_ | refine s_next ?_ | refine s_cnt ?_ | refine s_rz ?_
  | refine s_gsub ?_ | refine s_gname ?_ | refine s_gcons ?_ | refine s_gnil ?_ | refine s_c ?_ | refine s_op ?_ | refine s_B ?_ | refine s_tru ?_ | refine s_and ?_ | refine s_or ?_ | refine s_not ?_ | refine s_if ?_ | refine s_andV ?_ | refine s_orV ?_ | refine s_notV ?_ | refine s_xf ?_ | refine s_chain2 ?_
  | refine s_cons ?_ | refine s_nil ?_ | refine s_tup ?_ | refine s_lst ?_ | refine s_cb ?_ | refine s_call ?_ | refine s_bm ?_ | refine s_sl ?_ | refine s_np ?_ | refine s_part ?_
  | refine s_lcYes ?_ | refine s_lcNo ?_ | refine s_yes ?_
  | refine s_addI ?_ | refine s_sub ?_ | refine s_lt ?_ | refine s_le ?_ | refine s_gt ?_ | refine s_ge ?_ | refine s_eqI ?_ | refine s_eqS ?_ | refine s_neS ?_ | refine s_inCf ?_ | refine s_inCt ?_ | refine s_inS ?_ | refine s_int ?_ | refine s_abs ?_)
def sp_fun : Sp3 := fun ds S q x => ∃ d, ds = [d] ∧ (
  (∃ z L r, d = .str z ∧ z.length ≤ 10000 ∧ Sc z 0 L r ∧ (∀ (i : Nat), r = some i → ∀ S', Kp S S' → x "BadText" [("at", .int (i : Int))] S') ∧ (r = none → ∀ S', Kp S S' → q (.tup (L.map (tokD z))) S')) ∨
  (∃ z, d = .str z ∧ 10000 < z.length ∧ z.length ≤ LIM ∧ x "BadText" [("at", .int 0)] S) ∨
  (∃ t, tyD S d = some t ∧ isiB t "str" = false ∧ x "BadText" [("at", .int 0)] S))
theorem fun_ok (ds : List L3.D) (S : Store) (q : WK) (x : XK3) (h : sp_fun ds S q x) : w_fun_tokens sp_need sp_scan (Ends0 q x) (start3 N_fun_tokens ds) S := by
  obtain ⟨d, rfl, h⟩ := h
  unfold w_fun_tokens
  repeat kxs_still
  refine ⟨rfl, ?_⟩
  rcases h with ⟨z, L, r, rfl, hz, hS, h1, h2⟩ | ⟨z, rfl, hz, hz2, h⟩ | ⟨t, ht, ht2, h⟩
  · refine ⟨_, "str", rfl, rfl, .inl ⟨z, rfl, Nat.le_trans hz (by decide), fun _ => ?_, fun h => by omega⟩⟩
    repeat kxs_still
    refine ⟨rfl, z, L, r, rfl, by omega, hS, fun i e S' kp => h1 i e S' kp, fun e n S' kp hn => ?_⟩
    repeat kxs_still
    show rTupc [.ref n] S' q
    unfold rTupc
    simp only [hn]
    exact h2 e S' kp
  · exact ⟨_, "str", rfl, rfl, .inl ⟨z, rfl, hz2, fun h => by omega, fun _ => h⟩⟩
  · exact ⟨_, t, rfl, ht, .inr ⟨ht2, h⟩⟩
/-- same, and shown the same -/
def sp_same : Sp3 := fun ds S q _ => ∃ a b u, ds = [a, b] ∧ rdD S 40 a = some u ∧ rdD S 40 b = some u ∧ u.canLay0 = true ∧ shOk u ∧ q (.bl true) S
theorem same_ok (ds : List L3.D) (S : Store) (q : WK) (x : XK3) (h : sp_same ds S q x) : w__law_same (Ends0 q x) (start3 N__law_same ds) S := by
  obtain ⟨a, b, u, rfl, ha, hb, hu, hs, h⟩ := h
  unfold w__law_same
  repeat kxs_still
  show eqD a b S _
  unfold eqD
  rw [ha, hb]
  show andK _ _ _ _ (.bl (PyData.eqv u u)) S
  rw [SeqAt.eqv_refl u hu]
  refine s_andB (fun _ => ?_) (fun h => by cases h)
  unfold wReprs
  repeat kxs_still
  rw [ha]
  refine ⟨hs, ?_⟩
  repeat kxs_still
  rw [hb]
  refine ⟨hs, ?_⟩
  rw [decide_eq_true rfl]
  exact h
/-- the law's own look at names -/
theorem kept_eq (z : PySem.Str) : kept z = l_KEPT.any fun y => decide (y = z) := inF_strs l_KEPT
theorem name_lc {q : Store → Prop} {e1 : Option L3.D} {S0 : Store} {n : Nat} (hn : S0[n]? = none) : ∀ (l : List Nat) (acc : List Int) (S : Store), acc.length + l.length < LIM → S[n]? = some (.lst (acc.map .int)) → Kp S0 S →
    (∀ S1 L, Kp S0 S1 → S1[n]? = some (.lst (List.map L3.D.int L)) → L.isEmpty = (acc.isEmpty && l.all fun c => decide (c ∈ cs zSmall)) → q S1) →
    lcW (wgName 1) (wB (wOp (inD true) (wVar 1) (wC (.str "abcdefghijklmnopqrstuvwxyz")))) (wC (.int 1)) (fun _ => True) n [e1, none] q (l.map chD) S
  | [], acc, S, hl, h, kp, k => ⟨trivial, k S acc kp h (by simp)⟩
  | c :: l, acc, S, hl, h, kp, k => by
    refine ⟨trivial, ?_⟩
    refine s_gname ?_
    refine s_B ?_
    refine s_op ?_
    refine s_var (d := .str ⟨#[c]⟩) rfl ?_
    repeat kxs_still
    refine s_iteN (fun h2 => ?_) (fun h2 => ?_)
    · repeat kxs_still
      refine s_lcNext h (by rw [List.length_map]; simp at hl; omega) ?_
      have e : ∀ v : Int, (acc.map L3.D.int) ++ [L3.D.int v] = (acc ++ [v]).map .int := fun v => by simp
      rw [e]
      refine name_lc hn l _ _ (by simp at hl ⊢; omega) (at_set_eq h) (kp.set hn) fun S1 L k1 k2 k3 => k S1 L k1 k2 ?_
      rw [k3, List.all_cons, decide_eq_false h2]
      simp
    · refine name_lc hn l acc S (by simp at hl; omega) h kp fun S1 L k1 k2 k3 => k S1 L k1 k2 ?_
      rw [k3, List.all_cons, decide_eq_true h2, Bool.true_and]
theorem lname_ok (ds : List L3.D) (S : Store) (q : WK) (x : XK3) (h : sp_isname ds S q x) : w__law_is_name (Ends0 q x) (start3 N__law_is_name ds) S := by
  obtain ⟨d, rfl, h⟩ := h
  unfold w__law_is_name
  repeat kxs_still
  rcases h with ⟨z, rfl, hz, h⟩ | ⟨t, ht, ht2, h⟩
  · refine s_isi (t := "str") rfl (by decide) ?_
    refine s_truB ?_
    refine s_lcNo ?_
    repeat kxs_still
    refine s_lenS (by omega) ?_
    repeat kxs_still
    have fals : nameB z = false → ∀ S2, Kp S S2 → q (.bl false) S2 := fun e S2 kp => by
      have := h S2 kp
      rw [e] at this
      exact this
    refine s_chainB (fun g1 => ?_) (fun g1 => ?_)
    · repeat kxs_still
      refine s_iteN (fun g2 => ?_) (fun g2 => ?_)
      · refine s_lcYes ?_
        refine fals ?_ _ Kp.refl
        unfold nameB
        rw [decide_eq_false g2] <;> simp
      · repeat kxs_still
        refine s_lc ?_
        refine s_wiS ?_
        repeat kxs_still
        refine s_onS ?_
        refine name_lc (S0 := S) (by simp) (cs z) [] _ (by rw [cs_len]; simpa using hz) at_new Kp.app fun S1 L k1 k2 k3 => ?_
        repeat kxs_still
        refine ⟨by simp [LIM], ?_⟩
        refine d_neL (at_app k2) at_new ?_
        rw [k3]
        have g1' : z ≠ "" := fun e => by
          rw [e] at g1
          exact absurd g1 (by decide +kernel)
        have eN : nameB z = (((cs z).all fun c => decide (c ∈ cs zSmall)) && !kept z) := by
          unfold nameB rowB
          rw [decide_eq_false g1', decide_eq_true g2] <;> simp
        refine s_ite (fun g3 => ?_) (fun g3 => ?_)
        · refine fals ?_ _ (k1.trans Kp.app)
          rw [eN]
          have : ((cs z).all fun c => decide (c ∈ cs zSmall)) = false := by simpa using g3
          rw [this, Bool.false_and]
        · have : ((cs z).all fun c => decide (c ∈ cs zSmall)) = true := by simpa using g3
          rw [this, Bool.true_and] at eN
          repeat kxs_still
          refine ⟨by simp [LIM], ?_⟩
          refine s_inL (l := l_KEPT) at_new ?_
          rw [← kept_eq, Bool.true_xor, ← eN]
          exact h _ ((k1.trans Kp.app).trans Kp.app)
    · refine s_iteT rfl ?_
      refine s_lcYes ?_
      refine fals ?_ _ Kp.refl
      unfold nameB rowB
      have : z = "" := by
        have : z.length = 0 := by
          have := of_decide_eq_false g1
          omega
        have e : z.cps = #[] := Array.eq_empty_of_size_eq_zero this
        cases z
        cases e
        rfl
      rw [decide_eq_true this] <;> simp
  · refine s_isi ht (by decide) ?_
    rw [ht2]
    refine s_truB ?_
    refine s_lcYes ?_
    refine s_lcYes ?_
    refine s_ret ?_
    refine s_c ?_
    exact h
end K02

set_option Elab.async false
set_option linter.all false
set_option maxRecDepth 100000
set_option maxHeartbeats 400000
/-! texts: how long, of what. -/
namespace K02
open PySem PySem.Spec PyProof.Rows L2 L3
/-- a short text that can be shown -/
def Tx (k : Nat) (z : PySem.Str) : Prop := z.length ≤ k ∧ ∀ c ∈ cs z, c < 0x110000
theorem cs_app (a b : PySem.Str) : cs (a ++ b) = cs a ++ cs b := by
  show (a.cps ++ b.cps).toList = _
  simp [cs]
theorem Tx.add {j k : Nat} {a b : PySem.Str} (h1 : Tx j a) (h2 : Tx k b) : Tx (j + k) (a ++ b) := by
  refine ⟨?_, fun c hc => ?_⟩
  · rw [← cs_len, cs_app, List.length_append, cs_len, cs_len]
    have := h1.1
    have := h2.1
    omega
  · rw [cs_app] at hc
    exact (List.mem_append.mp hc).elim (h1.2 c) (h2.2 c)
theorem Tx.mono {j k : Nat} {a : PySem.Str} (h1 : Tx j a) (h : j ≤ k) : Tx k a := ⟨Nat.le_trans h1.1 h, h1.2⟩
theorem cs_cutS (z : PySem.Str) (lo hi : Option Int) : ∃ i j, cs (cutS z lo hi) = ((cs z).drop i).take j := ⟨_, _, rfl⟩
theorem Tx.cut {k : Nat} {z : PySem.Str} (h : Tx k z) (lo hi : Option Int) : Tx k (cutS z lo hi) := by
  obtain ⟨i, j, e⟩ := cs_cutS z lo hi
  refine ⟨?_, fun c hc => ?_⟩
  · rw [← cs_len, e, List.length_take, List.length_drop, cs_len]
    have := h.1
    omega
  · rw [e] at hc
    exact h.2 c (List.mem_of_mem_drop (List.mem_of_mem_take hc))
theorem joinL_flat : ∀ l : List (List Nat), TL.joinL [] l = l.flatten
  | [] => rfl
  | [p] => by simp [TL.joinL]
  | p :: q :: r => by
    show p ++ ([] ++ TL.joinL [] (q :: r)) = _
    rw [joinL_flat (q :: r)]
    simp
theorem Tx.join {k : Nat} : ∀ {l : List PySem.Str}, (∀ z ∈ l, Tx k z) → Tx (k * l.length) (Txt.join "" l) := fun {l} h => by
  have e : Txt.join "" l = SX.S (TL.joinL [] (l.map cs)) := by
    have := SX.join_S [] (l.map cs)
    rw [List.map_map] at this
    have e2 : (SX.S ∘ cs) = id := funext fun z => SX.S_tl z
    rw [e2, List.map_id] at this
    exact this
  rw [e, joinL_flat]
  refine ⟨?_, fun c hc => ?_⟩
  · rw [SX.S_len]
    clear e
    induction l with
    | nil => exact Nat.zero_le _
    | cons a l ih =>
      have h1 := (h a (.head _)).1
      have h2 := ih fun z hz => h z (.tail _ hz)
      rw [List.map_cons, List.flatten_cons, List.length_append, List.length_cons, cs_len, Nat.mul_succ]
      omega
  · have hc : c ∈ (l.map cs).flatten := hc
    obtain ⟨t, ht, hc⟩ := List.mem_flatten.mp hc
    obtain ⟨z, hz, rfl⟩ := List.mem_map.mp ht
    exact (h z hz).2 c hc
/-! ### what is shown -/
def tokP (z : PySem.Str) (t : Nat × Nat) : PyData := .tuple [.str (tok z t.1 t.2), .int (t.1 : Int)]
theorem rd_toks {S : Store} (z : PySem.Str) : ∀ l : List (Nat × Nat), seqO ((l.map (tokD z)).map (rdD S 39)) = some (l.map (tokP z))
  | [] => rfl
  | a :: l => by
    rw [List.map_cons, List.map_cons]
    have e : rdD S 39 (tokD z a) = some (tokP z a) := by
      unfold tokD
      show (seqO ([L3.D.str _, L3.D.int _].map (rdD S 38))).map PyData.tuple = _
      rw [List.map_cons, List.map_cons, rdD_str, rdD_int] <;> rfl
    rw [e]
    unfold seqO
    rw [rd_toks z l] <;> rfl
theorem rd_tup {S : Store} (z : PySem.Str) (l : List (Nat × Nat)) : rdD S 40 (.tup (l.map (tokD z))) = some (.tuple (l.map (tokP z))) := by
  show (seqO ((l.map (tokD z)).map (rdD S 39))).map PyData.tuple = _
  rw [rd_toks] <;> rfl
theorem Sc.len {z : PySem.Str} {i : Nat} {l : List (Nat × Nat)} {r : Option Nat} (h : Sc z i l r) : l.length ≤ z.length - i ∧ (∀ t ∈ l, t.1 < z.length) ∧ (∀ j, r = some j → j < z.length) := by
  induction h with
  | done h => exact ⟨Nat.zero_le _, by simp, by simp⟩
  | blank h hb k ih =>
    have := (List.getElem?_eq_some_iff.mp h).1
    rw [cs_len] at this
    exact ⟨by omega, ih.2⟩
  | bad h hb k =>
    have := (List.getElem?_eq_some_iff.mp h).1
    rw [cs_len] at this
    exact ⟨Nat.zero_le _, by simp, fun j e => by cases e; exact this⟩
  | tok h hb k k2 ih =>
    have := (List.getElem?_eq_some_iff.mp h).1
    rw [cs_len] at this
    have := tEnd_gt h
    refine ⟨by rw [List.length_cons]; omega, fun t ht => ?_, ih.2.2⟩
    rcases List.mem_cons.mp ht with e | ht
    · rw [e]
      show _ < _
      omega
    · exact ih.2.1 t ht
theorem strOk_of {z : PySem.Str} (h : ∀ c ∈ cs z, c < 0x110000) : PyData.strOk z = true := by
  unfold PyData.strOk
  rw [Array.all_eq_true_iff_forall_mem]
  intro c hc
  exact decide_eq_true (h c (Array.mem_toList_iff.mpr hc))
theorem toks_all {z : PySem.Str} (hz : Tx 1000 z) : ∀ l : List (Nat × Nat), (∀ t ∈ l, t.1 < z.length) → PyData.canLayAll0 (l.map (tokP z)) = true ∧ PyData.showableAll (l.map (tokP z)) = true ∧ PyData.leavesShortAll 13 (l.map (tokP z)) = true ∧ PyData.weightAll (l.map (tokP z)) ≤ 1020 * l.length
  | [], _ => ⟨rfl, rfl, rfl, Nat.le_refl _⟩
  | t :: l, h => by
    obtain ⟨h1, h2, h3, h4⟩ := toks_all hz l fun t ht => h t (.tail _ ht)
    have ht := h t (.head _)
    have htx : Tx 1000 (tok z t.1 t.2) := hz.cut _ _
    have hz1 := hz.1
    have hlog : ((t.1 : Int).natAbs).log2 < 10 := by
      by_cases e : t.1 = 0
      · rw [e]
        decide
      · exact (Nat.log2_lt (by omega)).mpr (by omega)
    rw [List.map_cons]
    refine ⟨?_, ?_, ?_, ?_⟩
    · show (PyData.canLay0 (tokP z t) && PyData.canLayAll0 _) = true
      rw [h1, Bool.and_true]
      show (PyData.strOk _ && (true && true)) = true
      rw [strOk_of htx.2] <;> rfl
    · show (PyData.showable (tokP z t) && PyData.showableAll _) = true
      rw [h2, Bool.and_true]
      show (true && (decide (((t.1 : Int).natAbs).log2 < 1920) && true)) = true
      rw [decide_eq_true (by omega)] <;> rfl
    · show (PyData.leavesShort 13 (tokP z t) && PyData.leavesShortAll 13 _) = true
      rw [h3, Bool.and_true]
      show (((tok z t.1 t.2).cps.toList.all fun c => decide (c < 16 ^ 8)) && (decide (((PyData.int (t.1 : Int)).shown).length ≤ 13) && true)) = true
      rw [decide_eq_true (PyData.shown_int_le (by omega)), Bool.and_true, Bool.and_true, List.all_eq_true]
      intro c hc
      have := htx.2 c hc
      exact decide_eq_true (by omega)
    · show PyData.weight (tokP z t) + 1 + PyData.weightAll _ ≤ _
      have e : PyData.weight (tokP z t) = (tok z t.1 t.2).length + 1 + ((if ((t.1 : Int) == 0) then 0 else ((t.1 : Int).natAbs).log2 + 1) + 1 + 0) := rfl
      have := htx.1
      rw [List.length_cons, e]
      split <;> omega
theorem toks_show {z : PySem.Str} {l : List (Nat × Nat)} (hz : Tx 1000 z) (h : ∀ t ∈ l, t.1 < z.length) (hl : l.length ≤ 1000) : (PyData.tuple (l.map (tokP z))).canLay0 = true ∧ shOk (.tuple (l.map (tokP z))) := by
  obtain ⟨h1, h2, h3, h4⟩ := toks_all hz l h
  refine ⟨h1, h2, ?_⟩
  have := PyData.shown_le 13 (by decide) (.tuple (l.map (tokP z))) h3
  have e : (PyData.tuple (l.map (tokP z))).weight = PyData.weightAll (l.map (tokP z)) := rfl
  rw [e] at this
  simp only [LIM]
  omega
theorem int_show {i : Nat} (h : i < 1000000) : (PyData.int (i : Int)).canLay0 = true ∧ shOk (.int (i : Int)) := by
  refine ⟨rfl, ?_, ?_⟩
  · show decide (((i : Int).natAbs).log2 < 1920) = true
    by_cases e : i = 0
    · subst e
      decide
    · have := (Nat.log2_lt (n := (i : Int).natAbs) (by omega)).mpr (show _ < 2 ^ 20 by omega)
      exact decide_eq_true (by omega)
  · have := PyData.shown_int_le (i := (i : Int)) (by omega)
    simp only [LIM]
    omega
theorem bool_show (b : Bool) : (PyData.bool b).canLay0 = true ∧ shOk (.bool b) := by
  refine ⟨rfl, rfl, ?_⟩
  cases b <;> decide
end K02

set_option Elab.async false
set_option linter.all false
set_option maxRecDepth 100000
set_option maxHeartbeats 400000
/-! the long texts. -/
namespace K02
open PySem PySem.Spec PyProof.Rows L2 L3
theorem cs_rep (z : PySem.Str) (n : Nat) : cs (strRep z n) = (List.replicate n (cs z)).flatten := by
  have key : ∀ (n : Nat) (acc : Array Nat), ((List.replicate n z.cps).foldl (· ++ ·) acc).toList = acc.toList ++ (List.replicate n (cs z)).flatten := by
    intro n
    induction n with
    | zero => intro acc; simp
    | succ n ih =>
      intro acc
      rw [List.replicate_succ, List.foldl_cons, ih, List.replicate_succ, List.flatten_cons]
      simp [cs]
  exact (key n #[]).trans (List.nil_append _)
theorem rep_at (p : List Nat) (hp : 0 < p.length) : ∀ (n j : Nat), j < n * p.length → ((List.replicate n p).flatten)[j]? = p[j % p.length]? := by
  intro n
  induction n with
  | zero => intro j h; omega
  | succ n ih =>
    intro j h
    rw [List.replicate_succ, List.flatten_cons]
    by_cases hj : j < p.length
    · rw [List.getElem?_append_left hj, Nat.mod_eq_of_lt hj]
    · rw [List.getElem?_append_right (by omega), ih (j - p.length) (by rw [Nat.succ_mul] at h; omega), Nat.mod_eq_sub_mod (a := j) (by omega)]
theorem str_ext {a b : PySem.Str} (h : cs a = cs b) : a = b := by
  rw [← SX.S_tl a, ← SX.S_tl b]
  exact congrArg SX.S h
theorem kd40 : Kd 40 = "" := by decide +kernel
theorem kd61 : Kd 61 = "" := by decide +kernel
theorem kd97 : Kd 97 = zSmall := by decide +kernel
section
variable {T : PySem.Str}
theorem good_sign {c i : Nat} (h : Kd c = "") (h2 : c ∈ cs zSign) : ¬ tBad T c i := by
  rintro (⟨_, h3⟩ | ⟨h3, _⟩)
  · exact h3 h2
  · exact absurd (h3.symm.trans h) zFig_ne
theorem scan40 (h : ∀ j, j < T.length → (cs T)[j]? = some 40) : ∀ k i, i + k = T.length → ∃ l, Sc T i l none ∧ l.length = k := by
  intro k
  induction k with
  | zero => exact fun i hi => ⟨[], .done (by omega), rfl⟩
  | succ k ih =>
    intro i hi
    have hc := h i (by omega)
    have e : tEnd T 40 i = i + 1 := by
      unfold tEnd
      rw [if_neg (fun h2 => by
        have := (cut_eq2 (by omega) h2).1
        rw [hc] at this
        cases this), if_pos kd40]
    obtain ⟨l, h1, h2⟩ := ih (i + 1) (by omega)
    exact ⟨(i, tEnd T 40 i) :: l, .tok hc (by decide +kernel) (good_sign kd40 (by decide +kernel)) (by rw [e]; exact h1), by rw [List.length_cons, h2]⟩
theorem scan32 (h : ∀ j, j < T.length → (cs T)[j]? = some 32) : ∀ k i, i + k = T.length → ∃ l, Sc T i l none ∧ l.length = 0 := by
  intro k
  induction k with
  | zero => exact fun i hi => ⟨[], .done (by omega), rfl⟩
  | succ k ih =>
    intro i hi
    obtain ⟨l, h1, h2⟩ := ih (i + 1) (by omega)
    exact ⟨l, .blank (h i (by omega)) (by decide +kernel) h1, h2⟩
theorem scan97 (h : ∀ j, j < T.length → (cs T)[j]? = some (if j % 2 = 0 then 97 else 32)) : ∀ k i, i % 2 = 0 → i + 2 * k = T.length → ∃ l, Sc T i l none ∧ l.length = k := by
  intro k
  induction k with
  | zero => exact fun i _ hi => ⟨[], .done (by omega), rfl⟩
  | succ k ih =>
    intro i h0 hi
    have hc := h i (by omega)
    rw [if_pos h0] at hc
    have hc2 := h (i + 1) (by omega)
    rw [if_neg (by omega)] at hc2
    have e : tEnd T 97 i = i + 1 := by
      unfold tEnd
      rw [if_neg (fun h2 => by
        have := (cut_eq2 (by omega) h2).1
        rw [hc] at this
        cases this), kd97, if_neg (by decide +kernel), run_out hc2 (by decide +kernel)]
    obtain ⟨l, h1, h2⟩ := ih (i + 2) (by omega) (by omega)
    refine ⟨(i, tEnd T 97 i) :: l, .tok hc (by decide +kernel) ?_ (by rw [e]; exact .blank hc2 (by decide +kernel) h1), by rw [List.length_cons, h2]⟩
    rintro (⟨h3, _⟩ | ⟨h3, _⟩)
    · exact absurd (kd97.symm.trans h3) (by decide +kernel)
    · exact absurd (kd97.symm.trans h3) (by decide +kernel)
theorem scan61 (h : ∀ j, j < T.length → (cs T)[j]? = some 61) : ∀ k i, i + 2 * k = T.length → ∃ l, Sc T i l none ∧ l.length = k := by
  intro k
  induction k with
  | zero => exact fun i hi => ⟨[], .done (by omega), rfl⟩
  | succ k ih =>
    intro i hi
    have hc := h i (by omega)
    have e : tEnd T 61 i = i + 2 := by
      unfold tEnd
      refine if_pos (str_ext (List.ext_getElem? fun j => ?_))
      match j with
      | 0 => rw [cut_at (by omega) (by omega), h _ (by omega)]; decide +kernel
      | 1 => rw [cut_at (by omega) (by omega), h _ (by omega)]; decide +kernel
      | j + 2 =>
        rw [List.getElem?_eq_none (by rw [cs_len, cut_len (by omega) (by omega)]; omega), List.getElem?_eq_none (by
          have : (cs "==").length = 2 := by decide +kernel
          omega)]
    obtain ⟨l, h1, h2⟩ := ih (i + 2) (by omega)
    exact ⟨(i, tEnd T 61 i) :: l, .tok hc (by decide +kernel) (good_sign kd61 (by decide +kernel)) (by rw [e]; exact h1), by rw [List.length_cons, h2]⟩
end
abbrev longOf (z : PySem.Str) : PySem.Str := cutS (strRep z 10000) none (some 10000)
theorem longN_at {z : PySem.Str} (N : Nat) (h0 : 0 < z.length) : (cutS (strRep z N) none (some (N : Int))).length = N ∧ ∀ j, j < N → (cs (cutS (strRep z N) none (some (N : Int))))[j]? = (cs z)[j % (cs z).length]? := by
  have hl : (cs (strRep z N)).length = N * (cs z).length := by rw [cs_rep]; simp
  have h1 : 0 < (cs z).length := by rw [cs_len]; exact h0
  have h2 : N * 1 ≤ N * (cs z).length := Nat.mul_le_mul_left _ h1
  have e : cs (cutS (strRep z N) none (some (N : Int))) = (cs (strRep z N)).take N := by
    unfold cutS
    rw [HT.sIx_none, HT.sIx_nat, ← cs_len, hl, Nat.min_eq_left (by omega)] <;> rfl
  refine ⟨?_, fun j hj => ?_⟩
  · rw [← cs_len, e, List.length_take, hl]
    omega
  · rw [e, List.getElem?_take_of_lt hj, cs_rep, rep_at _ h1 _ _ (by omega)]
theorem long_at {z : PySem.Str} (h0 : 0 < z.length) : (longOf z).length = 10000 ∧ ∀ j, j < 10000 → (cs (longOf z))[j]? = (cs z)[j % (cs z).length]? := longN_at 10000 h0
theorem long_ok {z : PySem.Str} (h : z ∈ (["(", "a ", " ", "=="] : List PySem.Str)) : 0 < z.length ∧ z.length ≤ 2 ∧ (longOf z).length = 10000 ∧ ∃ l, Sc (longOf z) 0 l none ∧ (l.length = 10000 ∨ l.length = 5000 ∨ l.length = 0) := by
  have h0 : 0 < z.length ∧ z.length ≤ 2 := by
    have : ∀ z ∈ (["(", "a ", " ", "=="] : List PySem.Str), 0 < z.length ∧ z.length ≤ 2 := by decide +kernel
    exact this z h
  obtain ⟨h1, h2⟩ := long_at h0.1
  refine ⟨h0.1, h0.2, h1, ?_⟩
  simp only [List.mem_cons, List.not_mem_nil, or_false] at h
  rcases h with e | e | e | e
  · obtain ⟨l, a, b⟩ := scan40 (T := longOf z) (fun j hj => by
      rw [h2 j (by omega), e, show (cs "(") = [40] by decide +kernel]
      simp [Nat.mod_one]) 10000 0 (by omega)
    exact ⟨l, a, .inl b⟩
  · obtain ⟨l, a, b⟩ := scan97 (T := longOf z) (fun j hj => by
      rw [h2 j (by omega), e, show (cs "a ") = [97, 32] by decide +kernel]
      show ([97, 32] : List Nat)[j % 2]? = _
      rcases Nat.mod_two_eq_zero_or_one j with e | e <;> rw [e] <;> rfl) 5000 0 rfl (by omega)
    exact ⟨l, a, .inr (.inl b)⟩
  · obtain ⟨l, a, b⟩ := scan32 (T := longOf z) (fun j hj => by
      rw [h2 j (by omega), e, show (cs " ") = [32] by decide +kernel]
      simp [Nat.mod_one]) 10000 0 (by omega)
    exact ⟨l, a, .inr (.inr b)⟩
  · obtain ⟨l, a, b⟩ := scan61 (T := longOf z) (fun j hj => by
      rw [h2 j (by omega), e, show (cs "==") = [61, 61] by decide +kernel]
      show ([61, 61] : List Nat)[j % 2]? = _
      rcases Nat.mod_two_eq_zero_or_one j with e | e <;> rw [e] <;> rfl) 5000 0 (by omega)
    exact ⟨l, a, .inr (.inl b)⟩
end K02

set_option Elab.async false
set_option linter.all false
set_option maxRecDepth 100000
set_option maxHeartbeats 400000
/-! the law. -/
namespace K02
open PySem PySem.Spec PyProof.Rows L2 L3
local macro_rules | `(tactic| kxs_still) => `(tactic| first | ((with_reducible refine' s_var ?svh ?svk); (case svh => exact rfl)) | with_reducible first
  | refine s_seq ?_ | refine s_set ?_ | refine s_ret ?_ | refine s_ifS ?_ | refine s_asg ?_ | refine s_par ?_ | refine s_drop ?_ | refine s_next ?_ | refine s_cnt ?_ | refine s_rz ?_
  | refine s_gsub ?_ | refine s_gname ?_ | refine s_gcons ?_ | refine s_gnil ?_ | refine s_c ?_ | refine s_op ?_ | refine s_B ?_ | refine s_tru ?_ | refine s_and ?_ | refine s_or ?_ | refine s_not ?_ | refine s_if ?_ | refine s_andV ?_ | refine s_orV ?_ | refine s_notV ?_ | refine s_xf ?_ | refine s_chain2 ?_ | refine s_caught ?_ | refine s_isC ?_
  | refine s_cons ?_ | refine s_nil ?_ | refine s_tup ?_ | refine s_lst ?_ | refine s_cb ?_ | refine s_call ?_ | refine s_bm ?_ | refine s_sl ?_ | refine s_np ?_ | refine s_part ?_
  | refine s_lcYes ?_ | refine s_lcNo ?_ | refine s_yes ?_
  | refine s_addI ?_ | refine s_sub ?_ | refine s_lt ?_ | refine s_le ?_ | refine s_gt ?_ | refine s_ge ?_ | refine s_eqI ?_ | refine s_eqS ?_ | refine s_neS ?_ | refine s_inCf ?_ | refine s_inCt ?_ | refine s_inS ?_ | refine s_int ?_ | refine s_abs ?_)
abbrev w_lapD : WS :=
  (wSeq (wSet 9 (wCall sp_pick 2 (wCons (wVar 1) (wCons (wLst (wCons (wC (.str "a")) (wCons (wC (.str "abcdefgh")) (wCons (wC (.str "abcdefghi")) (wCons (wC (.str "any")) (wCons (wC (.str "call")) (wCons (wC (.str "calls")) (wCons (wC (.str "or")) (wCons (wC (.str "ors")) (wCons (wC (.str "A")) (wCons (wC (.str "aB")) (wCons (wC (.str "a1")) (wCons (wC (.str "")) (wCons (wC .non) (wCons (wC (.int 5)) (wCons (wTup (wCons (wC (.str "a")) wNil)) (wCons (wC (.str "fun")) (wCons (wC (.str "while")) (wCons (wC (.str "catch")) (wCons (wC (.str "b_")) wNil)))))))))))))))))))) wNil))))
  (wIfS (wNot (wTru (wCall sp_same 2 (wCons (wCall sp_isname 1 (wCons (wVar 9) wNil)) (wCons (wCall sp_isname 1 (wCons (wVar 9) wNil)) wNil))))) (wRet (wC (.bl false))) wNext))
abbrev w_lapC : WS :=
  (wSeq (wPar 7 8 (wCons (wCall sp_lscan 1 (wCons (wVar 4) wNil)) (wCons (wC .non) wNil)))
  (wSeq (wIfS (wTru (wCB rIsiD (wCons (wVar 7) (wCons (wC (.ty "int")) wNil)))) (wSeq (wSet 8 (wCaught t_ok (wCall sp_fun 1 (wCons (wVar 4) wNil))))
  (wIfS (wOr (wNot (wTru (wIsC t_ie_BadText t_it_BadText (wVar 8)))) (wNot (wTru (wCall sp_same 2 (wCons (wXf "at" (wVar 8)) (wCons (wVar 7) wNil)))))) (wRet (wC (.bl false))) wNext)) (wIfS (wNot (wTru (wCall sp_same 2 (wCons (wCall sp_fun 1 (wCons (wVar 4) wNil)) (wCons (wCB rTupc (wCons (wVar 7) wNil)) wNil))))) (wRet (wC (.bl false))) wNext))
  (wSeq (wSet 9 (wCall sp_pick 2 (wCons (wVar 1) (wCons (wLst (wCons (wC (.str "a")) (wCons (wC (.str "abcdefgh")) (wCons (wC (.str "abcdefghi")) (wCons (wC (.str "any")) (wCons (wC (.str "call")) (wCons (wC (.str "calls")) (wCons (wC (.str "or")) (wCons (wC (.str "ors")) (wCons (wC (.str "A")) (wCons (wC (.str "aB")) (wCons (wC (.str "a1")) (wCons (wC (.str "")) (wCons (wC .non) (wCons (wC (.int 5)) (wCons (wTup (wCons (wC (.str "a")) wNil)) (wCons (wC (.str "fun")) (wCons (wC (.str "while")) (wCons (wC (.str "catch")) (wCons (wC (.str "b_")) wNil)))))))))))))))))))) wNil))))
  (wIfS (wNot (wTru (wCall sp_same 2 (wCons (wCall sp_isname 1 (wCons (wVar 9) wNil)) (wCons (wCall sp_isname 1 (wCons (wVar 9) wNil)) wNil))))) (wRet (wC (.bl false))) wNext))))
abbrev w_lapA : WS :=
  (wSeq (wSet 4 (wBM "str" mJoin (wC (.str "")) (wCons (wLc (wiR1 (wCons (wCall sp_take 2 (wCons (wVar 1) (wCons (wC (.int 12)) wNil))) wNil)) (wgName 5) wYes (wCall sp_pick 2 (wCons (wVar 1) (wCons (wVar 2) wNil))) [5]) wNil)))
  (wSeq (wIfS (wB (wOp eqD (wCall sp_take 2 (wCons (wVar 1) (wCons (wC (.int 3)) wNil))) (wC (.int 0)))) (wSeq (wSet 6 (wCall sp_take 2 (wCons (wVar 1) (wCons (wOp addD (wCB rLen (wCons (wVar 4) wNil)) (wC (.int 1))) wNil))))
  (wSet 4 (wOp addD (wOp addD (wSl (wVar 4) wNoPart (wPart (wVar 6))) (wCall sp_pick 2 (wCons (wVar 1) (wCons (wLst (wCons (wC (.str "#")) (wCons (wC (.str ".")) (wCons (wC (.str "_")) (wCons (wC (.str "\t")) (wCons (wC (.str "00")) (wCons (wC (.str "007")) (wCons (wC (.str "12345")) (wCons (wC (.str "A")) (wCons (wC (.str ">")) (wCons (wC (.str "[")) (wCons (wC (.str "\"")) wNil)))))))))))) wNil)))) (wSl (wVar 4) (wPart (wVar 6)) wNoPart)))) wNext)
  (wSeq (wPar 7 8 (wCons (wCall sp_lscan 1 (wCons (wVar 4) wNil)) (wCons (wC .non) wNil)))
  (wSeq (wIfS (wTru (wCB rIsiD (wCons (wVar 7) (wCons (wC (.ty "int")) wNil)))) (wSeq (wSet 8 (wCaught t_ok (wCall sp_fun 1 (wCons (wVar 4) wNil))))
  (wIfS (wOr (wNot (wTru (wIsC t_ie_BadText t_it_BadText (wVar 8)))) (wNot (wTru (wCall sp_same 2 (wCons (wXf "at" (wVar 8)) (wCons (wVar 7) wNil)))))) (wRet (wC (.bl false))) wNext)) (wIfS (wNot (wTru (wCall sp_same 2 (wCons (wCall sp_fun 1 (wCons (wVar 4) wNil)) (wCons (wCB rTupc (wCons (wVar 7) wNil)) wNil))))) (wRet (wC (.bl false))) wNext))
  (wSeq (wSet 9 (wCall sp_pick 2 (wCons (wVar 1) (wCons (wLst (wCons (wC (.str "a")) (wCons (wC (.str "abcdefgh")) (wCons (wC (.str "abcdefghi")) (wCons (wC (.str "any")) (wCons (wC (.str "call")) (wCons (wC (.str "calls")) (wCons (wC (.str "or")) (wCons (wC (.str "ors")) (wCons (wC (.str "A")) (wCons (wC (.str "aB")) (wCons (wC (.str "a1")) (wCons (wC (.str "")) (wCons (wC .non) (wCons (wC (.int 5)) (wCons (wTup (wCons (wC (.str "a")) wNil)) (wCons (wC (.str "fun")) (wCons (wC (.str "while")) (wCons (wC (.str "catch")) (wCons (wC (.str "b_")) wNil)))))))))))))))))))) wNil))))
  (wIfS (wNot (wTru (wCall sp_same 2 (wCons (wCall sp_isname 1 (wCons (wVar 9) wNil)) (wCons (wCall sp_isname 1 (wCons (wVar 9) wNil)) wNil))))) (wRet (wC (.bl false))) wNext))))))
abbrev w_odd : WS :=
  (wSeq (wSet 8 (wCaught t_ok (wCall sp_fun 1 (wCons (wVar 10) wNil))))
  (wIfS (wOr (wNot (wTru (wIsC t_ie_BadText t_it_BadText (wVar 8)))) (wNot (wTru (wCall sp_same 2 (wCons (wXf "at" (wVar 8)) (wCons (wC (.int 0)) wNil)))))) (wRet (wC (.bl false))) wNext))
abbrev w_long : WS :=
  (wSeq (wSet 11 (wOp mulD (wCall sp_pick 2 (wCons (wVar 1) (wCons (wLst (wCons (wC (.str "(")) (wCons (wC (.str "a ")) (wCons (wC (.str " ")) (wCons (wC (.str "==")) wNil))))) wNil))) (wC (.int 10000))))
  (wSeq (wIfS (wB (wOp (inD true) (wCB rLen (wCons (wCall sp_fun 1 (wCons (wSl (wVar 11) wNoPart (wPart (wC (.int 10000)))) wNil)) wNil)) (wLst (wCons (wC (.int 10000)) (wCons (wC (.int 5000)) (wCons (wC (.int 0)) wNil)))))) (wRet (wC (.bl false))) wNext)
  (wSeq (wSet 8 (wCaught t_ok (wCall sp_fun 1 (wCons (wOp addD (wSl (wVar 11) wNoPart (wPart (wC (.int 10000)))) (wC (.str " "))) wNil))))
  (wRet (wAndV (wIsC t_ie_BadText t_it_BadText (wVar 8)) (wCall sp_same 2 (wCons (wXf "at" (wVar 8)) (wCons (wC (.int 0)) wNil))))))))
abbrev w_tail : WS :=
  (wSeq (wFor (wiL (wLst (wCons (wC .non) (wCons (wC (.int 5)) (wCons (wTup (wCons (wC (.str "fun")) wNil)) (wCons (wLst (wCons (wC (.str "a")) wNil)) wNil)))))) (wgName 10) (wSeq (wSet 8 (wCaught t_ok (wCall sp_fun 1 (wCons (wVar 10) wNil))))
  (wIfS (wOr (wNot (wTru (wIsC t_ie_BadText t_it_BadText (wVar 8)))) (wNot (wTru (wCall sp_same 2 (wCons (wXf "at" (wVar 8)) (wCons (wC (.int 0)) wNil)))))) (wRet (wC (.bl false))) wNext)))
  (wSeq (wSet 11 (wOp mulD (wCall sp_pick 2 (wCons (wVar 1) (wCons (wLst (wCons (wC (.str "(")) (wCons (wC (.str "a ")) (wCons (wC (.str " ")) (wCons (wC (.str "==")) wNil))))) wNil))) (wC (.int 10000))))
  (wSeq (wIfS (wB (wOp (inD true) (wCB rLen (wCons (wCall sp_fun 1 (wCons (wSl (wVar 11) wNoPart (wPart (wC (.int 10000)))) wNil)) wNil)) (wLst (wCons (wC (.int 10000)) (wCons (wC (.int 5000)) (wCons (wC (.int 0)) wNil)))))) (wRet (wC (.bl false))) wNext)
  (wSeq (wSet 8 (wCaught t_ok (wCall sp_fun 1 (wCons (wOp addD (wSl (wVar 11) wNoPart (wPart (wC (.int 10000)))) (wC (.str " "))) wNil))))
  (wRet (wAndV (wIsC t_ie_BadText t_it_BadText (wVar 8)) (wCall sp_same 2 (wCons (wXf "at" (wVar 8)) (wCons (wC (.int 0)) wNil)))))))))
theorem Drw.kp {b : Nat} {n nl nc : Nat} {S S' : Store} (d : Drw b n nl nc S) (k : Kp S S') : Drw b n nl nc S' := by
  obtain ⟨a1, a2, a3, ⟨r, t, h, h2⟩, ⟨L, hL⟩, ⟨Cs, hC, h3⟩⟩ := d
  exact ⟨a1, a2, a3, ⟨r, t, k _ _ h, h2⟩, ⟨L, k _ _ hL⟩, ⟨Cs, k _ _ hC, h3⟩⟩
theorem Drw.lt {b : Nat} {n nl nc : Nat} {S : Store} (d : Drw b n nl nc S) : n < S.length ∧ nl < S.length := by
  obtain ⟨a1, a2, a3, ⟨r, t, h, h2⟩, ⟨L, hL⟩, ⟨Cs, hC, h3⟩⟩ := d
  exact ⟨(List.getElem?_eq_some_iff.mp h).1, (List.getElem?_eq_some_iff.mp hL).1⟩
theorem Fr.kp {n nl : Nat} {S S' : Store} (k : Kp S S') : Fr n nl S S' := fun m o _ _ h => k m o h
def okT : L3.D → Bool
  | .str z => decide (z.length < 100)
  | .non => true
  | .int _ => true
  | .tup _ => true
  | _ => false
theorem okT_cases {d : L3.D} (h : okT d = true) : (∃ z, d = .str z ∧ z.length < 100) ∨ (∀ S, ∃ t, tyD S d = some t ∧ isiB t "str" = false) := by
  cases d with
  | str z => exact .inl ⟨z, rfl, of_decide_eq_true h⟩
  | non => exact .inr fun S => ⟨"NoneType", rfl, by decide⟩
  | int i => exact .inr fun S => ⟨"int", rfl, by decide⟩
  | tup l => exact .inr fun S => ⟨"tuple", rfl, by decide⟩
  | _ => cases h
section
variable {E : Ends3} {S : Store} {b : Nat} {n nl nc p : Nat} {e0 e2 e3 e4 e5 e6 e7 e8 e9 e10 e11 : Option L3.D}
theorem lapD_ok (hD : Drw (b + 1) n nl nc S) (hE : ∀ S' th, Drw b n nl nc S' → Fr n nl S S' → E.nx [e0, some (.ref n), e2, e3, e4, e5, e6, e7, e8, th, e10, e11] S') : w_lapD E [e0, some (.ref n), e2, e3, e4, e5, e6, e7, e8, e9, e10, e11] S := by
  have hlt := hD.lt
  repeat kxs_still
  refine ⟨by simp [LIM], ?_⟩
  repeat kxs_still
  refine ⟨by simp [LIM], ?_⟩
  repeat kxs_still
  refine ⟨rfl, b, n, nl, nc, S.length, _, rfl, by omega, by omega, at_new, by simp, by simp, hD.app, fun d S2 hd hD2 fr => ?_⟩
  have hk : okT d = true := by
    revert hd
    generalize hl : ([L3.D.str "a", .str "abcdefgh", .str "abcdefghi", .str "any", .str "call", .str "calls", .str "or", .str "ors", .str "A", .str "aB", .str "a1", .str "", .non, .int 5, .tup [.str "a"], .str "fun", .str "while", .str "catch", .str "b_"] : List L3.D) = l
    intro hd
    have : l.all okT = true := by
      rw [← hl]
      decide +kernel
    exact List.all_eq_true.mp this d hd
  repeat kxs_still
  rcases okT_cases hk with ⟨z, rfl, hz⟩ | hz
  · refine ⟨rfl, _, rfl, .inl ⟨z, rfl, by simp only [LIM]; omega, fun S3 kp3 => ?_⟩⟩
    repeat kxs_still
    refine ⟨rfl, _, rfl, .inl ⟨z, rfl, by simp only [LIM]; omega, fun S4 kp4 => ?_⟩⟩
    repeat kxs_still
    refine ⟨rfl, _, _, _, rfl, rdD_bl 40 _, rdD_bl 40 _, (bool_show _).1, (bool_show _).2, ?_⟩
    refine s_truB ?_
    refine s_iteF rfl ?_
    repeat kxs_still
    exact hE _ _ ((hD2.kp kp3).kp kp4) (Fr.app.trans (fr.trans (Fr.kp (kp3.trans kp4))))
  · obtain ⟨t, ht, ht2⟩ := hz S2
    refine ⟨rfl, _, rfl, .inr ⟨t, ht, ht2, ?_⟩⟩
    repeat kxs_still
    refine ⟨rfl, _, rfl, .inr ⟨t, ht, ht2, ?_⟩⟩
    repeat kxs_still
    refine ⟨rfl, _, _, _, rfl, rdD_bl 40 _, rdD_bl 40 _, (bool_show _).1, (bool_show _).2, ?_⟩
    refine s_truB ?_
    refine s_iteF rfl ?_
    repeat kxs_still
    exact hE _ _ hD2 (Fr.app.trans fr)
theorem lapC_ok {z : PySem.Str} (hz : Tx 110 z) (hD : Drw (b + 1) n nl nc S) (hE : ∀ S' due er th, Drw b n nl nc S' → Fr n nl S S' → E.nx [e0, some (.ref n), e2, e3, some (.str z), e5, e6, due, er, th, e10, e11] S') : w_lapC E [e0, some (.ref n), e2, e3, some (.str z), e5, e6, e7, e8, e9, e10, e11] S := by
  obtain ⟨L, r, hSc⟩ := Sc.ex z _ 0 rfl
  have hz1 := hz.1
  obtain ⟨l1, l2, l3⟩ := hSc.len
  repeat kxs_still
  refine ⟨rfl, z, L, r, rfl, by omega, hSc, fun i ei S2 kp2 => ?_, fun er n2 S2 kp2 hn2 => ?_⟩
  · have hi := l3 i ei
    repeat kxs_still
    refine s_isi (t := "int") rfl (by decide) ?_
    refine s_truB ?_
    refine s_iteT rfl ?_
    repeat kxs_still
    refine ⟨rfl, _, rfl, .inl ⟨z, L, r, rfl, by omega, hSc, fun i' e' S3 kp3 => ?_, fun e' => by rw [ei] at e'; cases e'⟩⟩
    rw [ei] at e'
    cases e'
    refine ⟨by decide +kernel, ?_⟩
    repeat kxs_still
    refine s_isE at_new (b := true) (by decide +kernel) ?_
    refine s_truB ?_
    refine s_iteF rfl ?_
    repeat kxs_still
    refine s_xfP at_new (d := .int (i : Int)) (by simp [List.lookup]) ?_
    repeat kxs_still
    refine ⟨rfl, _, _, _, rfl, rdD_int 40 _, rdD_int 40 _, (int_show (by omega)).1, (int_show (by omega)).2, ?_⟩
    refine s_truB ?_
    refine s_iteF rfl ?_
    with_reducible refine s_next ?_
    exact lapD_ok (((hD.kp kp2).kp kp3).app) fun S4 th h4 fr4 => hE _ _ _ _ h4 ((Fr.kp ((kp2.trans kp3).trans Kp.app)).trans fr4)
  · repeat kxs_still
    refine s_isi (t := "list") (ty_lst hn2) (by decide) ?_
    refine s_truB ?_
    refine s_iteF rfl ?_
    repeat kxs_still
    refine ⟨rfl, _, rfl, .inl ⟨z, L, r, rfl, by omega, hSc, fun i' e' => (by rw [er] at e'; cases e'), fun _ S3 kp3 => ?_⟩⟩
    repeat kxs_still
    refine s_tupcL (kp3 _ _ hn2) ?_
    repeat kxs_still
    have hs := toks_show (hz.mono (by omega)) l2 (by omega)
    refine ⟨rfl, _, _, _, rfl, rd_tup z L, rd_tup z L, hs.1, hs.2, ?_⟩
    refine s_truB ?_
    refine s_iteF rfl ?_
    with_reducible refine s_next ?_
    exact lapD_ok ((hD.kp kp2).kp kp3) fun S4 th h4 fr4 => hE _ _ _ _ h4 ((Fr.kp (kp2.trans kp3)).trans fr4)
end
end K02

set_option Elab.async false
set_option linter.all false
set_option maxRecDepth 100000
set_option maxHeartbeats 400000
/-! the law: laps. -/
namespace K02
open PySem PySem.Spec PyProof.Rows L2 L3
local macro_rules | `(tactic| kxs_still) => `(tactic| first | ((with_reducible refine' s_var ?svh ?svk); (case svh => exact rfl)) | with_reducible first
  | refine s_seq ?_ | refine s_set ?_ | refine s_ret ?_ | refine s_ifS ?_ | refine s_asg ?_ | refine s_par ?_ | refine s_drop ?_ | refine s_next ?_ | refine s_cnt ?_ | refine s_rz ?_
  | refine s_gsub ?_ | refine s_gname ?_ | refine s_gcons ?_ | refine s_gnil ?_ | refine s_c ?_ | refine s_op ?_ | refine s_B ?_ | refine s_tru ?_ | refine s_and ?_ | refine s_or ?_ | refine s_not ?_ | refine s_if ?_ | refine s_andV ?_ | refine s_orV ?_ | refine s_notV ?_ | refine s_xf ?_ | refine s_chain2 ?_ | refine s_caught ?_ | refine s_isC ?_
  | refine s_cons ?_ | refine s_nil ?_ | refine s_tup ?_ | refine s_lst ?_ | refine s_cb ?_ | refine s_call ?_ | refine s_bm ?_ | refine s_sl ?_ | refine s_np ?_ | refine s_part ?_
  | refine s_lcYes ?_ | refine s_lcNo ?_ | refine s_yes ?_
  | refine s_addI ?_ | refine s_sub ?_ | refine s_lt ?_ | refine s_le ?_ | refine s_gt ?_ | refine s_ge ?_ | refine s_eqI ?_ | refine s_eqS ?_ | refine s_neS ?_ | refine s_inCf ?_ | refine s_inCt ?_ | refine s_inS ?_ | refine s_int ?_ | refine s_abs ?_)
def pcs : List PySem.Str := ["fun", "f", "any", "x", "abcdefghi", "0", "7", "12", "9999", "(", ")", "{", "}", ";", ",", "=", "==", "!", "&", "|", "<", "+", "-", "*", " ", "\n"]
def ods : List PySem.Str := ["#", ".", "_", "\t", "00", "007", "12345", "A", ">", "[", "\""]
theorem pcs_ok : ∀ z ∈ pcs, Tx 9 z := by
  have : ∀ z ∈ pcs, z.length ≤ 9 ∧ ∀ c ∈ cs z, c < 0x110000 := by decide +kernel
  exact this
theorem ods_ok : ∀ z ∈ ods, Tx 5 z := by
  have : ∀ z ∈ ods, z.length ≤ 5 ∧ ∀ c ∈ cs z, c < 0x110000 := by decide +kernel
  exact this
section
variable {E : Ends3} {S : Store} {b : Nat} {n nl nc p : Nat} {e0 e2 e3 e4 e5 e6 e7 e8 e9 e10 e11 : Option L3.D}
theorem pick_lc {q : Store → Prop} {a : Nat} (p1 : p ≠ n) (p2 : p ≠ nl) (a1 : a ≠ n) (a2 : a ≠ nl) (a3 : a ≠ p) (a4 : a ≠ nc) : ∀ (ds : List L3.D) (acc : List PySem.Str) (S : Store), acc.length + ds.length ≤ 20 → Drw (b + ds.length) n nl nc S → S[p]? = some (.lst (pcs.map .str)) → S[a]? = some (.lst (acc.map .str)) → (∀ z ∈ acc, Tx 9 z) →
    (∀ S1 l, Drw b n nl nc S1 → S1[p]? = some (.lst (pcs.map .str)) → S1[a]? = some (.lst (List.map L3.D.str l)) → (∀ z ∈ l, Tx 9 z) → l.length = acc.length + ds.length → q S1) →
    lcW (wgName 5) wYes (wCall sp_pick 2 (wCons (wVar 1) (wCons (wVar 2) wNil))) (fun _ => True) a [e0, some (.ref n), some (.ref p), e3, e4, e5, e6, e7, e8, e9, e10, e11] q ds S
  | [], acc, S, hl, hD, hp, ha, hA, k => ⟨trivial, k S acc hD hp ha hA rfl⟩
  | d :: ds, acc, S, hl, hD, hp, ha, hA, k => by
    have hlt := hD.lt
    refine ⟨trivial, ?_⟩
    repeat kxs_still
    refine ⟨rfl, (b + ds.length), n, nl, nc, p, _, rfl, p1, p2, hp, by decide, by rw [List.length_map]; decide, hD.less (by simp; omega), fun d2 S2 hd hD2 fr => ?_⟩
    obtain ⟨z, hz, rfl⟩ := List.mem_map.mp hd
    refine s_lcNext (fr a _ a1 a2 ha) (by rw [List.length_map]; simp only [LIM]; omega) ?_
    have e : (acc.map L3.D.str) ++ [L3.D.str z] = (acc ++ [z]).map .str := by simp
    rw [e]
    obtain ⟨x1, x2, x3, ⟨r, t, h, h2⟩, ⟨L, hL⟩, ⟨Cs, hC, h3⟩⟩ := hD2
    refine pick_lc p1 p2 a1 a2 a3 a4 ds (acc ++ [z]) _ (by simp at hl ⊢; omega) ?_ (at_set_ne (Ne.symm a3) (fr p _ p1 p2 hp)) (at_set_eq (fr a _ a1 a2 ha)) ?_ fun S1 l h1 h2 h3 h4 h5 => k S1 l h1 h2 h3 h4 (by rw [h5]; simp; omega)
    · exact ⟨x1, x2, x3, ⟨r, t, at_set_ne (Ne.symm a1) h, h2⟩, ⟨L, at_set_ne (Ne.symm a2) hL⟩, ⟨Cs, at_set_ne (Ne.symm a4) hC, h3⟩⟩
    · intro y hy
      rcases List.mem_append.mp hy with hy | hy
      · exact hA y hy
      · rw [List.mem_singleton.mp hy]
        exact pcs_ok z hz
theorem sum_le {k : Nat} : ∀ {l : List PySem.Str}, (∀ z ∈ l, Tx k z) → (l.map (·.length)).sum ≤ k * l.length
  | [], _ => Nat.zero_le _
  | z :: l, h => by
    have h1 := (h z (.head _)).1
    have h2 := sum_le (l := l) fun z hz => h z (.tail _ hz)
    rw [List.map_cons, List.sum_cons, List.length_cons, Nat.mul_succ]
    omega
theorem Drw.lt3 {b : Nat} {n nl nc : Nat} {S : Store} (d : Drw b n nl nc S) : nc < S.length := by
  obtain ⟨a1, a2, a3, ⟨r, t, h, h2⟩, ⟨L, hL⟩, ⟨Cs, hC, h3⟩⟩ := d
  exact (List.getElem?_eq_some_iff.mp hC).1
theorem cut_sum {z : PySem.Str} {a : Int} (h0 : 0 ≤ a) (h1 : a ≤ z.length) : (cutS z none (some a)).length + (cutS z (some a) none).length = z.length := by
  obtain ⟨k, rfl⟩ := Int.eq_ofNat_of_zero_le h0
  rw [← cs_len, ← cs_len (cutS z _ none)]
  have e1 : cs (cutS z none (some (k : Int))) = (cs z).take k := by
    unfold cutS
    rw [HT.sIx_none, HT.sIx_nat, Nat.min_eq_left (by omega)] <;> rfl
  have e2 : cs (cutS z (some (k : Int)) none) = (cs z).drop k := by
    unfold cutS
    rw [HT.sIx_none, HT.sIx_nat, Nat.min_eq_left (by omega)]
    show ((cs z).drop k).take (z.length - k) = _
    rw [List.take_of_length_le (by rw [List.length_drop, cs_len] <;> omega)]
  rw [e1, e2, List.length_take, List.length_drop, cs_len]
  omega
theorem len_add (a b : PySem.Str) : (a ++ b).length = a.length + b.length := by
  rw [← cs_len, cs_app, List.length_append, cs_len, cs_len]
theorem long_len {z y : PySem.Str} {a : Int} (hz : Tx 100 z) (hy : Tx 5 y) (h0 : 0 ≤ a) (h1 : a ≤ z.length) : Tx 110 (cutS z none (some a) ++ y ++ cutS z (some a) none) := by
  refine ⟨?_, (((hz.cut none (some a)).add hy).add (hz.cut (some a) none)).2⟩
  rw [len_add, len_add]
  have := cut_sum h0 h1
  have := hz.1
  have := hy.1
  omega
/-- one lap -/
theorem lapA_ok (p1 : p ≠ n) (p2 : p ≠ nl) (hp : S[p]? = some (.lst (pcs.map .str))) (hD : Drw (b + 17) n nl nc S) (hE : ∀ S' text k at_ due er th, Drw b n nl nc S' → S'[p]? = some (.lst (pcs.map .str)) → E.nx [e0, some (.ref n), some (.ref p), e3, text, k, at_, due, er, th, e10, e11] S') :
    w_lapA E [e0, some (.ref n), some (.ref p), e3, e4, e5, e6, e7, e8, e9, e10, e11] S := by
  repeat kxs_still
  refine ⟨rfl, ?_⟩
  refine s_cons ?_
  refine s_lc ?_
  refine s_wiR1 ?_
  repeat kxs_still
  refine ⟨rfl, (b + 16), n, nl, nc, 12, rfl, by decide, by decide, hD.less (by simp), fun i S1 i0 i1 hD1 fr1 => ?_⟩
  repeat kxs_still
  refine s_onR1 ⟨by omega, by omega⟩ ?_
  have hlen : (rngD 0 i.toNat).length = i.toNat := by simp [rngD]
  have lt1 := hD1.lt
  have lt2 := hD1.lt3
  have hp1 := fr1 p _ p1 p2 hp
  have lt3 := (List.getElem?_eq_some_iff.mp hp1).1
  refine pick_lc (b := b + 5) p1 p2 (by omega) (by omega) (by omega) (by omega) (rngD 0 i.toNat) [] _ (by rw [hlen]; simp; omega) ((hD1.app).less (by rw [hlen]; omega)) (at_app hp1) at_new (by simp) fun S2 l hD2 hp2 ha2 hl1 hl2 => ?_
  rw [hlen] at hl2
  have hsum := sum_le hl1
  rw [List.length_nil, Nat.zero_add] at hl2
  have hjl : (l.map (·.length)).sum + l.length * ("" : PySem.Str).length ≤ LIM := by
    have : ("" : PySem.Str).length = 0 := by decide +kernel
    rw [this]
    simp only [LIM]
    omega
  refine s_nil ?_
  refine s_join ha2 hjl ?_
  have hz : Tx 100 (Txt.join "" l) := (Tx.join hl1).mono (by omega)
  generalize Txt.join "" l = z at hz
  repeat kxs_still
  refine ⟨rfl, (b + 4), n, nl, nc, 3, rfl, by decide, by decide, hD2.less (by simp), fun j S3 j0 j1 hD3 fr3 => ?_⟩
  repeat kxs_still
  have hp3 := fr3 p _ p1 p2 hp2
  refine s_iteP (fun hj => ?_) (fun hj => ?_)
  · repeat kxs_still
    refine s_lenS (Nat.le_trans hz.1 (by decide)) ?_
    repeat kxs_still
    have := hz.1
    refine ⟨rfl, (b + 3), n, nl, nc, (z.length : Int) + 1, rfl, by omega, by omega, hD3.less (by simp), fun a S4 a0 a1 hD4 fr4 => ?_⟩
    repeat kxs_still
    refine s_slS (Nat.le_trans hz.1 (by decide)) ?_
    repeat kxs_still
    refine ⟨by simp [LIM], ?_⟩
    have hp4 := fr4 p _ p1 p2 hp3
    have lt4 := hD4.lt
    refine ⟨rfl, (b + 2), n, nl, nc, S4.length, ods.map .str, rfl, by omega, by omega, at_new, by decide, by rw [List.length_map]; decide, (hD4.app).less (by simp), fun d S5 hd hD5 fr5 => ?_⟩
    obtain ⟨y, hy, rfl⟩ := List.mem_map.mp hd
    have hy := ods_ok y hy
    have hp5 := fr5 p _ p1 p2 (at_app hp4)
    have c1 := hz.cut none (some a)
    have c2 := hz.cut (some a) none
    have := c1.1
    have := c2.1
    have := hy.1
    have c3 := (c1.add hy).1
    refine s_addS (by simp only [LIM]; omega) ?_
    repeat kxs_still
    refine s_slS (Nat.le_trans hz.1 (by decide)) ?_
    refine s_addS (by simp only [LIM]; omega) ?_
    repeat kxs_still
    have hl := long_len (hz := hz) (a := a) hy (by omega) (by omega)
    exact lapC_ok hl (hD5.less (by simp)) fun S6 due er th h6 fr6 => hE _ _ _ _ _ _ _ h6 (fr6 p _ p1 p2 hp5)
  · with_reducible refine s_next ?_
    exact lapC_ok (hz.mono (by omega)) (hD3.less (by simp)) fun S6 due er th h6 fr6 => hE _ _ _ _ _ _ _ h6 (fr6 p _ p1 p2 hp3)
end
end K02

set_option Elab.async false
set_option linter.all false
set_option maxRecDepth 100000
set_option maxHeartbeats 400000
/-! the law: all. -/
namespace K02
open PySem PySem.Spec PyProof.Rows L2 L3
local macro_rules | `(tactic| kxs_still) => `(tactic| first | ((with_reducible refine' s_var ?svh ?svk); (case svh => exact rfl)) | with_reducible first
  | refine s_seq ?_ | refine s_set ?_ | refine s_ret ?_ | refine s_ifS ?_ | refine s_asg ?_ | refine s_par ?_ | refine s_drop ?_ | refine s_next ?_ | refine s_cnt ?_ | refine s_rz ?_
  | refine s_gsub ?_ | refine s_gname ?_ | refine s_gcons ?_ | refine s_gnil ?_ | refine s_c ?_ | refine s_op ?_ | refine s_B ?_ | refine s_tru ?_ | refine s_and ?_ | refine s_or ?_ | refine s_not ?_ | refine s_if ?_ | refine s_andV ?_ | refine s_orV ?_ | refine s_notV ?_ | refine s_xf ?_ | refine s_chain2 ?_ | refine s_caught ?_ | refine s_isC ?_
  | refine s_cons ?_ | refine s_nil ?_ | refine s_tup ?_ | refine s_lst ?_ | refine s_cb ?_ | refine s_call ?_ | refine s_bm ?_ | refine s_sl ?_ | refine s_np ?_ | refine s_part ?_
  | refine s_lcYes ?_ | refine s_lcNo ?_ | refine s_yes ?_
  | refine s_addI ?_ | refine s_sub ?_ | refine s_lt ?_ | refine s_le ?_ | refine s_gt ?_ | refine s_ge ?_ | refine s_eqI ?_ | refine s_eqS ?_ | refine s_neS ?_ | refine s_inCf ?_ | refine s_inCt ?_ | refine s_inS ?_ | refine s_int ?_ | refine s_abs ?_)
section
variable {E : Ends3} {S : Store} {b : Nat} {n nl nc p : Nat} {e0 e1 e2 e3 e4 e5 e6 e7 e8 e9 e10 e11 : Option L3.D}
theorem laps (p1 : p ≠ n) (p2 : p ≠ nl) : ∀ (ds : List L3.D) (S : Store) (e3 e4 e5 e6 e7 e8 e9 : Option L3.D), Drw (10 + 17 * ds.length) n nl nc S → S[p]? = some (.lst (pcs.map .str)) →
    (∀ S' e3 e4 e5 e6 e7 e8 e9, Drw 10 n nl nc S' → E.nx [e0, some (.ref n), some (.ref p), e3, e4, e5, e6, e7, e8, e9, e10, e11] S') →
    forW (wgName 3) w_lapA (fun _ => True) E ds [e0, some (.ref n), some (.ref p), e3, e4, e5, e6, e7, e8, e9, e10, e11] S
  | [], S, e3, e4, e5, e6, e7, e8, e9, hD, hp, k => ⟨trivial, k _ _ _ _ _ _ _ _ hD⟩
  | d :: ds, S, e3, e4, e5, e6, e7, e8, e9, hD, hp, k => by
    refine ⟨trivial, ?_⟩
    refine s_gname ?_
    refine lapA_ok (b := 10 + 17 * ds.length) p1 p2 hp (hD.less (by simp; omega)) fun S' text k' at_ due er th h1 h2 => ?_
    exact laps p1 p2 ds S' _ _ _ _ _ _ _ h1 h2 k
theorem int0_show : (PyData.int 0).canLay0 = true ∧ shOk (.int 0) := int_show (i := 0) (by decide)
theorem odds {a : Nat} {all : List L3.D} {S0 : Store} (ha : S0[a]? = some (.lst all)) : ∀ (ds : List L3.D), (∀ d ∈ ds, ∃ t, isiB t "str" = false ∧ ∀ S', Kp S0 S' → tyD S' d = some t) → ∀ (S : Store) (e8 e10 : Option L3.D), Kp S0 S →
    (∀ S' e8 e10, Kp S0 S' → E.nx [e0, e1, e2, e3, e4, e5, e6, e7, e8, e9, e10, e11] S') →
    forW (wgName 10) w_odd (fun S => S[a]? = some (.lst all)) E ds [e0, e1, e2, e3, e4, e5, e6, e7, e8, e9, e10, e11] S
  | [], hd, S, e8, e10, kp, k => ⟨kp _ _ ha, k _ _ _ kp⟩
  | d :: ds, hd, S, e8, e10, kp, k => by
    refine ⟨kp _ _ ha, ?_⟩
    obtain ⟨t, ht, ht2⟩ := hd d (.head _)
    repeat kxs_still
    refine ⟨rfl, _, rfl, .inr (.inr ⟨t, ht2 S kp, ht, ?_⟩)⟩
    refine ⟨by decide +kernel, ?_⟩
    repeat kxs_still
    refine s_isE at_new (b := true) (by decide +kernel) ?_
    refine s_truB ?_
    refine s_iteF rfl ?_
    repeat kxs_still
    refine s_xfP at_new (d := .int 0) (by simp [List.lookup]) ?_
    repeat kxs_still
    refine ⟨rfl, _, _, _, rfl, rdD_int 40 _, rdD_int 40 _, int0_show.1, int0_show.2, ?_⟩
    refine s_truB ?_
    refine s_iteF rfl ?_
    with_reducible refine s_next ?_
    exact odds ha ds (fun d h => hd d (.tail _ h)) _ _ _ (kp.trans Kp.app) k
theorem long_law (hD : Drw 10 n nl nc S) (hq : ∀ S', E.rt (.bl true) S') : w_long E [e0, some (.ref n), e2, e3, e4, e5, e6, e7, e8, e9, e10, e11] S := by
  have lt := hD.lt
  repeat kxs_still
  refine ⟨by simp [LIM], ?_⟩
  repeat kxs_still
  refine ⟨rfl, 9, n, nl, nc, S.length, [.str "(", .str "a ", .str " ", .str "=="], rfl, by omega, by omega, at_new, by simp, by simp, hD.app, fun d S2 hd hD2 fr => ?_⟩
  obtain ⟨z, hz, rfl⟩ : ∃ z, z ∈ (["(", "a ", " ", "=="] : List PySem.Str) ∧ d = .str z := by
    have : d ∈ (["(", "a ", " ", "=="] : List PySem.Str).map L3.D.str := hd
    obtain ⟨z, h1, h2⟩ := List.mem_map.mp this
    exact ⟨z, h1, h2.symm⟩
  obtain ⟨h0, h2, hl, L, hSc, hLl⟩ := long_ok hz
  repeat kxs_still
  refine s_mulS ⟨by decide, by decide, h0, by
    show z.length * 10000 ≤ _
    simp only [LIM]
    omega⟩ ?_
  have hlen : (strRep z (10000 : Int).toNat).length ≤ LIM := by
    show (strRep z 10000).length ≤ LIM
    rw [← cs_len, cs_rep]
    generalize hN : (10000 : Nat) = N
    have : ((List.replicate N (cs z)).flatten).length = N * (cs z).length := by simp
    rw [this, cs_len, ← hN]
    simp only [LIM]
    omega
  repeat kxs_still
  refine s_slS hlen ?_
  repeat kxs_still
  refine ⟨rfl, _, rfl, .inl ⟨longOf z, L, none, rfl, by omega, hSc, fun i e => (by cases e), fun _ S3 kp3 => ?_⟩⟩
  repeat kxs_still
  refine s_lenT ?_
  rw [List.length_map]
  repeat kxs_still
  refine ⟨by simp [LIM], ?_⟩
  refine s_inInts (l := [10000, 5000, 0]) at_new ?_
  have hin : ([10000, 5000, 0] : List Int).any (fun y => decide (y = (L.length : Int))) = true := by
    rcases hLl with e | e | e <;> rw [e] <;> decide
  rw [hin]
  refine s_iteF rfl ?_
  repeat kxs_still
  refine s_slS hlen ?_
  refine s_c ?_
  have one : (" " : PySem.Str).length = 1 := by decide +kernel
  have h10001 : (longOf z ++ " ").length = 10001 := by rw [len_add, hl, one]
  refine s_addS (by
    show (longOf z).length + (" " : PySem.Str).length ≤ LIM
    rw [hl, one]
    decide) ?_
  repeat kxs_still
  refine ⟨rfl, _, rfl, .inr (.inl ⟨longOf z ++ " ", rfl, by omega, by rw [h10001]; decide, ?_⟩)⟩
  refine ⟨by decide +kernel, ?_⟩
  repeat kxs_still
  refine s_isE at_new (b := true) (by decide +kernel) ?_
  refine s_andB (fun _ => ?_) (fun h => by cases h)
  repeat kxs_still
  refine s_xfP at_new (d := .int 0) (by simp [List.lookup]) ?_
  repeat kxs_still
  exact ⟨rfl, _, _, _, rfl, rdD_int 40 _, rdD_int 40 _, int0_show.1, int0_show.2, hq _⟩
end
def sp_law : Sp3 := fun ds S q _ => ∃ ns : List Int, ds = [.fl (ns.map .int)] ∧ ns.length ≤ 63 ∧ (∀ z ∈ ns, Builtin.Int.intBits z ≤ 1048576) ∧ ∀ S', q (.bl true) S'
theorem law_ok (ds : List L3.D) (S : Store) (q : WK) (x : XK3) (h : sp_law ds S q x) : w_law sp_begun sp_isname sp_pick sp_same sp_lscan sp_take sp_fun sp_isname (Ends0 q x) (start3 N_law ds) S := by
  obtain ⟨ns, rfl, hl, hb, hq⟩ := h
  unfold w_law
  repeat kxs_still
  refine ⟨rfl, ns, rfl, hl, hb, fun n nl nc S1 hD => ?_⟩
  have lt := hD.lt
  repeat kxs_still
  refine ⟨by simp [LIM], ?_⟩
  with_reducible refine s_seq ?_
  refine s_for ?_
  refine s_wiR1 ?_
  repeat kxs_still
  refine s_lenF ?_
  rw [List.length_map]
  repeat kxs_still
  refine s_min2 ?_
  repeat kxs_still
  refine s_onR1 (by split <;> omega) ?_
  have hk : (rngD 0 (12 + if (20 : Int) < (ns.length : Int) then 20 else (ns.length : Int)).toNat).length ≤ 32 := by
    unfold rngD
    rw [List.length_map, List.length_range]
    split <;> omega
  refine laps (by omega) (by omega) _ _ _ _ _ _ _ _ _ ((hD.app).less (by omega)) at_new fun S2 e3 e4 e5 e6 e7 e8 e9 hD2 => ?_
  with_reducible refine s_seq ?_
  refine s_for ?_
  refine s_wiL ?_
  repeat kxs_still
  refine ⟨by simp [LIM], ?_⟩
  repeat kxs_still
  refine ⟨by simp [LIM], ?_⟩
  repeat kxs_still
  refine ⟨by simp [LIM], ?_⟩
  refine s_onL at_new ?_
  refine odds at_new _ ?_ _ _ _ Kp.refl fun S3 e8 e10 kp3 => ?_
  · intro d hd
    simp only [List.mem_cons, List.not_mem_nil, or_false] at hd
    rcases hd with rfl | rfl | rfl | rfl
    · exact ⟨"NoneType", by decide, fun _ _ => rfl⟩
    · exact ⟨"int", by decide, fun _ _ => rfl⟩
    · exact ⟨"tuple", by decide, fun _ _ => rfl⟩
    · exact ⟨"list", by decide, fun S' kp => ty_lst (kp _ _ (at_app at_new))⟩
  · exact long_law (((hD2.app).app).kp kp3) fun S' => hq S'
end K02

set_option Elab.async false
set_option linter.all false
set_option maxRecDepth 100000
set_option maxHeartbeats 0
/-! printed by gen.py: the head. -/
namespace K02
open PySem PySem.Spec PyProof.Rows L2 L3
abbrev RW : PySem.W.OpenLaw := PySem.Challenge.rw_foldedstacks_k02_whole_tokens_of_funs
abbrev Pg : Program := PySem.Challenge.pw_foldedstacks_k02_whole_tokens_of_funs
def x_BadText : XcD := ⟨"BadText", "at", initOf cl_BadText⟩
def xs : List XcD := [x_BadText]
theorem xs_BadText : XcS Pg x_BadText := ⟨by decide, by decide, by decide, by decide, rfl, rfl, rfl, by decide +kernel, rfl, rfl, rfl, rfl, by decide +kernel, _, _, _, _, _, _, _, _, _, _, _, _, _, _, rfl, rfl, fun _ _ _ _ _ _ _ _ => by first | rfl | with_unfolding_all rfl, _, fun _ => rfl⟩
def D__law_begun : He.DefD := ⟨("_law_begun", none), "_law_begun", "_law_begun", defArgs st__law_begun, defBody st__law_begun, defScope st__law_begun, [], []⟩
def D__law_caught : He.DefD := ⟨("_law_caught", none), "_law_caught", "_law_caught", defArgs st__law_caught, defBody st__law_caught, defScope st__law_caught, [], []⟩
def D__law_mixed : He.DefD := ⟨("_law_mixed", none), "_law_mixed", "_law_mixed", defArgs st__law_mixed, defBody st__law_mixed, defScope st__law_mixed, [], []⟩
def D__law_take : He.DefD := ⟨("_law_take", none), "_law_take", "_law_take", defArgs st__law_take, defBody st__law_take, defScope st__law_take, [], []⟩
def D__law_pick : He.DefD := ⟨("_law_pick", none), "_law_pick", "_law_pick", defArgs st__law_pick, defBody st__law_pick, defScope st__law_pick, [], []⟩
def D__law_same : He.DefD := ⟨("_law_same", none), "_law_same", "_law_same", defArgs st__law_same, defBody st__law_same, defScope st__law_same, [], []⟩
def D__law_scanned : He.DefD := ⟨("_law_scanned", none), "_law_scanned", "_law_scanned", defArgs st__law_scanned, defBody st__law_scanned, defScope st__law_scanned, [], []⟩
def D_need_text : He.DefD := ⟨("need_text", none), "need_text", "need_text", defArgs st_need_text, defBody st_need_text, defScope st_need_text, [], []⟩
def D_token_end : He.DefD := ⟨("token_end", none), "token_end", "token_end", defArgs st_token_end, defBody st_token_end, defScope st_token_end, [], []⟩
def D_is_row_of : He.DefD := ⟨("is_row_of", none), "is_row_of", "is_row_of", defArgs st_is_row_of, defBody st_is_row_of, defScope st_is_row_of, [], []⟩
def D_is_numeral : He.DefD := ⟨("is_numeral", none), "is_numeral", "is_numeral", defArgs st_is_numeral, defBody st_is_numeral, defScope st_is_numeral, [], []⟩
def D_scanned : He.DefD := ⟨("scanned", none), "scanned", "scanned", defArgs st_scanned, defBody st_scanned, defScope st_scanned, [], []⟩
def D_fun_tokens : He.DefD := ⟨("fun_tokens", none), "fun_tokens", "fun_tokens", defArgs st_fun_tokens, defBody st_fun_tokens, defScope st_fun_tokens, [], []⟩
def D_is_name : He.DefD := ⟨("is_name", none), "is_name", "is_name", defArgs st_is_name, defBody st_is_name, defScope st_is_name, [], []⟩
def D__law_is_name : He.DefD := ⟨("_law_is_name", none), "_law_is_name", "_law_is_name", defArgs st__law_is_name, defBody st__law_is_name, defScope st__law_is_name, [], []⟩
def D_law : He.DefD := ⟨("law", none), "law", "law", defArgs st_law, defBody st_law, defScope st_law, [], []⟩
def fn : List He.DefD := [D__law_begun, D__law_caught, D__law_mixed, D__law_take, D__law_pick, D__law_same, D__law_scanned, D_need_text, D_token_end, D_is_row_of, D_is_numeral, D_scanned, D_fun_tokens, D_is_name, D__law_is_name, D_law]
def fa : List He.Fa := [.free "abs", .free "all", .free "int", .free "isinstance", .free "len", .free "min", .free "range", .free "repr", .free "str", .free "super", .free "tuple", .glo "_law_begun", .glo "_law_caught", .glo "_law_mixed", .glo "_law_take", .glo "_law_pick", .glo "_law_same", .glo "_law_scanned", .glo "need_text", .glo "token_end", .glo "is_row_of", .glo "is_numeral", .glo "scanned", .glo "fun_tokens", .glo "is_name", .glo "_law_is_name", .glo "law", .glo "StackError", .glo "BadText", .str "FIGURES" "0123456789", .glo "KEPT", .int "MOST_FIGURES" 4, .int "MOST_LETTERS" 8, .int "MOST_SIGNS" 10000, .str "SIGNS" "(){},;=!&|<+-*", .str "SMALL" "abcdefghijklmnopqrstuvwxyz"]
def tf : List He.Defn := [("law", none)]
def ex (K : PySem.W.Frag) : Bool := ((clsNames.all (clB K ["at"])) && ((xs.all fun x => x.ok Pg K) && ((isB K clsNames t_ie_BadText "BadText") && (He.tupB K "KEPT" (l_KEPT.map He.Dv.str)))))
abbrev R : PySem.W.OpenRow := PySem.W.OpenLaw.row RW
abbrev hk : PySem.W.Hook := hookI 5 fa fn tf ex xs
def ob (s : PySem.W.SharedT) : AlI := obsI 5 fa fn tf ex xs (HandSHeadRun.getT s)
theorem ob_eq (s : PySem.W.SharedT) : ob s = hk.obs s.abs := obsI_eq (HandSHeadRun.getT_eq s)
def loose : List PySem.Str := ["StackError", "BadText", "SMALL", "FIGURES", "SIGNS", "KEPT", "MOST_SIGNS", "MOST_LETTERS", "MOST_FIGURES", "is_row_of", "is_name", "is_numeral", "token_end", "scanned", "need_text", "fun_tokens", "_law_begun", "_law_mixed", "_law_take", "_law_pick", "_law_caught", "_law_same", "_law_scanned", "_law_is_name"]
theorem headRun (w : World) : HandSHeadRun.RunEq R (PySem.W.view R.prog [27]) hk ob 1500 loose w := by
  intro os
  kernel_rfl
end K02

set_option Elab.async false
set_option linter.all false
set_option maxRecDepth 100000
set_option maxHeartbeats 4000000
/-! printed by facts.py: what the module says, the promises. -/
namespace K02
open PySem PySem.Spec PyProof.Rows L2 L3
theorem cls_at {ns : List PySem.Str} {K : PySem.W.Frag} {T : List (Addr × PySem.Str)} {c : PySem.Str} (h : ns.contains c = true) : (clsOf ns K T).cls c = some (He.ga K c) := if_pos h
theorem law_facts {w : World} {h : Heap} {mg : PySem.Str → Option Value} {g : Addr} (Y : ∃ K : PySem.W.Frag, K.In h ∧ SaysI fa fn tf ex xs w h K) (G : h.Ns mainGlobals mg) (hm : mg "law" = some (.ref g)) : ∃ K : PySem.W.Frag, K.In h ∧ LawG RW w K 7 63 "script" mg g h := by
  obtain ⟨K, KX, c⟩ := Y
  have cd : He.SaysD fa fn K := c.x.t.d
  have mm : ex K = true := c.x.more
  unfold ex at mm
  obtain ⟨m1, n1⟩ := Bool.and_eq_true_iff.mp mm
  obtain ⟨m2, n2⟩ := Bool.and_eq_true_iff.mp n1
  obtain ⟨m3, mz⟩ := Bool.and_eq_true_iff.mp n2
  let C : Cl := clsOf clsNames K [((He.cT K ("law", none)).2, "law" ++ ".<locals>." ++ "<lambda>")]
  have hE : EnvK C RW.prog K mg := {
    fr_abs := He.free_ok KX G (cd.fact 0 (f := .free "abs") rfl)
    fr_all := He.free_ok KX G (cd.fact 1 (f := .free "all") rfl)
    fr_int := He.free_ok KX G (cd.fact 2 (f := .free "int") rfl)
    fr_isinstance := He.free_ok KX G (cd.fact 3 (f := .free "isinstance") rfl)
    fr_len := He.free_ok KX G (cd.fact 4 (f := .free "len") rfl)
    fr_min := He.free_ok KX G (cd.fact 5 (f := .free "min") rfl)
    fr_range := He.free_ok KX G (cd.fact 6 (f := .free "range") rfl)
    fr_repr := He.free_ok KX G (cd.fact 7 (f := .free "repr") rfl)
    fr_str := He.free_ok KX G (cd.fact 8 (f := .free "str") rfl)
    fr_super := He.free_ok KX G (cd.fact 9 (f := .free "super") rfl)
    fr_tuple := He.free_ok KX G (cd.fact 10 (f := .free "tuple") rfl)
    g_FIGURES := He.str_ok KX G (cd.fact 29 (f := .str "FIGURES" "0123456789") rfl)
    g_KEPT := ⟨_, He.glo_ok KX G (cd.fact 30 (f := .glo "KEPT") rfl), He.tupB_ok mz _⟩
    g_MOST_FIGURES := He.int_ok KX G (cd.fact 31 (f := .int "MOST_FIGURES" 4) rfl)
    g_MOST_LETTERS := He.int_ok KX G (cd.fact 32 (f := .int "MOST_LETTERS" 8) rfl)
    g_MOST_SIGNS := He.int_ok KX G (cd.fact 33 (f := .int "MOST_SIGNS" 10000) rfl)
    g_SIGNS := He.str_ok KX G (cd.fact 34 (f := .str "SIGNS" "(){},;=!&|<+-*") rfl)
    g_SMALL := He.str_ok KX G (cd.fact 35 (f := .str "SMALL" "abcdefghijklmnopqrstuvwxyz") rfl)
    g_BadText := He.glo_ok KX G (cd.fact 28 (f := .glo "BadText") rfl)
    xc_BadText := cls_at (by decide +kernel)
    xt_BadText := xct_of xs_BadText (List.all_eq_true.mp m2 x_BadText (by simp [xs])) (c.init (by simp [xs]))
    ie_BadText := isB_ie m3 m1
    it_BadText := isB_it m3
    xf_at := clB_xf m1 (by simp) }
  obtain ⟨fd__law_begun, F__law_begun⟩ := cd.def_ 0 (d := D__law_begun) rfl
  have G__law_begun := He.glo_ok KX G (cd.fact 11 (f := .glo "_law_begun") rfl)
  obtain ⟨fd__law_mixed, F__law_mixed⟩ := cd.def_ 2 (d := D__law_mixed) rfl
  have G__law_mixed := He.glo_ok KX G (cd.fact 13 (f := .glo "_law_mixed") rfl)
  obtain ⟨fd__law_take, F__law_take⟩ := cd.def_ 3 (d := D__law_take) rfl
  have G__law_take := He.glo_ok KX G (cd.fact 14 (f := .glo "_law_take") rfl)
  obtain ⟨fd__law_pick, F__law_pick⟩ := cd.def_ 4 (d := D__law_pick) rfl
  have G__law_pick := He.glo_ok KX G (cd.fact 15 (f := .glo "_law_pick") rfl)
  obtain ⟨fd__law_same, F__law_same⟩ := cd.def_ 5 (d := D__law_same) rfl
  have G__law_same := He.glo_ok KX G (cd.fact 16 (f := .glo "_law_same") rfl)
  obtain ⟨fd__law_scanned, F__law_scanned⟩ := cd.def_ 6 (d := D__law_scanned) rfl
  have G__law_scanned := He.glo_ok KX G (cd.fact 17 (f := .glo "_law_scanned") rfl)
  obtain ⟨fd_need_text, F_need_text⟩ := cd.def_ 7 (d := D_need_text) rfl
  have G_need_text := He.glo_ok KX G (cd.fact 18 (f := .glo "need_text") rfl)
  obtain ⟨fd_token_end, F_token_end⟩ := cd.def_ 8 (d := D_token_end) rfl
  have G_token_end := He.glo_ok KX G (cd.fact 19 (f := .glo "token_end") rfl)
  obtain ⟨fd_is_row_of, F_is_row_of⟩ := cd.def_ 9 (d := D_is_row_of) rfl
  have G_is_row_of := He.glo_ok KX G (cd.fact 20 (f := .glo "is_row_of") rfl)
  obtain ⟨fd_is_numeral, F_is_numeral⟩ := cd.def_ 10 (d := D_is_numeral) rfl
  have G_is_numeral := He.glo_ok KX G (cd.fact 21 (f := .glo "is_numeral") rfl)
  obtain ⟨fd_scanned, F_scanned⟩ := cd.def_ 11 (d := D_scanned) rfl
  have G_scanned := He.glo_ok KX G (cd.fact 22 (f := .glo "scanned") rfl)
  obtain ⟨fd_fun_tokens, F_fun_tokens⟩ := cd.def_ 12 (d := D_fun_tokens) rfl
  have G_fun_tokens := He.glo_ok KX G (cd.fact 23 (f := .glo "fun_tokens") rfl)
  obtain ⟨fd_is_name, F_is_name⟩ := cd.def_ 13 (d := D_is_name) rfl
  have G_is_name := He.glo_ok KX G (cd.fact 24 (f := .glo "is_name") rfl)
  obtain ⟨fd__law_is_name, F__law_is_name⟩ := cd.def_ 14 (d := D__law_is_name) rfl
  have G__law_is_name := He.glo_ok KX G (cd.fact 25 (f := .glo "_law_is_name") rfl)
  obtain ⟨fd_law, F_law⟩ := cd.def_ 15 (d := D_law) rfl
  have G_law := He.glo_ok KX G (cd.fact 26 (f := .glo "law") rfl)
  obtain ⟨fd_c, F_c⟩ := cd.def_ 1 (d := D__law_caught) rfl
  have e := hm.symm.trans G_law
  cases e
  refine ⟨K, KX, C, fd_law, [He.cT K ("law", none)], sp_law, ?_, ?_, ?_, ?_, ?_, ?_, ?_⟩
  · intro p hp
    rw [List.mem_singleton.mp hp]
    exact c.x.empty _ (.head _)
  · intro p hp
    rw [List.mem_singleton.mp hp]
    exact c.x.out _ (.head _)
  · intro p hp
    rw [List.mem_singleton.mp hp]
    exact PySem.W.codeHd_of_K KX (c.x.hd _ (.head _))
  · exact fun s v => (FunD.bindsA (ps := ["script"]) F_law fun _ _ _ _ _ _ us hl => match us, hl with | [_], _ => rfl) s [v] rfl
  · intro p hp
    rw [List.mem_singleton.mp hp]
    exact ⟨_, .head _⟩
  · exact fun ns hl hb => ⟨ns, rfl, hl, hb, fun _ => rfl⟩
  · intro base KB GB TB
    have LC : LamC C K mg base t_ok st__law_caught "law" := ⟨⟨fd_c, F_c⟩, He.glo_ok KX G (cd.fact 12 (f := .glo "_law_caught") rfl), He.glo_ok KX G (cd.fact 27 (f := .glo "StackError") rfl), fun c' Cc _ h => clB_ok m1 c' Cc h, TB _ (.head _), .head _, fun p hp _ => by rw [List.mem_singleton.mp hp]⟩
    have ED__law_begun := def3_of (C := C) (P := RW.prog) (w := w) (mg := mg) (base := base) (sp := sp_begun) F__law_begun G__law_begun sc__law_begun bd__law_begun ⟨_, fun cdv A outer s H E hr => dv__law_begun hE hr, fun ds S q x _ h => begun_ok ds S q x h⟩
    have ED__law_mixed := def3_of (C := C) (P := RW.prog) (w := w) (mg := mg) (base := base) (sp := sp_mixed) F__law_mixed G__law_mixed sc__law_mixed bd__law_mixed ⟨_, fun cdv A outer s H E hr => dv__law_mixed hE hr, fun ds S q x _ h => mixed_ok ds S q x h⟩
    have ED__law_take := def3_of (C := C) (P := RW.prog) (w := w) (mg := mg) (base := base) (sp := sp_take) F__law_take G__law_take sc__law_take bd__law_take ⟨_, fun cdv A outer s H E hr => dv__law_take hE ED__law_mixed hr, fun ds S q x _ h => take_ok ds S q x h⟩
    have ED__law_pick := def3_of (C := C) (P := RW.prog) (w := w) (mg := mg) (base := base) (sp := sp_pick) F__law_pick G__law_pick sc__law_pick bd__law_pick ⟨_, fun cdv A outer s H E hr => dv__law_pick hE ED__law_take hr, fun ds S q x _ h => pick_ok ds S q x h⟩
    have ED__law_same := (defG_of (C := C) (P := RW.prog) (w := w) (mg := mg) (base := base) (sp := sp_same) F__law_same G__law_same rfl sc__law_same bd__law_same ⟨_, fun cdv A outer s H E ec hr hgd => dv__law_same hE hr hgd, fun ds S q x _ h => same_ok ds S q x h⟩).2
    have ED__law_scanned := def3_of (C := C) (P := RW.prog) (w := w) (mg := mg) (base := base) (sp := sp_lscan) F__law_scanned G__law_scanned sc__law_scanned bd__law_scanned ⟨_, fun cdv A outer s H E hr => dv__law_scanned hE hr, fun ds S q x _ h => lscan_ok ds S q x h⟩
    have ED_need_text := def3_of (C := C) (P := RW.prog) (w := w) (mg := mg) (base := base) (sp := sp_need) F_need_text G_need_text sc_need_text bd_need_text ⟨_, fun cdv A outer s H E hr => dv_need_text hE hr, fun ds S q x _ h => need_ok ds S q x h⟩
    have ED_token_end := def3_of (C := C) (P := RW.prog) (w := w) (mg := mg) (base := base) (sp := sp_tend) F_token_end G_token_end sc_token_end bd_token_end ⟨_, fun cdv A outer s H E hr => dv_token_end hE hr, fun ds S q x _ h => tend_ok ds S q x h⟩
    have ED_is_row_of := def3_of (C := C) (P := RW.prog) (w := w) (mg := mg) (base := base) (sp := sp_row) F_is_row_of G_is_row_of sc_is_row_of bd_is_row_of ⟨_, fun cdv A outer s H E hr => dv_is_row_of hE hr, fun ds S q x _ h => row_ok ds S q x h⟩
    have ED_is_numeral := def3_of (C := C) (P := RW.prog) (w := w) (mg := mg) (base := base) (sp := sp_num) F_is_numeral G_is_numeral sc_is_numeral bd_is_numeral ⟨_, fun cdv A outer s H E hr => dv_is_numeral hE ED_is_row_of hr, fun ds S q x _ h => num_ok ds S q x h⟩
    have ED_scanned := def3_of (C := C) (P := RW.prog) (w := w) (mg := mg) (base := base) (sp := sp_scan) F_scanned G_scanned sc_scanned bd_scanned ⟨_, fun cdv A outer s H E hr => dv_scanned hE ED_is_numeral ED_token_end hr, fun ds S q x _ h => scan_ok ds S q x h⟩
    have ED_fun_tokens := def3_of (C := C) (P := RW.prog) (w := w) (mg := mg) (base := base) (sp := sp_fun) F_fun_tokens G_fun_tokens sc_fun_tokens bd_fun_tokens ⟨_, fun cdv A outer s H E hr => dv_fun_tokens hE ED_need_text ED_scanned hr, fun ds S q x _ h => fun_ok ds S q x h⟩
    have ED_is_name := def3_of (C := C) (P := RW.prog) (w := w) (mg := mg) (base := base) (sp := sp_isname) F_is_name G_is_name sc_is_name bd_is_name ⟨_, fun cdv A outer s H E hr => dv_is_name hE ED_is_row_of hr, fun ds S q x _ h => isname_ok ds S q x h⟩
    have ED__law_is_name := def3_of (C := C) (P := RW.prog) (w := w) (mg := mg) (base := base) (sp := sp_isname) F__law_is_name G__law_is_name sc__law_is_name bd__law_is_name ⟨_, fun cdv A outer s H E hr => dv__law_is_name hE hr, fun ds S q x _ h => lname_ok ds S q x h⟩
    exact (defG_of F_law G_law rfl sc_law bd_law ⟨_, fun cdv A outer s H E ec hr hgd => dv_law hE LC ec ED__law_begun ED__law_is_name ED__law_pick ED__law_same ED__law_scanned ED__law_take ED_fun_tokens ED_is_name hr hgd, fun ds S q x _ h => law_ok ds S q x h⟩).1
end K02

set_option Elab.async false
set_option linter.all false
set_option maxRecDepth 100000
set_option maxHeartbeats 0
open PySem PySem.W PySem.Calls PyProof.Rows
theorem PySem.Challenge.cw_foldedstacks_k02_whole_tokens_of_funs_holds : PySem.Challenge.rw_foldedstacks_k02_whole_tokens_of_funs.Holds := by
  w_on; o_law
  refine HandSHeadRun.head_any (r := OpenLaw.row PySem.Challenge.rw_foldedstacks_k02_whole_tokens_of_funs) (q := view (OpenLaw.row PySem.Challenge.rw_foldedstacks_k02_whole_tokens_of_funs).prog [27]) (H := K02.hk) (ob := K02.ob) (M := 1500) (loose := K02.loose) (d := HandSHeadRun.topDef (OpenLaw.row PySem.Challenge.rw_foldedstacks_k02_whole_tokens_of_funs).prog 27) (kwd := []) K02.ob_eq
    (by kernel_rfl) (fun s => by kernel_rfl) K02.headRun (by kernel_rfl) (by kernel_rfl) (by kernel_rfl) (by rfl) (by first | assumption | decide +kernel) (by decide +kernel) ⟨rfl, rfl, rfl, rfl, rfl, by decide +kernel⟩ ?hw ?hc
  case hw => w_witness2
  case hc =>
    refine L3.walkG (l := PySem.Challenge.rw_foldedstacks_k02_whole_tokens_of_funs) (n := 63) (k := 7) (x := "script") rfl (by decide) (by kernel_rfl) ⟨rfl, by decide, by decide⟩ ?F
    intro w mg g h Y G hmg0
    have hmg : mg ("law" : PySem.Str) = some (.ref g) := by
      have e : (HandSHeadRun.topDef (OpenLaw.row PySem.Challenge.rw_foldedstacks_k02_whole_tokens_of_funs).prog 27).name = ("law" : PySem.Str) := by kernel_rfl
      rw [← e]
      exact hmg0
    exact K02.law_facts Y G hmg

