import PyProof.Rows.All
import Wide.All
import OpenK.AllK
import Wide.FinOn
import HandS.ForMost
import HandS.ForExc
import HandS.ExcSuper
import HandS.Nested
import HandS.EndTab
import HandS.FStr
import HandS.Rev
import HandS.DictComp
import HandS.SetKeys
import HandS.TryMany
import HandS.TupAny
import HandS.TupMul
import HandS.Star
import HandS.More
import HandS.Conv
import HandS.Strs
import HandS.IsInst
import HandS.Small
import HandS.OwnEq
import HandS.Property
import HandS.ExcField
import HandS.ExcIs
import KE.KDictKeyed
import KE.DataCmp
import KE.SortData
import KE.DataEq
import HandS.ExcCtx
import HandS.Finally
import KE.GoesEnum
import HandS.DeepEq
import HandS.Style
import HandS.Set
import HandS.SetFor
import KE.KSuper
import KE.KExcIs
import HandS.HeadHook1
import HandS.HotCalls
import HandS.HeadWalk
import HandS.Defaults
import HandS.WordsExc
import HandS.HeadHook2
import HandS.Head0
import HandS.Head1
import HandS.Head2
import HandS.HeadEnd
import PySem.Challenge.RW_menutalk_k14_errors_apart
set_option Elab.async false
set_option maxRecDepth 100000
set_option autoImplicit false
set_option linter.all false
/-! Plain data of the program, a store of the objects that change, and what the language's own parts do with them. No program in sight. -/
namespace Mt
open PySem

/-- a value: plain data; `lst` a list that nobody changes; `loc` an object of the store -/
inductive D where
  | non
  | bl (b : Bool)
  | int (i : Int)
  | str (x : Str)
  | tup (xs : List D)
  | lst (xs : List D)
  | loc (l : Nat)
  deriving Inhabited

mutual
def D.same : D → D → Bool
  | .non, .non => true
  | .bl a, .bl b => a == b
  | .int a, .int b => a == b
  | .str a, .str b => a == b
  | .tup a, .tup b => D.sames a b
  | .lst a, .lst b => D.sames a b
  | .loc a, .loc b => a == b
  | _, _ => false
def D.sames : List D → List D → Bool
  | [], [] => true
  | a :: as, b :: bs => D.same a b && D.sames as bs
  | _, _ => false
end
mutual
theorem D.same_self : ∀ a : D, D.same a a = true
  | .non => rfl
  | .bl a => by simp [D.same]
  | .int a => by simp [D.same]
  | .str a => by simp [D.same]
  | .tup a => by rw [D.same]; exact D.sames_self a
  | .lst a => by rw [D.same]; exact D.sames_self a
  | .loc a => by simp [D.same]
theorem D.sames_self : ∀ a : List D, D.sames a a = true
  | [] => rfl
  | a :: as => by rw [D.sames, D.same_self a, D.sames_self as]; rfl
end
mutual
theorem D.of_same : ∀ a b : D, D.same a b = true → a = b
  | .non, b, h => by cases b <;> simp [D.same] at h; rfl
  | .bl a, b, h => by cases b <;> simp [D.same] at h; rw [h]
  | .int a, b, h => by cases b <;> simp [D.same] at h; rw [h]
  | .str a, b, h => by cases b <;> simp [D.same] at h; rw [h]
  | .tup a, b, h => by cases b <;> simp [D.same] at h; rw [D.of_sames a _ h]
  | .lst a, b, h => by cases b <;> simp [D.same] at h; rw [D.of_sames a _ h]
  | .loc a, b, h => by cases b <;> simp [D.same] at h; rw [h]
theorem D.of_sames : ∀ a b : List D, D.sames a b = true → a = b
  | [], b, h => by cases b <;> simp [D.sames] at h; rfl
  | a :: as, b, h => by cases b <;> simp [D.sames] at h; rw [D.of_same a _ h.1, D.of_sames as _ h.2]
end
instance : DecidableEq D := fun a b => if h : D.same a b = true then .isTrue (D.of_same a b h) else .isFalse fun e => h (e ▸ D.same_self a)

/-- an object that may change: a list, a dict (keys in the order of insertion), one that is being walked, an instance -/
inductive Ob where
  | lst (xs : List D)
  | dic (kvs : List (D × D))
  | dicL (kvs : List (D × D))
  | ins (c : Str) (fs : List (Str × D))
  deriving DecidableEq, Inhabited

abbrev Sto := List Ob

/-- what comes of running something -/
inductive R (α : Type) where
  | ok (a : α) (S : Sto)
  | ex (c : Str) (fs : List (Str × D)) (S : Sto)
  | no

def R.bind {α β : Type} (r : R α) (f : α → Sto → R β) : R β :=
  match r with
  | .ok a S => f a S
  | .ex c fs S => .ex c fs S
  | .no => .no

@[simp] theorem R.bind_ok {α β : Type} (a : α) (S : Sto) (f : α → Sto → R β) : (R.ok a S).bind f = f a S := rfl
@[simp] theorem R.bind_ex {α β : Type} (c : Str) (fs : List (Str × D)) (S : Sto) (f : α → Sto → R β) : (R.ex c fs S : R α).bind f = .ex c fs S := rfl
@[simp] theorem R.bind_no {α β : Type} (f : α → Sto → R β) : (R.no : R α).bind f = .no := rfl

/-! ### as the library's data -/
/-- the list at d, if it is one -/
def asL (S : Sto) : D → Option (List D)
  | .lst xs => some xs
  | .loc l => match S[l]? with
    | some (.lst xs) => some xs
    | _ => none
  | _ => none

mutual
/-- the objects of the store put in place -/
def D.put (f : Nat → D) : D → D
  | .loc l => f l
  | .tup xs => .tup (D.puts f xs)
  | .lst xs => .lst (D.puts f xs)
  | d => d
def D.puts (f : Nat → D) : List D → List D
  | [] => []
  | d :: ds => D.put f d :: D.puts f ds
end
/-- what stands at l, n deep -/
def deep (S : Sto) : Nat → Nat → D
  | 0, _ => .loc 0
  | n + 1, l => match S[l]? with
    | some (.lst xs) => .lst (D.puts (deep S n) xs)
    | _ => .loc 0
/-- the value without places of the store -/
def full (S : Sto) (d : D) : D := d.put (deep S 8)

mutual
/-- as data; a value without places of the store, closures -/
def D.py : D → PyData
  | .non => .none
  | .bl b => .bool b
  | .int i => .int i
  | .str x => .str x
  | .tup xs => .tuple (D.pys xs)
  | .lst xs => .list (D.pys xs)
  | .loc _ => .none
def D.pys : List D → List PyData
  | [] => []
  | d :: ds => d.py :: D.pys ds
end
mutual
/-- no place of the store, no closure -/
def D.pure : D → Bool
  | .non => true
  | .bl _ => true
  | .int _ => true
  | .str _ => true
  | .tup xs => D.pures xs
  | .lst xs => D.pures xs
  | .loc _ => false
def D.pures : List D → Bool
  | [] => true
  | d :: ds => d.pure && D.pures ds
end
mutual
theorem D.put_pure (f : Nat → D) : ∀ d : D, d.pure = true → d.put f = d
  | .non, _ => rfl
  | .bl _, _ => rfl
  | .int _, _ => rfl
  | .str _, _ => rfl
  | .tup xs, h => by rw [D.put, D.puts_pure f xs (by simpa [D.pure] using h)]
  | .lst xs, h => by rw [D.put, D.puts_pure f xs (by simpa [D.pure] using h)]
  | .loc _, h => by simp [D.pure] at h
theorem D.puts_pure (f : Nat → D) : ∀ ds : List D, D.pures ds = true → D.puts f ds = ds
  | [], _ => rfl
  | d :: ds, h => by
    have h' : d.pure = true ∧ D.pures ds = true := by simpa [D.pures] using h
    rw [D.puts, D.put_pure f d h'.1, D.puts_pure f ds h'.2]
end
theorem full_pure (S : Sto) {d : D} (h : d.pure = true) : full S d = d := D.put_pure _ d h
end Mt


set_option Elab.async false
set_option maxRecDepth 100000
set_option autoImplicit false
set_option linter.all false
/-! How plain data and a store lie in the abstract heap; what a run's end means for the readings. -/
namespace Mt
open PySem PySem.Spec PyProof.Rows L2

/-- the places of the store's objects; hidden ones: objects that no value holds as yet -/
structure Mu where
  l : List Addr
  hid : List Addr
instance : Membership Addr Mu := ⟨fun μ a => a ∈ μ.l ∨ a ∈ μ.hid⟩
def Mu.add (μ : Mu) (a : Addr) : Mu := ⟨μ.l ++ [a], μ.hid⟩
def Mu.hide (μ : Mu) (a : Addr) : Mu := ⟨μ.l, a :: μ.hid⟩
def Mu.show (μ : Mu) (a : Addr) : Mu := ⟨μ.l, μ.hid.filter fun b => decide (b ≠ a)⟩
theorem Mu.mem {μ : Mu} {a : Addr} : a ∈ μ ↔ a ∈ μ.l ∨ a ∈ μ.hid := Iff.rfl
/-- the abstract heap has grown: new places are new, what stands outside the store's places stands -/
structure Mo (μ : Mu) (H : Hp) (μ' : Mu) (H' : Hp) : Prop where
  pre : ∃ ν, μ'.l = μ.l ++ ν ∧ ∀ a ∈ ν, H a = none
  dom : ∀ a o, H a = some o → ∃ o', H' a = some o'
  keep : ∀ a o, H a = some o → a ∉ μ → (∀ ps, o ≠ .tbl ps) → H' a = some o
  sub : ∀ a ∈ μ.hid, a ∈ μ'.hid
  fre : ∀ a ∈ μ'.hid, a ∈ μ.hid ∨ H a = none
  hkp : ∀ a ∈ μ.hid, ∀ o, H a = some o → H' a = some o
  frz : ∀ a o u, H a = some (.frz o u) → H' a = some (.frz o u)

/-- less: what stands outside the store's places stands -/
structure Mw (μ : Mu) (H : Hp) (μ' : Mu) (H' : Hp) : Prop where
  at_ : ∀ (l : Nat) (a : Addr), μ.l[l]? = some a → μ'.l[l]? = some a
  keep : ∀ a o, H a = some o → a ∉ μ → (∀ ps, o ≠ .tbl ps) → H' a = some o ∧ a ∉ μ'
/-- what stands fixed: the written part, the classes' addresses, how a closure lies -/
structure Gx where
  K : PySem.W.Frag
  T : List (Addr × Str)
  cls : Str → Option Addr
  clo : Mu → Hp → Nat → List D → Addr → Prop
  stay : ∀ {μ μ' : Mu} {H H' : Hp} {g : Nat} {vs : List D} {a : Addr}, Mw μ H μ' H' → clo μ H g vs a → clo μ' H' g vs a

def KTup (K : PySem.W.Frag) (a : Addr) (xs : List V) : Prop :=
  ∃ (o : Obj) (its : Array Value) (n : Nat), K.lookup a = some o ∧ o.cls = .type "tuple" ∧ o.data = .seq its n ∧ its.size ≤ sizeLine ∧ Vals xs its.toList
def TupAt (K : PySem.W.Frag) (μ : Mu) (H : Hp) (a : Addr) (xs : List V) : Prop := (Rd H a (.tup xs) ∧ a ∉ μ) ∨ KTup K a xs
def LstAt (μ : Mu) (H : Hp) (a : Addr) (xs : List V) : Prop := Rd H a (.lst xs) ∧ a ∉ μ
theorem TupAt.sq {K : PySem.W.Frag} {μ : Mu} {H : Hp} {a : Addr} {xs : List V} (h : TupAt K μ H a xs) : SqT K H a xs := h.elim (fun z => .inl z.1) .inr
theorem LstAt.sq {K : PySem.W.Frag} {μ : Mu} {H : Hp} {a : Addr} {xs : List V} (h : LstAt μ H a xs) : SqL K H a xs := .inl h.1

mutual
/-- the value holds the data -/
def DR (K : PySem.W.Frag) (μ : Mu) (H : Hp) : D → V → Prop
  | .non, v => v = .non
  | .bl b, v => v = .bl b
  | .int i, v => v = .int i
  | .str x, v => v = .str x
  | .tup ds, v => ∃ a xs, v = .ref a ∧ TupAt K μ H a xs ∧ DRs K μ H ds xs
  | .lst ds, v => ∃ a xs, v = .ref a ∧ LstAt μ H a xs ∧ DRs K μ H ds xs
  | .loc l, v => ∃ a, v = .ref a ∧ μ.l[l]? = some a
def DRs (K : PySem.W.Frag) (μ : Mu) (H : Hp) : List D → List V → Prop
  | [], xs => xs = []
  | d :: ds, xs => ∃ v r, xs = v :: r ∧ DR K μ H d v ∧ DRs K μ H ds r
end
def VR (G : Gx) (μ : Mu) (H : Hp) (d : D) (v : V) : Prop := DR G.K μ H d v

theorem Mo.refl (μ : Mu) (H : Hp) : Mo μ H μ H := ⟨⟨[], by simp, by simp⟩, fun _ o h => ⟨o, h⟩, fun _ _ h _ _ => h, fun _ h => h, fun _ h => .inl h, fun _ _ _ h => h, fun _ _ _ h => h⟩
theorem Mo.free {μ μ' : Mu} {H H' : Hp} (m : Mo μ H μ' H') {a : Addr} (h : H' a = none) : H a = none := by
  cases e : H a with
  | none => rfl
  | some o =>
    obtain ⟨o', q⟩ := m.dom a o e
    rw [h] at q; cases q
theorem Mo.out {μ μ' : Mu} {H H' : Hp} (m : Mo μ H μ' H') {a : Addr} {o : HO} (h : H a = some o) (n : a ∉ μ) : a ∉ μ' := by
  obtain ⟨ν, e, q⟩ := m.pre
  intro z
  rcases z with z | z
  · rw [e] at z
    rcases List.mem_append.mp z with z | z
    · exact n (.inl z)
    · rw [q a z] at h; cases h
  · rcases m.fre a z with z | z
    · exact n (.inr z)
    · rw [z] at h; cases h
theorem Mo.trans {μ μ1 μ2 : Mu} {H H1 H2 : Hp} (m : Mo μ H μ1 H1) (n : Mo μ1 H1 μ2 H2) : Mo μ H μ2 H2 := by
  obtain ⟨ν, e1, q1⟩ := id m.pre
  obtain ⟨ν', e2, q2⟩ := id n.pre
  refine ⟨⟨ν ++ ν', by rw [e2, e1, List.append_assoc], fun a ha => ?_⟩, fun a o h => ?_, fun a o h hn ht => n.keep a o (m.keep a o h hn ht) (m.out h hn) ht, fun a h => n.sub a (m.sub a h), fun a h => ?_, fun a h o e => n.hkp a (m.sub a h) o (m.hkp a h o e), fun a o u e => n.frz a o u (m.frz a o u e)⟩
  · rcases List.mem_append.mp ha with z | z
    · exact q1 a z
    · exact m.free (q2 a z)
  · obtain ⟨o1, h1⟩ := m.dom a o h
    exact n.dom a o1 h1
  · rcases n.fre a h with z | z
    · exact m.fre a z
    · exact .inr (m.free z)
theorem Mo.at {μ μ' : Mu} {H H' : Hp} (m : Mo μ H μ' H') {l : Nat} {a : Addr} (h : μ.l[l]? = some a) : μ'.l[l]? = some a := by
  obtain ⟨ν, e, _⟩ := m.pre
  rw [e, List.getElem?_append_left (List.getElem?_eq_some_iff.mp h).1]
  exact h

theorem Mo.w {μ μ' : Mu} {H H' : Hp} (m : Mo μ H μ' H') : Mw μ H μ' H' := ⟨fun _ _ h => m.at h, fun a o h n t => ⟨m.keep a o h n t, m.out h n⟩⟩
section
variable {K : PySem.W.Frag} {μ μ' : Mu} {H H' : Hp}
theorem Mo.rd {a : Addr} {u : HO} (m : Mo μ H μ' H') (h : Rd H a u) (n : a ∉ μ) (t : ∀ ps, u ≠ .tbl ps) : Rd H' a u ∧ a ∉ μ' := by
  rcases h with h | ⟨o, h⟩
  · exact ⟨.inl (m.keep a _ h n t), m.out h n⟩
  · exact ⟨.inr ⟨o, m.keep a _ h n fun ps z => nomatch z⟩, m.out h n⟩
theorem TupAt.mo {a : Addr} {xs : List V} (h : TupAt K μ H a xs) (m : Mo μ H μ' H') : TupAt K μ' H' a xs :=
  h.elim (fun z => .inl (m.rd z.1 z.2 fun ps q => nomatch q)) .inr
theorem LstAt.mo {a : Addr} {xs : List V} (h : LstAt μ H a xs) (m : Mo μ H μ' H') : LstAt μ' H' a xs := m.rd h.1 h.2 fun ps q => nomatch q
mutual
theorem DR.mo (m : Mo μ H μ' H') : ∀ (d : D) (v : V), DR K μ H d v → DR K μ' H' d v
  | .non, v, h => by rw [DR] at h ⊢; exact h
  | .bl _, v, h => by rw [DR] at h ⊢; exact h
  | .int _, v, h => by rw [DR] at h ⊢; exact h
  | .str _, v, h => by rw [DR] at h ⊢; exact h
  | .tup ds, v, h => by
    rw [DR] at h ⊢
    obtain ⟨a, xs, e, h1, h2⟩ := h
    exact ⟨a, xs, e, h1.mo m, DRs.mo m ds xs h2⟩
  | .lst ds, v, h => by
    rw [DR] at h ⊢
    obtain ⟨a, xs, e, h1, h2⟩ := h
    exact ⟨a, xs, e, h1.mo m, DRs.mo m ds xs h2⟩
  | .loc l, v, h => by
    rw [DR] at h ⊢
    obtain ⟨a, e, h1⟩ := h
    exact ⟨a, e, m.at h1⟩
theorem DRs.mo (m : Mo μ H μ' H') : ∀ (ds : List D) (xs : List V), DRs K μ H ds xs → DRs K μ' H' ds xs
  | [], xs, h => by rw [DRs] at h ⊢; exact h
  | d :: ds, xs, h => by
    rw [DRs] at h ⊢
    obtain ⟨v, r, e, h1, h2⟩ := h
    exact ⟨v, r, e, DR.mo m d v h1, DRs.mo m ds r h2⟩
end
theorem DRs.length : ∀ {ds : List D} {xs : List V}, DRs K μ H ds xs → ds.length = xs.length
  | [], xs, h => by rw [DRs] at h; rw [h]; rfl
  | d :: ds, xs, h => by
    rw [DRs] at h
    obtain ⟨v, r, e, h1, h2⟩ := h
    rw [e, List.length_cons, List.length_cons, DRs.length h2]
theorem DRs.get : ∀ {ds : List D} {xs : List V} {i : Nat} {d : D}, DRs K μ H ds xs → ds[i]? = some d → ∃ v, xs[i]? = some v ∧ DR K μ H d v
  | [], xs, i, d, h, e => by simp at e
  | c :: ds, xs, 0, d, h, e => by
    rw [DRs] at h
    obtain ⟨v, r, e1, h1, h2⟩ := h
    simp at e
    subst e e1
    exact ⟨v, rfl, h1⟩
  | c :: ds, xs, i + 1, d, h, e => by
    rw [DRs] at h
    obtain ⟨v, r, e1, h1, h2⟩ := h
    subst e1
    simpa using DRs.get h2 (by simpa using e)
theorem DRs.got : ∀ {ds : List D} {xs : List V} {i : Nat} {v : V}, DRs K μ H ds xs → xs[i]? = some v → ∃ d, ds[i]? = some d ∧ DR K μ H d v
  | [], xs, i, v, h, e => by rw [DRs] at h; subst h; simp at e
  | c :: ds, xs, 0, v, h, e => by
    rw [DRs] at h
    obtain ⟨v', r, e1, h1, h2⟩ := h
    subst e1
    simp at e
    subst e
    exact ⟨c, rfl, h1⟩
  | c :: ds, xs, i + 1, v, h, e => by
    rw [DRs] at h
    obtain ⟨v', r, e1, h1, h2⟩ := h
    subst e1
    simpa using DRs.got h2 (by simpa using e)
theorem DRs.nil : DRs K μ H [] [] := by rw [DRs]
theorem DRs.cons {d : D} {v : V} {ds : List D} {xs : List V} (h : DR K μ H d v) (r : DRs K μ H ds xs) : DRs K μ H (d :: ds) (v :: xs) := by
  rw [DRs]; exact ⟨v, xs, rfl, h, r⟩
theorem DRs.append : ∀ {ds es : List D} {xs ys : List V}, DRs K μ H ds xs → DRs K μ H es ys → DRs K μ H (ds ++ es) (xs ++ ys)
  | [], es, xs, ys, h, r => by rw [DRs] at h; subst h; exact r
  | d :: ds, es, xs, ys, h, r => by
    rw [DRs] at h
    obtain ⟨v, q, e, h1, h2⟩ := h
    subst e
    exact .cons h1 (DRs.append h2 r)
theorem DRs.take : ∀ {ds : List D} {xs : List V} (n : Nat), DRs K μ H ds xs → DRs K μ H (ds.take n) (xs.take n)
  | _, _, 0, _ => by rw [List.take_zero, List.take_zero]; exact .nil
  | [], xs, n + 1, h => by rw [DRs] at h; subst h; exact .nil
  | d :: ds, xs, n + 1, h => by
    rw [DRs] at h
    obtain ⟨v, q, e, h1, h2⟩ := h
    subst e
    exact .cons h1 (DRs.take n h2)
theorem DRs.drop : ∀ {ds : List D} {xs : List V} (n : Nat), DRs K μ H ds xs → DRs K μ H (ds.drop n) (xs.drop n)
  | ds, xs, 0, h => h
  | [], xs, n + 1, h => by rw [DRs] at h; subst h; exact .nil
  | d :: ds, xs, n + 1, h => by
    rw [DRs] at h
    obtain ⟨v, q, e, h1, h2⟩ := h
    subst e
    exact DRs.drop n h2
theorem DRs.set {d : D} {v : V} (h : DR K μ H d v) : ∀ {ds : List D} {xs : List V} (i : Nat), DRs K μ H ds xs → DRs K μ H (ds.set i d) (xs.set i v)
  | [], xs, i, q => by rw [DRs] at q; subst q; exact .nil
  | c :: ds, xs, 0, q => by
    rw [DRs] at q
    obtain ⟨u, r, e, h1, h2⟩ := q
    subst e
    exact .cons h h2
  | c :: ds, xs, i + 1, q => by
    rw [DRs] at q
    obtain ⟨u, r, e, h1, h2⟩ := q
    subst e
    exact .cons h1 (DRs.set h i h2)
end
section
variable {G : Gx} {μ μ' : Mu} {H H' : Hp}
theorem VR.mo {d : D} {v : V} (h : VR G μ H d v) (m : Mo μ H μ' H') : VR G μ' H' d v := DR.mo m d v h
end

/-! ### the store -/
def keyD : Key → D
  | .inl i => .int i
  | .inr x => .str x
def FRs (K : PySem.W.Frag) (μ : Mu) (H : Hp) : List (Str × D) → List (Str × V) → Prop := Paired fun p q => p.1 = q.1 ∧ DR K μ H p.2 q.2
def KRs (K : PySem.W.Frag) (μ : Mu) (H : Hp) : List (D × D) → List (Key × V) → Prop := Paired fun p q => p.1 = keyD q.1 ∧ DR K μ H p.2 q.2
theorem FRs.mo {K : PySem.W.Frag} {μ μ' : Mu} {H H' : Hp} (m : Mo μ H μ' H') {fs : List (Str × D)} {vs : List (Str × V)} (h : FRs K μ H fs vs) : FRs K μ' H' fs vs := Paired.mapP h fun _ _ q => ⟨q.1, DR.mo m _ _ q.2⟩
theorem KRs.mo {K : PySem.W.Frag} {μ μ' : Mu} {H H' : Hp} (m : Mo μ H μ' H') {fs : List (D × D)} {vs : List (Key × V)} (h : KRs K μ H fs vs) : KRs K μ' H' fs vs := Paired.mapP h fun _ _ q => ⟨q.1, DR.mo m _ _ q.2⟩
/-- the object of the store stands at a -/
def OR (G : Gx) (μ : Mu) (H : Hp) (a : Addr) : Ob → Prop
  | .lst ds => ∃ xs, H a = some (.lst xs) ∧ DRs G.K μ H ds xs
  | .dic kvs => ∃ ks, H a = some (.dK ks) ∧ KRs G.K μ H kvs ks
  | .dicL kvs => ∃ od ks, H a = some (.frz od (.dK ks)) ∧ KRs G.K μ H kvs ks
  | .ins c fs => ∃ C dx vs, G.cls c = some C ∧ H a = some (.ins C dx vs) ∧ FRs G.K μ H fs vs
/-- no code table, nothing told of the machine's heap -/
def Pl (o : HO) : Prop := (∀ ps, o ≠ .tbl ps) ∧ ∀ p, o ≠ .ext p
theorem tab_upd {T : List (Addr × Str)} {H : Hp} {a : Addr} {o : HO} (t : ∀ p ∈ T, LamX.TabS H p.1 p.2) (hn : ∀ u, H a = some u → Pl u) : ∀ p ∈ T, LamX.TabS (upd H a o) p.1 p.2 := fun p hp => by
  obtain ⟨ps, h1, h2, h3⟩ := t p hp
  have n1 : p.1 ≠ a := fun z => by
    rw [z] at h1
    exact (hn _ h1).1 ps rfl
  refine ⟨ps, by rw [upd_ne n1]; exact h1, h2, fun pos cv hc => ?_⟩
  obtain ⟨c, e1, e2⟩ := h3 pos cv hc
  have n2 : c ≠ a := fun z => by
    rw [z] at e2
    exact (hn _ e2).2 _ rfl
  exact ⟨c, e1, by rw [upd_ne n2]; exact e2⟩
theorem tbs_upd (_ : True) {o : HO} (_ : ∀ ps, o ≠ .tbl ps) : True := trivial
theorem OR.pl {G : Gx} {μ : Mu} {H : Hp} {a : Addr} {o : Ob} (q : OR G μ H a o) : ∀ u, H a = some u → Pl u := fun u e => by
  cases o with
  | lst ds => obtain ⟨xs, e', _⟩ := q; rw [e] at e'; cases e'; exact ⟨nofun, nofun⟩
  | dic kvs => obtain ⟨xs, e', _⟩ := q; rw [e] at e'; cases e'; exact ⟨nofun, nofun⟩
  | dicL kvs => obtain ⟨od, xs, e', _⟩ := q; rw [e] at e'; cases e'; exact ⟨nofun, nofun⟩
  | ins c fs => obtain ⟨C, dx, vs, _, e', _⟩ := q; rw [e] at e'; cases e'; exact ⟨nofun, nofun⟩
structure Rl (G : Gx) (μ : Mu) (S : Sto) (H : Hp) : Prop where
  len : μ.l.length = S.length
  nd : μ.l.Nodup
  dis : ∀ a ∈ μ.hid, a ∉ μ.l
  hin : ∀ a ∈ μ.hid, ∃ o, H a = some o ∧ Pl o
  at_ : ∀ (l : Nat) (a : Addr) (o : Ob), μ.l[l]? = some a → S[l]? = some o → OR G μ H a o
  tab : ∀ p ∈ G.T, LamX.TabS H p.1 p.2
  tbs : True
section
variable {G : Gx} {μ : Mu} {H : Hp} {S : Sto}
theorem Rl.obj (R : Rl G μ S H) {a : Addr} (h : a ∈ μ.l) : ∃ (l : Nat) (o : Ob), μ.l[l]? = some a ∧ S[l]? = some o ∧ OR G μ H a o := by
  obtain ⟨l, hl, e⟩ := List.mem_iff_getElem.mp h
  have h1 : μ.l[l]? = some a := by rw [List.getElem?_eq_getElem hl, e]
  have hS : l < S.length := by rw [← R.len]; exact hl
  exact ⟨l, S[l], h1, List.getElem?_eq_getElem hS, R.at_ l a _ h1 (List.getElem?_eq_getElem hS)⟩
theorem Rl.there (R : Rl G μ S H) {a : Addr} (h : a ∈ μ) : ∃ o, H a = some o := by
  rcases h with h | h
  case inr => exact let ⟨o, e, _⟩ := R.hin a h; ⟨o, e⟩
  obtain ⟨l, o, _, _, q⟩ := R.obj h
  cases o with
  | lst ds => obtain ⟨xs, e, _⟩ := q; exact ⟨_, e⟩
  | dic kvs => obtain ⟨xs, e, _⟩ := q; exact ⟨_, e⟩
  | dicL kvs => obtain ⟨od, xs, e, _⟩ := q; exact ⟨_, e⟩
  | ins c fs => obtain ⟨C, dx, vs, _, e, _⟩ := q; exact ⟨_, e⟩
/-- an address that is not tracked is none of the store's -/
theorem Rl.fresh (R : Rl G μ S H) {a : Addr} (h : H a = none) : a ∉ μ := fun z => by
  obtain ⟨o, e⟩ := R.there z
  rw [h] at e; cases e
/-- a new object outside the store -/
theorem Mo.new {a : Addr} {o : HO} (h : H a = none) : Mo μ H μ (upd H a o) :=
  ⟨⟨[], by simp, by simp⟩, fun b u e => ⟨u, by rw [upd_ne (ne_of_none e h)]; exact e⟩, fun b u e _ _ => by rw [upd_ne (ne_of_none e h)]; exact e, fun _ z => z, fun _ z => .inl z, fun b _ u e => by rw [upd_ne (ne_of_none e h)]; exact e, fun b o u e => by rw [upd_ne (ne_of_none e h)]; exact e⟩
theorem OR.mo {μ' : Mu} {H' : Hp} {a : Addr} {o : Ob} (h : OR G μ H a o) (m : Mo μ H μ' H') (k : H' a = H a) : OR G μ' H' a o := by
  cases o with
  | lst ds => obtain ⟨xs, e, q⟩ := h; exact ⟨xs, k.trans e, DRs.mo m _ _ q⟩
  | dic kvs => obtain ⟨xs, e, q⟩ := h; exact ⟨xs, k.trans e, q.mo m⟩
  | dicL kvs => obtain ⟨od, xs, e, q⟩ := h; exact ⟨od, xs, k.trans e, q.mo m⟩
  | ins c fs => obtain ⟨C, dx, vs, e0, e, q⟩ := h; exact ⟨C, dx, vs, e0, k.trans e, q.mo m⟩
/-- where the store's objects stand as they stood -/
theorem Rl.pl (R : Rl G μ S H) {l : Nat} {a : Addr} (hl : μ.l[l]? = some a) : ∀ u, H a = some u → Pl u := let ⟨_, _, _, _, q⟩ := R.obj (List.mem_of_getElem? hl); q.pl
theorem Rl.mo {H' : Hp} (R : Rl G μ S H) (m : Mo μ H μ H') (k : ∀ a ∈ μ, H' a = H a) (ht : ∀ p ∈ G.T, LamX.TabS H' p.1 p.2) (hb : True) : Rl G μ S H' :=
  ⟨R.len, R.nd, R.dis, fun a h => by rw [k a (.inr h)]; exact R.hin a h, fun l a o h1 h2 => (R.at_ l a o h1 h2).mo m (k a (.inl (List.mem_of_getElem? h1))), ht, hb⟩
theorem Rl.new (R : Rl G μ S H) {a : Addr} {o : HO} (h : H a = none) (hp : ∀ ps, o ≠ .tbl ps := by exact nofun) : Rl G μ S (upd H a o) := R.mo (Mo.new h) (fun b hb => by
  obtain ⟨u, e⟩ := R.there hb
  exact upd_ne (ne_of_none e h)) (tab_upd R.tab fun u e => by rw [h] at e; cases e) (tbs_upd R.tbs hp)
/-- a new object of the store -/
theorem Mo.add {a : Addr} {o : HO} (h : H a = none) : Mo μ H (μ.add a) (upd H a o) :=
  ⟨⟨[a], rfl, fun b hb => by rw [List.mem_singleton.mp hb]; exact h⟩, fun b u e => ⟨u, by rw [upd_ne (ne_of_none e h)]; exact e⟩, fun b u e _ _ => by rw [upd_ne (ne_of_none e h)]; exact e, fun _ z => z, fun _ z => .inl z, fun b _ u e => by rw [upd_ne (ne_of_none e h)]; exact e, fun b o u e => by rw [upd_ne (ne_of_none e h)]; exact e⟩
theorem Rl.add (R : Rl G μ S H) {a : Addr} {o : HO} {ob : Ob} (h : H a = none) (q : OR G (μ.add a) (upd H a o) a ob) : Rl G (μ.add a) (S ++ [ob]) (upd H a o) := by
  refine ⟨by show (μ.l ++ [a]).length = _; rw [List.length_append, List.length_append, R.len]; rfl, ?_, fun b hb hc => ?_, fun b hb => ?_, fun l b u h1 h2 => ?_, tab_upd R.tab (fun u e => by rw [h] at e; cases e), tbs_upd R.tbs (q.pl _ upd_same).1⟩
  · show (μ.l ++ [a]).Nodup
    rw [List.nodup_append]
    refine ⟨R.nd, by simp, fun x hx y hy => ?_⟩
    rw [List.mem_singleton.mp hy]
    exact fun z => R.fresh h (z ▸ .inl hx)
  · rcases List.mem_append.mp (show b ∈ μ.l ++ [a] from hc) with z | z
    · exact R.dis b hb z
    · rw [List.mem_singleton.mp z] at hb
      exact R.fresh h (.inr hb)
  · obtain ⟨u, e, p⟩ := R.hin b hb
    exact ⟨u, by rw [upd_ne (ne_of_none e h)]; exact e, p⟩
  · have h1' : (μ.l ++ [a])[l]? = some b := h1
    by_cases hl : l < μ.l.length
    · rw [List.getElem?_append_left hl] at h1'
      rw [List.getElem?_append_left (by rw [← R.len]; exact hl)] at h2
      have ha : b ∈ μ := .inl (List.mem_of_getElem? h1')
      obtain ⟨u', e⟩ := R.there ha
      exact (R.at_ l b u h1' h2).mo (Mo.add h) (upd_ne (ne_of_none e h))
    · have hl' : l < (μ.l ++ [a]).length := (List.getElem?_eq_some_iff.mp h1').1
      have e : l = μ.l.length := by rw [List.length_append] at hl'; simp at hl'; omega
      subst e
      rw [List.getElem?_append_right (Nat.le_refl _), Nat.sub_self] at h1'
      rw [R.len, List.getElem?_append_right (Nat.le_refl _), Nat.sub_self] at h2
      cases h1'; cases h2
      exact q
/-- an object of the store is changed -/
theorem Mo.write (R : Rl G μ S H) {l : Nat} {a : Addr} {o : HO} (hl : μ.l[l]? = some a) (hf : ∀ o u, H a ≠ some (.frz o u)) : Mo μ H μ (upd H a o) :=
  ⟨⟨[], by simp, by simp⟩, fun b u e => by
    by_cases hb : b = a
    · subst hb; exact ⟨o, upd_same⟩
    · exact ⟨u, by rw [upd_ne hb]; exact e⟩, fun b u e hn _ => by
    have hb : b ≠ a := fun z => hn (z ▸ .inl (List.mem_of_getElem? hl))
    rw [upd_ne hb]; exact e, fun _ z => z, fun _ z => .inl z, fun b hb u e => by
    have hb : b ≠ a := fun z => R.dis b hb (z ▸ List.mem_of_getElem? hl)
    rw [upd_ne hb]; exact e, fun b o u e => by
    have hb : b ≠ a := fun z => hf o u (z ▸ e)
    rw [upd_ne hb]; exact e⟩
theorem Rl.write (R : Rl G μ S H) {l : Nat} {a : Addr} {o : HO} {ob : Ob} (hl : μ.l[l]? = some a) (hf : ∀ o u, H a ≠ some (.frz o u)) (q : OR G μ (upd H a o) a ob) : Rl G μ (S.set l ob) (upd H a o) := by
  refine ⟨by rw [List.length_set]; exact R.len, R.nd, R.dis, fun b hb => ?_, fun k b u h1 h2 => ?_, tab_upd R.tab (R.pl hl), tbs_upd R.tbs (q.pl _ upd_same).1⟩
  · obtain ⟨u, e, p⟩ := R.hin b hb
    have hb' : b ≠ a := fun z => R.dis b hb (z ▸ List.mem_of_getElem? hl)
    exact ⟨u, by rw [upd_ne hb']; exact e, p⟩
  by_cases hk : k = l
  · subst hk
    rw [hl] at h1; cases h1
    have hz : k < S.length := by rw [← R.len]; exact (List.getElem?_eq_some_iff.mp hl).1
    rw [List.getElem?_set_self hz] at h2
    cases h2
    exact q
  · rw [List.getElem?_set_ne (Ne.symm hk)] at h2
    have hb : b ≠ a := by
      intro z
      subst z
      have h1' := List.getElem?_eq_some_iff.mp h1
      have hl' := List.getElem?_eq_some_iff.mp hl
      exact hk ((List.getElem_inj R.nd).mp (h1'.2.trans hl'.2.symm))
    exact (R.at_ k b u h1 h2).mo (Mo.write R hl hf) (upd_ne hb)
end

/-! ### a dict is locked while it is walked -/
theorem nofrz_lst {xs : List V} {H : Hp} {a : Addr} (h : H a = some (.lst xs)) : ∀ o u, H a ≠ some (.frz o u) := fun o u z => by rw [h] at z; cases z
theorem nofrz_dK {xs : List (Key × V)} {H : Hp} {a : Addr} (h : H a = some (.dK xs)) : ∀ o u, H a ≠ some (.frz o u) := fun o u z => by rw [h] at z; cases z
theorem nofrz_ins {C dx : Addr} {xs : List (Str × V)} {H : Hp} {a : Addr} (h : H a = some (.ins C dx xs)) : ∀ o u, H a ≠ some (.frz o u) := fun o u z => by rw [h] at z; cases z
theorem Mo.unlock {G : Gx} {μ μ' : Mu} {H H' : Hp} {S : Sto} (R : Rl G μ S H) {l : Nat} {a : Addr} {ks : List (Key × V)} {od : Obj} (hl : μ.l[l]? = some a) (h : H a = some (.dK ks)) (m : Mo μ (upd H a (.frz od (.dK ks))) μ' H') (h' : H' a = some (.frz od (.dK ks))) : Mo μ H μ' (upd H' a (.dK ks)) := by
  have k : ∀ b o, H b = some o → b ≠ a → upd H a (.frz od (.dK ks)) b = some o := fun b o e n => by rw [upd_ne n]; exact e
  have k0 : ∀ b, upd H a (.frz od (.dK ks)) b = none → H b = none := fun b e => by
    by_cases hb : b = a
    · subst hb; rw [upd_same] at e; cases e
    · rw [upd_ne hb] at e; exact e
  refine ⟨let ⟨ν, e, q⟩ := m.pre; ⟨ν, e, fun b hb => k0 b (q b hb)⟩, fun b o e => ?_, fun b o e hn ht => ?_, m.sub, fun b hb => (m.fre b hb).imp (fun z => z) (k0 b), fun b hb o e => ?_, fun b o u e => ?_⟩
  · by_cases hb : b = a
    · subst hb; exact ⟨_, upd_same⟩
    · rw [upd_ne hb]; exact m.dom b o (k b o e hb)
  · have hb : b ≠ a := fun z => hn (z ▸ .inl (List.mem_of_getElem? hl))
    rw [upd_ne hb]; exact m.keep b o (k b o e hb) hn ht
  · have hb' : b ≠ a := fun z => R.dis b hb (z ▸ List.mem_of_getElem? hl)
    rw [upd_ne hb']; exact m.hkp b hb o (k b o e hb')
  · have hb : b ≠ a := fun z => by
      subst z
      rw [h] at e; cases e
    rw [upd_ne hb]; exact m.frz b o u (k b _ e hb)

/-! ### hidden objects -/
section
variable {G : Gx} {μ μ' μ1 : Mu} {H H' H1 : Hp} {S : Sto} {P : Addr}
theorem mem_hide {a : Addr} : a ∈ μ.hide P ↔ a = P ∨ a ∈ μ := by
  rw [Mu.mem, Mu.mem]
  show (a ∈ μ.l ∨ a ∈ P :: μ.hid) ↔ _
  rw [List.mem_cons]
  exact ⟨fun h => h.elim (fun h => .inr (.inl h)) fun h => h.elim .inl fun h => .inr (.inr h), fun h => h.elim (fun h => .inr (.inl h)) fun h => h.elim .inl fun h => .inr (.inr h)⟩
theorem mem_show {a : Addr} : a ∈ μ.show P → a ∈ μ := fun h => h.elim .inl fun h => .inr (List.mem_filter.mp h).1
theorem show_not (R : Rl G μ S H) (h : P ∈ μ.hid) : P ∉ μ.show P := fun z => z.elim (fun z => R.dis P h z) fun z => by simpa using (List.mem_filter.mp z).2
/-- from one place list to one with the same places, the hidden ones another -/
theorem DR.via (el : ∀ (l : Nat) (a : Addr), μ.l[l]? = some a → μ'.l[l]? = some a) (k : ∀ a u, Rd H a u → a ∉ μ → Rd H' a u ∧ a ∉ μ') {K : PySem.W.Frag} : ∀ (d : D) (v : V), DR K μ H d v → DR K μ' H' d v := by
  have both : ∀ n : Nat, (∀ (d : D) (v : V), sizeOf d < n → DR K μ H d v → DR K μ' H' d v) ∧ ∀ (ds : List D) (xs : List V), sizeOf ds < n → DRs K μ H ds xs → DRs K μ' H' ds xs := by
    intro n
    induction n with
    | zero => exact ⟨fun _ _ h => absurd h (Nat.not_lt_zero _), fun _ _ h => absurd h (Nat.not_lt_zero _)⟩
    | succ n ih =>
      refine ⟨fun d v hn h => ?_, fun ds xs hn h => ?_⟩
      · cases d with
        | tup ds =>
          rw [DR] at h ⊢
          obtain ⟨a, xs, e, h1, h2⟩ := h
          exact ⟨a, xs, e, h1.elim (fun z => .inl (k a _ z.1 z.2)) .inr, ih.2 ds xs (by simp at hn; omega) h2⟩
        | lst ds =>
          rw [DR] at h ⊢
          obtain ⟨a, xs, e, h1, h2⟩ := h
          exact ⟨a, xs, e, k a _ h1.1 h1.2, ih.2 ds xs (by simp at hn; omega) h2⟩
        | loc l =>
          rw [DR] at h ⊢
          obtain ⟨a, e, h1⟩ := h
          exact ⟨a, e, el l a h1⟩
        | _ => rw [DR] at h ⊢; exact h
      · cases ds with
        | nil => rw [DRs] at h ⊢; exact h
        | cons d ds =>
          rw [DRs] at h ⊢
          obtain ⟨v, r, e, h1, h2⟩ := h
          exact ⟨v, r, e, ih.1 d v (by simp at hn; omega) h1, ih.2 ds r (by simp at hn; omega) h2⟩
  exact fun d v h => (both _).1 d v (Nat.lt_succ_self _) h
/-- the same, code tables apart -/
theorem DR.viaT (el : ∀ (l : Nat) (a : Addr), μ.l[l]? = some a → μ'.l[l]? = some a) (k : ∀ a u, Rd H a u → a ∉ μ → Pl u → Rd H' a u ∧ a ∉ μ') {K : PySem.W.Frag} : ∀ (d : D) (v : V), DR K μ H d v → DR K μ' H' d v := by
  have both : ∀ n : Nat, (∀ (d : D) (v : V), sizeOf d < n → DR K μ H d v → DR K μ' H' d v) ∧ ∀ (ds : List D) (xs : List V), sizeOf ds < n → DRs K μ H ds xs → DRs K μ' H' ds xs := by
    intro n
    induction n with
    | zero => exact ⟨fun _ _ h => absurd h (Nat.not_lt_zero _), fun _ _ h => absurd h (Nat.not_lt_zero _)⟩
    | succ n ih =>
      refine ⟨fun d v hn h => ?_, fun ds xs hn h => ?_⟩
      · cases d with
        | tup ds =>
          rw [DR] at h ⊢
          obtain ⟨a, xs, e, h1, h2⟩ := h
          exact ⟨a, xs, e, h1.elim (fun z => .inl (k a _ z.1 z.2 ⟨nofun, nofun⟩)) .inr, ih.2 ds xs (by simp at hn; omega) h2⟩
        | lst ds =>
          rw [DR] at h ⊢
          obtain ⟨a, xs, e, h1, h2⟩ := h
          exact ⟨a, xs, e, k a _ h1.1 h1.2 ⟨nofun, nofun⟩, ih.2 ds xs (by simp at hn; omega) h2⟩
        | loc l =>
          rw [DR] at h ⊢
          obtain ⟨a, e, h1⟩ := h
          exact ⟨a, e, el l a h1⟩
        | _ => rw [DR] at h ⊢; exact h
      · cases ds with
        | nil => rw [DRs] at h ⊢; exact h
        | cons d ds =>
          rw [DRs] at h ⊢
          obtain ⟨v, r, e, h1, h2⟩ := h
          exact ⟨v, r, e, ih.1 d v (by simp at hn; omega) h1, ih.2 ds r (by simp at hn; omega) h2⟩
  exact fun d v h => (both _).1 d v (Nat.lt_succ_self _) h
theorem DRs.via (el : ∀ (l : Nat) (a : Addr), μ.l[l]? = some a → μ'.l[l]? = some a) (k : ∀ a u, Rd H a u → a ∉ μ → Rd H' a u ∧ a ∉ μ') {K : PySem.W.Frag} : ∀ (ds : List D) (xs : List V), DRs K μ H ds xs → DRs K μ' H' ds xs
  | [], xs, h => by rw [DRs] at h ⊢; exact h
  | d :: ds, xs, h => by
    rw [DRs] at h ⊢
    obtain ⟨v, r, e, h1, h2⟩ := h
    exact ⟨v, r, e, DR.via el k d v h1, DRs.via el k ds r h2⟩
theorem OR.via (el : ∀ (l : Nat) (a : Addr), μ.l[l]? = some a → μ'.l[l]? = some a) (k : ∀ a u, Rd H a u → a ∉ μ → Rd H' a u ∧ a ∉ μ') {a : Addr} {o : Ob} (h : OR G μ H a o) (ha : H' a = H a) : OR G μ' H' a o := by
  cases o with
  | lst ds => obtain ⟨xs, e, q⟩ := h; exact ⟨xs, ha.trans e, DRs.via el k _ _ q⟩
  | dic kvs => obtain ⟨xs, e, q⟩ := h; exact ⟨xs, ha.trans e, Paired.mapP q fun _ _ z => ⟨z.1, DR.via el k _ _ z.2⟩⟩
  | dicL kvs => obtain ⟨od, xs, e, q⟩ := h; exact ⟨od, xs, ha.trans e, Paired.mapP q fun _ _ z => ⟨z.1, DR.via el k _ _ z.2⟩⟩
  | ins c fs => obtain ⟨C, dx, vs, e0, e, q⟩ := h; exact ⟨C, dx, vs, e0, ha.trans e, Paired.mapP q fun _ _ z => ⟨z.1, DR.via el k _ _ z.2⟩⟩
theorem Rl.via (R : Rl G μ S H) (el : μ'.l = μ.l) (k : ∀ a u, Rd H a u → a ∉ μ → Rd H' a u ∧ a ∉ μ') (ha : ∀ a ∈ μ.l, H' a = H a) (hd : ∀ a ∈ μ'.hid, a ∉ μ.l ∧ ∃ o, H' a = some o ∧ Pl o) (ht : ∀ p ∈ G.T, LamX.TabS H' p.1 p.2) (hb : True) : Rl G μ' S H' :=
  ⟨by rw [el]; exact R.len, by rw [el]; exact R.nd, fun a h => by rw [el]; exact (hd a h).1, fun a h => (hd a h).2, fun l a o h1 h2 => by
    rw [el] at h1
    exact (R.at_ l a o h1 h2).via (fun _ _ z => by rw [el]; exact z) k (ha a (List.mem_of_getElem? h1)), ht, hb⟩
/-- a new object, hidden -/
theorem Mo.hide {o : HO} (h : H P = none) : Mo μ H (μ.hide P) (upd H P o) :=
  ⟨⟨[], by simp [Mu.hide], by simp⟩, fun b u e => ⟨u, by rw [upd_ne (ne_of_none e h)]; exact e⟩, fun b u e _ _ => by rw [upd_ne (ne_of_none e h)]; exact e, fun _ z => List.mem_cons_of_mem _ z, fun a z => (List.mem_cons.mp z).elim (fun z => .inr (z ▸ h)) .inl, fun b _ u e => by rw [upd_ne (ne_of_none e h)]; exact e, fun b o u e => by rw [upd_ne (ne_of_none e h)]; exact e⟩
theorem Rl.hide {o : HO} (R : Rl G μ S H) (h : H P = none) (hp : Pl o := by exact ⟨nofun, nofun⟩) : Rl G (μ.hide P) S (upd H P o) :=
  R.via (μ' := μ.hide P) rfl (fun a u hr hn => by
    have ha : a ≠ P := by
      rintro rfl
      rcases hr with hr | ⟨o, hr⟩ <;> rw [h] at hr <;> cases hr
    exact ⟨hr.imp (fun z => by rw [upd_ne ha]; exact z) fun ⟨o, z⟩ => ⟨o, by rw [upd_ne ha]; exact z⟩, fun z => (mem_hide.mp z).elim ha hn⟩)
    (fun a z => upd_ne fun e => R.fresh h (e ▸ .inl z)) (fun a z => (List.mem_cons.mp z).elim (fun z => by subst z; exact ⟨fun q => R.fresh h (.inl q), _, upd_same, hp⟩) fun z => ⟨R.dis a z, by
      obtain ⟨u, e, p⟩ := R.hin a z
      exact ⟨u, by rw [upd_ne (ne_of_none e h)]; exact e, p⟩⟩) (tab_upd R.tab fun u e => by rw [h] at e; cases e) (tbs_upd R.tbs hp.1)
/-- a hidden object is changed: nothing told of the others changes -/
theorem DRs.under {K : PySem.W.Frag} {o : HO} (h : P ∈ μ.hid) {ds : List D} {xs : List V} (q : DRs K μ H ds xs) : DRs K μ (upd H P o) ds xs :=
  DRs.via (fun _ _ z => z) (fun a u hr hn => by
    have ha : a ≠ P := fun z => hn (z ▸ .inr h)
    exact ⟨hr.imp (fun z => by rw [upd_ne ha]; exact z) fun ⟨o, z⟩ => ⟨o, by rw [upd_ne ha]; exact z⟩, hn⟩) ds xs q
theorem DR.under {K : PySem.W.Frag} {o : HO} (h : P ∈ μ.hid) {d : D} {x : V} (q : DR K μ H d x) : DR K μ (upd H P o) d x :=
  DR.via (fun _ _ z => z) (fun a u hr hn => by
    have ha : a ≠ P := fun z => hn (z ▸ .inr h)
    exact ⟨hr.imp (fun z => by rw [upd_ne ha]; exact z) fun ⟨o, z⟩ => ⟨o, by rw [upd_ne ha]; exact z⟩, hn⟩) d x q
theorem Rl.under {o : HO} (h : P ∈ μ.hid) (R : Rl G μ S H) (hp : Pl o := by exact ⟨nofun, nofun⟩) : Rl G μ S (upd H P o) :=
  R.via rfl (fun a u hr hn => by
    have ha : a ≠ P := fun z => hn (z ▸ .inr h)
    exact ⟨hr.imp (fun z => by rw [upd_ne ha]; exact z) fun ⟨o, z⟩ => ⟨o, by rw [upd_ne ha]; exact z⟩, hn⟩)
    (fun a z => upd_ne fun e => R.dis P h (e ▸ z)) (fun a z => ⟨R.dis a z, by
      by_cases ha : a = P
      · subst ha; exact ⟨_, upd_same, hp⟩
      · rw [upd_ne ha]; exact R.hin a z⟩) (tab_upd R.tab fun u e => by
        obtain ⟨u', e', p⟩ := R.hin P h
        rw [e] at e'; cases e'; exact p) (tbs_upd R.tbs hp.1)
theorem Mo.under {o : HO} (m : Mo μ1 H1 μ H) (h : H1 P = none) : Mo μ1 H1 μ (upd H P o) :=
  ⟨m.pre, fun b u e => by
    rw [upd_ne (ne_of_none e h)]; exact m.dom b u e, fun b u e hn ht => by
    rw [upd_ne (ne_of_none e h)]; exact m.keep b u e hn ht, m.sub, m.fre, fun b hb u e => by
    rw [upd_ne (ne_of_none e h)]; exact m.hkp b hb u e, fun b o u e => by
    rw [upd_ne (ne_of_none e h)]; exact m.frz b o u e⟩
/-- a hidden object is shown -/
theorem DRs.show {K : PySem.W.Frag} {ds : List D} {xs : List V} (q : DRs K μ H ds xs) : DRs K (μ.show P) H ds xs :=
  DRs.via (μ := μ) (μ' := μ.show P) (fun _ _ z => z) (fun a u hr hn => ⟨hr, fun z => hn (mem_show z)⟩) ds xs q
theorem Rl.show (R : Rl G μ S H) : Rl G (μ.show P) S H :=
  R.via (μ' := μ.show P) rfl (fun a u hr hn => ⟨hr, fun z => hn (mem_show z)⟩) (fun _ _ => rfl) (fun a z => ⟨R.dis a (List.mem_filter.mp z).1, R.hin a (List.mem_filter.mp z).1⟩) R.tab R.tbs
theorem Mo.show (m : Mo μ1 H1 μ H) (hP : P ∉ μ1.hid) : Mo μ1 H1 (μ.show P) H :=
  ⟨m.pre, m.dom, m.keep, fun a h => List.mem_filter.mpr ⟨m.sub a h, decide_eq_true fun z : a = P => hP (by rw [← z]; exact h)⟩, fun a h => m.fre a (List.mem_filter.mp h).1, m.hkp, m.frz⟩
/-- a hidden object becomes one of the store -/
def Mu.track (μ : Mu) (P : Addr) : Mu := ⟨μ.l ++ [P], μ.hid.filter fun b => decide (b ≠ P)⟩
theorem mem_track {a : Addr} (h : a ∈ μ.track P) : a = P ∨ a ∈ μ := by
  rcases h with h | h
  · rcases List.mem_append.mp h with h | h
    · exact .inr (.inl h)
    · exact .inl (List.mem_singleton.mp h)
  · exact .inr (.inr (List.mem_filter.mp h).1)
theorem track_at {l : Nat} {a : Addr} (h : μ.l[l]? = some a) : (μ.track P).l[l]? = some a := by
  show (μ.l ++ [P])[l]? = some a
  rw [List.getElem?_append_left (List.getElem?_eq_some_iff.mp h).1]
  exact h
theorem DRs.track {K : PySem.W.Frag} (hP : P ∈ μ.hid) {ds : List D} {xs : List V} (q : DRs K μ H ds xs) : DRs K (μ.track P) H ds xs :=
  DRs.via (fun _ _ z => track_at z) (fun a u hr hn => ⟨hr, fun z => (mem_track z).elim (fun e => hn (e ▸ .inr hP)) hn⟩) ds xs q
theorem KRs.track {K : PySem.W.Frag} (hP : P ∈ μ.hid) {kvs : List (D × D)} {ks : List (Key × V)} (q : KRs K μ H kvs ks) : KRs K (μ.track P) H kvs ks :=
  Paired.mapP q fun _ _ z => ⟨z.1, DR.via (fun _ _ z => track_at z) (fun a u hr hn => ⟨hr, fun z => (mem_track z).elim (fun e => hn (e ▸ .inr hP)) hn⟩) _ _ z.2⟩
theorem Rl.track (R : Rl G μ S H) (hP : P ∈ μ.hid) {ob : Ob} (q : OR G (μ.track P) H P ob) : Rl G (μ.track P) (S ++ [ob]) H := by
  refine ⟨by show (μ.l ++ [P]).length = _; rw [List.length_append, List.length_append, R.len]; rfl, ?_, fun b hb hc => ?_, fun b hb => R.hin b (List.mem_filter.mp hb).1, fun l b u h1 h2 => ?_, R.tab, R.tbs⟩
  · show (μ.l ++ [P]).Nodup
    rw [List.nodup_append]
    refine ⟨R.nd, by simp, fun x hx y hy => ?_⟩
    rw [List.mem_singleton.mp hy]
    exact fun z => R.dis P hP (z ▸ hx)
  · obtain ⟨h1, h2⟩ := List.mem_filter.mp hb
    rcases List.mem_append.mp (show b ∈ μ.l ++ [P] from hc) with z | z
    · exact R.dis b h1 z
    · exact of_decide_eq_true h2 (List.mem_singleton.mp z)
  · have h1' : (μ.l ++ [P])[l]? = some b := h1
    by_cases hl : l < μ.l.length
    · rw [List.getElem?_append_left hl] at h1'
      rw [List.getElem?_append_left (by rw [← R.len]; exact hl)] at h2
      exact (R.at_ l b u h1' h2).via (fun _ _ z => track_at z) (fun a u hr hn => ⟨hr, fun z => (mem_track z).elim (fun e => hn (e ▸ .inr hP)) hn⟩) rfl
    · have hl' : l < (μ.l ++ [P]).length := (List.getElem?_eq_some_iff.mp h1').1
      have e : l = μ.l.length := by rw [List.length_append] at hl'; simp at hl'; omega
      subst e
      rw [List.getElem?_append_right (Nat.le_refl _), Nat.sub_self] at h1'
      rw [R.len, List.getElem?_append_right (Nat.le_refl _), Nat.sub_self] at h2
      cases h1'; cases h2
      exact q
theorem Mo.track (m : Mo μ1 H1 μ H) (h : H1 P = none) (hP : P ∉ μ1.hid) : Mo μ1 H1 (μ.track P) H := by
  obtain ⟨ν, e1, q1⟩ := m.pre
  refine ⟨⟨ν ++ [P], by show μ.l ++ [P] = _; rw [e1, List.append_assoc], fun a ha => ?_⟩, m.dom, m.keep, fun a h => List.mem_filter.mpr ⟨m.sub a h, decide_eq_true fun z : a = P => hP (by rw [← z]; exact h)⟩, fun a h => m.fre a (List.mem_filter.mp h).1, m.hkp, m.frz⟩
  rcases List.mem_append.mp ha with z | z
  · exact q1 a z
  · rw [List.mem_singleton.mp z]; exact h
theorem vr_track {S : Sto} (R : Rl G μ S H) : VR G (μ.track P) H (.loc S.length) (.ref P) := by
  unfold VR
  rw [DR]
  exact ⟨P, rfl, by rw [← R.len]; show (μ.l ++ [P])[μ.l.length]? = some P; rw [List.getElem?_append_right (Nat.le_refl _), Nat.sub_self]; rfl⟩
end

/-! ### slots -/
/-- the slots of a frame; c: the slot that holds a lambda, its number, what it caught -/
structure En where
  d : List (Option D)
  c : Option (Nat × Nat × List D) := none
abbrev Env' := En
def En.get (ρ : En) (i : Nat) : Option D := (ρ.d[i]?).bind id
def En.set (ρ : En) (i : Nat) (d : D) : En := ⟨ρ.d.set i (some d), match ρ.c with
  | some (j, k) => if j = i then none else some (j, k)
  | none => none⟩
/-- the slots hold the values -/
structure SR (G : Gx) (μ : Mu) (H : Hp) (ρ : En) (σ : L2.St) : Prop where
  len : ρ.d.length = σ.length
  dat : ∀ (i : Nat) (d : D), ρ.d[i]? = some (some d) → ∃ v, σ[i]? = some (some v) ∧ VR G μ H d v
  clo : ∀ (i g : Nat) (vs : List D), ρ.c = some (i, g, vs) → ∃ a, σ[i]? = some (some (.ref a)) ∧ G.clo μ H g vs a
theorem SR.mo {G : Gx} {μ μ' : Mu} {H H' : Hp} {ρ : En} {σ : L2.St} (h : SR G μ H ρ σ) (m : Mo μ H μ' H') : SR G μ' H' ρ σ := ⟨h.len, fun i d e => by
  obtain ⟨v, h1, h2⟩ := h.dat i d e
  exact ⟨v, h1, h2.mo m⟩, fun i g vs e => by
  obtain ⟨a, h1, h2⟩ := h.clo i g vs e
  exact ⟨a, h1, G.stay m.w h2⟩⟩
theorem SR.set {G : Gx} {μ : Mu} {H : Hp} {ρ : En} {σ : L2.St} (h : SR G μ H ρ σ) {i : Nat} {d : D} {v : V} (q : VR G μ H d v) : SR G μ H (ρ.set i d) (σ.set i (some v)) := by
  refine ⟨?_, fun j e h1 => ?_, fun j g vs h1 => ?_⟩
  · show (ρ.d.set i (some d)).length = _
    rw [List.length_set, List.length_set]; exact h.len
  · have h1' : (ρ.d.set i (some d))[j]? = some (some e) := h1
    by_cases hj : j = i
    · subst hj
      have hl : j < (ρ.d.set j (some d)).length := (List.getElem?_eq_some_iff.mp h1').1
      rw [List.length_set] at hl
      rw [List.getElem?_set_self hl] at h1'
      cases h1'
      exact ⟨v, List.getElem?_set_self (by rw [← h.len]; exact hl), q⟩
    · rw [List.getElem?_set_ne (Ne.symm hj)] at h1'
      rw [List.getElem?_set_ne (Ne.symm hj)]
      exact h.dat j e h1'
  · unfold En.set at h1
    dsimp only at h1
    split at h1
    · rename_i j' k e
      split at h1
      · cases h1
      · rename_i hn
        cases h1
        rw [List.getElem?_set_ne (Ne.symm hn)]
        exact h.clo j g vs e
    · cases h1

theorem Mw.via {μ μ' : Mu} {H H' : Hp} (m : Mw μ H μ' H') : ∀ a u, Rd H a u → a ∉ μ → (∀ ps, u ≠ .tbl ps) → Rd H' a u ∧ a ∉ μ' := fun a u h n t => by
  rcases h with h | ⟨o, h⟩
  · obtain ⟨h1, h2⟩ := m.keep a _ h n t
    exact ⟨.inl h1, h2⟩
  · obtain ⟨h1, h2⟩ := m.keep a _ h n fun ps z => nomatch z
    exact ⟨.inr ⟨o, h1⟩, h2⟩
theorem DR.w {K : PySem.W.Frag} {μ μ' : Mu} {H H' : Hp} (m : Mw μ H μ' H') {d : D} {v : V} (h : DR K μ H d v) : DR K μ' H' d v := DR.viaT m.at_ (fun a u h n t => m.via a u h n t.1) d v h
theorem SR.w {G : Gx} {μ μ' : Mu} {H H' : Hp} {ρ : En} {σ : L2.St} (h : SR G μ H ρ σ) (m : Mw μ H μ' H') : SR G μ' H' ρ σ := ⟨h.len, fun i d e => by
  obtain ⟨v, h1, h2⟩ := h.dat i d e
  exact ⟨v, h1, DR.w m h2⟩, fun i g vs e => by
  obtain ⟨a, h1, h2⟩ := h.clo i g vs e
  exact ⟨a, h1, G.stay m h2⟩⟩
/-- an object of the store is written, whatever it is -/
theorem Mw.put {G : Gx} {μ : Mu} {H : Hp} {S : Sto} (R : Rl G μ S H) {l : Nat} {a : Addr} {o : HO} (hl : μ.l[l]? = some a) : Mw μ H μ (upd H a o) :=
  ⟨fun _ _ h => h, fun b u e n _ => by
    have hb : b ≠ a := fun z => n (z ▸ .inl (List.mem_of_getElem? hl))
    exact ⟨by rw [upd_ne hb]; exact e, n⟩⟩
theorem FRs.w {K : PySem.W.Frag} {μ μ' : Mu} {H H' : Hp} (m : Mw μ H μ' H') {fs : List (Str × D)} {vs : List (Str × V)} (h : FRs K μ H fs vs) : FRs K μ' H' fs vs := Paired.mapP h fun _ _ q => ⟨q.1, DR.w m q.2⟩
theorem KRs.w {K : PySem.W.Frag} {μ μ' : Mu} {H H' : Hp} (m : Mw μ H μ' H') {fs : List (D × D)} {vs : List (Key × V)} (h : KRs K μ H fs vs) : KRs K μ' H' fs vs := Paired.mapP h fun _ _ q => ⟨q.1, DR.w m q.2⟩
theorem DRs.w {K : PySem.W.Frag} {μ μ' : Mu} {H H' : Hp} (m : Mw μ H μ' H') : ∀ {ds : List D} {xs : List V}, DRs K μ H ds xs → DRs K μ' H' ds xs
  | [], xs, h => by rw [DRs] at h ⊢; exact h
  | d :: ds, xs, h => by
    rw [DRs] at h ⊢
    obtain ⟨v, r, e, h1, h2⟩ := h
    exact ⟨v, r, e, DR.w m h1, DRs.w m h2⟩
theorem OR.w {G : Gx} {μ μ' : Mu} {H H' : Hp} {a : Addr} {o : Ob} (m : Mw μ H μ' H') (h : OR G μ H a o) (ha : H' a = H a) : OR G μ' H' a o := by
  cases o with
  | lst ds => obtain ⟨xs, e, q⟩ := h; exact ⟨xs, ha.trans e, q.w m⟩
  | dic kvs => obtain ⟨xs, e, q⟩ := h; exact ⟨xs, ha.trans e, q.w m⟩
  | dicL kvs => obtain ⟨od, xs, e, q⟩ := h; exact ⟨od, xs, ha.trans e, q.w m⟩
  | ins c fs => obtain ⟨C, dx, vs, e0, e, q⟩ := h; exact ⟨C, dx, vs, e0, ha.trans e, q.w m⟩
theorem Rl.put {G : Gx} {μ : Mu} {H : Hp} {S : Sto} (R : Rl G μ S H) {l : Nat} {a : Addr} {o : HO} {ob : Ob} (hl : μ.l[l]? = some a) (q : OR G μ (upd H a o) a ob) : Rl G μ (S.set l ob) (upd H a o) := by
  have m : Mw μ H μ (upd H a o) := Mw.put R hl
  refine ⟨by rw [List.length_set]; exact R.len, R.nd, R.dis, fun b hb => ?_, fun k b u h1 h2 => ?_, tab_upd R.tab (R.pl hl), tbs_upd R.tbs (q.pl _ upd_same).1⟩
  · obtain ⟨u, e, p⟩ := R.hin b hb
    have hb' : b ≠ a := fun z => R.dis b hb (z ▸ List.mem_of_getElem? hl)
    exact ⟨u, by rw [upd_ne hb']; exact e, p⟩
  · by_cases hk : k = l
    · subst hk
      rw [hl] at h1; cases h1
      have hz : k < S.length := by rw [← R.len]; exact (List.getElem?_eq_some_iff.mp hl).1
      rw [List.getElem?_set_self hz] at h2
      cases h2
      exact q
    · rw [List.getElem?_set_ne (Ne.symm hk)] at h2
      have hb : b ≠ a := by
        intro z
        subst z
        have h1' := List.getElem?_eq_some_iff.mp h1
        have hl' := List.getElem?_eq_some_iff.mp hl
        exact hk ((List.getElem_inj R.nd).mp (h1'.2.trans hl'.2.symm))
      exact (R.at_ k b u h1 h2).w m (upd_ne hb)

/-! ### what a run's end means -/
/-- how an exception of the class c with the fields fs lies -/
def XR (G : Gx) (μ : Mu) (H : Hp) (c : Str) (fs : List (Str × D)) (cv : Value) (d : Option Addr) : Prop :=
  ∃ C, G.cls c = some C ∧ cv = .ref C ∧ ((fs = [] ∧ d = none) ∨ ∃ dx vs, d = some dx ∧ H dx = some (.xd vs) ∧ dx ∉ μ ∧ FRs G.K μ H fs vs)
def Fin (G : Gx) (μ : Mu) (H : Hp) (r : R D) (Q : VK) (E : XK) : Prop :=
  match r with
  | .ok d S' => ∀ μ' H' v, Mo μ H μ' H' → Rl G μ' S' H' → VR G μ' H' d v → Q v H'
  | .ex c fs S' => ∀ μ' H' cv dx, Mo μ H μ' H' → Rl G μ' S' H' → XR G μ' H' c fs cv dx → E cv dx H'
  | .no => False
/-- the reading of an expression: its run from data -/
def tI (G : Gx) (W : WX) (r : Env' → Sto → R D) : TE := fun σ H Q => ∃ μ ρ S, Rl G μ S H ∧ SR G μ H ρ σ ∧ Fin G μ H (r ρ S) Q fun cv dx H' => W cv dx σ H'
end Mt


set_option Elab.async false
set_option maxRecDepth 100000
set_option autoImplicit false
set_option linter.all false
/-! The rules of the expressions, told by data. -/
namespace Mt
open PySem PySem.Spec PyProof.Rows L2

theorem peImp {X : Cx} {e : Expr} {t t' : TE} (h : PE X e t) (k : ∀ σ H Q, t' σ H Q → t σ H Q) : PE X e t' := ⟨fun pins s σ H Q I z => h.run pins s σ H Q I (k σ H Q z)⟩
theorem ptImp {X : Cx} {e : Expr} {t t' : TT} (h : PT X e t) (k : ∀ σ H Q, t' σ H Q → t σ H Q) : PT X e t' := ⟨fun pins s σ H Q I z => h.run pins s σ H Q I (k σ H Q z)⟩
theorem pwImp {X : Cx} {e : Expr} {t t' : TT} (h : PW X e t) (k : ∀ σ H Q, t' σ H Q → t σ H Q) : PW X e t' := ⟨fun wh pins s σ H Q I z => h.run wh pins s σ H Q I (k σ H Q z)⟩
theorem psImp {X : Cx} {e : Stmt} {t t' : TS} (h : PS X e t) (k : ∀ D σ H, t' D σ H → t D σ H) : PS X e t' := ⟨fun pins s σ H D I z => h.run pins s σ H D I (k D σ H z)⟩
theorem pssImp {X : Cx} {e : List Stmt} {t t' : TS} (h : PSs X e t) (k : ∀ D σ H, t' D σ H → t D σ H) : PSs X e t' := ⟨fun pins s σ H D I z => h.run pins s σ H D I (k D σ H z)⟩
theorem paImp {X : Cx} {e : List Expr} {t t' : TA} (h : PA X e t) (k : ∀ σ H Q, t' σ H Q → t σ H Q) : PA X e t' := ⟨fun pos pins s σ H Q I z => h.run pos pins s σ H Q I (k σ H Q z)⟩

section
variable {G : Gx} {μ μ1 : Mu} {H H1 : Hp} {r : R D} {Q Q' : VK} {E : XK}
theorem Fin.mono (h : Fin G μ H r Q E) (k : ∀ v H', Q v H' → Q' v H') : Fin G μ H r Q' E := by
  cases r with
  | ok d S => exact fun μ' H' v m R q => k v H' (h μ' H' v m R q)
  | ex c fs S => exact h
  | no => exact h
theorem Fin.mo (h : Fin G μ H r Q E) (m : Mo μ H μ1 H1) : Fin G μ1 H1 r Q E := by
  cases r with
  | ok d S => exact fun μ' H' v m' R q => h μ' H' v (m.trans m') R q
  | ex c fs S => exact fun μ' H' cv dx m' R q => h μ' H' cv dx (m.trans m') R q
  | no => exact h
/-- what stands behind the first of two -/
def Then (G : Gx) (μ : Mu) (H : Hp) (k : D → Sto → R D) (Q : VK) (E : XK) : VK := fun v H1 => ∃ μ1 d S1, Mo μ H μ1 H1 ∧ Rl G μ1 S1 H1 ∧ VR G μ1 H1 d v ∧ Fin G μ1 H1 (k d S1) Q E
theorem Fin.bind {k : D → Sto → R D} (h : Fin G μ H (r.bind k) Q E) : Fin G μ H r (Then G μ H k Q E) E := by
  cases r with
  | ok d S => exact fun μ' H' v m R q => ⟨μ', d, S, m, R, q, Fin.mo h m⟩
  | ex c fs S => exact h
  | no => exact h
theorem Fin.ok {d : D} {S : Sto} (h : Fin G μ H (.ok d S) Q E) {v : V} (R : Rl G μ S H) (q : VR G μ H d v) : Q v H := h μ H v (Mo.refl μ H) R q
end

/-- a value or nothing, the store as it is -/
def ofO (S : Sto) : Option D → R D
  | some d => .ok d S
  | none => .no
theorem VR.of {G : Gx} {μ : Mu} {H : Hp} {d : D} {v : V} (h : DR G.K μ H d v) : VR G μ H d v := h
theorem VR.bl {G : Gx} {μ : Mu} {H : Hp} {b : Bool} {v : V} (h : VR G μ H (.bl b) v) : v = .bl b := by
  unfold VR at h
  rw [DR] at h; exact h
theorem VR.int {G : Gx} {μ : Mu} {H : Hp} {b : Int} {v : V} (h : VR G μ H (.int b) v) : v = .int b := by
  unfold VR at h
  rw [DR] at h; exact h
theorem VR.str {G : Gx} {μ : Mu} {H : Hp} {b : Str} {v : V} (h : VR G μ H (.str b) v) : v = .str b := by
  unfold VR at h
  rw [DR] at h; exact h
theorem VR.non {G : Gx} {μ : Mu} {H : Hp} {v : V} (h : VR G μ H .non v) : v = .non := by
  unfold VR at h
  rw [DR] at h; exact h
theorem DR.i {K : PySem.W.Frag} {μ : Mu} {H : Hp} (i : Int) : DR K μ H (.int i) (.int i) := by rw [DR]
theorem DR.b {K : PySem.W.Frag} {μ : Mu} {H : Hp} (i : Bool) : DR K μ H (.bl i) (.bl i) := by rw [DR]
theorem DR.s {K : PySem.W.Frag} {μ : Mu} {H : Hp} (i : Str) : DR K μ H (.str i) (.str i) := by rw [DR]
theorem DR.n {K : PySem.W.Frag} {μ : Mu} {H : Hp} : DR K μ H .non .non := by rw [DR]
theorem VR.data {G : Gx} {μ : Mu} {H : Hp} {d : D} {v : V} (h : VR G μ H d v) : DR G.K μ H d v := h

/-! ### names, constants -/
def rVar (i : Nat) : Env' → Sto → R D := fun ρ S => match ρ.get i with
  | some d => .ok d S
  | none => .no
def rK (d : D) : Env' → Sto → R D := fun _ S => .ok d S
section
variable {X : Cx} {G : Gx} {W : WX} {pos : Pos}
theorem u_var {i : Nat} {x : Str} (h : PE X (.Name x pos) (tVar i)) : PE X (.Name x pos) (tI G W (rVar i)) := peImp h fun σ H Q ⟨μ, ρ, S, R, s, f⟩ => by
  unfold rVar at f
  split at f
  · rename_i d e
    unfold En.get at e
    obtain ⟨v, h1, h2⟩ := s.dat i d (by
      cases q : ρ.d[i]? with
      | none => rw [q] at e; cases e
      | some o => rw [q] at e; exact congrArg some e)
    exact ⟨v, h1, f.ok R h2⟩
  · exact f.elim
theorem u_k {e : Expr} {v : V} {d : D} (h : PE X e (tC v)) (q : ∀ μ H, DR G.K μ H d v) : PE X e (tI G W (rK d)) := peImp h fun σ H Q ⟨μ, ρ, S, R, s, f⟩ => Fin.ok f R (.of (q μ H))
end

/-! ### operations on two values, on one -/
def rOp2 (g : Sto → D → D → Option D) (ra rb : Env' → Sto → R D) : Env' → Sto → R D := fun ρ S => (ra ρ S).bind fun x S1 => (rb ρ S1).bind fun y S2 => ofO S2 (g S2 x y)
def rOp1 (g : Sto → D → Option D) (ra : Env' → Sto → R D) : Env' → Sto → R D := fun ρ S => (ra ρ S).bind fun x S1 => ofO S1 (g S1 x)
/-- where the result r is at hand the wish holds -/
def Got (G : Gx) (μ : Mu) (S : Sto) (H : Hp) (r : D) (Q : VK) : Prop := ∀ μ' H' v, Mo μ H μ' H' → Rl G μ' S H' → VR G μ' H' r v → Q v H'
def OpS (G : Gx) (X : Cx) (f : Value → Value → Sem Value) (g : Sto → D → D → Option D) : Prop :=
  ∀ (pins : List (Addr × Obj)) (s : Shared) (σ : L2.St) (H : Hp) (x y : V) (v u : Value) (Q : VK) (μ : Mu) (S : Sto) (d e r : D), Inv X pins σ H s → RelV x v → RelV y u → Rl G μ S H → VR G μ H d x → VR G μ H e y →
    g S d e = some r → Got G μ S H r Q → wpAny (model X.prog X.w) X.A (f v u) (EP X pins σ Q) X.xe s
def UnS (G : Gx) (X : Cx) (f : Value → Sem Value) (g : Sto → D → Option D) : Prop :=
  ∀ (pins : List (Addr × Obj)) (s : Shared) (σ : L2.St) (H : Hp) (x : V) (v : Value) (Q : VK) (μ : Mu) (S : Sto) (d r : D), Inv X pins σ H s → RelV x v → Rl G μ S H → VR G μ H d x →
    g S d = some r → Got G μ S H r Q → wpAny (model X.prog X.w) X.A (f v) (EP X pins σ Q) X.xe s
def cOp2 (G : Gx) (g : Sto → D → D → Option D) : R2 := fun x y H Q => ∃ μ S d e r, Rl G μ S H ∧ VR G μ H d x ∧ VR G μ H e y ∧ g S d e = some r ∧ Got G μ S H r Q
def cOp1 (G : Gx) (g : Sto → D → Option D) : V → Hp → VK → Prop := fun x H Q => ∃ μ S d r, Rl G μ S H ∧ VR G μ H d x ∧ g S d = some r ∧ Got G μ S H r Q
section
variable {X : Cx} {G : Gx} {W : WX} {pos : Pos} {f : Value → Value → Sem Value} {g : Sto → D → D → Option D} {f1 : Value → Sem Value} {g1 : Sto → D → Option D} {ra rb rc : Env' → Sto → R D}
theorem OpS.r (h : OpS G X f g) : OpR X f (cOp2 G g) := fun pins s σ H x y v u Q I r1 r2 ⟨μ, S, d, e, r, R, q1, q2, eq, q⟩ => h pins s σ H x y v u Q μ S d e r I r1 r2 R q1 q2 eq q
theorem UnS.r (h : UnS G X f1 g1) : UnR X f1 (cOp1 G g1) := fun pins s σ H x v Q I r1 ⟨μ, S, d, r, R, q1, eq, q⟩ => h pins s σ H x v Q μ S d r I r1 R q1 eq q
theorem got_of {μ : Mu} {S : Sto} {H : Hp} {o : Option D} {Q : VK} {E : XK} (h : Fin G μ H (ofO S o) Q E) : ∃ r, o = some r ∧ Got G μ S H r Q := by
  cases o with
  | none => exact h.elim
  | some r => exact ⟨r, rfl, h⟩
theorem tOp_of {σ : L2.St} {H : Hp} {Q : VK} (h : tI G W (rOp2 g ra rb) σ H Q) : tOp (cOp2 G g) (tI G W ra) (tI G W rb) σ H Q := by
  obtain ⟨μ, ρ, S, R, s, f⟩ := h
  refine ⟨μ, ρ, S, R, s, (Fin.bind f).mono fun x H1 ⟨μ1, d, S1, m, R1, q1, f1⟩ => ⟨μ1, ρ, S1, R1, s.mo m, (Fin.bind f1).mono fun y H2 ⟨μ2, e, S2, m2, R2, q2, f2⟩ => ?_⟩⟩
  obtain ⟨r, e1, q⟩ := got_of f2
  exact ⟨μ2, S2, d, e, r, R2, q1.mo m2, q2, e1, q⟩
theorem tUn_of {σ : L2.St} {H : Hp} {Q : VK} (h : tI G W (rOp1 g1 ra) σ H Q) : tUn (cOp1 G g1) (tI G W ra) σ H Q := by
  obtain ⟨μ, ρ, S, R, s, f⟩ := h
  refine ⟨μ, ρ, S, R, s, (Fin.bind f).mono fun x H1 ⟨μ1, d, S1, m, R1, q1, f1⟩ => ?_⟩
  obtain ⟨r, e1, q⟩ := got_of f1
  exact ⟨μ1, S1, d, r, R1, q1, e1, q⟩
theorem u_bin {a b : Expr} {op : Operator} (ho : OpS G X (binaryOp op) g) (ha : PE X a (tI G W ra)) (hb : PE X b (tI G W rb)) : PE X (.BinOp a op b pos) (tI G W (rOp2 g ra rb)) :=
  peImp (pe_op ho.r ha hb) fun σ H Q h => tOp_of h
theorem u_un {a : Expr} {op : UnaryOp} (ho : UnS G X (unaryOp op) g1) (ha : PE X a (tI G W ra)) : PE X (.UnaryOp op a pos) (tI G W (rOp1 g1 ra)) :=
  peImp (pe_un ho.r ha) fun σ H Q h => tUn_of h
theorem u_cmp {a b : Expr} {op : CmpOp} (ho : OpS G X (compareOp op) g) (ha : PE X a (tI G W ra)) (hb : PE X b (tI G W rb)) (hm : behindInMarks op b = false) : PE X (.Compare a [op] [b] pos) (tI G W (rOp2 g ra rb)) :=
  peImp (pe_cmpR ho.r ha hb hm) fun σ H Q h => tOp_of h
end
end Mt


set_option Elab.async false
set_option maxRecDepth 100000
set_option autoImplicit false
set_option linter.all false
/-! Operators: what they give on data, and that they do. -/
namespace Mt
open PySem PySem.Spec PyProof.Rows L2

theorem got_here {G : Gx} {μ : Mu} {S : Sto} {H : Hp} {r : D} {Q : VK} (g : Got G μ S H r Q) (R : Rl G μ S H) {v : V} (h : DR G.K μ H r v) : Q v H := g μ H v (Mo.refl μ H) R (.of h)
/-- a new tuple, a new list that nobody changes -/
theorem got_tup {G : Gx} {μ : Mu} {S : Sto} {H : Hp} {ds : List D} {xs : List V} {Q : VK} (g : Got G μ S H (.tup ds) Q) (R : Rl G μ S H) (h : DRs G.K μ H ds xs) {p : Addr} (hp : H p = none) : Q (.ref p) (upd H p (.tup xs)) :=
  g μ _ _ (Mo.new hp) (R.new hp) (.of (by rw [DR]; exact ⟨p, xs, rfl, .inl ⟨.inl upd_same, R.fresh hp⟩, DRs.mo (Mo.new hp) ds xs h⟩))
theorem got_lst {G : Gx} {μ : Mu} {S : Sto} {H : Hp} {ds : List D} {xs : List V} {Q : VK} (g : Got G μ S H (.lst ds) Q) (R : Rl G μ S H) (h : DRs G.K μ H ds xs) {p : Addr} (hp : H p = none) : Q (.ref p) (upd H p (.lst xs)) :=
  g μ _ _ (Mo.new hp) (R.new hp) (.of (by rw [DR]; exact ⟨p, xs, rfl, ⟨.inl upd_same, R.fresh hp⟩, DRs.mo (Mo.new hp) ds xs h⟩))

section
variable {G : Gx} {μ : Mu} {S : Sto} {H : Hp}
theorem DR.toTup {ds : List D} {v : V} (h : DR G.K μ H (.tup ds) v) : ∃ a xs, v = .ref a ∧ SqT G.K H a xs ∧ DRs G.K μ H ds xs := by
  rw [DR] at h
  obtain ⟨a, xs, e, t, r⟩ := h
  exact ⟨a, xs, e, t.sq, r⟩
/-- a list: one that nobody changes or one of the store -/
theorem asL_sq (R : Rl G μ S H) {d : D} {xs : List D} {v : V} (e : asL S d = some xs) (h : VR G μ H d v) : ∃ a vs, v = .ref a ∧ Rd H a (.lst vs) ∧ DRs G.K μ H xs vs := by
  cases d with
  | lst ds =>
    have e' : ds = xs := Option.some.inj e
    subst e'
    have h' := h.data
    rw [DR] at h'
    obtain ⟨a, xs, e, t, r⟩ := h'
    exact ⟨a, xs, e, t.1, r⟩
  | loc l =>
    have h' := h.data
    rw [DR] at h'
    obtain ⟨a, ea, hl⟩ := h'
    unfold asL at e
    dsimp only at e
    split at e
    · rename_i ys eo
      have e' : ys = xs := Option.some.inj e
      subst e'
      obtain ⟨vs, h1, h2⟩ := R.at_ l a _ hl eo
      exact ⟨a, vs, ea, .inl h1, h2⟩
    · cases e
  | _ => cases e
/-! ### as the library's data -/
mutual
theorem put_dp (f : Nat → D) (hf : ∀ l a, μ.l[l]? = some a → (f l).pure = true → Dp G.K H (.ref a) (f l).py) : ∀ (d : D) (v : V), DR G.K μ H d v → (d.put f).pure = true → Dp G.K H v (d.put f).py
  | .non, v, h, p => by rw [DR] at h; subst h; exact .non
  | .bl b, v, h, p => by rw [DR] at h; subst h; exact .bl b
  | .int b, v, h, p => by rw [DR] at h; subst h; exact .int b
  | .str b, v, h, p => by rw [DR] at h; subst h; exact .str b
  | .tup ds, v, h, p => by
    rw [DR] at h
    obtain ⟨a, xs, e, t, r⟩ := h
    subst e
    rw [D.put] at p ⊢
    rw [D.py]
    exact .tup t.sq (puts_dp f hf ds xs r (by simpa [D.pure] using p))
  | .lst ds, v, h, p => by
    rw [DR] at h
    obtain ⟨a, xs, e, t, r⟩ := h
    subst e
    rw [D.put] at p ⊢
    rw [D.py]
    exact .lst t.sq (puts_dp f hf ds xs r (by simpa [D.pure] using p))
  | .loc l, v, h, p => by
    rw [DR] at h
    obtain ⟨a, e, hl⟩ := h
    subst e
    rw [D.put] at p ⊢
    exact hf l a hl p
theorem puts_dp (f : Nat → D) (hf : ∀ l a, μ.l[l]? = some a → (f l).pure = true → Dp G.K H (.ref a) (f l).py) : ∀ (ds : List D) (xs : List V), DRs G.K μ H ds xs → D.pures (D.puts f ds) = true → DpAll G.K H xs (D.pys (D.puts f ds))
  | [], xs, h, p => by rw [DRs] at h; subst h; rw [D.puts, D.pys]; exact .nil
  | d :: ds, xs, h, p => by
    rw [DRs] at h
    obtain ⟨v, r, e, h1, h2⟩ := h
    subst e
    rw [D.puts] at p ⊢
    rw [D.pys]
    have p' : (d.put f).pure = true ∧ D.pures (D.puts f ds) = true := by simpa [D.pures] using p
    exact .cons (put_dp f hf d v h1 p'.1) (puts_dp f hf ds r h2 p'.2)
end
theorem deep_dp (R : Rl G μ S H) : ∀ (n l : Nat) (a : Addr), μ.l[l]? = some a → (deep S n l).pure = true → Dp G.K H (.ref a) (deep S n l).py
  | 0, l, a, hl, p => by simp [deep, D.pure] at p
  | n + 1, l, a, hl, p => by
    unfold deep at p ⊢
    split at p
    · rename_i xs e
      obtain ⟨vs, h1, h2⟩ := R.at_ l a _ hl e
      rw [D.py]
      exact .lst (.inl (.inl h1)) (puts_dp (deep S n) (fun l a h q => deep_dp R n l a h q) xs vs h2 (by simpa [D.pure] using p))
    · simp [D.pure] at p
theorem full_dp (R : Rl G μ S H) {d : D} {v : V} (h : DR G.K μ H d v) (p : (full S d).pure = true) : Dp G.K H v (full S d).py := put_dp _ (fun l a hl q => deep_dp R 8 l a hl q) d v h p
end
mutual
theorem py_plain : ∀ d : D, d.py.plain = true
  | .non => rfl
  | .bl _ => rfl
  | .int _ => rfl
  | .str _ => rfl
  | .tup xs => by rw [D.py, PyData.plain]; exact pys_plain xs
  | .lst xs => by rw [D.py, PyData.plain]; exact pys_plain xs
  | .loc _ => rfl
theorem pys_plain : ∀ ds : List D, PyData.plainAll (D.pys ds) = true
  | [] => rfl
  | d :: ds => by rw [D.pys, PyData.plainAll, py_plain d, pys_plain ds]; rfl
end
theorem VR.full {G : Gx} {μ : Mu} {S : Sto} {H : Hp} {d : D} {v : V} (h : VR G μ H d v) (_p : (full S d).pure = true) : DR G.K μ H d v := h

/-- two values as data, where == may be asked -/
def both (S : Sto) (d e : D) : Option (PyData × PyData) :=
  if (full S d).pure && (full S e).pure && decide (min (full S d).py.depth (full S e).py.depth ≤ 60) then some ((full S d).py, (full S e).py) else none
def dEq (S : Sto) (d e : D) : Option D := (both S d e).map fun p => .bl (PyData.eqv p.1 p.2)
def dNe (S : Sto) (d e : D) : Option D := (both S d e).map fun p => .bl (!PyData.eqv p.1 p.2)

section
variable {X : Cx} {G : Gx} (hK : G.K = X.K) (hu : X.A.units + 200 < cLine)
include hK hu
theorem both_reads {pins : List (Addr × Obj)} {s : Shared} {σ : L2.St} {H : Hp} {x y : V} {v u : Value} {μ : Mu} {S : Sto} {d e : D} {p : PyData × PyData} (I : Inv X pins σ H s) (r1 : RelV x v) (r2 : RelV y u) (R : Rl G μ S H) (q1 : VR G μ H d x) (q2 : VR G μ H e y)
    (h : both S d e = some p) : (∃ as, Reads s.heap v p.1 as) ∧ (∃ as, Reads s.heap u p.2 as) ∧ p.1.plain = true ∧ p.2.plain = true ∧ X.A.units + min p.1.depth p.2.depth < cLine := by
  unfold both at h
  split at h
  · rename_i c
    simp only [Bool.and_eq_true, decide_eq_true_eq] at c
    cases h
    have a1 := full_dp R (q1.full c.1.1) c.1.1
    have a2 := full_dp R (q2.full c.1.2) c.1.2
    rw [hK] at a1 a2
    exact ⟨Dp.reads I _ _ _ a1 r1, Dp.reads I _ _ _ a2 r2, py_plain _, py_plain _, by show _ + min (full S d).py.depth (full S e).py.depth < _; omega⟩
  · cases h
theorem s_eq : OpS G X (compareOp .Eq) dEq := by
  intro pins s σ H x y v u Q μ S d e r I r1 r2 R q1 q2 h g
  unfold dEq at h
  obtain ⟨p, hp, rfl⟩ := Option.map_eq_some_iff.mp h
  obtain ⟨⟨as, a1⟩, ⟨bs, a2⟩, p1, p2, hd⟩ := both_reads hK hu I r1 r2 R q1 q2 hp
  exact SeqAt.eq_plain a1 a2 p1 p2 hd ⟨.bl _, H, I, rfl, got_here g R (.b _)⟩
theorem s_ne : OpS G X (compareOp .NotEq) dNe := by
  intro pins s σ H x y v u Q μ S d e r I r1 r2 R q1 q2 h g
  unfold dNe at h
  obtain ⟨p, hp, rfl⟩ := Option.map_eq_some_iff.mp h
  obtain ⟨⟨as, a1⟩, ⟨bs, a2⟩, p1, p2, hd⟩ := both_reads hK hu I r1 r2 R q1 q2 hp
  exact SeqAt.ne_plain a1 a2 p1 p2 hd ⟨.bl _, H, I, rfl, got_here g R (.b _)⟩
end
end Mt


set_option Elab.async false
set_option maxRecDepth 100000
set_option autoImplicit false
set_option linter.all false
/-! More operators: sums, products, order, in, places, cuts. -/
namespace Mt
open PySem PySem.Spec PyProof.Rows L2

/-! ### new lists: kept as they are, or as an object of the store -/
def GotL (G : Gx) (μ : Mu) (H : Hp) (ds : List D) (Q : VK) : Prop := ∀ xs p, DRs G.K μ H ds xs → H p = none → Q (.ref p) (upd H p (.lst xs))
/-- the value is a new object of the store -/
def GotN (G : Gx) (μ : Mu) (S : Sto) (H : Hp) (ob : Ob) (Q : VK) : Prop := ∀ μ' H' v, Mo μ H μ' H' → Rl G μ' (S ++ [ob]) H' → VR G μ' H' (.loc S.length) v → Q v H'
theorem gotL_keep {G : Gx} {μ : Mu} {S : Sto} {H : Hp} {ds : List D} {Q : VK} (g : Got G μ S H (.lst ds) Q) (R : Rl G μ S H) : GotL G μ H ds Q := fun xs p h hp => got_lst g R h hp
theorem vr_new {G : Gx} {μ : Mu} {S : Sto} {H H' : Hp} (R : Rl G μ S H) (p : Addr) : VR G (μ.add p) H' (.loc S.length) (.ref p) := .of (by
  rw [DR]
  exact ⟨p, rfl, by rw [← R.len]; show (μ.l ++ [p])[μ.l.length]? = some p; rw [List.getElem?_append_right (Nat.le_refl _), Nat.sub_self]; rfl⟩)
theorem gotL_new {G : Gx} {μ : Mu} {S : Sto} {H : Hp} {ds : List D} {Q : VK} (g : GotN G μ S H (.lst ds) Q) (R : Rl G μ S H) : GotL G μ H ds Q := fun xs p h hp =>
  g (μ.add p) _ _ (Mo.add hp) (R.add hp ⟨xs, upd_same, DRs.mo (Mo.add hp) ds xs h⟩) (vr_new R p)
def OpL (G : Gx) (X : Cx) (f : Value → Value → Sem Value) (g : Sto → D → D → Option (List D)) : Prop :=
  ∀ (pins : List (Addr × Obj)) (s : Shared) (σ : L2.St) (H : Hp) (x y : V) (v u : Value) (Q : VK) (μ : Mu) (S : Sto) (d e : D) (r : List D), Inv X pins σ H s → RelV x v → RelV y u → Rl G μ S H → VR G μ H d x → VR G μ H e y →
    g S d e = some r → GotL G μ H r Q → wpAny (model X.prog X.w) X.A (f v u) (EP X pins σ Q) X.xe s
theorem OpL.keep {G : Gx} {X : Cx} {f : Value → Value → Sem Value} {g : Sto → D → D → Option (List D)} (h : OpL G X f g) : OpS G X f (fun S d e => (g S d e).map .lst) := by
  intro pins s σ H x y v u Q μ S d e r I r1 r2 R q1 q2 hg k
  obtain ⟨ds, e1, rfl⟩ := Option.map_eq_some_iff.mp hg
  exact h pins s σ H x y v u Q μ S d e ds I r1 r2 R q1 q2 e1 (gotL_keep k R)
theorem OpS.or {G : Gx} {X : Cx} {f : Value → Value → Sem Value} {g1 g2 : Sto → D → D → Option D} (h1 : OpS G X f g1) (h2 : OpS G X f g2) : OpS G X f (fun S d e => (g1 S d e).or (g2 S d e)) := by
  intro pins s σ H x y v u Q μ S d e r I r1 r2 R q1 q2 hg k
  rcases Option.or_eq_some_iff.mp hg with a | ⟨_, a⟩
  · exact h1 pins s σ H x y v u Q μ S d e r I r1 r2 R q1 q2 a k
  · exact h2 pins s σ H x y v u Q μ S d e r I r1 r2 R q1 q2 a k

/-! ### onInts -/
def onInts (g : Int → Int → Option D) : Sto → D → D → Option D := fun _ d e => match d, e with
  | .int i, .int j => g i j
  | _, _ => none
theorem onInts_inv {g : Int → Int → Option D} {S : Sto} {d e r : D} (h : onInts g S d e = some r) : ∃ i j, d = .int i ∧ e = .int j ∧ g i j = some r := by
  unfold onInts at h
  split at h
  · exact ⟨_, _, rfl, rfl, h⟩
  · cases h
theorem s_ints {G : Gx} {X : Cx} {f : Value → Value → Sem Value} {r2 : R2} (o : OpR X f r2) {g : Int → Int → Option D} (k : ∀ (i j : Int) (r : D) (H : Hp) (Q : VK), g i j = some r → (∀ v, (∀ K μ, DR K μ H r v) → Q v H) → r2 (.int i) (.int j) H Q) : OpS G X f (onInts g) := by
  intro pins s σ H x y v u Q μ S d e r I rx ry R q1 q2 hg got
  obtain ⟨i, j, rfl, rfl, e1⟩ := onInts_inv hg
  exact o pins s σ H x y v u Q I rx ry (by rw [q1.int, q2.int]; exact k i j r H Q e1 fun v hv => got_here got R (hv _ _))
def dSub := onInts fun i j => some (.int (i - j))
def dMulI := onInts fun i j => if (decide (-(2 ^ 64) < i) && decide (i < 2 ^ 64)) || (decide (-(2 ^ 64) < j) && decide (j < 2 ^ 64)) then some (.int (i * j)) else none
def dFdiv := onInts fun i j => if 0 < j ∧ j < 1073741824 then some (.int (i / j)) else none
def dMod := onInts fun i j => if 0 < j then some (.int (i % j)) else none
def dPow := onInts fun i j => if 0 ≤ j ∧ j ≤ 100 ∧ i.natAbs < 100 then some (.int (i ^ j.toNat)) else none
section
variable {G : Gx} {X : Cx}
theorem s_sub : OpS G X (binaryOp .Sub) dSub := s_ints op_sub fun i j r H Q e k => by cases e; exact ⟨i, j, rfl, rfl, k _ fun _ _ => .i _⟩
theorem s_mulI : OpS G X (binaryOp .Mult) dMulI := s_ints op_mul fun i j r H Q e k => by

  split at e
  · rename_i c
    cases e
    refine ⟨i, j, rfl, rfl, ?_, k _ fun _ _ => .i _⟩
    simp only [Bool.or_eq_true, Bool.and_eq_true, decide_eq_true_eq] at c
    exact c
  · cases e
theorem s_fdiv : OpS G X (binaryOp .FloorDiv) dFdiv := s_ints op_fdiv fun i j r H Q e k => by

  split at e
  · rename_i c
    cases e
    exact ⟨i, j, rfl, rfl, c, k _ fun _ _ => .i _⟩
  · cases e
theorem s_mod : OpS G X (binaryOp .Mod) dMod := s_ints op_mod fun i j r H Q e k => by

  split at e
  · rename_i c
    cases e
    exact ⟨i, j, rfl, rfl, c, k _ fun _ _ => .i _⟩
  · cases e
theorem s_pow : OpS G X (binaryOp .Pow) dPow := s_ints op_pow fun i j r H Q e k => by

  split at e
  · rename_i c
    cases e
    exact ⟨i, j, rfl, rfl, ⟨c.1, by have := c.2.1; omega, Nat.lt_of_lt_of_le c.2.2 (by decide)⟩, k _ fun _ _ => .i _⟩
  · cases e
end

/-! ### order -/
def dOrd (pi : Int → Int → Bool) (ps : List Nat → List Nat → Bool) : Sto → D → D → Option D := fun _ d e => match d, e with
  | .int i, .int j => some (.bl (pi i j))
  | .str a, .str b => some (.bl (ps a.cps.toList b.cps.toList))
  | _, _ => none
theorem s_ord {G : Gx} {X : Cx} {f : Value → Value → Sem Value} {pi : Int → Int → Bool} {ps : List Nat → List Nat → Bool} (o1 : OpR X f (rI0 fun i j => .bl (pi i j)))
    (o2 : OpR X f (fun x y H Q => ∃ i j, x = .str i ∧ y = .str j ∧ Q (.bl (ps i.cps.toList j.cps.toList)) H)) : OpS G X f (dOrd pi ps) := by
  intro pins s σ H x y v u Q μ S d e r I rx ry R q1 q2 hg got
  unfold dOrd at hg
  split at hg
  · cases hg
    exact o1 pins s σ H x y v u Q I rx ry ⟨_, _, q1.int, q2.int, got_here got R (.b _)⟩
  · cases hg
    exact o2 pins s σ H x y v u Q I rx ry ⟨_, _, q1.str, q2.str, got_here got R (.b _)⟩
  · cases hg
def dLt := dOrd (fun i j => decide (i < j)) (fun a b => decide (a < b))
def dLe := dOrd (fun i j => decide (i ≤ j)) (fun a b => !decide (b < a))
def dGt := dOrd (fun i j => decide (j < i)) (fun a b => decide (b < a))
def dGe := dOrd (fun i j => decide (j ≤ i)) (fun a b => !decide (a < b))
section
variable {G : Gx} {X : Cx}
theorem s_lt : OpS G X (compareOp .Lt) dLt := s_ord op_lt op_lt_str
theorem s_le : OpS G X (compareOp .LtE) dLe := s_ord op_le op_le_str
theorem s_gt : OpS G X (compareOp .Gt) dGt := s_ord op_gt op_gt_str
theorem s_ge : OpS G X (compareOp .GtE) dGe := s_ord op_ge op_ge_str
end
/-! ### is None -/
def isNon : D → Bool
  | .non => true
  | _ => false
def dIs : Sto → D → D → Option D := fun _ d e => match e with
  | .non => some (.bl (isNon d))
  | _ => none
def dIsNot : Sto → D → D → Option D := fun _ d e => match e with
  | .non => some (.bl (!isNon d))
  | _ => none
theorem VR.isNon {G : Gx} {μ : Mu} {H : Hp} {d : D} {v : V} (h : VR G μ H d v) : decide (v = .non) = isNon d := by
  unfold VR at h
  cases d with
  | tup ds => rw [DR] at h; obtain ⟨a, xs, e, _⟩ := h; subst e; rfl
  | lst ds => rw [DR] at h; obtain ⟨a, xs, e, _⟩ := h; subst e; rfl
  | loc l => rw [DR] at h; obtain ⟨a, e, _⟩ := h; subst e; rfl
  | non => rw [DR] at h; subst h; rfl
  | bl b => rw [DR] at h; subst h; rfl
  | int i => rw [DR] at h; subst h; rfl
  | str x => rw [DR] at h; subst h; rfl
section
variable {G : Gx} {X : Cx}
theorem s_is : OpS G X (compareOp .Is) dIs := by
  intro pins s σ H x y v u Q μ S d e r I rx ry R q1 q2 hg got
  unfold dIs at hg
  split at hg
  · cases hg
    exact op_isN pins s σ H x y v u Q I rx ry ⟨q2.non, by rw [q1.isNon]; exact got_here got R (.b _)⟩
  · cases hg
theorem s_isNot : OpS G X (compareOp .IsNot) dIsNot := by
  intro pins s σ H x y v u Q μ S d e r I rx ry R q1 q2 hg got
  unfold dIsNot at hg
  split at hg
  · cases hg
    exact op_notN pins s σ H x y v u Q I rx ry ⟨q2.non, by rw [q1.isNon]; exact got_here got R (.b _)⟩
  · cases hg
end

/-! ### + -/
def big : Nat := 1000000
theorem big_le {n : Nat} (h : n ≤ big) : n ≤ sizeLine := Nat.le_trans h (by decide)
def dAddV : Sto → D → D → Option D := fun _ d e => match d, e with
  | .int i, .int j => some (.int (i + j))
  | .str a, .str b => if a.length + b.length ≤ big then some (.str (a ++ b)) else none
  | .tup a, .tup b => if a.length + b.length ≤ big then some (.tup (a ++ b)) else none
  | _, _ => none
def dAddL : Sto → D → D → Option (List D) := fun S d e => match asL S d, asL S e with
  | some a, some b => if a.length + b.length ≤ big then some (a ++ b) else none
  | _, _ => none
def dAdd : Sto → D → D → Option D := fun S d e => (dAddV S d e).or ((dAddL S d e).map .lst)
/-- the list's object, wherever it is tracked -/
theorem lstObj {X : Cx} {pins : List (Addr × Obj)} {σ : L2.St} {H : Hp} {s : Shared} {a : Addr} {xs : List V} (I : Inv X pins σ H s) (h : Rd H a (.lst xs)) : xs.length ≤ sizeLine ∧ ∃ (its : List Value) (n : Nat), Vals xs its ∧ s.heap.get? a = some { cls := .type "list", data := .seq its.toArray n } := h.ok I.hok
section
variable {G : Gx} {X : Cx}
theorem s_addV (hK : G.K = X.K) : OpS G X (binaryOp .Add) dAddV := by
  intro pins s σ H x y v u Q μ S d e r I rx ry R q1 q2 hg got
  unfold dAddV at hg
  split at hg
  · cases hg
    exact op_add pins s σ H x y v u Q I rx ry ⟨_, _, q1.int, q2.int, got_here got R (.i _)⟩
  · split at hg
    · rename_i c
      cases hg
      exact op_add_str pins s σ H x y v u Q I rx ry ⟨_, _, q1.str, q2.str, big_le c, got_here got R (.s _)⟩
    · cases hg
  · split at hg
    · rename_i a b c
      cases hg
      have d1 := q1.data
      have d2 := q2.data
      obtain ⟨p, xs, e1, h1, k1⟩ := DR.toTup d1
      obtain ⟨q, ys, e2, h2, k2⟩ := DR.toTup d2
      subst e1 e2
      have l1 := k1.length
      have l2 := k2.length
      rw [hK] at h1 h2
      refine op_catA pins s σ H _ _ v u Q I rx ry ⟨p, q, xs, ys, rfl, rfl, h1, h2, big_le (by rw [← l1, ← l2]; exact c), fun z => ?_, fun _ z => ?_, fun _ _ r hr => got_tup got R (k1.append k2) hr⟩
      · subst z
        have ea : a = [] := List.eq_nil_of_length_eq_zero (by rw [l1]; rfl)
        subst ea
        exact got_here got R d2
      · subst z
        have eb : b = [] := List.eq_nil_of_length_eq_zero (by rw [l2]; rfl)
        subst eb
        rw [List.append_nil] at got
        exact got_here got R d1
    · cases hg
  · cases hg
theorem s_addL : OpL G X (binaryOp .Add) dAddL := by
  intro pins s σ H x y v u Q μ S d e r I rx ry R q1 q2 hg got
  unfold dAddL at hg
  split at hg
  · rename_i a b ea eb
    split at hg
    · rename_i c
      cases hg
      obtain ⟨p, xs, e1, h1, k1⟩ := asL_sq R ea q1
      obtain ⟨q, ys, e2, h2, k2⟩ := asL_sq R eb q2
      subst e1 e2
      cases rx
      cases ry
      obtain ⟨z, its, n, rv, ho⟩ := lstObj I h1
      obtain ⟨z2, its2, n2, rv2, ho2⟩ := lstObj I h2
      have l1 := k1.length
      have l2 := k2.length
      have v1 := rv.length
      have v2 := rv2.length
      refine PySem.P.add_list ho ho2 ?_ (by rw [List.size_toArray, List.size_toArray]; exact big_le (by omega))
      have ej : its.toArray ++ its2.toArray = (its ++ its2).toArray := by simp
      rw [ej]
      have hf : H s.heap.objs.size = none := I.hok.fresh (Nat.le_refl _)
      refine ⟨.ref s.heap.objs.size, upd H s.heap.objs.size (.lst (xs ++ ys)), I.laid (t' := s.toks) (fun b u e => Heap.get?_push_of_some _ e) (Nat.le_refl _) ?_, rfl, got _ _ (k1.append k2) hf⟩
      exact ⟨by rw [List.length_append, ← l1, ← l2]; exact big_le c, its ++ its2, 0, rv.append rv2, Heap.get?_push_size _ rfl⟩
    · cases hg
  · cases hg
theorem s_add (hK : G.K = X.K) : OpS G X (binaryOp .Add) dAdd := (s_addV hK).or s_addL.keep
end
end Mt


set_option Elab.async false
set_option maxRecDepth 100000
set_option autoImplicit false
set_option linter.all false
/-! in, places, cuts, products of tuples. -/
namespace Mt
open PySem PySem.Spec PyProof.Rows L2

/-! ### dicts of the store -/
def keyOf : D → Option Key
  | .int i => some (.inl i)
  | .str x => some (.inr x)
  | _ => none
theorem keyOf_some {d : D} {k : Key} (h : keyOf d = some k) : d = keyD k := by
  cases d <;> simp [keyOf] at h <;> subst h <;> rfl
theorem keyD_inj {k j : Key} (h : keyD k = keyD j) : k = j := by
  cases k <;> cases j <;> simp [keyD] at h <;> rw [h]
theorem keyOf_keyD (k : Key) : keyOf (keyD k) = some k := by cases k <;> rfl
def dfind (kvs : List (D × D)) (d : D) : Option D := (kvs.find? fun p => decide (p.1 = d)).map (·.2)
def asD (S : Sto) : D → Option (List (D × D))
  | .loc l => match S[l]? with
    | some (.dic kvs) => some kvs
    | some (.dicL kvs) => some kvs
    | _ => none
  | _ => none
theorem krs_find {K : PySem.W.Frag} {μ : Mu} {H : Hp} {k : Key} : ∀ {kvs : List (D × D)} {ks : List (Key × V)}, KRs K μ H kvs ks →
    (dfind kvs (keyD k) = none ∧ valV ks k = none) ∨ ∃ d v, dfind kvs (keyD k) = some d ∧ valV ks k = some v ∧ DR K μ H d v
  | [], _, .nil => .inl ⟨rfl, rfl⟩
  | (a, b) :: r, (j, v) :: q, .cons ⟨e, h⟩ t => by
    have e' : a = keyD j := e
    subst e'
    unfold dfind valV
    rw [List.find?_cons, List.find?_cons]
    by_cases c : j = k
    · subst c
      right
      exact ⟨b, v, by simp, by simp, h⟩
    · have c' : ¬ keyD j = keyD k := fun z => c (keyD_inj z)
      simp only [decide_eq_false c, decide_eq_false c']
      exact krs_find t
theorem asD_inv {S : Sto} {d : D} {kvs : List (D × D)} (h : asD S d = some kvs) : ∃ l, d = .loc l ∧ (S[l]? = some (.dic kvs) ∨ S[l]? = some (.dicL kvs)) := by
  unfold asD at h
  split at h
  · split at h
    · rename_i l _ q e
      cases h
      exact ⟨_, rfl, .inl e⟩
    · rename_i l _ q e
      cases h
      exact ⟨_, rfl, .inr e⟩
    · cases h
  · cases h
theorem asD_at {G : Gx} {μ : Mu} {S : Sto} {H : Hp} (R : Rl G μ S H) {d : D} {kvs : List (D × D)} {v : V} (h : asD S d = some kvs) (q : VR G μ H d v) :
    ∃ l a ks, d = .loc l ∧ v = .ref a ∧ μ.l[l]? = some a ∧ Rd H a (.dK ks) ∧ KRs G.K μ H kvs ks := by
  obtain ⟨l, rfl, e⟩ := asD_inv h
  have q' := q.data
  rw [DR] at q'
  obtain ⟨a, rfl, hl⟩ := q'
  rcases e with e | e
  · obtain ⟨ks, h1, h2⟩ := R.at_ l a _ hl e
    exact ⟨l, a, ks, rfl, rfl, hl, .inl h1, h2⟩
  · obtain ⟨od, ks, h1, h2⟩ := R.at_ l a _ hl e
    exact ⟨l, a, ks, rfl, rfl, hl, .inr ⟨od, h1⟩, h2⟩
/-- the dict of the store at d, where it is not walked -/
def locD (S : Sto) : D → Option (Nat × List (D × D))
  | .loc l => match S[l]? with
    | some (.dic xs) => some (l, xs)
    | _ => none
  | _ => none
theorem locD_at {G : Gx} {μ : Mu} {S : Sto} {H : Hp} (R : Rl G μ S H) {d : D} {v : V} {l : Nat} {xs : List (D × D)} (e : locD S d = some (l, xs)) (q : DR G.K μ H d v) : ∃ a vs, v = .ref a ∧ μ.l[l]? = some a ∧ H a = some (.dK vs) ∧ KRs G.K μ H xs vs := by
  unfold locD at e
  split at e
  · split at e
    · rename_i l' ys es
      cases e
      rw [DR] at q
      obtain ⟨a, ea, hl⟩ := q
      obtain ⟨vs, h1, h2⟩ := R.at_ l a _ hl es
      exact ⟨a, vs, ea, hl, h1, h2⟩
    · cases e
  · cases e
theorem VR.key {G : Gx} {μ : Mu} {H : Hp} {d : D} {v : V} {k : Key} (h : keyOf d = some k) (q : VR G μ H d v) : v = kV k := by
  have e := keyOf_some h
  subst e
  cases k with
  | inl i => exact VR.int q
  | inr x => exact VR.str q

/-! ### in -/
def inSeq (S : Sto) (d : D) (xs : List D) : Option Bool :=
  if (full S d).pure && D.pures (xs.map (full S)) && decide (min (PyData.depthAll (D.pys (xs.map (full S)))) (full S d).py.depth ≤ 60) then some ((D.pys (xs.map (full S))).any fun y => PyData.eqv y (full S d).py) else none
def inB (S : Sto) (d e : D) : Option Bool :=
  match e with
  | .str z => match d with
    | .str c => if c.length = 1 then some (decide (c.cps.getD 0 0 ∈ z.cps.toList)) else none
    | _ => none
  | .tup xs => inSeq S d xs
  | e => match asL S e with
    | some xs => inSeq S d xs
    | none => match asD S e, keyOf d with
      | some kvs, some _ => some (dfind kvs d).isSome
      | _, _ => none
def dIn (S : Sto) (d e : D) : Option D := (inB S d e).map .bl
def dNotIn (S : Sto) (d e : D) : Option D := (inB S d e).map fun b => .bl (!b)
theorem fulls_dp {G : Gx} {μ : Mu} {S : Sto} {H : Hp} (R : Rl G μ S H) : ∀ (ds : List D) (xs : List V), DRs G.K μ H ds xs → D.pures (ds.map (full S)) = true → DpAll G.K H xs (D.pys (ds.map (full S)))
  | [], xs, h, p => by rw [DRs] at h; subst h; exact .nil
  | d :: ds, xs, h, p => by
    rw [DRs] at h
    obtain ⟨v, r, e, h1, h2⟩ := h
    subst e
    rw [List.map_cons] at p ⊢
    rw [D.pys]
    have p' : (full S d).pure = true ∧ D.pures (ds.map (full S)) = true := by simpa [D.pures] using p
    exact .cons (full_dp R h1 p'.1) (fulls_dp R ds r h2 p'.2)
theorem one_sign {c : Str} (h : c.length = 1) : c = ⟨#[c.cps.getD 0 0]⟩ := by
  obtain ⟨⟨l⟩⟩ := c
  have h' : l.length = 1 := h
  match l, h' with
  | [a], _ => rfl
section
variable {X : Cx} {G : Gx} (hK : G.K = X.K) (hu : X.A.units + 200 < cLine)
include hK hu
theorem s_inB {neg : Bool} {op : CmpOp} (hop : op = if neg then .NotIn else .In) : OpS G X (compareOp op) (fun S d e => (inB S d e).map fun b => .bl (if neg then !b else b)) := by
  intro pins s σ H x y v u Q μ S d e r I rx ry R q1 q2 hg got
  obtain ⟨b, hb, rfl⟩ := Option.map_eq_some_iff.mp hg
  have fin : EP X pins σ Q (.bool (if neg then !b else b)) s := ⟨.bl _, H, I, rfl, got_here got R (.b _)⟩
  have seq : ∀ {xs : List D} {a : Addr} {vs : List V}, v = v → inSeq S d xs = some b → y = .ref a → (SqT G.K H a vs ∨ SqL G.K H a vs) → DRs G.K μ H xs vs → wpAny (model X.prog X.w) X.A (compareOp op v u) (EP X pins σ Q) X.xe s := by
    intro xs a vs _ hi ey hq hd
    subst ey
    unfold inSeq at hi
    split at hi
    · rename_i c
      simp only [Bool.and_eq_true, decide_eq_true_eq] at c
      cases hi
      have a1 := full_dp R (q1.full c.1.1) c.1.1
      have a2 := fulls_dp R xs vs hd c.1.2
      rw [hK] at a1 a2 hq
      obtain ⟨as, r1⟩ := Dp.reads I _ _ _ a1 rx
      rcases hq with hq | hq
      · obtain ⟨bs, r2⟩ := Dp.reads I _ _ _ (Dp.tup hq a2) ry
        cases neg with
        | false => subst hop; exact SeqAt.in_tuple_data r2 r1 (pys_plain _) (py_plain _) (by omega) fin
        | true => subst hop; exact SeqAt.notIn_tuple_data r2 r1 (pys_plain _) (py_plain _) (by omega) fin
      · obtain ⟨bs, r2⟩ := Dp.reads I _ _ _ (Dp.lst hq a2) ry
        cases neg with
        | false => subst hop; exact SeqAt.in_list_data r2 r1 (pys_plain _) (py_plain _) (by omega) fin
        | true => subst hop; exact SeqAt.notIn_list_data r2 r1 (pys_plain _) (py_plain _) (by omega) fin
    · cases hi
  unfold inB at hb
  split at hb
  · split at hb
    · split at hb
      · rename_i z c hc
        cases hb
        have e1 := q1.str
        have e2 := q2.str
        rw [one_sign hc] at e1
        subst e1 e2
        cases neg with
        | false => subst hop; exact op_in_sign pins s σ H _ _ v u Q I rx ry ⟨_, _, rfl, rfl, got_here got R (.b _)⟩
        | true => subst hop; exact op_notIn_sign pins s σ H _ _ v u Q I rx ry ⟨_, _, rfl, rfl, got_here got R (.b _)⟩
      · cases hb
    · cases hb
  · have d2 := q2.data
    obtain ⟨a, vs, ea, h1, h2⟩ := DR.toTup d2
    exact seq rfl hb ea (.inl h1) h2
  · split at hb
    · rename_i xs hl
      obtain ⟨a, vs, ea, h1, h2⟩ := asL_sq R hl q2
      exact seq rfl hb ea (.inr (.inl h1)) h2
    · split at hb
      · rename_i kvs k hd hk
        cases hb
        obtain ⟨l, a, ks, rfl, rfl, hl, h1, h2⟩ := asD_at R hd q2
        have ex := q1.key hk
        have ed := keyOf_some hk
        subst ex ed
        obtain rfl : u = Value.ref a := ry
        have key : (valV ks k).isSome = (dfind kvs (keyD k)).isSome := by
          rcases krs_find h2 with ⟨a, b⟩ | ⟨d, v, a, b, _⟩ <;> rw [a, b] <;> rfl
        cases neg with
        | false =>
          subst hop
          refine d_in (by omega) I (.inl ⟨_, k, h1, rfl, rfl⟩) rx fun s' I' => ⟨.bl _, H, I', rfl, ?_⟩
          rw [key]; exact got_here got R (.b _)
        | true =>
          subst hop
          refine d_notIn (by omega) I (.inl ⟨_, k, h1, rfl, rfl⟩) rx fun s' I' => ⟨.bl _, H, I', rfl, ?_⟩
          rw [key]; exact got_here got R (.b _)
      · cases hb
theorem s_in : OpS G X (compareOp .In) dIn := s_inB hK hu (neg := false) rfl
theorem s_notIn : OpS G X (compareOp .NotIn) dNotIn := s_inB hK hu (neg := true) rfl
end

/-! ### places -/
def IxS (G : Gx) (X : Cx) (g : Sto → D → D → Option D) : Prop :=
  ∀ (value slice : Expr) (pins : List (Addr × Obj)) (s : Shared) (σ : L2.St) (H : Hp) (x y : V) (v u : Value) (Q : VK) (μ : Mu) (S : Sto) (d e r : D), Inv X pins σ H s → RelV x v → RelV y u → Rl G μ S H → VR G μ H d x → VR G μ H e y →
    g S d e = some r → Got G μ S H r Q → subscripted slice false v u = operate [v, u] (getItem v u) → wpAny (model X.prog X.w) X.A (subscriptTail value slice v u) (EP X pins σ Q) X.xe s
theorem IxS.r {G : Gx} {X : Cx} {g : Sto → D → D → Option D} (h : IxS G X g) : IxR X (cOp2 G g) := fun value slice pins s σ H x y v u Q I r1 r2 ⟨μ, S, d, e, r, R, q1, q2, eq, q⟩ hs => h value slice pins s σ H x y v u Q μ S d e r I r1 r2 R q1 q2 eq q hs
theorem u_ix {X : Cx} {G : Gx} {W : WX} {pos : Pos} {g : Sto → D → D → Option D} {ra rb : Env' → Sto → R D} {a b : Expr} (ho : IxS G X g) (ha : PE X a (tI G W ra)) (hb : PE X b (tI G W rb)) (hs : PlainIx b) : PE X (.Subscript a b pos) (tI G W (rOp2 g ra rb)) :=
  peImp (pe_ix ho.r ha hb hs) fun σ H Q h => tOp_of h
def dIx (S : Sto) (d e : D) : Option D :=
  match d, e with
  | .tup xs, .int i => atI xs i
  | d, e => match asL S d, e with
    | some xs, .int i => atI xs i
    | _, _ => match asD S d, keyOf e with
      | some kvs, some _ => dfind kvs e
      | _, _ => none
theorem atI_rel {K : PySem.W.Frag} {μ : Mu} {H : Hp} {ds : List D} {xs : List V} {i : Int} {d : D} (h : DRs K μ H ds xs) (e : atI ds i = some d) : ∃ v, atI xs i = some v ∧ DR K μ H d v := by
  unfold atI at e ⊢
  rw [← h.length]
  cases q : ixN ds.length i with
  | none => rw [q] at e; cases e
  | some j =>
    rw [q] at e
    exact h.get e
theorem s_ix {X : Cx} {G : Gx} (hK : G.K = X.K) (hu : X.A.units + 200 < cLine) : IxS G X dIx := by
  intro value slice pins s σ H x y v u Q μ S d e r I rx ry R q1 q2 hg got hs
  unfold dIx at hg
  split at hg
  · rename_i xs i
    have d1 := q1.data
    obtain ⟨a, vs, ea, h1, h2⟩ := DR.toTup d1
    obtain ⟨w, hw, rw'⟩ := atI_rel h2 hg
    rw [hK] at h1
    exact ix_tup value slice pins s σ H x y v u Q I rx ry ⟨a, vs, i, w, ea, q2.int, h1, hw, got_here got R rw'⟩ hs
  · split at hg
    · rename_i _ i hl _
      obtain ⟨a, vs, ea, h1, h2⟩ := asL_sq R hl q1
      obtain ⟨w, hw, rw'⟩ := atI_rel h2 hg
      exact ix_list value slice pins s σ H x y v u Q I rx ry ⟨a, vs, i, w, ea, q2.int, .inl h1, hw, got_here got R rw'⟩ hs
    · split at hg
      · rename_i kvs k hd hk
        obtain ⟨l, a, ks, rfl, rfl, hl, h1, h2⟩ := asD_at R hd q1
        have ex := q2.key hk
        have ed := keyOf_some hk
        subst ex ed
        obtain rfl : v = Value.ref a := rx
        rcases krs_find (k := k) h2 with ⟨a1, _⟩ | ⟨d', w, a1, b1, rw'⟩
        · rw [a1] at hg; cases hg
        · rw [a1] at hg
          cases hg
          have g0 : DGet H a (kV k) (some w) := by rw [← b1]; exact .inl ⟨_, _, h1, rfl, rfl⟩
          exact tail_any (dict_typeIs I g0) PySem.F.slot_dict_getitem.lookup (d_getItem (by omega) I g0 ry fun w' s3 I3 rw2 => ⟨w, H, I3, rw2, got_here got R rw'⟩) hs
      · cases hg

/-! ### cuts -/
def cutD {α : Type} (xs : List α) (lo hi : Option Int) : List α := (xs.drop (HT.sIx xs.length 0 lo)).take (HT.sIx xs.length xs.length hi - HT.sIx xs.length 0 lo)
def dCut (S : Sto) (d : D) (lo hi : Option Int) : Option D :=
  match d with
  | .str x => if x.length ≤ big then some (.str (cutS x lo hi)) else none
  | .tup xs => some (.tup (cutD xs lo hi))
  | _ => none
def dCutL (S : Sto) (d : D) (lo hi : Option Int) : Option (List D) := (asL S d).map fun xs => cutD xs lo hi
theorem cut_rel {K : PySem.W.Frag} {μ : Mu} {H : Hp} {ds : List D} {xs : List V} (h : DRs K μ H ds xs) (lo hi : Option Int) : DRs K μ H (cutD ds lo hi) (cutV xs lo hi) := by
  unfold cutD cutV
  rw [← h.length]
  exact (h.drop _).take _
theorem cut_all {α : Type} {xs : List α} {lo hi : Option Int} (h1 : HT.sIx xs.length 0 lo = 0) (h2 : HT.sIx xs.length xs.length hi = xs.length) : cutD xs lo hi = xs := by
  unfold cutD
  rw [h1, h2, List.drop_zero, Nat.sub_zero, List.take_length]
def SlS (G : Gx) (X : Cx) (g : Sto → D → Option Int → Option Int → Option D) : Prop :=
  ∀ (pins : List (Addr × Obj)) (s : Shared) (σ : L2.St) (H : Hp) (x : V) (v vl vu : Value) (lo hi : Option Int) (sl : Addr) (Q : VK) (μ : Mu) (S : Sto) (d r : D), Inv X pins σ H s → RelV x v → s.heap.IsSliceOf sl vl vu .none → IsPart vl lo → IsPart vu hi → Rl G μ S H → VR G μ H d x →
    g S d lo hi = some r → Got G μ S H r Q → ∃ T id, typeLookup (.type T) "__getitem__" = pure (some (.builtin id)) ∧ s.TypeIs v T ∧ wpAny (model X.prog X.w) X.A (getItem v (.ref sl)) (EP X pins σ Q) X.xe s
theorem s_cut {X : Cx} {G : Gx} (hK : G.K = X.K) : SlS G X (fun S d lo hi => (dCut S d lo hi).or ((dCutL S d lo hi).map .lst)) := by
  intro pins s σ H x v vl vu lo hi sl Q μ S d r I rx hsl pl pu R q1 hg got
  rcases Option.or_eq_some_iff.mp hg with hg | ⟨_, hg⟩
  · unfold dCut at hg
    split at hg
    · split at hg
      · rename_i c
        cases hg
        exact sl_str pins s σ H x v vl vu lo hi sl Q I rx hsl pl pu ⟨_, q1.str, big_le c, got_here got R (.s _)⟩
      · cases hg
    · rename_i xs
      cases hg
      have d1 := q1.data
      obtain ⟨a, vs, ea, h1, h2⟩ := DR.toTup d1
      rw [hK] at h1
      refine sl_tupA pins s σ H x v vl vu lo hi sl Q I rx hsl pl pu ⟨a, vs, ea, h1, fun ⟨z1, z2⟩ => ?_, fun _ p hp => got_tup got R (cut_rel h2 lo hi) hp⟩
      rw [cut_all (by rw [h2.length]; exact z1) (by rw [h2.length]; exact z2)] at got
      rw [← ea]
      exact got_here got R d1
    · cases hg
  · obtain ⟨ds, e1, rfl⟩ := Option.map_eq_some_iff.mp hg
    obtain ⟨xs, hl, rfl⟩ := Option.map_eq_some_iff.mp e1
    obtain ⟨a, vs, ea, h1, h2⟩ := asL_sq R hl q1
    exact sl_list pins s σ H x v vl vu lo hi sl Q I rx hsl pl pu ⟨a, vs, ea, .inl h1, fun p hp => got_lst got R (cut_rel h2 lo hi) hp⟩

/-! ### a tuple so often -/
def dMulT : Sto → D → D → Option D := fun _ d e => match d, e with
  | .tup xs, .int k => if xs ≠ [] ∧ 2 ≤ k ∧ k ≤ 1000 ∧ xs.length ≤ 1000 then some (.tup (List.replicate k.toNat xs).flatten) else none
  | _, _ => none
theorem rep_rel {K : PySem.W.Frag} {μ : Mu} {H : Hp} {ds : List D} {xs : List V} (h : DRs K μ H ds xs) : ∀ n : Nat, DRs K μ H (List.replicate n ds).flatten (List.replicate n xs).flatten
  | 0 => .nil
  | n + 1 => by
    rw [List.replicate_succ, List.replicate_succ, List.flatten_cons, List.flatten_cons]
    exact h.append (rep_rel h n)
theorem s_mulT {X : Cx} {G : Gx} (hK : G.K = X.K) : OpS G X (binaryOp .Mult) dMulT := by
  intro pins s σ H x y v u Q μ S d e r I rx ry R q1 q2 hg got
  unfold dMulT at hg
  split at hg
  · split at hg
    · rename_i xs k c
      cases hg
      have d1 := q1.data
      obtain ⟨a, vs, ea, h1, h2⟩ := DR.toTup d1
      rw [hK] at h1
      have hl := h2.length
      exact op_repT pins s σ H x y v u Q I rx ry ⟨a, k, vs, ea, q2.int, h1, fun z => c.1 (List.eq_nil_of_length_eq_zero (by rw [hl, z]; rfl)), c.2.1, c.2.2.1, by rw [← hl]; exact c.2.2.2, fun p hp => got_tup got R (rep_rel h2 _) hp⟩
    · cases hg
  · cases hg
def dMul : Sto → D → D → Option D := fun S d e => (dMulI S d e).or (dMulT S d e)
theorem s_mul {X : Cx} {G : Gx} (hK : G.K = X.K) : OpS G X (binaryOp .Mult) dMul := s_mulI.or (s_mulT hK)
end Mt


set_option Elab.async false
set_option maxRecDepth 100000
set_option autoImplicit false
set_option linter.all false
/-! and, or, not, if; tests; argument lists; displays. -/
namespace Mt
open PySem PySem.Spec PyProof.Rows L2

/-! ### truth -/
abbrev Run := En → Sto → R D
def cond {α : Type} (d : D) (a b : R α) : R α :=
  match d with
  | .bl true => a
  | .bl false => b
  | _ => .no
def rAnd (ra rb : Run) : Run := fun ρ S => (ra ρ S).bind fun d S1 => cond d (rb ρ S1) (.ok (.bl false) S1)
def rOr (ra rb : Run) : Run := fun ρ S => (ra ρ S).bind fun d S1 => cond d (.ok (.bl true) S1) (rb ρ S1)
def rNot (ra : Run) : Run := fun ρ S => (ra ρ S).bind fun d S1 => cond d (.ok (.bl false) S1) (.ok (.bl true) S1)
def rIf (rc ra rb : Run) : Run := fun ρ S => (rc ρ S).bind fun d S1 => cond d (ra ρ S1) (rb ρ S1)
def rChain (g h : Sto → D → D → Option D) (ra rb rc : Run) : Run := fun ρ S => (ra ρ S).bind fun x S1 => (rb ρ S1).bind fun y S2 => (ofO S2 (g S2 x y)).bind fun z S3 => cond z ((rc ρ S3).bind fun w S4 => ofO S4 (h S4 y w)) (.ok (.bl false) S3)
/-- the reading of a test -/
def tT (G : Gx) (W : WX) (r : Run) : TT := tB (tI G W r)
theorem cond_fin {G : Gx} {μ : Mu} {H : Hp} {d : D} {a b : R D} {Q : VK} {E : XK} (h : Fin G μ H (cond d a b) Q E) : (d = .bl true ∧ Fin G μ H a Q E) ∨ (d = .bl false ∧ Fin G μ H b Q E) := by
  unfold cond at h
  split at h
  · exact .inl ⟨rfl, h⟩
  · exact .inr ⟨rfl, h⟩
  · exact h.elim
section
variable {X : Cx} {G : Gx} {W : WX} {pos : Pos} {ra rb rc : Run} {a b c : Expr} {rest : List Expr}
theorem u_one {op : BoolOp} (h : PE X a (tI G W ra)) : PE X (.BoolOp op [a] pos) (tI G W ra) := pe_one h
theorem u_and (ha : PE X a (tI G W ra)) (hb : PE X (.BoolOp .And (b :: rest) pos) (tI G W rb)) : PE X (.BoolOp .And (a :: b :: rest) pos) (tI G W (rAnd ra rb)) :=
  peImp (pe_and ha hb) fun σ H Q ⟨μ, ρ, S, R, s, f⟩ => ⟨μ, ρ, S, R, s, (Fin.bind f).mono fun x H1 ⟨μ1, d, S1, m, R1, q1, f1⟩ => by
    rcases cond_fin f1 with ⟨e, k⟩ | ⟨e, k⟩
    · subst e; exact ⟨true, q1.bl, iteT ⟨μ1, ρ, S1, R1, s.mo m, k⟩⟩
    · subst e; exact ⟨false, q1.bl, iteF (k.ok R1 (.of (.b _)))⟩⟩
theorem u_or (ha : PE X a (tI G W ra)) (hb : PE X (.BoolOp .Or (b :: rest) pos) (tI G W rb)) : PE X (.BoolOp .Or (a :: b :: rest) pos) (tI G W (rOr ra rb)) :=
  peImp (pe_or ha hb) fun σ H Q ⟨μ, ρ, S, R, s, f⟩ => ⟨μ, ρ, S, R, s, (Fin.bind f).mono fun x H1 ⟨μ1, d, S1, m, R1, q1, f1⟩ => by
    rcases cond_fin f1 with ⟨e, k⟩ | ⟨e, k⟩
    · subst e; exact ⟨true, q1.bl, iteT (k.ok R1 (.of (.b _)))⟩
    · subst e; exact ⟨false, q1.bl, iteF ⟨μ1, ρ, S1, R1, s.mo m, k⟩⟩⟩
theorem u_not (ha : PE X a (tI G W ra)) : PE X (.UnaryOp .Not a pos) (tI G W (rNot ra)) :=
  peImp (pe_not ha) fun σ H Q ⟨μ, ρ, S, R, s, f⟩ => ⟨μ, ρ, S, R, s, (Fin.bind f).mono fun x H1 ⟨μ1, d, S1, m, R1, q1, f1⟩ => by
    rcases cond_fin f1 with ⟨e, k⟩ | ⟨e, k⟩
    · subst e; exact ⟨true, q1.bl, k.ok R1 (.of (.b _))⟩
    · subst e; exact ⟨false, q1.bl, k.ok R1 (.of (.b _))⟩⟩
theorem u_ife (hc : PT X c (tT G W rc)) (ha : PE X a (tI G W ra)) (hb : PE X b (tI G W rb)) : PE X (.IfExp c a b pos) (tI G W (rIf rc ra rb)) :=
  peImp (pe_ifExp hc ha hb) fun σ H Q ⟨μ, ρ, S, R, s, f⟩ => ⟨μ, ρ, S, R, s, (Fin.bind f).mono fun x H1 ⟨μ1, d, S1, m, R1, q1, f1⟩ => by
    rcases cond_fin f1 with ⟨e, k⟩ | ⟨e, k⟩
    · subst e; exact ⟨true, q1.bl, iteT ⟨μ1, ρ, S1, R1, s.mo m, k⟩⟩
    · subst e; exact ⟨false, q1.bl, iteF ⟨μ1, ρ, S1, R1, s.mo m, k⟩⟩⟩
/-! tests -/
theorem t_val (ha : PE X a (tI G W ra)) (he : ∀ whole, isTrue a X.env whole = (do let v ← whole; standAt a.pos; holding [v] (truthy v))) : PT X a (tT G W ra) := pt_val ha he
theorem t_cmp {op : CmpOp} {g : Sto → D → D → Option D} (ho : OpS G X (compareOp op) g) (ha : PE X a (tI G W ra)) (hb : PE X b (tI G W rb)) (hm : behindInMarks op b = false) : PT X (.Compare a [op] [b] pos) (tT G W (rOp2 g ra rb)) :=
  ptImp (pt_cmpR ho.r ha hb hm) fun σ H Q h => tOp_of h
theorem t_not (ha : PT X a (tT G W ra)) : PT X (.UnaryOp .Not a pos) (tT G W (rNot ra)) :=
  ptImp (pt_not ha) fun σ H Q ⟨μ, ρ, S, R, s, f⟩ => ⟨μ, ρ, S, R, s, (Fin.bind f).mono fun x H1 ⟨μ1, d, S1, m, R1, q1, f1⟩ => by
    rcases cond_fin f1 with ⟨e, k⟩ | ⟨e, k⟩
    · subst e
      obtain ⟨c, e2, q⟩ := k.ok R1 (.of (.b _))
      cases e2
      exact ⟨true, q1.bl, q⟩
    · subst e
      obtain ⟨c, e2, q⟩ := k.ok R1 (.of (.b _))
      cases e2
      exact ⟨false, q1.bl, q⟩⟩
theorem t_and1 (ha : PT X a (tT G W ra)) : PW X (.BoolOp .And [a] pos) (tT G W ra) := pw_and1 ha
theorem t_or1 (ha : PT X a (tT G W ra)) : PW X (.BoolOp .Or [a] pos) (tT G W ra) := pw_or1 ha
theorem t_and (ha : PT X a (tT G W ra)) (hb : PW X (.BoolOp .And (b :: rest) pos) (tT G W rb)) : PW X (.BoolOp .And (a :: b :: rest) pos) (tT G W (rAnd ra rb)) :=
  pwImp (pw_and ha hb) fun σ H Q ⟨μ, ρ, S, R, s, f⟩ => ⟨μ, ρ, S, R, s, (Fin.bind f).mono fun x H1 ⟨μ1, d, S1, m, R1, q1, f1⟩ => by
    rcases cond_fin f1 with ⟨e, k⟩ | ⟨e, k⟩
    · subst e; exact ⟨true, q1.bl, iteT ⟨μ1, ρ, S1, R1, s.mo m, k⟩⟩
    · subst e
      obtain ⟨c, e2, q⟩ := k.ok R1 (.of (.b _))
      cases e2
      exact ⟨false, q1.bl, iteF q⟩⟩
theorem t_or (ha : PT X a (tT G W ra)) (hb : PW X (.BoolOp .Or (b :: rest) pos) (tT G W rb)) : PW X (.BoolOp .Or (a :: b :: rest) pos) (tT G W (rOr ra rb)) :=
  pwImp (pw_or ha hb) fun σ H Q ⟨μ, ρ, S, R, s, f⟩ => ⟨μ, ρ, S, R, s, (Fin.bind f).mono fun x H1 ⟨μ1, d, S1, m, R1, q1, f1⟩ => by
    rcases cond_fin f1 with ⟨e, k⟩ | ⟨e, k⟩
    · subst e
      obtain ⟨c, e2, q⟩ := k.ok R1 (.of (.b _))
      cases e2
      exact ⟨true, q1.bl, iteT q⟩
    · subst e; exact ⟨false, q1.bl, iteF ⟨μ1, ρ, S1, R1, s.mo m, k⟩⟩⟩
theorem chain_of {g h : Sto → D → D → Option D} {σ : L2.St} {H : Hp} {Q : VK} (z : tI G W (rChain g h ra rb rc) σ H Q) : tChain (cOp2 G g) (cOp2 G h) (tI G W ra) (tI G W rb) (tI G W rc) σ H Q := by
  obtain ⟨μ, ρ, S, R, s, f⟩ := z
  refine ⟨μ, ρ, S, R, s, (Fin.bind f).mono fun x H1 ⟨μ1, d, S1, m, R1, q1, f1⟩ => ⟨μ1, ρ, S1, R1, s.mo m, (Fin.bind f1).mono fun y H2 ⟨μ2, e, S2, m2, R2, q2, f2⟩ => ?_⟩⟩
  have f3 := Fin.bind f2
  obtain ⟨r, e1, q⟩ := got_of f3
  refine ⟨μ2, S2, d, e, r, R2, q1.mo m2, q2, e1, fun μ3 H3 v m3 R3 q3 => ?_⟩
  obtain ⟨μ4, d4, S4, m4, R4, q4, f4⟩ := q μ3 H3 v m3 R3 q3
  rcases cond_fin f4 with ⟨e, k⟩ | ⟨e, k⟩
  · subst e
    refine ⟨true, q4.bl, iteT ?_⟩
    have mm := m4
    refine ⟨μ4, ρ, S4, R4, (s.mo (m.trans m2)).mo mm, (Fin.bind k).mono fun w H5 ⟨μ5, d5, S5, m5, R5, q5, f5⟩ => ?_⟩
    obtain ⟨r5, e5, g5⟩ := got_of f5
    exact ⟨μ5, S5, _, d5, r5, R5, (q2.mo mm).mo m5, q5, e5, g5⟩
  · subst e
    refine ⟨false, q4.bl, iteF ?_⟩
    exact k.ok R4 (.of (.b _))
theorem u_chain {op op' : CmpOp} {g h : Sto → D → D → Option D} (ho : OpS G X (compareOp op) g) (ho' : OpS G X (compareOp op') h) (ha : PE X a (tI G W ra)) (hb : PE X b (tI G W rb)) (hc : PE X c (tI G W rc)) (hm : lastMarks [op, op'] [b, c] = false) :
    PE X (.Compare a [op, op'] [b, c] pos) (tI G W (rChain g h ra rb rc)) := peImp (pe_chain ho.r ho'.r ha hb hc hm) fun σ H Q z => chain_of z
theorem t_chain {op op' : CmpOp} {g h : Sto → D → D → Option D} (ho : OpS G X (compareOp op) g) (ho' : OpS G X (compareOp op') h) (ha : PE X a (tI G W ra)) (hb : PE X b (tI G W rb)) (hc : PE X c (tI G W rc)) (hm : lastMarks [op, op'] [b, c] = false) :
    PT X (.Compare a [op, op'] [b, c] pos) (tT G W (rChain g h ra rb rc)) := ptImp (pt_chain ho.r ho'.r ha hb hc hm) fun σ H Q z => chain_of z
end

/-! ### argument lists -/
abbrev RunA := En → Sto → R (List D)
def FinA (G : Gx) (μ : Mu) (H : Hp) (r : R (List D)) (Q : List V → Hp → Prop) (E : XK) : Prop :=
  match r with
  | .ok ds S' => ∀ μ' H' vs, Mo μ H μ' H' → Rl G μ' S' H' → DRs G.K μ' H' ds vs → Q vs H'
  | .ex c fs S' => ∀ μ' H' cv dx, Mo μ H μ' H' → Rl G μ' S' H' → XR G μ' H' c fs cv dx → E cv dx H'
  | .no => False
def tA (G : Gx) (W : WX) (r : RunA) : TA := fun σ H Q => ∃ μ ρ S, Rl G μ S H ∧ SR G μ H ρ σ ∧ FinA G μ H (r ρ S) Q fun cv dx H' => W cv dx σ H'
section
variable {G : Gx} {μ μ1 : Mu} {H H1 : Hp} {r : R (List D)} {Q Q' : List V → Hp → Prop} {E : XK}
theorem FinA.mono (h : FinA G μ H r Q E) (k : ∀ v H', Q v H' → Q' v H') : FinA G μ H r Q' E := by
  cases r with
  | ok d S => exact fun μ' H' v m R q => k v H' (h μ' H' v m R q)
  | ex c fs S => exact h
  | no => exact h
theorem FinA.mo (h : FinA G μ H r Q E) (m : Mo μ H μ1 H1) : FinA G μ1 H1 r Q E := by
  cases r with
  | ok d S => exact fun μ' H' v m' R q => h μ' H' v (m.trans m') R q
  | ex c fs S => exact fun μ' H' cv dx m' R q => h μ' H' cv dx (m.trans m') R q
  | no => exact h
/-- first a value, then a list -/
theorem FinA.bind {r : R D} {k : D → Sto → R (List D)} (h : FinA G μ H (r.bind k) Q E) : Fin G μ H r (fun v H1 => ∃ μ1 d S1, Mo μ H μ1 H1 ∧ Rl G μ1 S1 H1 ∧ VR G μ1 H1 d v ∧ FinA G μ1 H1 (k d S1) Q E) E := by
  cases r with
  | ok d S => exact fun μ' H' v m R q => ⟨μ', d, S, m, R, q, FinA.mo h m⟩
  | ex c fs S => exact h
  | no => exact h
/-- first a list, then a list -/
theorem FinA.binds {r : R (List D)} {k : List D → Sto → R (List D)} (h : FinA G μ H (r.bind k) Q E) : FinA G μ H r (fun v H1 => ∃ μ1 d S1, Mo μ H μ1 H1 ∧ Rl G μ1 S1 H1 ∧ DRs G.K μ1 H1 d v ∧ FinA G μ1 H1 (k d S1) Q E) E := by
  cases r with
  | ok d S => exact fun μ' H' v m R q => ⟨μ', d, S, m, R, q, FinA.mo h m⟩
  | ex c fs S => exact h
  | no => exact h
/-- first a list, then a value -/
theorem Fin.binds {Q : VK} {r : R (List D)} {k : List D → Sto → R D} (h : Fin G μ H (r.bind k) Q E) : FinA G μ H r (fun v H1 => ∃ μ1 d S1, Mo μ H μ1 H1 ∧ Rl G μ1 S1 H1 ∧ DRs G.K μ1 H1 d v ∧ Fin G μ1 H1 (k d S1) Q E) E := by
  cases r with
  | ok d S => exact fun μ' H' v m R q => ⟨μ', d, S, m, R, q, Fin.mo h m⟩
  | ex c fs S => exact h
  | no => exact h
end
def rNil : RunA := fun _ S => .ok [] S
def rCons (ra : Run) (rr : RunA) : RunA := fun ρ S => (ra ρ S).bind fun d S1 => (rr ρ S1).bind fun ds S2 => .ok (d :: ds) S2
/-- the items of a tuple, a list -/
def itemsOf (S : Sto) : D → Option (List D)
  | .tup xs => some xs
  | d => asL S d
def rStar (ra : Run) (rr : RunA) : RunA := fun ρ S => (ra ρ S).bind fun d S1 => match itemsOf S1 d with
  | some xs => (rr ρ S1).bind fun ds S2 => .ok (xs ++ ds) S2
  | none => .no
theorem items_at {G : Gx} {μ : Mu} {S : Sto} {H : Hp} (R : Rl G μ S H) {d : D} {xs : List D} {v : V} (e : itemsOf S d = some xs) (h : VR G μ H d v) : ∃ a vs, v = .ref a ∧ (SqT G.K H a vs ∨ SqL G.K H a vs) ∧ DRs G.K μ H xs vs := by
  unfold itemsOf at e
  split at e
  · cases e
    obtain ⟨a, vs, ea, h1, h2⟩ := DR.toTup h.data
    exact ⟨a, vs, ea, .inl h1, h2⟩
  · obtain ⟨a, vs, ea, h1, h2⟩ := asL_sq R e h
    exact ⟨a, vs, ea, .inr (.inl h1), h2⟩
section
variable {X : Cx} {G : Gx} {W : WX} {pos : Pos} {ra : Run} {rr : RunA} {e : Expr} {es : List Expr}
theorem a_nil : PA X [] (tA G W rNil) := paImp pa_nil fun σ H Q ⟨μ, ρ, S, R, s, f⟩ => f μ H [] (Mo.refl μ H) R .nil
theorem a_cons (ha : PE X e (tI G W ra)) (hr : PA X es (tA G W rr)) (hs : starEach (e :: es) X.env = (false, eval e X.env) :: starEach es X.env) : PA X (e :: es) (tA G W (rCons ra rr)) :=
  paImp (pa_cons ha hr hs) fun σ H Q ⟨μ, ρ, S, R, s, f⟩ => ⟨μ, ρ, S, R, s, (FinA.bind f).mono fun x H1 ⟨μ1, d, S1, m, R1, q1, f1⟩ => ⟨μ1, ρ, S1, R1, s.mo m, (FinA.binds f1).mono fun xs H2 ⟨μ2, ds, S2, m2, R2, q2, f2⟩ =>
    f2 μ2 H2 (x :: xs) (Mo.refl _ _) R2 (.cons (q1.mo m2) q2)⟩⟩
theorem a_star {p : Pos} (hK : G.K = X.K) (ha : PE X e (tI G W ra)) (hr : PA X es (tA G W rr)) (hs : starEach (.Starred e p :: es) X.env = (true, eval e X.env) :: starEach es X.env := by rfl) : PA X (.Starred e p :: es) (tA G W (rStar ra rr)) :=
  paImp (StX.pa_star ha hr hs) fun σ H Q ⟨μ, ρ, S, R, s, f⟩ => ⟨μ, ρ, S, R, s, (FinA.bind f).mono fun x H1 ⟨μ1, d, S1, m, R1, q1, f1⟩ => by
    split at f1
    · rename_i xs e1
      obtain ⟨a, vs, ea, h1, h2⟩ := items_at R1 e1 q1
      rw [hK] at h1
      exact ⟨a, vs, ea, h1, μ1, ρ, S1, R1, s.mo m, (FinA.binds f1).mono fun ys H2 ⟨μ2, ds, S2, m2, R2, q2, f2⟩ => f2 μ2 H2 (vs ++ ys) (Mo.refl _ _) R2 ((DRs.mo m2 _ _ h2).append q2)⟩
    · exact f1.elim⟩
/-! displays -/
def rTup (rr : RunA) : Run := fun ρ S => (rr ρ S).bind fun ds S1 => if ds.length ≤ big then .ok (.tup ds) S1 else .no
def rLst (rr : RunA) : Run := fun ρ S => (rr ρ S).bind fun ds S1 => if ds.length ≤ big then .ok (.lst ds) S1 else .no
/-- a new object of the store -/
def rLstN (rr : RunA) : Run := fun ρ S => (rr ρ S).bind fun ds S1 => if ds.length ≤ big then .ok (.loc S1.length) (S1 ++ [.lst ds]) else .no
theorem u_tup {x1 : Nat} (h : PA X es (tA G W rr)) : PE X (.Tuple es x1 pos) (tI G W (rTup rr)) :=
  peImp (pe_tup h) fun σ H Q ⟨μ, ρ, S, R, s, f⟩ => ⟨μ, ρ, S, R, s, (Fin.binds f).mono fun xs H1 ⟨μ1, ds, S1, m, R1, q1, f1⟩ => by
    split at f1
    · rename_i c
      exact ⟨by rw [← q1.length]; exact big_le c, fun p hp => got_tup f1 R1 q1 hp⟩
    · exact f1.elim⟩
theorem u_lst (h : PA X es (tA G W rr)) : PE X (.List es pos) (tI G W (rLst rr)) :=
  peImp (pe_lst h) fun σ H Q ⟨μ, ρ, S, R, s, f⟩ => ⟨μ, ρ, S, R, s, (Fin.binds f).mono fun xs H1 ⟨μ1, ds, S1, m, R1, q1, f1⟩ => by
    split at f1
    · rename_i c
      exact ⟨by rw [← q1.length]; exact big_le c, fun p hp => got_lst f1 R1 q1 hp⟩
    · exact f1.elim⟩
theorem u_lstN (h : PA X es (tA G W rr)) : PE X (.List es pos) (tI G W (rLstN rr)) :=
  peImp (pe_lst h) fun σ H Q ⟨μ, ρ, S, R, s, f⟩ => ⟨μ, ρ, S, R, s, (Fin.binds f).mono fun xs H1 ⟨μ1, ds, S1, m, R1, q1, f1⟩ => by
    split at f1
    · rename_i c
      exact ⟨by rw [← q1.length]; exact big_le c, fun p hp => gotL_new f1 R1 xs p q1 hp⟩
    · exact f1.elim⟩
end
end Mt


set_option Elab.async false
set_option maxRecDepth 100000
set_option autoImplicit false
set_option linter.all false
/-! Calls of the built-in functions and types. -/
namespace Mt
open PySem PySem.Spec PyProof.Rows L2

/-! ### texts in order -/
def ltS (a b : Str) : Bool := ltCps a.cps.toList b.cps.toList
def insS (a : Str) : List Str → List Str
  | [] => [a]
  | b :: r => if ltS b a then b :: insS a r else a :: b :: r
def sortS : List Str → List Str
  | [] => []
  | a :: r => insS a (sortS r)
theorem ltCps_irr : ∀ a : List Nat, ltCps a a = false
  | [] => rfl
  | a :: r => by simp [ltCps, ltCps_irr r]
theorem ltCps_tr : ∀ a b c : List Nat, ltCps a b = true → ltCps b c = true → ltCps a c = true
  | [], b, [], h1, h2 => by cases b <;> simp [ltCps] at h1 h2
  | [], b, _ :: _, h1, h2 => rfl
  | a :: r, [], c, h1, h2 => by simp [ltCps] at h1
  | a :: r, b :: t, [], h1, h2 => by simp [ltCps] at h2
  | a :: r, b :: t, c :: u, h1, h2 => by
    simp only [ltCps, Bool.or_eq_true, Bool.and_eq_true, decide_eq_true_eq, beq_iff_eq] at h1 h2 ⊢
    rcases h1 with h1 | ⟨e1, h1⟩
    · rcases h2 with h2 | ⟨e2, h2⟩
      · exact .inl (Nat.lt_trans h1 h2)
      · exact .inl (e2 ▸ h1)
    · rcases h2 with h2 | ⟨e2, h2⟩
      · exact .inl (e1 ▸ h2)
      · exact .inr ⟨e1.trans e2, ltCps_tr r t u h1 h2⟩
theorem ltCps_eq : ∀ a b : List Nat, ltCps a b = false → ltCps b a = false → a = b
  | [], [], _, _ => rfl
  | [], _ :: _, h, _ => by simp [ltCps] at h
  | _ :: _, [], _, h => by simp [ltCps] at h
  | a :: r, b :: t, h1, h2 => by
    simp only [ltCps, Bool.or_eq_false_iff, Bool.and_eq_false_iff, decide_eq_false_iff_not, beq_eq_false_iff_ne] at h1 h2
    have e : a = b := by omega
    subst e
    have h1' : ltCps r t = false := h1.2.resolve_left (fun z => z rfl)
    have h2' : ltCps t r = false := h2.2.resolve_left (fun z => z rfl)
    rw [ltCps_eq r t h1' h2']
theorem ltS_eq {a b : Str} (h1 : ltS a b = false) (h2 : ltS b a = false) : a = b := by
  have h := ltCps_eq _ _ h1 h2
  obtain ⟨⟨l⟩⟩ := a
  obtain ⟨⟨m⟩⟩ := b
  simp at h
  rw [h]
/-- a ≤ b -/
def leS (a b : Str) : Prop := ltS b a = false
theorem leS_tr {a b c : Str} (h1 : leS a b) (h2 : leS b c) : leS a c := by
  unfold leS at *
  cases e : ltS c a with
  | false => rfl
  | true =>
    cases e2 : ltS a b with
    | true =>
      have := ltCps_tr _ _ _ (show ltCps c.cps.toList a.cps.toList = true from e) (show ltCps a.cps.toList b.cps.toList = true from e2)
      rw [show ltCps c.cps.toList b.cps.toList = false from h2] at this; cases this
    | false =>
      have := ltS_eq e2 h1
      subst this
      rw [e] at h2; cases h2
theorem insS_perm (a : Str) : ∀ l : List Str, (insS a l).Perm (a :: l)
  | [] => .refl _
  | b :: r => by
    unfold insS
    split
    · exact ((insS_perm a r).cons b).trans (.swap a b r)
    · exact .refl _
theorem sortS_perm : ∀ l : List Str, (sortS l).Perm l
  | [] => .refl _
  | a :: r => (insS_perm a (sortS r)).trans ((sortS_perm r).cons a)
theorem insS_sorted {a : Str} : ∀ {l : List Str}, l.Pairwise leS → (insS a l).Pairwise leS
  | [], _ => List.pairwise_singleton _ _
  | b :: r, h => by
    unfold insS
    rw [List.pairwise_cons] at h
    split
    · rename_i c
      rw [List.pairwise_cons]
      refine ⟨fun x hx => ?_, insS_sorted h.2⟩
      rcases List.mem_cons.mp ((insS_perm a r).mem_iff.mp hx) with e | e
      · subst e
        show ltS x b = false
        cases e2 : ltS x b with
        | false => rfl
        | true =>
          have := ltCps_tr _ _ _ (show ltCps b.cps.toList x.cps.toList = true from c) (show ltCps x.cps.toList b.cps.toList = true from e2)
          rw [ltCps_irr] at this; cases this
      · exact h.1 x e
    · rename_i c
      have c' : ltS b a = false := by simpa using c
      rw [List.pairwise_cons]
      refine ⟨fun x hx => ?_, List.pairwise_cons.mpr h⟩
      rcases List.mem_cons.mp hx with e | e
      · subst e; exact c'
      · exact leS_tr c' (h.1 x e)
theorem sortS_sorted : ∀ l : List Str, (sortS l).Pairwise leS
  | [] => .nil
  | a :: r => insS_sorted (sortS_sorted r)
theorem rising_all {p : Str} : ∀ {l : List Str}, risingS p l = true → (p :: l).Pairwise leS
  | [], _ => List.pairwise_singleton _ _
  | x :: r, h => by
    have h' : leS p x ∧ risingS x r = true := by
      unfold risingS at h
      rw [Bool.and_eq_true] at h
      exact ⟨by simpa [leS, ltS] using h.1, h.2⟩
    have ih := rising_all h'.2
    rw [List.pairwise_cons]
    refine ⟨fun y hy => ?_, ih⟩
    rcases List.mem_cons.mp hy with e | e
    · subst e; exact h'.1
    · exact leS_tr h'.1 ((List.pairwise_cons.mp ih).1 y e)
theorem sortS_uniq {l m : List Str} (p : m.Perm l) (h : sortedS m = true) : m = sortS l := by
  have hm : m.Pairwise leS := by
    cases m with
    | nil => exact .nil
    | cons a r => exact rising_all h
  exact List.Perm.eq_of_pairwise (fun a b _ _ h1 h2 => ltS_eq h2 h1) hm (sortS_sorted l) (p.trans (sortS_perm l).symm)

/-! ### calls by values -/
def CallS (G : Gx) (X : Cx) (f : Value) (g : Sto → List D → Option D) : Prop :=
  ∀ (pins : List (Addr × Obj)) (s : Shared) (σ : L2.St) (H : Hp) (xs : List V) (us : List Value) (Q : VK) (μ : Mu) (S : Sto) (ds : List D) (r : D), Inv X pins σ H s → Vals xs us → Rl G μ S H → DRs G.K μ H ds xs →
    g S ds = some r → Got G μ S H r Q → wpAny (model X.prog X.w) X.A (call f us) (EP X pins σ Q) X.xe s
def CallL (G : Gx) (X : Cx) (f : Value) (g : Sto → List D → Option (List D)) : Prop :=
  ∀ (pins : List (Addr × Obj)) (s : Shared) (σ : L2.St) (H : Hp) (xs : List V) (us : List Value) (Q : VK) (μ : Mu) (S : Sto) (ds : List D) (r : List D), Inv X pins σ H s → Vals xs us → Rl G μ S H → DRs G.K μ H ds xs →
    g S ds = some r → GotL G μ H r Q → wpAny (model X.prog X.w) X.A (call f us) (EP X pins σ Q) X.xe s
/-- a new object of the store -/
def CallN (G : Gx) (X : Cx) (f : Value) (g : Sto → List D → Option Ob) : Prop :=
  ∀ (pins : List (Addr × Obj)) (s : Shared) (σ : L2.St) (H : Hp) (xs : List V) (us : List Value) (Q : VK) (μ : Mu) (S : Sto) (ds : List D) (r : Ob), Inv X pins σ H s → Vals xs us → Rl G μ S H → DRs G.K μ H ds xs →
    g S ds = some r → GotN G μ S H r Q → wpAny (model X.prog X.w) X.A (call f us) (EP X pins σ Q) X.xe s
def newO (S : Sto) : Option Ob → R D
  | some o => .ok (.loc S.length) (S ++ [o])
  | none => .no
def rCall (g : Sto → List D → Option D) (rr : RunA) : Run := fun ρ S => (rr ρ S).bind fun ds S1 => ofO S1 (g S1 ds)
def rCallN (g : Sto → List D → Option Ob) (rr : RunA) : Run := fun ρ S => (rr ρ S).bind fun ds S1 => newO S1 (g S1 ds)
def cCall (G : Gx) (g : Sto → List D → Option D) : List V → Hp → VK → Prop := fun xs H Q => ∃ μ S ds r, Rl G μ S H ∧ DRs G.K μ H ds xs ∧ g S ds = some r ∧ Got G μ S H r Q
def cCallN (G : Gx) (g : Sto → List D → Option Ob) : List V → Hp → VK → Prop := fun xs H Q => ∃ μ S ds r, Rl G μ S H ∧ DRs G.K μ H ds xs ∧ g S ds = some r ∧ GotN G μ S H r Q
section
variable {X : Cx} {G : Gx} {W : WX} {pos : Pos} {f : Value} {g g2 : Sto → List D → Option D} {gl : Sto → List D → Option (List D)} {gn : Sto → List D → Option Ob} {rr : RunA} {e : Expr} {es : List Expr}
theorem CallS.or (h1 : CallS G X f g) (h2 : CallS G X f g2) : CallS G X f (fun S ds => (g S ds).or (g2 S ds)) := by
  intro pins s σ H xs us Q μ S ds r I rv R q hg k
  rcases Option.or_eq_some_iff.mp hg with a | ⟨_, a⟩
  · exact h1 pins s σ H xs us Q μ S ds r I rv R q a k
  · exact h2 pins s σ H xs us Q μ S ds r I rv R q a k
theorem CallL.keep (h : CallL G X f gl) : CallS G X f (fun S ds => (gl S ds).map .lst) := by
  intro pins s σ H xs us Q μ S ds r I rv R q hg k
  obtain ⟨ls, e1, rfl⟩ := Option.map_eq_some_iff.mp hg
  exact h pins s σ H xs us Q μ S ds ls I rv R q e1 (gotL_keep k R)
theorem CallL.new (h : CallL G X f gl) : CallN G X f (fun S ds => (gl S ds).map .lst) := by
  intro pins s σ H xs us Q μ S ds r I rv R q hg k
  obtain ⟨ls, e1, rfl⟩ := Option.map_eq_some_iff.mp hg
  exact h pins s σ H xs us Q μ S ds ls I rv R q e1 (gotL_new k R)
theorem CallS.r (h : CallS G X f g) : CallR X f (cCall G g) := fun pins s σ H xs us Q I rv ⟨μ, S, ds, r, R, q, e, k⟩ => h pins s σ H xs us Q μ S ds r I rv R q e k
theorem CallN.r (h : CallN G X f gn) : CallR X f (cCallN G gn) := fun pins s σ H xs us Q I rv ⟨μ, S, ds, r, R, q, e, k⟩ => h pins s σ H xs us Q μ S ds r I rv R q e k
theorem tCB_of {σ : L2.St} {H : Hp} {Q : VK} (h : tI G W (rCall g rr) σ H Q) : tCB (cCall G g) (tA G W rr) σ H Q := by
  obtain ⟨μ, ρ, S, R, s, f⟩ := h
  refine ⟨μ, ρ, S, R, s, (Fin.binds f).mono fun xs H1 ⟨μ1, ds, S1, m, R1, q1, f1⟩ => ?_⟩
  obtain ⟨r, e1, q⟩ := got_of f1
  exact ⟨μ1, S1, ds, r, R1, q1, e1, q⟩
theorem newO_of {μ : Mu} {S : Sto} {H : Hp} {o : Option Ob} {Q : VK} {E : XK} (h : Fin G μ H (newO S o) Q E) : ∃ r, o = some r ∧ GotN G μ S H r Q := by
  cases o with
  | none => exact h.elim
  | some r => exact ⟨r, rfl, h⟩
theorem tCBN_of {σ : L2.St} {H : Hp} {Q : VK} (h : tI G W (rCallN gn rr) σ H Q) : tCB (cCallN G gn) (tA G W rr) σ H Q := by
  obtain ⟨μ, ρ, S, R, s, f⟩ := h
  refine ⟨μ, ρ, S, R, s, (Fin.binds f).mono fun xs H1 ⟨μ1, ds, S1, m, R1, q1, f1⟩ => ?_⟩
  obtain ⟨r, e1, q⟩ := newO_of f1
  exact ⟨μ1, S1, ds, r, R1, q1, e1, q⟩
end
/-- how a built-in name is called: a function or a type -/
structure Bl (X : Cx) (x : Str) (f : Value) : Prop where
  hg : Gl X x
  hm : X.mg x = none
  hv : bootBuiltins x = some f
  hn : x ≠ "__name__"
  hd : (x == ("__debug__" : Str)) = false
  kind : (∃ id, f = .builtin id) ∨ ∃ T, f = .type T
section
variable {X : Cx} {G : Gx} {W : WX} {p pos : Pos} {f : Value} {g : Sto → List D → Option D} {gn : Sto → List D → Option Ob} {rr : RunA} {x : Str} {e : Expr} {es : List Expr}
theorem u_call (b : Bl X x f) (hc : CallS G X f g) (ha : PA X (e :: es) (tA G W rr)) (he : starEach (e :: es) X.env = (false, eval e X.env) :: starEach es X.env) (hpl : (backTo pos (starEach es X.env)).any (·.1) = false) :
    PE X (.Call (.Name x p) (e :: es) [] pos) (tI G W (rCall g rr)) := by
  obtain ⟨hg, hm, hv, hn, hd, k⟩ := b
  rcases k with ⟨id, rfl⟩ | ⟨T, rfl⟩
  · exact peImp (pe_callB hc.r hg hm hv ha hn hd he hpl) fun σ H Q h => tCB_of h
  · exact peImp (pe_callTy hc.r hg hm hv ha hn hd he hpl) fun σ H Q h => tCB_of h
theorem u_callN (b : Bl X x f) (hc : CallN G X f gn) (ha : PA X (e :: es) (tA G W rr)) (he : starEach (e :: es) X.env = (false, eval e X.env) :: starEach es X.env) (hpl : (backTo pos (starEach es X.env)).any (·.1) = false) :
    PE X (.Call (.Name x p) (e :: es) [] pos) (tI G W (rCallN gn rr)) := by
  obtain ⟨hg, hm, hv, hn, hd, k⟩ := b
  rcases k with ⟨id, rfl⟩ | ⟨T, rfl⟩
  · exact peImp (pe_callB hc.r hg hm hv ha hn hd he hpl) fun σ H Q h => tCBN_of h
  · exact peImp (pe_callTy hc.r hg hm hv ha hn hd he hpl) fun σ H Q h => tCBN_of h
end

/-! ### the functions -/
theorem drs1 {K : PySem.W.Frag} {μ : Mu} {H : Hp} {d : D} {xs : List V} (h : DRs K μ H [d] xs) : ∃ v, xs = [v] ∧ DR K μ H d v := by
  rw [DRs] at h
  obtain ⟨v, r, e, h1, h2⟩ := h
  rw [DRs] at h2
  subst h2
  exact ⟨v, e, h1⟩
theorem drs2 {K : PySem.W.Frag} {μ : Mu} {H : Hp} {d e : D} {xs : List V} (h : DRs K μ H [d, e] xs) : ∃ v w, xs = [v, w] ∧ DR K μ H d v ∧ DR K μ H e w := by
  rw [DRs] at h
  obtain ⟨v, r, e, h1, h2⟩ := h
  obtain ⟨w, e2, h3⟩ := drs1 h2
  subst e2
  exact ⟨v, w, e, h1, h3⟩
/-- a function of one argument -/
def on1 (g : Sto → D → Option D) : Sto → List D → Option D := fun S ds => match ds with
  | [d] => g S d
  | _ => none
def on1L (g : Sto → D → Option (List D)) : Sto → List D → Option (List D) := fun S ds => match ds with
  | [d] => g S d
  | _ => none
theorem on1_inv {g : Sto → D → Option D} {S : Sto} {ds : List D} {r : D} (h : on1 g S ds = some r) : ∃ d, ds = [d] ∧ g S d = some r := by
  unfold on1 at h
  split at h
  · exact ⟨_, rfl, h⟩
  · cases h
theorem on1L_inv {g : Sto → D → Option (List D)} {S : Sto} {ds : List D} {r : List D} (h : on1L g S ds = some r) : ∃ d, ds = [d] ∧ g S d = some r := by
  unfold on1L at h
  split at h
  · exact ⟨_, rfl, h⟩
  · cases h
def dLen : Sto → D → Option D := fun S d => match d with
  | .str x => if x.length ≤ big then some (.int x.length) else none
  | .tup xs => some (.int xs.length)
  | d => match asL S d with
    | some xs => some (.int xs.length)
    | none => (asD S d).map fun kvs => .int kvs.length
def bools : List D → Option (List Bool)
  | [] => some []
  | .bl b :: r => (bools r).map (b :: ·)
  | _ :: _ => none
def nums : List D → Option (List Int)
  | [] => some []
  | .int b :: r => (nums r).map (b :: ·)
  | _ :: _ => none
def txts : List D → Option (List Str)
  | [] => some []
  | .str b :: r => (txts r).map (b :: ·)
  | _ :: _ => none
theorem bools_rel {K : PySem.W.Frag} {μ : Mu} {H : Hp} : ∀ {ds : List D} {bs : List Bool} {xs : List V}, bools ds = some bs → DRs K μ H ds xs → xs = bs.map V.bl
  | [], bs, xs, e, h => by cases e; rw [DRs] at h; exact h
  | d :: ds, bs, xs, e, h => by
    cases d <;> simp only [bools, reduceCtorEq] at e
    obtain ⟨cs, e1, rfl⟩ := Option.map_eq_some_iff.mp e
    rw [DRs] at h
    obtain ⟨v, r, e, h1, h2⟩ := h
    rw [DR] at h1
    rw [e, h1, bools_rel e1 h2]; rfl
theorem nums_rel {K : PySem.W.Frag} {μ : Mu} {H : Hp} : ∀ {ds : List D} {bs : List Int} {xs : List V}, nums ds = some bs → DRs K μ H ds xs → xs = bs.map V.int
  | [], bs, xs, e, h => by cases e; rw [DRs] at h; exact h
  | d :: ds, bs, xs, e, h => by
    cases d <;> simp only [nums, reduceCtorEq] at e
    obtain ⟨cs, e1, rfl⟩ := Option.map_eq_some_iff.mp e
    rw [DRs] at h
    obtain ⟨v, r, e, h1, h2⟩ := h
    rw [DR] at h1
    rw [e, h1, nums_rel e1 h2]; rfl
theorem txts_rel {K : PySem.W.Frag} {μ : Mu} {H : Hp} : ∀ {ds : List D} {bs : List Str} {xs : List V}, txts ds = some bs → DRs K μ H ds xs → xs = bs.map V.str
  | [], bs, xs, e, h => by cases e; rw [DRs] at h; exact h
  | d :: ds, bs, xs, e, h => by
    cases d <;> simp only [txts, reduceCtorEq] at e
    obtain ⟨cs, e1, rfl⟩ := Option.map_eq_some_iff.mp e
    rw [DRs] at h
    obtain ⟨v, r, e, h1, h2⟩ := h
    rw [DR] at h1
    rw [e, h1, txts_rel e1 h2]; rfl
theorem txts_drs {K : PySem.W.Frag} {μ : Mu} {H : Hp} : ∀ bs : List Str, DRs K μ H (bs.map D.str) (bs.map V.str)
  | [] => .nil
  | b :: r => .cons (.s b) (txts_drs r)
def dAll : Sto → D → Option D := fun S d => (asL S d).bind fun xs => (bools xs).map fun bs => .bl (bs.all id)
def dAny : Sto → D → Option D := fun S d => (asL S d).bind fun xs => (bools xs).map fun bs => .bl (bs.any id)
def dSum : Sto → D → Option D := fun S d => (asL S d).bind fun xs => (nums xs).map fun bs => .int bs.sum
def maxI : List Int → Int
  | [] => 0
  | [a] => a
  | a :: b :: r => max a (maxI (b :: r))
def minI : List Int → Int
  | [] => 0
  | [a] => a
  | a :: b :: r => min a (minI (b :: r))
def dMax : Sto → D → Option D := fun S d => (asL S d).bind fun xs => (nums xs).bind fun bs => if bs ≠ [] then some (.int (maxI bs)) else none
def dMin : Sto → D → Option D := fun S d => (asL S d).bind fun xs => (nums xs).bind fun bs => if bs ≠ [] then some (.int (minI bs)) else none
theorem maxI_is : ∀ {l : List Int} {m : Int}, m ∈ l → (∀ y, y ∈ l → y ≤ m) → m = maxI l
  | [], m, h, _ => by simp at h
  | [a], m, h, _ => by simpa [maxI] using h
  | a :: b :: r, m, h, k => by
    have ka := k a (by simp)
    rw [maxI]
    by_cases e : m ∈ b :: r
    · have ih := maxI_is e fun y hy => k y (List.mem_cons_of_mem _ hy)
      rw [← ih]; omega
    · have e1 : m = a := (List.mem_cons.mp h).resolve_right e
      subst e1
      have : ∀ l : List Int, l ≠ [] → maxI l ∈ l := by
        intro l
        induction l with
        | nil => intro z; exact absurd rfl z
        | cons x t ih =>
          intro _
          cases t with
          | nil => simp [maxI]
          | cons y u =>
            rw [maxI]
            have := ih (by simp)
            by_cases c : x ≤ maxI (y :: u)
            · rw [Int.max_eq_right c]; exact List.mem_cons_of_mem _ this
            · rw [Int.max_eq_left (by omega)]; simp
      have := k _ (List.mem_cons_of_mem _ (this (b :: r) (by simp)))
      omega
theorem minI_is : ∀ {l : List Int} {m : Int}, m ∈ l → (∀ y, y ∈ l → m ≤ y) → m = minI l
  | [], m, h, _ => by simp at h
  | [a], m, h, _ => by simpa [minI] using h
  | a :: b :: r, m, h, k => by
    have ka := k a (by simp)
    rw [minI]
    by_cases e : m ∈ b :: r
    · have ih := minI_is e fun y hy => k y (List.mem_cons_of_mem _ hy)
      rw [← ih]; omega
    · have e1 : m = a := (List.mem_cons.mp h).resolve_right e
      subst e1
      have : ∀ l : List Int, l ≠ [] → minI l ∈ l := by
        intro l
        induction l with
        | nil => intro z; exact absurd rfl z
        | cons x t ih =>
          intro _
          cases t with
          | nil => simp [minI]
          | cons y u =>
            rw [minI]
            have := ih (by simp)
            by_cases c : x ≤ minI (y :: u)
            · rw [Int.min_eq_left c]; simp
            · rw [Int.min_eq_right (by omega)]; exact List.mem_cons_of_mem _ this
      have := k _ (List.mem_cons_of_mem _ (this (b :: r) (by simp)))
      omega
def dSorted : Sto → D → Option (List D) := fun S d => (asL S d).bind fun xs => (txts xs).bind fun bs => if bs.length < 64 then some ((sortS bs).map .str) else none
/-- list(x): of a list, a tuple, a dict -/
def dList : Sto → D → Option (List D) := fun S d => match itemsOf S d with
  | some xs => some xs
  | none => (locD S d).map fun p => p.2.map (·.1)
def dTuple : Sto → D → Option D := fun S d => (itemsOf S d).map .tup
def dInt : Sto → D → Option D := fun _ d => match d with
  | .int i => some (.int i)
  | .bl b => some (.int (if b then 1 else 0))
  | .str x => if x.length ≤ 640 then (PySem.intText? x).map .int else none
  | _ => none
def dAbs : Sto → D → Option D := fun _ d => match d with
  | .int i => some (.int (if i < 0 then -i else i))
  | _ => none
def dStr : Sto → D → Option D := fun _ d => match d with
  | .int i => if i.natAbs.log2 < 1920 then some (.str (toString i)) else none
  | _ => none
def dDict : Sto → List D → Option Ob := fun S ds => match ds with
  | [d] => (asD S d).map .dic
  | _ => none
section
variable {X : Cx} {G : Gx} (hK : G.K = X.K)
theorem krs_length {K : PySem.W.Frag} {μ : Mu} {H : Hp} {kvs : List (D × D)} {ks : List (Key × V)} (h : KRs K μ H kvs ks) : kvs.length = ks.length := Paired.length h
theorem krs_keys {K : PySem.W.Frag} {μ : Mu} {H : Hp} : ∀ {kvs : List (D × D)} {ks : List (Key × V)}, KRs K μ H kvs ks → DRs K μ H (kvs.map (·.1)) (ks.map fun kv => kV kv.1)
  | [], _, .nil => .nil
  | (a, b) :: r, (j, v) :: q, .cons ⟨e, h⟩ t => by
    refine .cons ?_ (krs_keys t)
    have e' : a = keyD j := e
    subst e'
    cases j with
    | inl i => exact .i i
    | inr x => exact .s x
include hK
theorem c_len : CallS G X (.builtin "len") (on1 dLen) := by
  intro pins s σ H xs us Q μ S ds r I rv R q hg k
  obtain ⟨d, e0, hh⟩ := on1_inv hg
  subst e0
  clear hg
  revert hh
  intro hg
  obtain ⟨v, rfl, hd⟩ := drs1 q
  unfold dLen at hg
  split at hg
  · split at hg
    · rename_i c
      cases hg
      exact call_len_str pins s σ H _ us Q I rv ⟨_, by rw [DR] at hd; rw [hd], big_le c, got_here k R (.i _)⟩
    · cases hg
  · cases hg
    obtain ⟨a, vs, ea, h1, h2⟩ := DR.toTup hd
    rw [hK] at h1
    exact call_len_seq pins s σ H _ us Q I rv ⟨a, vs, by rw [ea], .inr h1, by rw [← h2.length]; exact got_here k R (.i _)⟩
  · split at hg
    · rename_i hl
      cases hg
      obtain ⟨a, vs, ea, h1, h2⟩ := asL_sq R hl (show VR G μ H d v from hd)
      exact call_len_seq pins s σ H _ us Q I rv ⟨a, vs, by rw [ea], .inl (.inl h1), by rw [← h2.length]; exact got_here k R (.i _)⟩
    · obtain ⟨kvs, e1, rfl⟩ := Option.map_eq_some_iff.mp hg
      obtain ⟨l, a, ks, rfl, rfl, hl, h1, h2⟩ := asD_at R e1 (show VR G μ H d v from hd)
      obtain ⟨u, rfl, ru⟩ := rv.one
      obtain rfl : u = Value.ref a := ru
      exact d_len I h1 fun t s' I' => ⟨.int _, H, I', ⟨t, rfl⟩, by rw [← krs_length h2]; exact got_here k R (.i _)⟩
theorem c_all (hc : X.calm = true) : CallS G X (.builtin "all") (on1 dAll) := by
  intro pins s σ H xs us Q μ S ds r I rv R q hg k
  obtain ⟨d, e0, hh⟩ := on1_inv hg
  subst e0
  clear hg
  revert hh
  intro hg
  obtain ⟨v, rfl, hd⟩ := drs1 q
  obtain ⟨ys, hl, hg⟩ := Option.bind_eq_some_iff.mp hg
  obtain ⟨bs, hb, rfl⟩ := Option.map_eq_some_iff.mp hg
  obtain ⟨a, vs, ea, h1, h2⟩ := asL_sq R hl (show VR G μ H d v from hd)
  rw [bools_rel hb h2] at h1
  exact cr_all hc pins s σ H _ us Q I rv ⟨a, bs, by rw [ea], .inl h1, got_here k R (.b _)⟩
theorem c_any (hc : X.calm = true) : CallS G X (.builtin "any") (on1 dAny) := by
  intro pins s σ H xs us Q μ S ds r I rv R q hg k
  obtain ⟨d, e0, hh⟩ := on1_inv hg
  subst e0
  clear hg
  revert hh
  intro hg
  obtain ⟨v, rfl, hd⟩ := drs1 q
  obtain ⟨ys, hl, hg⟩ := Option.bind_eq_some_iff.mp hg
  obtain ⟨bs, hb, rfl⟩ := Option.map_eq_some_iff.mp hg
  obtain ⟨a, vs, ea, h1, h2⟩ := asL_sq R hl (show VR G μ H d v from hd)
  rw [bools_rel hb h2] at h1
  exact cr_any hc pins s σ H _ us Q I rv ⟨a, bs, by rw [ea], .inl h1, got_here k R (.b _)⟩
theorem c_sum (hc : X.calm = true) : CallS G X (.builtin "sum") (on1 dSum) := by
  intro pins s σ H xs us Q μ S ds r I rv R q hg k
  obtain ⟨d, e0, hh⟩ := on1_inv hg
  subst e0
  clear hg
  revert hh
  intro hg
  obtain ⟨v, rfl, hd⟩ := drs1 q
  obtain ⟨ys, hl, hg⟩ := Option.bind_eq_some_iff.mp hg
  obtain ⟨bs, hb, rfl⟩ := Option.map_eq_some_iff.mp hg
  obtain ⟨a, vs, ea, h1, h2⟩ := asL_sq R hl (show VR G μ H d v from hd)
  rw [nums_rel hb h2] at h1
  exact cr_sum hc pins s σ H _ us Q I rv ⟨a, bs, by rw [ea], .inl h1, got_here k R (.i _)⟩
theorem c_max (hc : X.calm = true) : CallS G X (.builtin "max") (on1 dMax) := by
  intro pins s σ H xs us Q μ S ds r I rv R q hg k
  obtain ⟨d, e0, hh⟩ := on1_inv hg
  subst e0
  clear hg
  revert hh
  intro hg
  obtain ⟨v, rfl, hd⟩ := drs1 q
  obtain ⟨ys, hl, hg⟩ := Option.bind_eq_some_iff.mp hg
  obtain ⟨bs, hb, hg⟩ := Option.bind_eq_some_iff.mp hg
  split at hg
  · rename_i c
    cases hg
    obtain ⟨a, vs, ea, h1, h2⟩ := asL_sq R hl (show VR G μ H d v from hd)
    rw [nums_rel hb h2] at h1
    exact cr_max hc pins s σ H _ us Q I rv ⟨a, bs, by rw [ea], .inl h1, List.length_pos_iff.mpr c, fun m hm hy => by rw [maxI_is hm hy]; exact got_here k R (.i _)⟩
  · cases hg
theorem c_min (hc : X.calm = true) : CallS G X (.builtin "min") (on1 dMin) := by
  intro pins s σ H xs us Q μ S ds r I rv R q hg k
  obtain ⟨d, e0, hh⟩ := on1_inv hg
  subst e0
  clear hg
  revert hh
  intro hg
  obtain ⟨v, rfl, hd⟩ := drs1 q
  obtain ⟨ys, hl, hg⟩ := Option.bind_eq_some_iff.mp hg
  obtain ⟨bs, hb, hg⟩ := Option.bind_eq_some_iff.mp hg
  split at hg
  · rename_i c
    cases hg
    obtain ⟨a, vs, ea, h1, h2⟩ := asL_sq R hl (show VR G μ H d v from hd)
    rw [nums_rel hb h2] at h1
    exact cr_min hc pins s σ H _ us Q I rv ⟨a, bs, by rw [ea], .inl h1, List.length_pos_iff.mpr c, fun m hm hy => by rw [minI_is hm hy]; exact got_here k R (.i _)⟩
  · cases hg
theorem c_sorted : CallL G X (.builtin "sorted") (on1L dSorted) := by
  intro pins s σ H xs us Q μ S ds r I rv R q hg k
  obtain ⟨d, e0, hh⟩ := on1L_inv hg
  subst e0
  clear hg
  revert hh
  intro hg
  obtain ⟨v, rfl, hd⟩ := drs1 q
  obtain ⟨ys, hl, hg⟩ := Option.bind_eq_some_iff.mp hg
  obtain ⟨bs, hb, hg⟩ := Option.bind_eq_some_iff.mp hg
  split at hg
  · rename_i c
    cases hg
    obtain ⟨a, vs, ea, h1, h2⟩ := asL_sq R hl (show VR G μ H d v from hd)
    rw [txts_rel hb h2] at h1
    refine cr_sortedS pins s σ H _ us Q I rv ⟨a, bs, by rw [ea], .inl h1, c, fun ys p hp hs hn => ?_⟩
    rw [sortS_uniq hp hs]
    exact k _ p (txts_drs _) hn
  · cases hg
theorem c_list (hc : X.calm = true) : CallL G X (.type "list") (on1L dList) := by
  intro pins s σ H xs us Q μ S ds r I rv R q hg k
  obtain ⟨d, e0, hh⟩ := on1L_inv hg
  subst e0
  clear hg
  revert hh
  intro hg
  obtain ⟨v, rfl, hd⟩ := drs1 q
  unfold dList at hg
  split at hg
  · rename_i ys hl
    cases hg
    obtain ⟨a, vs, ea, h1, h2⟩ := items_at R hl (show VR G μ H d v from hd)
    rw [hK] at h1
    exact call_list_of pins s σ H _ us Q I rv ⟨a, vs, by rw [ea], h1.symm, fun l hn => k vs l h2 hn⟩
  · obtain ⟨⟨l, kvs⟩, e1, rfl⟩ := Option.map_eq_some_iff.mp hg
    obtain ⟨a, ks, rfl, hl, h1, h2⟩ := locD_at R e1 hd
    exact call_list_dK hc pins s σ H _ us Q I rv ⟨a, ks, rfl, h1, fun p hn => k _ p (krs_keys h2) hn⟩
theorem c_tuple : CallS G X (.type "tuple") (on1 dTuple) := by
  intro pins s σ H xs us Q μ S ds r I rv R q hg k
  obtain ⟨d, e0, hh⟩ := on1_inv hg
  subst e0
  clear hg
  revert hh
  intro hg
  obtain ⟨v, rfl, hd⟩ := drs1 q
  obtain ⟨ys, hl, rfl⟩ := Option.map_eq_some_iff.mp hg
  unfold itemsOf at hl
  split at hl
  · cases hl
    obtain ⟨a, vs, ea, h1, h2⟩ := DR.toTup hd
    rw [hK] at h1
    exact call_tuple_of pins s σ H _ us Q I rv ⟨a, vs, by rw [ea], .inr ⟨h1, by rw [← ea]; exact got_here k R hd⟩⟩
  · obtain ⟨a, vs, ea, h1, h2⟩ := asL_sq R hl (show VR G μ H d v from hd)
    exact call_tuple_of pins s σ H _ us Q I rv ⟨a, vs, by rw [ea], .inl ⟨.inl h1, fun l hn => got_tup k R h2 hn⟩⟩
theorem c_int : CallS G X (.type "int") (on1 dInt) := by
  intro pins s σ H xs us Q μ S ds r I rv R q hg k
  obtain ⟨d, e0, hh⟩ := on1_inv hg
  subst e0
  clear hg
  revert hh
  intro hg
  obtain ⟨v, rfl, hd⟩ := drs1 q
  unfold dInt at hg
  split at hg
  · cases hg
    exact call_int1 pins s σ H _ us Q I rv (.inl ⟨_, by rw [DR] at hd; rw [hd], got_here k R (.i _)⟩)
  · cases hg
    exact call_int1 pins s σ H _ us Q I rv (.inr ⟨_, by rw [DR] at hd; rw [hd], got_here k R (.i _)⟩)
  · split at hg
    · rename_i c
      obtain ⟨n, e1, rfl⟩ := Option.map_eq_some_iff.mp hg
      exact call_int_str pins s σ H _ us Q I rv ⟨_, n, by rw [DR] at hd; rw [hd], e1, c, got_here k R (.i _)⟩
    · cases hg
  · cases hg
theorem c_abs : CallS G X (.builtin "abs") (on1 dAbs) := by
  intro pins s σ H xs us Q μ S ds r I rv R q hg k
  obtain ⟨d, e0, hh⟩ := on1_inv hg
  subst e0
  clear hg
  revert hh
  intro hg
  obtain ⟨v, rfl, hd⟩ := drs1 q
  unfold dAbs at hg
  split at hg
  · cases hg
    exact call_abs pins s σ H _ us Q I rv ⟨_, by rw [DR] at hd; rw [hd], got_here k R (.i _)⟩
  · cases hg
theorem c_str : CallS G X (.type "str") (on1 dStr) := by
  intro pins s σ H xs us Q μ S ds r I rv R q hg k
  obtain ⟨d, e0, hh⟩ := on1_inv hg
  subst e0
  clear hg
  revert hh
  intro hg
  obtain ⟨v, rfl, hd⟩ := drs1 q
  unfold dStr at hg
  split at hg
  · split at hg
    · rename_i c
      cases hg
      exact call_str_int pins s σ H _ us Q I rv ⟨_, by rw [DR] at hd; rw [hd], c, got_here k R (.s _)⟩
    · cases hg
  · cases hg
theorem c_dict : CallN G X (.type "dict") dDict := by
  intro pins s σ H xs us Q μ S ds r I rv R q hg k
  unfold dDict at hg
  split at hg
  · rename_i d
    obtain ⟨v, rfl, hd⟩ := drs1 q
    obtain ⟨kvs, e1, rfl⟩ := Option.map_eq_some_iff.mp hg
    obtain ⟨l, a, ks, rfl, rfl, hl, h1, h2⟩ := asD_at R e1 (show VR G μ H d v from hd)
    exact call_dictD pins s σ H _ us Q I rv ⟨a, ks, rfl, h1, fun p hn => k (μ.add p) _ _ (Mo.add hn) (R.add hn ⟨ks, upd_same, h2.mo (Mo.add hn)⟩) (vr_new R p)⟩
  · cases hg
end
end Mt


set_option Elab.async false
set_option maxRecDepth 100000
set_option autoImplicit false
set_option linter.all false
/-! Statements, targets, while. -/
namespace Mt
open PySem PySem.Spec PyProof.Rows L2

/-- what comes of a statement -/
inductive Fs where
  | next (ρ : En) (S : Sto)
  | ret (d : D) (S : Sto)
  | brk (ρ : En) (S : Sto)
  | cont (ρ : En) (S : Sto)
  | ex (c : Str) (fs : List (Str × D)) (ρ : En) (S : Sto)
  | no
abbrev RunS := En → Sto → Fs
def FinS (G : Gx) (μ : Mu) (H : Hp) (r : Fs) (Z : Ends) (W : WX) : Prop :=
  match r with
  | .next ρ S => ∀ μ' H' σ', Mo μ H μ' H' → Rl G μ' S H' → SR G μ' H' ρ σ' → Z.nx σ' H'
  | .brk ρ S => ∀ μ' H' σ', Mo μ H μ' H' → Rl G μ' S H' → SR G μ' H' ρ σ' → Z.bk σ' H'
  | .cont ρ S => ∀ μ' H' σ', Mo μ H μ' H' → Rl G μ' S H' → SR G μ' H' ρ σ' → Z.ct σ' H'
  | .ret d S => ∀ μ' H' v, Mo μ H μ' H' → Rl G μ' S H' → VR G μ' H' d v → Z.rt v H'
  | .ex c fs ρ S => ∀ μ' H' cv dx σ', Mo μ H μ' H' → Rl G μ' S H' → XR G μ' H' c fs cv dx → SR G μ' H' ρ σ' → W cv dx σ' H'
  | .no => False
def tS (G : Gx) (W : WX) (r : RunS) : TS := fun Z σ H => ∃ μ ρ S, Rl G μ S H ∧ SR G μ H ρ σ ∧ FinS G μ H (r ρ S) Z W
section
variable {G : Gx} {μ μ1 : Mu} {H H1 : Hp} {r : Fs} {Z Z' : Ends} {W : WX}
theorem FinS.mo (h : FinS G μ H r Z W) (m : Mo μ H μ1 H1) : FinS G μ1 H1 r Z W := by
  cases r with
  | next ρ S => exact fun μ' H' σ' m' => h μ' H' σ' (m.trans m')
  | brk ρ S => exact fun μ' H' σ' m' => h μ' H' σ' (m.trans m')
  | cont ρ S => exact fun μ' H' σ' m' => h μ' H' σ' (m.trans m')
  | ret d S => exact fun μ' H' v m' => h μ' H' v (m.trans m')
  | ex c fs ρ S => exact fun μ' H' cv dx σ' m' => h μ' H' cv dx σ' (m.trans m')
  | no => exact h
/-- an expression, then more -/
def toS (r : R D) (ρ : En) (k : D → Sto → Fs) : Fs :=
  match r with
  | .ok d S => k d S
  | .ex c fs S => .ex c fs ρ S
  | .no => .no
@[simp] theorem toS_ok (d : D) (S : Sto) (ρ : En) (k : D → Sto → Fs) : toS (.ok d S) ρ k = k d S := rfl
@[simp] theorem toS_ex (c : Str) (fs : List (Str × D)) (S : Sto) (ρ : En) (k : D → Sto → Fs) : toS (.ex c fs S) ρ k = .ex c fs ρ S := rfl
theorem FinS.toS {r : R D} {ρ : En} {σ : L2.St} {k : D → Sto → Fs} (h : FinS G μ H (Mt.toS r ρ k) Z W) (s : SR G μ H ρ σ) :
    Fin G μ H r (fun v H1 => ∃ μ1 d S1, Mo μ H μ1 H1 ∧ Rl G μ1 S1 H1 ∧ VR G μ1 H1 d v ∧ FinS G μ1 H1 (k d S1) Z W) fun cv dx H' => W cv dx σ H' := by
  cases r with
  | ok d S => exact fun μ' H' v m R q => ⟨μ', d, S, m, R, q, FinS.mo h m⟩
  | ex c fs S => exact fun μ' H' cv dx m R x => h μ' H' cv dx σ m R x (s.mo m)
  | no => exact h
end
def condS (d : D) (a b : Fs) : Fs :=
  match d with
  | .bl true => a
  | .bl false => b
  | _ => .no
theorem condS_fin {G : Gx} {μ : Mu} {H : Hp} {d : D} {a b : Fs} {Z : Ends} {W : WX} (h : FinS G μ H (condS d a b) Z W) : (d = .bl true ∧ FinS G μ H a Z W) ∨ (d = .bl false ∧ FinS G μ H b Z W) := by
  unfold condS at h
  split at h
  · exact .inl ⟨rfl, h⟩
  · exact .inr ⟨rfl, h⟩
  · exact h.elim
/-! ### blocks -/
def rsNil : RunS := fun ρ S => .next ρ S
def andThen (r : Fs) (k : RunS) : Fs :=
  match r with
  | .next ρ S => k ρ S
  | r => r
def rsSeq (a b : RunS) : RunS := fun ρ S => andThen (a ρ S) b
def rsExpr (ra : Run) : RunS := fun ρ S => toS (ra ρ S) ρ fun _ S1 => .next ρ S1
def rsRet (ra : Run) : RunS := fun ρ S => toS (ra ρ S) ρ fun d S1 => .ret d S1
def rsRetN : RunS := fun _ S => .ret .non S
def rsIf (rc : Run) (a b : RunS) : RunS := fun ρ S => toS (rc ρ S) ρ fun d S1 => condS d (a ρ S1) (b ρ S1)
theorem FinS.seq {G : Gx} {μ : Mu} {H : Hp} {r : Fs} {b : RunS} {Z : Ends} {W : WX} (h : FinS G μ H (andThen r b) Z W) : FinS G μ H r { Z with nx := tS G W b Z } W := by
  cases r with
  | next ρ S => exact fun μ' H' σ' m R s => ⟨μ', ρ, S, R, s, FinS.mo h m⟩
  | brk ρ S => exact h
  | cont ρ S => exact h
  | ret d S => exact h
  | ex c fs ρ S => exact h
  | no => exact h
section
variable {X : Cx} {G : Gx} {W : WX} {pos : Pos} {ra rc : Run} {a b : RunS} {e c : Expr} {st : Stmt} {rest sa sb : List Stmt}
theorem ss_nil : PSs X [] (tS G W rsNil) := pssImp pss_nil fun Z σ H ⟨μ, ρ, S, R, s, f⟩ => f μ H σ (Mo.refl μ H) R s
theorem ss_cons (h1 : PS X st (tS G W a)) (h2 : PSs X rest (tS G W b)) : PSs X (st :: rest) (tS G W (rsSeq a b)) :=
  pssImp (pss_cons h1 h2) fun Z σ H ⟨μ, ρ, S, R, s, f⟩ => ⟨μ, ρ, S, R, s, FinS.seq f⟩
theorem s_pass : PS X (.Pass pos) (tS G W rsNil) := psImp ps_pass fun Z σ H ⟨μ, ρ, S, R, s, f⟩ => f μ H σ (Mo.refl μ H) R s
theorem s_expr (h : PE X e (tI G W ra)) (hs : swapsWith e none pos.line X.env = pure false) : PS X (.Expr e pos) (tS G W (rsExpr ra)) :=
  psImp (ps_expr h hs) fun Z σ H ⟨μ, ρ, S, R, s, f⟩ => ⟨μ, ρ, S, R, s, (FinS.toS f s).mono fun v H1 ⟨μ1, d, S1, m, R1, q, f1⟩ => f1 μ1 H1 σ (Mo.refl _ _) R1 (s.mo m)⟩
theorem s_ret (h : PE X e (tI G W ra)) : PS X (.Return (some e) pos) (tS G W (rsRet ra)) :=
  psImp (ps_ret h) fun Z σ H ⟨μ, ρ, S, R, s, f⟩ => ⟨μ, ρ, S, R, s, (FinS.toS f s).mono fun v H1 ⟨μ1, d, S1, m, R1, q, f1⟩ => f1 μ1 H1 v (Mo.refl _ _) R1 q⟩
theorem s_retN : PS X (.Return none pos) (tS G W rsRetN) := psImp ps_retN fun Z σ H ⟨μ, ρ, S, R, s, f⟩ => f μ H _ (Mo.refl μ H) R (.of .n)
theorem s_if (hc : PT X c (tT G W rc)) (ha : PSs X sa (tS G W a)) (hb : PSs X sb (tS G W b)) : PS X (.If c sa sb pos) (tS G W (rsIf rc a b)) :=
  psImp (ps_if hc ha hb) fun Z σ H ⟨μ, ρ, S, R, s, f⟩ => ⟨μ, ρ, S, R, s, (FinS.toS f s).mono fun v H1 ⟨μ1, d, S1, m, R1, q, f1⟩ => by
    rcases condS_fin f1 with ⟨e, k⟩ | ⟨e, k⟩
    · subst e; exact ⟨true, q.bl, iteT ⟨μ1, ρ, S1, R1, s.mo m, k⟩⟩
    · subst e; exact ⟨false, q.bl, iteF ⟨μ1, ρ, S1, R1, s.mo m, k⟩⟩⟩
end

/-! ### targets -/
abbrev Tgt := D → En → Sto → Option (En × Sto)
abbrev Tgts := List D → En → Sto → Option (En × Sto)
/-- the slots but those at js are as they were -/
def Only (js : List Nat) (σ σ' : L2.St) : Prop := σ'.length = σ.length ∧ ∀ i, i ∉ js → σ'[i]? = σ[i]?
theorem Only.refl (js : List Nat) (σ : L2.St) : Only js σ σ := ⟨rfl, fun _ _ => rfl⟩
theorem Only.trans {js ks : List Nat} {σ σ1 σ2 : L2.St} (a : Only js σ σ1) (b : Only ks σ1 σ2) : Only (js ++ ks) σ σ2 :=
  ⟨b.1.trans a.1, fun i hi => (b.2 i fun z => hi (List.mem_append_right _ z)).trans (a.2 i fun z => hi (List.mem_append_left _ z))⟩
def GotT (G : Gx) (μ : Mu) (H : Hp) (js : List Nat) (σ : L2.St) (o : En × Sto) (Q : L2.St → Hp → Prop) : Prop := ∀ μ' H' σ', Mo μ H μ' H' → Rl G μ' o.2 H' → SR G μ' H' o.1 σ' → Only js σ σ' → Q σ' H'
def tG (G : Gx) (js : List Nat) (g : Tgt) : TG := fun v σ H Q => ∃ μ ρ S d o, Rl G μ S H ∧ SR G μ H ρ σ ∧ VR G μ H d v ∧ g d ρ S = some o ∧ GotT G μ H js σ o Q
def tGs (G : Gx) (js : List Nat) (g : Tgts) : TGs := fun vs σ H Q => ∃ μ ρ S ds o, Rl G μ S H ∧ SR G μ H ρ σ ∧ DRs G.K μ H ds vs ∧ g ds ρ S = some o ∧ GotT G μ H js σ o Q
theorem pgImp {X : Cx} {e : Expr} {t t' : TG} (h : PG X e t) (k : ∀ v σ H Q, t' v σ H Q → t v σ H Q) : PG X e t' := ⟨fun pins s σ H v u Q I r z => h.run pins s σ H v u Q I r (k v σ H Q z)⟩
theorem pgsImp {X : Cx} {e : List Expr} {t t' : TGs} (h : PGs X e t) (k : ∀ v σ H Q, t' v σ H Q → t v σ H Q) : PGs X e t' := ⟨fun pins s σ H v u Q I r z => h.run pins s σ H v u Q I r (k v σ H Q z)⟩
theorem pgOr {X : Cx} {e : Expr} {t t' : TG} (h : PG X e t) (h' : PG X e t') : PG X e (fun v σ H Q => t v σ H Q ∨ t' v σ H Q) := ⟨fun pins s σ H v u Q I r z => z.elim (h.run pins s σ H v u Q I r) (h'.run pins s σ H v u Q I r)⟩
def gtName (i : Nat) : Tgt := fun d ρ S => some (ρ.set i d, S)
def gtNil : Tgts := fun ds ρ S => match ds with
  | [] => some (ρ, S)
  | _ => none
def gtCons (g : Tgt) (gs : Tgts) : Tgts := fun ds ρ S => match ds with
  | d :: r => (g d ρ S).bind fun o => gs r o.1 o.2
  | [] => none
def gtTup (n : Nat) (gs : Tgts) : Tgt := fun d ρ S => (itemsOf S d).bind fun ds => if ds.length = n then gs ds ρ S else none
section
variable {X : Cx} {G : Gx} {W : WX} {pos : Pos} {g : Tgt} {gs : Tgts} {e : Expr} {es : List Expr} {js ks : List Nat}
theorem g_name {i : Nat} {x : Str} (h : PG X (.Name x pos) (gName i)) : PG X (.Name x pos) (tG G [i] (gtName i)) :=
  pgImp h fun v σ H Q ⟨μ, ρ, S, d, o, R, s, q, eo, k⟩ => by
    cases eo
    exact k μ H _ (Mo.refl _ _) R (s.set q) ⟨List.length_set .., fun j hj => List.getElem?_set_ne (fun z => hj (by simp [z]))⟩
theorem g_nil : PGs X [] (tGs G [] gtNil) := pgsImp pgs_nil fun vs σ H Q ⟨μ, ρ, S, ds, o, R, s, q, eo, k⟩ => by
  unfold gtNil at eo
  split at eo
  · cases eo
    rw [DRs] at q
    exact ⟨q, k μ H _ (Mo.refl _ _) R s (Only.refl _ _)⟩
  · cases eo
theorem g_cons (h1 : PG X e (tG G js g)) (h2 : PGs X es (tGs G ks gs)) (hs : (assignEach (e :: es) X.env).map (·.2) = assign e X.env :: (assignEach es X.env).map (·.2)) : PGs X (e :: es) (tGs G (js ++ ks) (gtCons g gs)) :=
  pgsImp (pgs_cons h1 h2 hs) fun vs σ H Q ⟨μ, ρ, S, ds, o, R, s, q, eo, k⟩ => by
    unfold gtCons at eo
    split at eo
    · rename_i d r
      obtain ⟨o1, e1, e2⟩ := Option.bind_eq_some_iff.mp eo
      rw [DRs] at q
      obtain ⟨v, vr, ev, q1, q2⟩ := q
      exact ⟨v, vr, ev, μ, ρ, S, d, o1, R, s, q1, e1, fun μ' H' σ' m R' s' on => ⟨μ', o1.1, o1.2, r, o, R', s', DRs.mo m _ _ q2, e2, fun μ2 H2 σ2 m2 R2 s2 on2 => k μ2 H2 σ2 (m.trans m2) R2 s2 (on.trans on2)⟩⟩
    · cases eo
theorem g_tup {k : Nat} {n : Nat} (hK : G.K = X.K) (hc : X.calm = true) (h : PGs X es (tGs G js gs)) (hn : (assignEach es X.env).length = n) (hst : (assignEach es X.env).findIdx? (·.1) = none) : PG X (.Tuple es k pos) (tG G js (gtTup n gs)) :=
  pgImp (pgOr (pg_tup hc h hn hst) (pg_lst hc h hn hst)) fun v σ H Q ⟨μ, ρ, S, d, o, R, s, q, eo, w⟩ => by
    obtain ⟨ds, e1, e2⟩ := Option.bind_eq_some_iff.mp eo
    split at e2
    · rename_i hl
      obtain ⟨a, vs, ea, h1, h2⟩ := items_at R e1 q
      rw [hK] at h1
      have hl' : vs.length = n := by rw [← h2.length]; exact hl
      rcases h1 with h1 | h1
      · exact .inl ⟨a, vs, ea, h1, hl', μ, ρ, S, ds, o, R, s, h2, e2, w⟩
      · exact .inr ⟨a, vs, ea, h1, hl', μ, ρ, S, ds, o, R, s, h2, e2, w⟩
    · cases e2
/-! o[i] = v -/
def dput (kvs : List (D × D)) (k v : D) : List (D × D) := if kvs.any (fun p => decide (p.1 = k)) then kvs.map (fun p => if p.1 = k then (p.1, v) else p) else kvs ++ [(k, v)]
def setIx (S : Sto) (o i d : D) : Option Sto :=
  match o with
  | .loc l => match S[l]?, i with
    | some (.lst xs), .int k => (ixN xs.length k).map fun j => S.set l (.lst (xs.set j d))
    | some (.dic kvs), i => if (keyOf i).isSome && decide (kvs.length < big) then some (S.set l (.dic (dput kvs i d))) else none
    | _, _ => none
  | _ => none
theorem krs_any {K : PySem.W.Frag} {μ : Mu} {H : Hp} {k : Key} : ∀ {kvs : List (D × D)} {ks : List (Key × V)}, KRs K μ H kvs ks → (kvs.any fun p => decide (p.1 = keyD k)) = ks.any fun kv => decide (kv.1 = k)
  | [], _, .nil => rfl
  | (a, b) :: r, (j, v) :: q, .cons ⟨e, h⟩ t => by
    have e' : a = keyD j := e
    subst e'
    rw [List.any_cons, List.any_cons, krs_any t]
    by_cases c : j = k
    · subst c; simp
    · have c' : ¬ keyD j = keyD k := fun z => c (keyD_inj z)
      simp [c, c']
theorem krs_map {K : PySem.W.Frag} {μ : Mu} {H : Hp} {k : Key} {d : D} {v : V} (hd : DR K μ H d v) : ∀ {kvs : List (D × D)} {ks : List (Key × V)}, KRs K μ H kvs ks → KRs K μ H (kvs.map fun p => if p.1 = keyD k then (p.1, d) else p) (ks.map fun kv => if kv.1 = k then (kv.1, v) else kv)
  | [], _, .nil => .nil
  | (a, b) :: r, (j, w) :: q, .cons ⟨e, h⟩ t => by
    have e' : a = keyD j := e
    subst e'
    rw [List.map_cons, List.map_cons]
    by_cases c : j = k
    · subst c
      rw [if_pos rfl, if_pos rfl]
      exact .cons ⟨rfl, hd⟩ (krs_map hd t)
    · have c' : ¬ keyD j = keyD k := fun z => c (keyD_inj z)
      rw [if_neg c, if_neg c']
      exact .cons ⟨rfl, h⟩ (krs_map hd t)
theorem krs_append {K : PySem.W.Frag} {μ : Mu} {H : Hp} : ∀ {kvs ls : List (D × D)} {ks ms : List (Key × V)}, KRs K μ H kvs ks → KRs K μ H ls ms → KRs K μ H (kvs ++ ls) (ks ++ ms)
  | [], _, _, _, .nil, h => h
  | _ :: _, _, _ :: _, _, .cons r t, h => .cons r (krs_append t h)
theorem krs_put {K : PySem.W.Frag} {μ : Mu} {H : Hp} {k : Key} {d : D} {v : V} {kvs : List (D × D)} {ks : List (Key × V)} (h : KRs K μ H kvs ks) (hd : DR K μ H d v) : KRs K μ H (dput kvs (keyD k) d) (putK ks k v) := by
  unfold dput putK
  rw [krs_any h]
  split
  · exact krs_map hd h
  · exact krs_append h (.cons ⟨rfl, hd⟩ .nil)
/-- o[i] = v by values -/
def cSet (G : Gx) : TSet := fun o i v H Q => ∃ μ S do' di dv S', Rl G μ S H ∧ VR G μ H do' o ∧ VR G μ H di i ∧ VR G μ H dv v ∧ setIx S do' di dv = some S' ∧ ∀ H', Mo μ H μ H' → Rl G μ S' H' → Q H'
theorem psetOr {X : Cx} {t t' : TSet} (h : PSet X t) (h' : PSet X t') : PSet X (fun o i v H Q => t o i v H Q ∨ t' o i v H Q) := fun pins s σ H o i v ov iv u Q I a b c z =>
  z.elim (h pins s σ H o i v ov iv u Q I a b c) (h' pins s σ H o i v ov iv u Q I a b c)
theorem psetImp {X : Cx} {t t' : TSet} (h : PSet X t) (k : ∀ o i v H Q, t' o i v H Q → t o i v H Q) : PSet X t' := fun pins s σ H o i v ov iv u Q I a b c z => h pins s σ H o i v ov iv u Q I a b c (k o i v H Q z)
theorem p_set (hu : X.A.units + 200 < cLine) : PSet X (cSet G) :=
  psetImp (psetOr set_list (set_dict (by omega))) fun o i v H Q ⟨μ, S, do', di, dv, S', R, q1, q2, q3, es, k⟩ => by
    unfold setIx at es
    split at es
    · have q1' := q1.data
      rw [DR] at q1'
      obtain ⟨a, ea, hl⟩ := q1'
      split at es
      · rename_i l xs j hS
        obtain ⟨j', hj, rfl⟩ := Option.map_eq_some_iff.mp es
        obtain ⟨vs, h1, h2⟩ := R.at_ _ a _ hl hS
        exact .inl ⟨a, vs, _, j', ea, q2.int, h1, by rw [← h2.length]; exact hj, k _ (Mo.write R hl (nofrz_lst h1)) (R.write hl (nofrz_lst h1) ⟨_, upd_same, DRs.mo (Mo.write R hl (nofrz_lst h1)) _ _ (DRs.set q3.data j' h2)⟩)⟩
      · rename_i l kvs hS
        split at es
        · rename_i c
          cases es
          simp only [Bool.and_eq_true, decide_eq_true_eq] at c
          obtain ⟨ky, hk⟩ := Option.isSome_iff_exists.mp c.1
          obtain ⟨ks, h1, h2⟩ := R.at_ _ a _ hl hS
          have ei := q2.key hk
          have ed := keyOf_some hk
          subst ei ed
          have hz : ks.length < sizeLine := by rw [← krs_length h2]; exact Nat.lt_of_lt_of_le c.2 (big_le (Nat.le_refl _))
          exact .inr ⟨a, _, ea, DPut.k (k := ky) h1 hz, k _ (Mo.write R hl (nofrz_dK h1)) (R.write hl (nofrz_dK h1) ⟨_, upd_same, (krs_put h2 q3.data).mo (Mo.write R hl (nofrz_dK h1))⟩)⟩
        · cases es
      · cases es
    · cases es
def gtSub (ra rb : Run) : Tgt := fun d ρ S => match ra ρ S with
  | .ok o S1 => match rb ρ S1 with
    | .ok i S2 => (setIx S2 o i d).map fun S3 => (ρ, S3)
    | _ => none
  | _ => none
/-- a place written to: no slice -/
def PlainSet (X : Cx) (o i : Expr) (pos : Pos) : Prop := ∀ v, assign (.Subscript o i pos) X.env v = (do
      let ov ← holding [v] (eval o X.env)
      let iv ← holding [v, ov] (eval i X.env)
      standAt pos
      holding [v, ov, iv] (setItem ov iv v)
      release [v, ov, iv] [])
theorem g_sub {o i : Expr} {ra rb : Run} (hu : X.A.units + 200 < cLine) (ha : PlainSet X o i pos) (ho : PE X o (tI G W ra)) (hi : PE X i (tI G W rb)) : PG X (.Subscript o i pos) (tG G [] (gtSub ra rb)) :=
  pgImp (pg_sub ho hi (p_set (G := G) hu) ha) fun v σ H Q ⟨μ, ρ, S, d, o', R, s, q, eo, w⟩ => by
    unfold gtSub at eo
    split at eo
    · rename_i d1 S1 e1
      split at eo
      · rename_i d2 S2 e2
        obtain ⟨S3, e3, rfl⟩ := Option.map_eq_some_iff.mp eo
        refine ⟨μ, ρ, S, R, s, ?_⟩
        rw [e1]
        intro μ1 H1 v1 m1 R1 q1
        refine ⟨μ1, ρ, S1, R1, s.mo m1, ?_⟩
        rw [e2]
        intro μ2 H2 v2 m2 R2 q2
        exact ⟨μ2, S2, d1, d2, d, S3, R2, q1.mo m2, q2, (q.mo m1).mo m2, e3, fun H' m R' => w μ2 H' σ ((m1.trans m2).trans m) R' ((s.mo (m1.trans m2)).mo m) (Only.refl _ _)⟩
      · cases eo
    · cases eo
/-! assignments -/
def rsAsg (ra : Run) (g : Tgt) : RunS := fun ρ S => toS (ra ρ S) ρ fun d S1 => match g d ρ S1 with
  | some o => .next o.1 o.2
  | none => .no
theorem asg_of {ra : Run} {σ : L2.St} {H : Hp} {Z : Ends} (h : tS G W (rsAsg ra g) Z σ H) : tAsg (tI G W ra) (tG G js g) Z σ H := by
  obtain ⟨μ, ρ, S, R, s, f⟩ := h
  refine ⟨μ, ρ, S, R, s, (FinS.toS f s).mono fun v H1 ⟨μ1, d, S1, m, R1, q, f1⟩ => ?_⟩
  split at f1
  · rename_i o e1
    exact ⟨μ1, ρ, S1, d, o, R1, s.mo m, q, e1, fun μ' H' σ' m' R' s' _ => f1 μ' H' σ' m' R' s'⟩
  · exact f1.elim
theorem s_asg {tg : Expr} {ra : Run} (he : PE X e (tI G W ra)) (hg : PG X tg (tG G js g)) (hs : swapsWithSole [tg] e pos.line X.env = pure false) (hw : swappedStores [tg] e X.env = pure none) (h1 : (assignEach [tg] X.env).map (·.2) = [assign tg X.env]) :
    PS X (.Assign [tg] e pos) (tS G W (rsAsg ra g)) := psImp (ps_asg he hg hs hw h1) fun Z σ H h => asg_of h
end

/-! ### while -/
def rsWhile (rc : Run) (b : RunS) : Nat → RunS
  | 0, _, _ => .no
  | n + 1, ρ, S => toS (rc ρ S) ρ fun d S1 => condS d (match b ρ S1 with
      | .next ρ' S' => rsWhile rc b n ρ' S'
      | .cont ρ' S' => rsWhile rc b n ρ' S'
      | .brk ρ' S' => .next ρ' S'
      | r => r) (.next ρ S1)
theorem s_while {X : Cx} {G : Gx} {W : WX} {pos : Pos} {c : Expr} {body : List Stmt} {rc : Run} {b : RunS} {fuel : Nat} (hp : PassesOwn (model X.prog X.w) X.A X.env X.xe) (hc : PT X c (tT G W rc)) (hb : PSs X body (tS G W b)) :
    PS X (.While c body [] pos) (tS G W (rsWhile rc b fuel)) :=
  psImp (ps_while hp hc hb) fun Z σ H ⟨μ, ρ, S, R, s, f⟩ => by
    refine ⟨fun n σ' H' => tS G W (rsWhile rc b n) Z σ' H', ⟨fuel, μ, ρ, S, R, s, f⟩, ?_⟩
    rintro n σ1 H1 ⟨μ1, ρ1, S1, R1, s1, f1⟩
    cases n with
    | zero => exact f1.elim
    | succ n =>
      refine ⟨μ1, ρ1, S1, R1, s1, (FinS.toS f1 s1).mono fun v H2 ⟨μ2, d, S2, m2, R2, q2, f2⟩ => ?_⟩
      rcases condS_fin f2 with ⟨e, k⟩ | ⟨e, k⟩
      · subst e
        refine ⟨true, q2.bl, iteT ⟨fun σ' H' => tS G W (rsWhile rc b n) Z σ' H', fun σ' H' w => ⟨n, Nat.lt_succ_self n, w⟩, μ2, ρ1, S2, R2, s1.mo m2, ?_⟩⟩
        revert k
        cases b ρ1 S2 with
        | next ρ' S' => exact fun k μ' H' σ' m R' s' => ⟨μ', ρ', S', R', s', FinS.mo k m⟩
        | cont ρ' S' => exact fun k μ' H' σ' m R' s' => ⟨μ', ρ', S', R', s', FinS.mo k m⟩
        | brk ρ' S' => exact fun k => k
        | ret d S' => exact fun k => k
        | ex c fs ρ' S' => exact fun k => k
        | no => exact fun k => k
      · subst e
        exact ⟨false, q2.bl, iteF (k μ2 H2 σ1 (Mo.refl _ _) R2 (s1.mo m2))⟩
end Mt


set_option Elab.async false
set_option maxRecDepth 100000
set_option autoImplicit false
set_option linter.all false
/-! What is walked; for; list comprehensions. -/
namespace Mt
open PySem PySem.Spec PyProof.Rows L2

/-! ### what is walked: the items, and what must stand meanwhile -/
inductive Ck where
  | free
  | at (l : Nat) (o : Ob)
def Ck.ok (S : Sto) : Ck → Bool
  | .free => true
  | .at l o => decide (S[l]? = some o)
abbrev RunI := En → Sto → R (List D × Ck)
/-- the iterator serves the items -/
structure Wk (G : Gx) (J : It) (ds : List D) (ck : Ck) (μ0 : Mu) (H0 : Hp) : Prop where
  go : ∀ (i : Nat) (μ : Mu) (S : Sto) (H : Hp) (d : D), Mo μ0 H0 μ H → Rl G μ S H → ck.ok S = true → ds[i]? = some d → J.go i H ∧ ∀ x H', J.yld i H x H' → Mo μ H μ H' ∧ Rl G μ S H' ∧ VR G μ H' d x
  stop : ∀ (i : Nat) (μ : Mu) (S : Sto) (H : Hp), Mo μ0 H0 μ H → Rl G μ S H → ck.ok S = true → ds.length ≤ i → J.stop i H
theorem Wk.mo {G : Gx} {J : It} {ds : List D} {ck : Ck} {μ0 μ1 : Mu} {H0 H1 : Hp} (w : Wk G J ds ck μ0 H0) (m : Mo μ0 H0 μ1 H1) : Wk G J ds ck μ1 H1 :=
  ⟨fun i μ S H d m' => w.go i μ S H d (m.trans m'), fun i μ S H m' => w.stop i μ S H (m.trans m')⟩
def FinI (G : Gx) (μ : Mu) (H : Hp) (r : R (List D × Ck)) (Q : It → Hp → Prop) (E : XK) : Prop :=
  match r with
  | .ok p S => ∀ μ' H' J, Mo μ H μ' H' → Rl G μ' S H' → p.2.ok S = true → Wk G J p.1 p.2 μ' H' → Q J H'
  | .ex c fs S' => ∀ μ' H' cv dx, Mo μ H μ' H' → Rl G μ' S' H' → XR G μ' H' c fs cv dx → E cv dx H'
  | .no => False
def tIt (G : Gx) (W : WX) (r : RunI) : TI := fun σ H Q => ∃ μ ρ S, Rl G μ S H ∧ SR G μ H ρ σ ∧ FinI G μ H (r ρ S) Q fun cv dx H' => W cv dx σ H'
theorem piImp {X : Cx} {tg e : Expr} {t t' : TI} (h : PI X tg e t) (k : ∀ σ H Q, t' σ H Q → t σ H Q) : PI X tg e t' := ⟨fun pins s σ H Q I z => h.run pins s σ H Q I (k σ H Q z)⟩
def ckOf (S : Sto) : D → Ck
  | .loc l => match S[l]? with
    | some o => .at l o
    | none => .free
  | _ => .free
theorem ck_here (S : Sto) (d : D) : (ckOf S d).ok S = true := by
  unfold ckOf
  split
  · split
    · rename_i e; simp [Ck.ok, e]
    · rfl
  · rfl
section
variable {G : Gx} {μ : Mu} {S : Sto} {H : Hp}
/-- a list as it stands later -/
theorem asL_later (R : Rl G μ S H) {d : D} {xs : List D} {v : V} (e : asL S d = some xs) (h : VR G μ H d v) :
    ∃ a, v = .ref a ∧ ∀ (μ' : Mu) (S' : Sto) (H' : Hp), Mo μ H μ' H' → Rl G μ' S' H' → (ckOf S d).ok S' = true → ∃ vs, Rd H' a (.lst vs) ∧ DRs G.K μ' H' xs vs := by
  cases d with
  | lst ds =>
    cases e
    have h' := h.data
    rw [DR] at h'
    obtain ⟨a, vs, ea, t, r⟩ := h'
    exact ⟨a, ea, fun μ' S' H' m R' _ => ⟨vs, (t.mo m).1, DRs.mo m _ _ r⟩⟩
  | loc l =>
    have h' := h.data
    rw [DR] at h'
    obtain ⟨a, ea, hl⟩ := h'
    refine ⟨a, ea, fun μ' S' H' m R' ck => ?_⟩
    unfold asL at e
    dsimp only at e
    split at e
    · rename_i ys eo
      cases e
      unfold ckOf at ck
      dsimp only at ck
      rw [eo] at ck
      have ck' : S'[l]? = some (.lst xs) := by simpa [Ck.ok] using ck
      obtain ⟨vs, h1, h2⟩ := R'.at_ l a _ (m.at hl) ck'
      exact ⟨vs, .inl h1, h2⟩
    · cases e
  | _ => cases e
theorem rd_uniq {X : Cx} {pins : List (Addr × Obj)} {σ : L2.St} {s : Shared} {a : Addr} {xs ys : List V} (h1 : Rd H a (.lst xs)) (h2 : Rd H a (.lst ys)) : xs = ys := by
  rcases h1 with h1 | ⟨o, h1⟩ <;> rcases h2 with h2 | ⟨o', h2⟩ <;> rw [h1] at h2 <;> cases h2 <;> rfl
end
/-- list, tuple -/
def dSeq (S : Sto) (d : D) : Option (List D × Ck) := (itemsOf S d).map fun xs => (xs, ckOf S d)
def rSeq (ra : Run) : RunI := fun ρ S => (ra ρ S).bind fun d S1 => match dSeq S1 d with
  | some p => .ok p S1
  | none => .no
theorem FinI.bind {G : Gx} {μ : Mu} {H : Hp} {Q : It → Hp → Prop} {E : XK} {r : R D} {k : D → Sto → R (List D × Ck)} (h : FinI G μ H (r.bind k) Q E) : Fin G μ H r (fun v H1 => ∃ μ1 d S1, Mo μ H μ1 H1 ∧ Rl G μ1 S1 H1 ∧ VR G μ1 H1 d v ∧ FinI G μ1 H1 (k d S1) Q E) E := by
  cases r with
  | ok d S =>
    refine fun μ' H' v m R q => ⟨μ', d, S, m, R, q, ?_⟩
    have h' : FinI G μ H (k d S) Q E := h
    cases e : k d S with
    | ok p S' => rw [e] at h'; exact fun μ2 H2 J m2 => h' μ2 H2 J (m.trans m2)
    | ex c fs S' => rw [e] at h'; exact fun μ2 H2 cv dx m2 => h' μ2 H2 cv dx (m.trans m2)
    | no => rw [e] at h'; exact h'
  | ex c fs S => exact h
  | no => exact h
section
variable {X : Cx} {G : Gx} {W : WX} {pos : Pos} {ra : Run} {tg e : Expr}
theorem piOr {t t' : TI} (h : PI X tg e t) (h' : PI X tg e t') : PI X tg e (fun σ H Q => t σ H Q ∨ t' σ H Q) := ⟨fun pins s σ H Q I z => z.elim (h.run pins s σ H Q I) (h'.run pins s σ H Q I)⟩
/-- over a value -/
def iOne (t : TE) (k : V → Hp → (It → Hp → Prop) → Prop) : TI := fun σ H Q => t σ H fun x H1 => k x H1 Q
theorem i_seq (hK : G.K = X.K) (ha : PE X e (tI G W ra)) : PI X tg e (tIt G W (rSeq ra)) := by
  refine ⟨fun pins s σ H Q I h => ?_⟩
  obtain ⟨μ, ρ, S, R, sr, f⟩ := h
  refine thn (ha.run pins s σ H _ I ⟨μ, ρ, S, R, sr, FinI.bind f⟩) fun v s1 ⟨x, H1, I1, r1, μ1, d, S1, m, R1, q1, f1⟩ => ?_
  split at f1
  · rename_i p ep
    obtain ⟨xs, e1, rfl⟩ := Option.map_eq_some_iff.mp ep
    unfold itemsOf at e1
    split at e1
    · rename_i ys
      cases e1
      obtain ⟨a, vs, ea, h1, h2⟩ := DR.toTup q1.data
      subst ea
      have q1' := q1.data
      rw [DR] at q1'
      obtain ⟨a', vs', ea, t, r⟩ := q1'
      cases ea
      cases r1
      rw [hK] at t
      have hsq := TupAt.sq t
      obtain ⟨its, rv, p, hz⟩ := I1.tuple hsq
      refine wpAny_pyIter_tuple (show s1.heap.IsTuple a its.toArray from p) ?_
      refine ⟨s1.heap.objs.size, [s1.heap.objs.size], _, _, H1, rfl, I1.kept (t' := s1.toks) fun b o e => Heap.get?_push_of_some _ e, turn_tuple a _, ⟨_, Heap.get?_push_size _ rfl, rfl, rfl⟩, fun b hb => ?_, f1 μ1 H1 _ (Mo.refl _ _) R1 (ck_here S1 (.tup xs)) ?_⟩
      · have e : b = s1.heap.objs.size := by simpa using hb
        subst e
        exact I1.fpOk (Nat.le_refl _) (I1.hok.fresh (Nat.le_refl _))
      · rw [← hK] at t
        refine ⟨fun i μ' S' H' d m' R' _ hd => ?_, fun i μ' S' H' m' R' _ hi => ?_⟩
        · have t' := t.mo m'
          have r' := DRs.mo m' _ _ r
          obtain ⟨x, hx, rx⟩ := r'.get hd
          have t2 := t'.sq
          rw [hK] at t2
          exact ⟨⟨vs', x, t2, hx⟩, fun y H'' ⟨e1, e2⟩ => by
            subst e1
            have := e2 vs' t2
            rw [hx] at this; cases this
            exact ⟨Mo.refl _ _, R', rx⟩⟩
        · have t2 := (t.mo m').sq
          rw [hK] at t2
          exact ⟨vs', t2, by rw [← r.length]; exact hi⟩
    · obtain ⟨a, ea, lat⟩ := asL_later R1 e1 q1
      subst ea
      cases r1
      obtain ⟨vs0, h0, _⟩ := lat μ1 S1 H1 (Mo.refl _ _) R1 (ck_here _ _)
      obtain ⟨its, rv, p, hz⟩ := I1.list (.inl h0)
      refine wpAny_pyIter_list p.isList ?_
      refine ⟨s1.heap.objs.size, [s1.heap.objs.size], _, _, H1, rfl, I1.kept (t' := s1.toks) fun b o e => Heap.get?_push_of_some _ e, turn_list a _, ⟨_, Heap.get?_push_size _ rfl, rfl, rfl⟩, fun b hb => ?_, f1 μ1 H1 _ (Mo.refl _ _) R1 (ck_here _ _) ?_⟩
      · have e : b = s1.heap.objs.size := by simpa using hb
        subst e
        exact I1.fpOk (Nat.le_refl _) (I1.hok.fresh (Nat.le_refl _))
      · refine ⟨fun i μ' S' H' d m' R' ck hd => ?_, fun i μ' S' H' m' R' ck hi => ?_⟩
        · obtain ⟨vs, h1, h2⟩ := lat μ' S' H' m' R' ck
          obtain ⟨x, hx, rx⟩ := h2.get hd
          exact ⟨⟨vs, x, .inl h1, hx⟩, fun y H'' ⟨e1, e2⟩ => by
            subst e1
            have := e2 vs (.inl h1)
            rw [hx] at this; cases this
            exact ⟨Mo.refl _ _, R', rx⟩⟩
        · obtain ⟨vs, h1, h2⟩ := lat μ' S' H' m' R' ck
          exact ⟨vs, .inl h1, by rw [← h2.length]; exact hi⟩
  · exact f1.elim
end
/-! ### for -/
def rsForGo (g : Tgt) (b : RunS) (ck : Ck) : List D → RunS
  | [], ρ, S => if ck.ok S then .next ρ S else .no
  | d :: r, ρ, S => if ck.ok S then (match g d ρ S with
      | some o => (match b o.1 o.2 with
        | .next ρ' S' => rsForGo g b ck r ρ' S'
        | .cont ρ' S' => rsForGo g b ck r ρ' S'
        | .brk ρ' S' => .next ρ' S'
        | f => f)
      | none => .no) else .no
def rsFor (ri : RunI) (g : Tgt) (b : RunS) : RunS := fun ρ S => match ri ρ S with
  | .ok p S1 => rsForGo g b p.2 p.1 ρ S1
  | .ex c fs S1 => .ex c fs ρ S1
  | .no => .no
theorem s_for {X : Cx} {G : Gx} {W : WX} {pos : Pos} {tg iter : Expr} {body : List Stmt} {ri : RunI} {g : Tgt} {js : List Nat} {b : RunS} (hp : PassesOwn (model X.prog X.w) X.A X.env X.xe) (hc : X.calm = true) (hi : PI X tg iter (tIt G W ri)) (hg : PG X tg (tG G js g)) (hb : PSs X body (tS G W b))
    (hs : ∀ x, foldedSetIterable iter X.env x = pure x) : PS X (.For tg iter body [] pos) (tS G W (rsFor ri g b)) :=
  psImp (ps_for hp hc hi hg hb hs) fun Z σ H ⟨μ, ρ, S, R, s, f⟩ => by
    refine ⟨μ, ρ, S, R, s, ?_⟩
    unfold rsFor at f
    cases er : ri ρ S with
    | no => rw [er] at f; exact f
    | ex c fs S1 => rw [er] at f; exact fun μ' H' cv dx m R' x => f μ' H' cv dx σ m R' x (s.mo m)
    | ok p S1 =>
      rw [er] at f
      intro μ1 H1 J m1 R1 k1 w1
      have f1 := FinS.mo f m1
      refine ⟨fun i m σ' H' => m = p.1.length - i ∧ i ≤ p.1.length ∧ ∃ μ' ρ' S', Mo μ1 H1 μ' H' ∧ Rl G μ' S' H' ∧ SR G μ' H' ρ' σ' ∧ FinS G μ' H' (rsForGo g b p.2 (p.1.drop i) ρ' S') Z W, ⟨_, rfl, Nat.zero_le _, μ1, ρ, S1, Mo.refl _ _, R1, s.mo m1, by rw [List.drop_zero]; exact f1⟩, ?_⟩
      rintro i n σ2 H2 ⟨rfl, hi, μ2, ρ2, S2, m2, R2, s2, f2⟩
      by_cases hl : i < p.1.length
      · rw [List.drop_eq_getElem_cons hl] at f2
        unfold rsForGo at f2
        split at f2
        · rename_i ck
          obtain ⟨go, yl⟩ := w1.go i μ2 S2 H2 p.1[i] m2 R2 ck (List.getElem?_eq_getElem hl)
          split at f2
          · rename_i o eo
            refine .inr ⟨go, fun σ' H' => ∃ μ' ρ' S', Mo μ1 H1 μ' H' ∧ Rl G μ' S' H' ∧ SR G μ' H' ρ' σ' ∧ FinS G μ' H' (rsForGo g b p.2 (p.1.drop (i + 1)) ρ' S') Z W, fun σ' H' w => ⟨p.1.length - (i + 1), by omega, rfl, hl, w⟩, fun x H3 y => ?_⟩
            obtain ⟨m3, R3, q3⟩ := yl x H3 y
            refine ⟨μ2, ρ2, S2, _, o, R3, s2.mo m3, q3, eo, fun μ4 H4 σ4 m4 R4 s4 _ => ⟨μ4, o.1, o.2, R4, s4, ?_⟩⟩
            have f4 := FinS.mo f2 (m3.trans m4)
            have mm : Mo μ1 H1 μ4 H4 := m2.trans (m3.trans m4)
            revert f4
            cases b o.1 o.2 with
            | next ρ' S' => exact fun k μ' H' σ' m R' s' => ⟨μ', ρ', S', mm.trans m, R', s', FinS.mo k m⟩
            | cont ρ' S' => exact fun k μ' H' σ' m R' s' => ⟨μ', ρ', S', mm.trans m, R', s', FinS.mo k m⟩
            | brk ρ' S' => exact fun k => k
            | ret d S' => exact fun k => k
            | ex c fs ρ' S' => exact fun k => k
            | no => exact fun k => k
          · exact f2.elim
        · exact f2.elim
      · have e : i = p.1.length := by omega
        subst e
        rw [List.drop_length] at f2
        unfold rsForGo at f2
        split at f2
        · rename_i ck
          exact .inl ⟨w1.stop _ μ2 S2 H2 m2 R2 ck (Nat.le_refl _), f2 μ2 H2 σ2 (Mo.refl _ _) R2 s2⟩
        · exact f2.elim

/-! ### list comprehensions -/
def wipeD (ρ : List (Option D)) : List Nat → List (Option D)
  | [] => ρ
  | v :: vs => (wipeD ρ vs).set v none
def En.wipe (ρ : En) (vs : List Nat) : En := ⟨wipeD ρ.d vs, match ρ.c with
  | some (j, k) => if j ∈ vs then none else some (j, k)
  | none => none⟩
theorem wipeD_length (ρ : List (Option D)) : ∀ vs : List Nat, (wipeD ρ vs).length = ρ.length
  | [] => rfl
  | v :: vs => by rw [wipeD, List.length_set, wipeD_length ρ vs]
theorem wipeD_some {ρ : List (Option D)} {i : Nat} {d : D} : ∀ {vs : List Nat}, (wipeD ρ vs)[i]? = some (some d) → ρ[i]? = some (some d) ∧ i ∉ vs
  | [], h => ⟨h, by simp⟩
  | v :: vs, h => by
    rw [wipeD] at h
    by_cases hi : v = i
    · subst hi
      by_cases hv : v < (wipeD ρ vs).length
      · rw [List.getElem?_set_self hv] at h; cases h
      · rw [List.getElem?_eq_none (by simpa using hv)] at h; cases h
    · rw [List.getElem?_set_ne hi] at h
      obtain ⟨h1, h2⟩ := wipeD_some h
      exact ⟨h1, by simp only [List.mem_cons, not_or]; exact ⟨fun e => hi e.symm, h2⟩⟩
theorem wipe_keep {σ : L2.St} {i : Nat} : ∀ {vs : List Nat}, i ∉ vs → (wipe σ vs)[i]? = σ[i]?
  | [], _ => rfl
  | v :: vs, h => by
    have h' : i ≠ v ∧ i ∉ vs := by simpa [not_or] using h
    unfold wipe
    rw [List.getElem?_set_ne (Ne.symm h'.1)]
    exact wipe_keep h'.2
theorem wipe_at {σ : L2.St} {i : Nat} (hl : i < σ.length) : ∀ {vs : List Nat}, i ∈ vs → (wipe σ vs)[i]? = some none
  | [], h => by simp at h
  | v :: vs, h => by
    unfold wipe
    by_cases e : v = i
    · subst e
      exact List.getElem?_set_self (by rw [wipe_length]; exact hl)
    · rw [List.getElem?_set_ne e]
      exact wipe_at hl ((List.mem_cons.mp h).resolve_left fun z => e z.symm)
theorem wipe_only {js vs : List Nat} {σ σ2 : L2.St} (h : Only js (wipe σ vs) σ2) (hs : ∀ j ∈ js, j ∈ vs) : wipe σ2 vs = wipe σ vs := by
  refine List.ext_getElem? fun i => ?_
  have hlen : σ2.length = σ.length := h.1.trans (wipe_length _ _)
  by_cases hi : i ∈ vs
  · by_cases hl : i < σ.length
    · rw [wipe_at (by rw [hlen]; exact hl) hi, wipe_at hl hi]
    · rw [List.getElem?_eq_none (by rw [wipe_length, hlen]; omega), List.getElem?_eq_none (by rw [wipe_length]; omega)]
  · rw [wipe_keep hi]
    exact h.2 i fun z => hi (hs i z)
theorem SR.wipe {G : Gx} {μ : Mu} {H : Hp} {ρ : En} {σ : L2.St} (s : SR G μ H ρ σ) (vs : List Nat) : SR G μ H (ρ.wipe vs) (wipe σ vs) := by
  refine ⟨?_, fun i d h => ?_, fun i g ws h => ?_⟩
  · show (wipeD ρ.d vs).length = _
    rw [wipeD_length, wipe_length]; exact s.len
  · obtain ⟨h1, h2⟩ := wipeD_some (show (wipeD ρ.d vs)[i]? = some (some d) from h)
    obtain ⟨v, e, q⟩ := s.dat i d h1
    exact ⟨v, (wipe_keep h2).trans e, q⟩
  · unfold En.wipe at h
    dsimp only at h
    split at h
    · rename_i j k e
      split at h
      · cases h
      · rename_i hn
        cases h
        obtain ⟨a, e1, q⟩ := s.clo i g ws e
        exact ⟨a, (wipe_keep hn).trans e1, q⟩
    · cases h
/-- the turns: what is made so far ahead -/
def rLcGo (g : Tgt) (rc : Option Run) (re : Run) (ck : Ck) (ρ : En) : List D → List D → Sto → R (List D)
  | [], acc, S => if ck.ok S then .ok acc S else .no
  | d :: r, acc, S => if ck.ok S && decide (acc.length < big) then (match g d ρ S with
      | some o => (match (match rc with | some c => c o.1 o.2 | none => .ok (.bl true) o.2) with
        | .ok (.bl true) S1 => (match re o.1 S1 with
          | .ok y S2 => rLcGo g rc re ck ρ r (acc ++ [y]) S2
          | _ => .no)
        | .ok (.bl false) S1 => rLcGo g rc re ck ρ r acc S1
        | _ => .no)
      | none => .no) else .no
def rLcL (ri : RunI) (g : Tgt) (rc : Option Run) (re : Run) (vs : List Nat) : RunA := fun ρ S => match ri ρ S with
  | .ok p S1 => rLcGo g rc re p.2 (ρ.wipe vs) p.1 [] S1
  | .ex c fs S1 => .ex c fs S1
  | .no => .no
def rLc (ri : RunI) (g : Tgt) (rc : Option Run) (re : Run) (vs : List Nat) : Run := fun ρ S => (rLcL ri g rc re vs ρ S).bind fun ds S1 => .ok (.lst ds) S1
def rLcN (ri : RunI) (g : Tgt) (rc : Option Run) (re : Run) (vs : List Nat) : Run := fun ρ S => (rLcL ri g rc re vs ρ S).bind fun ds S1 => .ok (.loc S1.length) (S1 ++ [.lst ds])
/-- the tests of a comprehension -/
def tC0 (G : Gx) : Option Run → TT
  | some c => tT G (fun _ _ _ _ => False) c
  | none => tYes
/-- behind the last turn: the list stands at P -/
def LcEnd (G : Gx) (μ : Mu) (H : Hp) (r : R (List D)) (Q : VK) : Prop :=
  match r with
  | .ok ds S => ∀ μ' H' P xs, Mo μ H μ' H' → Rl G μ' S H' → H P = none → P ∈ μ'.hid → H' P = some (.lst xs) → DRs G.K μ' H' ds xs → Q (.ref P) H'
  | _ => False
theorem lc_turns {G : Gx} {g : Tgt} {js vs : List Nat} {rc : Option Run} {re : Run} {σ : L2.St} {ρ : En} {J : It} {ds : List D} {ck : Ck} {μ1 : Mu} {H1 : Hp} {S1 : Sto} {Q : VK}
    (hj : ∀ j ∈ js, j ∈ vs) (R1 : Rl G μ1 S1 H1) (w1 : Wk G J ds ck μ1 H1) (s1 : SR G μ1 H1 (ρ.wipe vs) (wipe σ vs)) (f1 : LcEnd G μ1 H1 (rLcGo g rc re ck (ρ.wipe vs) ds [] S1) Q) (P : Addr) (hP : H1 P = none) :
    ∃ W : Nat → Nat → Hp → Prop, (∃ m, W 0 m (upd H1 P (.lst []))) ∧ ∀ i m H, W i m H → (J.stop i H ∧ Q (.ref P) H) ∨ (J.go i H ∧ ∃ Nx : Hp → Prop, (∀ H', Nx H' → ∃ m', m' < m ∧ W (i + 1) m' H') ∧
      ∀ x H', J.yld i H x H' → tG G js g x (wipe σ vs) H' fun σ2 H2 => wipe σ2 vs = wipe σ vs ∧ tC0 G rc σ2 H2 fun b H3 => if b = true then tI G (fun _ _ _ _ => False) re σ2 H3 fun y H4 => ∃ acc, H4 P = some (.lst acc) ∧ acc.length < sizeLine ∧ Nx (upd H4 P (.lst (acc ++ [y]))) else Nx H3) := by
  -- the state between two turns
  let Inv' : Nat → Hp → Prop := fun i H => i ≤ ds.length ∧ ∃ μ S acc xs, Mo μ1 H1 μ H ∧ Rl G μ S H ∧ P ∈ μ.hid ∧ H P = some (.lst xs) ∧ DRs G.K μ H acc xs ∧ LcEnd G μ1 H1 (rLcGo g rc re ck (ρ.wipe vs) (ds.drop i) acc S) Q
  refine ⟨fun i m H => m = ds.length - i ∧ Inv' i H, ⟨_, rfl, Nat.zero_le _, μ1.hide P, S1, [], [], Mo.hide hP, R1.hide hP, List.mem_cons_self, upd_same, .nil, by rw [List.drop_zero]; exact f1⟩, ?_⟩
  rintro i n H2 ⟨rfl, hi, μ2, S2, acc, xs, m2, R2, nP, hH, hd, f2⟩
  by_cases hl : i < ds.length
  · rw [List.drop_eq_getElem_cons hl] at f2
    unfold rLcGo at f2
    split at f2
    · rename_i c0
      simp only [Bool.and_eq_true, decide_eq_true_eq] at c0
      obtain ⟨ck0, hz⟩ := c0
      obtain ⟨go, yl⟩ := w1.go i μ2 S2 H2 ds[i] m2 R2 ck0 (List.getElem?_eq_getElem hl)
      split at f2
      · rename_i o eo
        refine .inr ⟨go, Inv' (i + 1), fun H' w => ⟨ds.length - (i + 1), by omega, rfl, w⟩, fun x H3 y => ?_⟩
        obtain ⟨m3, R3, q3⟩ := yl x H3 y
        refine ⟨μ2, ρ.wipe vs, S2, _, o, R3, (s1.mo m2).mo m3, q3, eo, fun μ4 H4 σ4 m4 R4 s4 on => ⟨wipe_only on hj, ?_⟩⟩
        have m14 : Mo μ1 H1 μ4 H4 := (m2.trans m3).trans m4
        have hH4 : H4 P = some (.lst xs) := (m3.trans m4).hkp P nP _ hH
        have nP4 : P ∈ μ4.hid := (m3.trans m4).sub P nP
        have hd4 : DRs G.K μ4 H4 acc xs := DRs.mo (m3.trans m4) _ _ hd
        -- behind the test
        have yes : ∀ {S5 : Sto} {μ5 : Mu} {H5 : Hp}, Mo μ4 H4 μ5 H5 → Rl G μ5 S5 H5 → LcEnd G μ1 H1 (match re o.1 S5 with | .ok y S6 => rLcGo g rc re ck (ρ.wipe vs) (ds.drop (i + 1)) (acc ++ [y]) S6 | _ => .no) Q →
            tI G (fun _ _ _ _ => False) re σ4 H5 fun y H6 => ∃ acc, H6 P = some (.lst acc) ∧ acc.length < sizeLine ∧ Inv' (i + 1) (upd H6 P (.lst (acc ++ [y]))) := fun {S5 μ5 H5} m5 R5 f5 => by
          refine ⟨μ5, o.1, S5, R5, s4.mo m5, ?_⟩
          cases er : re o.1 S5 with
          | no => rw [er] at f5; exact f5
          | ex c fs S6 => rw [er] at f5; exact f5.elim
          | ok y S6 =>
            rw [er] at f5
            intro μ6 H6 v m6 R6 q6
            have hH6 : H6 P = some (.lst xs) := (m5.trans m6).hkp P nP4 _ hH4
            have nP6 : P ∈ μ6.hid := (m5.trans m6).sub P nP4
            have hz' : xs.length < sizeLine := by rw [← hd.length]; exact Nat.lt_of_lt_of_le hz (big_le (Nat.le_refl _))
            exact ⟨xs, hH6, hz', hl, μ6, S6, acc ++ [y], xs ++ [v], (m14.trans (m5.trans m6)).under hP, R6.under nP6, nP6, upd_same,
              DRs.under nP6 (DRs.append (DRs.mo (m5.trans m6) _ _ hd4) (.cons q6.data .nil)), f5⟩
        revert f2
        cases rc with
        | none =>
          intro f2
          exact iteT (B := Inv' (i + 1) H4) (yes (Mo.refl _ _) R4 f2)
        | some c =>
          intro f2
          refine ⟨μ4, o.1, o.2, R4, s4, ?_⟩
          dsimp only at f2
          cases ec : c o.1 o.2 with
          | no => rw [ec] at f2; exact f2
          | ex cc fs S6 => rw [ec] at f2; exact f2.elim
          | ok b S5 =>
            rw [ec] at f2
            intro μ5 H5 v m5 R5 q5
            cases b with
            | bl b =>
              cases b with
              | true => exact ⟨true, q5.bl, iteT (yes m5 R5 f2)⟩
              | false =>
                exact ⟨false, q5.bl, iteF ⟨hl, μ5, S5, acc, xs, m14.trans m5, R5, m5.sub P nP4, m5.hkp P nP4 _ hH4, DRs.mo m5 _ _ hd4, f2⟩⟩
            | _ => exact f2.elim
      · exact f2.elim
    · exact f2.elim
  · have e : i = ds.length := by omega
    subst e
    rw [List.drop_length] at f2
    unfold rLcGo at f2
    split at f2
    · rename_i ck0
      exact .inl ⟨w1.stop _ μ2 S2 H2 m2 R2 ck0 (Nat.le_refl _), f2 μ2 H2 P xs m2 R2 hP nP hH hd⟩
    · exact f2.elim
end Mt


set_option Elab.async false
set_option maxRecDepth 100000
set_option autoImplicit false
set_option linter.all false
/-! The comprehensions' rules. -/
namespace Mt
open PySem PySem.Spec PyProof.Rows L2

section
variable {X : Cx} {G : Gx} {W : WX} {pos : Pos} {μ μ1 : Mu} {H H1 : Hp} {S : Sto} {Q : VK} {E : XK}
/-- nothing raised -/
def only {α : Type} : R α → R α
  | .ex _ _ _ => .no
  | r => r
theorem lcEnd_lst (R : Rl G μ S H) {r : Mt.R (List D)} (h : Fin G μ H ((only r).bind fun ds S1 => .ok (.lst ds) S1) Q E) : LcEnd G μ H r Q := by
  unfold LcEnd
  cases r with
  | ok ds S => exact fun μ' H' P xs m R' hP nP e q => h (μ'.show P) H' (.ref P) (m.show fun z => R.fresh hP (.inr z)) R'.show (.of (by rw [DR]; exact ⟨P, xs, rfl, ⟨.inl e, show_not R' nP⟩, q.show⟩))
  | ex c fs S => exact h
  | no => exact h
theorem lcEnd_new (R : Rl G μ S H) {r : Mt.R (List D)} (h : Fin G μ H ((only r).bind fun ds S1 => .ok (.loc S1.length) (S1 ++ [.lst ds])) Q E) : LcEnd G μ H r Q := by
  unfold LcEnd
  cases r with
  | ok ds S => exact fun μ' H' P xs m R' hP nP e q => h (μ'.track P) H' (.ref P) (m.track hP fun z => R.fresh hP (.inr z)) (R'.track nP ⟨xs, e, q.track nP⟩) (vr_track R')
  | ex c fs S => exact h
  | no => exact h
/-- the list made, or what the walk raises -/
def rLcM (ri : RunI) (g : Tgt) (rc : Option Run) (re : Run) (vs : List Nat) (k : List D → Sto → R D) : Run := fun ρ S => match ri ρ S with
  | .ok p S1 => (only (rLcGo g rc re p.2 (ρ.wipe vs) p.1 [] S1)).bind k
  | .ex c fs S1 => .ex c fs S1
  | .no => .no
theorem tLc_of {ri : RunI} {g : Tgt} {js vs : List Nat} {rc : Option Run} {re : Run} {k : List D → Sto → R D} (hj : ∀ j ∈ js, j ∈ vs)
    (hk : ∀ {μ : Mu} {H : Hp} {S : Sto} {Q : VK} {E : XK} {r : R (List D)}, Rl G μ S H → Fin G μ H ((only r).bind k) Q E → LcEnd G μ H r Q) {σ : L2.St} (h : tI G W (rLcM ri g rc re vs k) σ H Q) :
    tLc (tIt G W ri) (tG G js g) (tC0 G rc) (tI G (fun _ _ _ _ => False) re) vs σ H Q := by
  obtain ⟨μ, ρ, S, R, s, f⟩ := h
  refine ⟨μ, ρ, S, R, s, ?_⟩
  unfold rLcM at f
  cases er : ri ρ S with
  | no => rw [er] at f; exact f
  | ex c fs S1 => rw [er] at f; exact f
  | ok p S1 =>
    rw [er] at f
    intro μ1 H1 J m1 R1 k1 w1 P hP
    exact lc_turns hj R1 w1 ((s.mo m1).wipe vs) (hk R1 (f.mo m1)) P hP
theorem pts_none : PTs X [] (tC0 G none) := pts_nil
theorem pts_some {e : Expr} {c : Run} (h : PT X e (tT G (fun _ _ _ _ => False) c)) : PTs X [e] (tC0 G (some c)) := pts_one h
variable {elt tg iter : Expr} {ifs : List Expr} {scope : Scope} {own : List (Str × Nat)} {ri : RunI} {g : Tgt} {js : List Nat} {rc : Option Run} {re : Run}
/-- the parts of a comprehension -/
structure LcOk (X : Cx) (G : Gx) (W : WX) (elt tg iter : Expr) (ifs : List Expr) (scope : Scope) (own : List (Str × Nat)) (ri : RunI) (g : Tgt) (js : List Nat) (rc : Option Run) (re : Run) : Prop where
  calm : X.calm = true
  nd : X.N.Nodup
  it : PI X tg iter (tIt G W ri)
  blk : BlkOk X.N X.env.scope scope own
  tgt : ∀ (s : Shared) (H : Hp) (C : Addr) (cl : List (Str × Addr)) (fp : List Addr), PG (X.blk s H scope (compEnvC scope cl C X.env) fp) tg (tG G js g)
  tst : ∀ (s : Shared) (H : Hp) (C : Addr) (cl : List (Str × Addr)) (fp : List Addr), PTs (X.blk s H scope (compEnvC scope cl C X.env) fp) ifs (tC0 G rc)
  elt : ∀ (s : Shared) (H : Hp) (C : Addr) (cl : List (Str × Addr)) (fp : List Addr), PE (X.blk s H scope (compEnvC scope cl C X.env) fp) elt (tI G (fun _ _ _ _ => False) re)
  set_ : ∀ x, foldedSetIterable iter X.env x = pure x
  js_ : ∀ j ∈ js, j ∈ own.map (·.2)
def kLst : List D → Sto → R D := fun ds S1 => .ok (.lst ds) S1
def kNew : List D → Sto → R D := fun ds S1 => .ok (.loc S1.length) (S1 ++ [.lst ds])
theorem u_lc (o : LcOk X G W elt tg iter ifs scope own ri g js rc re) : PE X (.ListComp elt [⟨tg, iter, ifs, 0⟩] scope pos) (tI G W (rLcM ri g rc re (own.map (·.2)) kLst)) :=
  peImp (pe_lc o.calm o.nd o.it o.blk o.tgt o.tst o.elt o.set_) fun σ H Q h => tLc_of o.js_ (fun R f => lcEnd_lst R f) h
theorem u_lcN (o : LcOk X G W elt tg iter ifs scope own ri g js rc re) : PE X (.ListComp elt [⟨tg, iter, ifs, 0⟩] scope pos) (tI G W (rLcM ri g rc re (own.map (·.2)) kNew)) :=
  peImp (pe_lc o.calm o.nd o.it o.blk o.tgt o.tst o.elt o.set_) fun σ H Q h => tLc_of o.js_ (fun R f => lcEnd_new R f) h
end
end Mt


set_option Elab.async false
set_option maxRecDepth 100000
set_option autoImplicit false
set_option linter.all false
/-! Own defs, own classes: calls, methods, attributes, properties. -/
namespace Mt
open PySem PySem.Spec PyProof.Rows
open L2 hiding Takes XE takes_of passAt PMk MkP ps_raise mk_of
open L2N (Takes XE takes_of passAt PMk MkP ps_raise mk_of Zn)

theorem takes0N {X : Cx} : Takes X (fun _ _ _ _ => False) := fun _ _ x => by
  obtain ⟨_, _, _, _, _, _, _, _, _, _, _, _, _, _, _, _, z⟩ := x
  exact z.elim
abbrev Fn := List D → Sto → R D
/-- what a def promises: what it gives on data -/
def spF (G : Gx) (n : Nat) (p : Fn) : Sp := fun vs H Q E => vs.length = n ∧ ∃ μ S ds, Rl G μ S H ∧ DRs G.K μ H ds vs ∧ Fin G μ H (p ds S) Q E
/-- the def at fa does p -/
def FnF (X : Cx) (G : Gx) (k : Nat) (fa : Addr) (p : Fn) : Prop :=
  ∃ (fd : FuncData) (ps : List Str), FnOk X.prog X.w X.K X.mg X.base (L2N.CX X.prog X.w) k fa fd ps (spF G ps.length p) ∧ Binds X.K fd ps [] ∧ ∀ ds S, ds.length ≠ ps.length → p ds S = .no
def rFn (p : Fn) (rr : RunA) : Run := fun ρ S => (rr ρ S).bind fun ds S1 => p ds S1
section
variable {X : Cx} {G : Gx} {W : WX} {k : Nat} {fa : Addr} {p : Fn}
/-- the def runs on what stands -/
theorem FnF.run (F : FnF X G k fa p) (hr : Room k X.A) (tk : Takes X W) {pins : List (Addr × Obj)} {σ : L2.St} {H : Hp} {s : Shared} {Q : VK} {us : List Value} {vs : List V} (I : Inv X pins σ H s) (rv : Vals vs us)
    {μ : Mu} {S : Sto} {ds : List D} (R : Rl G μ S H) (q : DRs G.K μ H ds vs) (f : Fin G μ H (p ds S) Q fun cv dx H' => W cv dx σ H') : wpAny (model X.prog X.w) X.A (call (.ref fa) us) (EP X pins σ Q) X.xe s := by
  obtain ⟨fd, ps, F, hb, hl⟩ := F
  have e : vs.length = ps.length := by
    rw [← q.length]
    exact Classical.byContradiction fun n => by
      rw [hl ds S n] at f
      exact f
  exact run_fnS (E := WE W) F hr hb (passAt tk σ) I rv ⟨e, μ, S, ds, R, q, f⟩
variable {e : Expr} {es : List Expr} {pos pp : Pos} {rr : RunA} {x : Str}
theorem u_fn (F : FnF X G k fa p) (hr : Room k X.A) (tk : Takes X W) (hg : Gl X x) (hm : X.mg x = some (.ref fa)) (hk : PySem.W.keepIn X.K (.ref fa) = true) (hdb : (x == ("__debug__" : Str)) = false)
    (ha : PA X (e :: es) (tA G W rr)) (he : starEach (e :: es) X.env = (false, eval e X.env) :: starEach es X.env) (hpl : (backTo pos (starEach es X.env)).any (·.1) = false) : PE X (.Call (.Name x pp) (e :: es) [] pos) (tI G W (rFn p rr)) :=
  ⟨fun pins s σ H Q I ⟨μ, ρ, S, R, sr, f⟩ => wpAny_Call_Name_kw (ld_glob I hg hm (PySem.W.callWith_K (h₀ := X.base) I.ok.mod.kin hk (thn (ha.run pos pins s σ H _ I ⟨μ, ρ, S, R, sr, Fin.binds f⟩) fun us s1 ⟨vs, H1, I1, rv, q⟩ => by
    obtain ⟨μ1, ds, S1, m, R1, q1, f1⟩ := q
    exact ⟨I1.kIn, F.run hr tk I1 rv R1 q1 f1⟩) he hpl) hdb)⟩
theorem u_fn0 (F : FnF X G k fa p) (hr : Room k X.A) (tk : Takes X W) (hg : Gl X x) (hm : X.mg x = some (.ref fa)) (hk : PySem.W.keepIn X.K (.ref fa) = true) (hdb : (x == ("__debug__" : Str)) = false) : PE X (.Call (.Name x pp) [] [] pos) (tI G W (rFn p rNil)) :=
  ⟨fun pins s σ H Q I ⟨μ, ρ, S, R, sr, f⟩ => wpAny_Call_Name_kw (ld_glob I hg hm (PySem.W.callWith_K0 I.kIn hk (F.run (us := []) hr tk I .nil R .nil f)) hdb)⟩
/-! ### methods, attributes -/
/-- what the text tells of a class: its plain attributes, its methods, its properties, its maker -/
structure Tab where
  fld : Str → Str → Bool
  meth : Str → Str → Option Str
  prop : Str → Str → Option Str
  ini : Str → Option Str
  pl : Str → Bool
abbrev Pr := Str → Fn
/-- the class and the attributes of the object at d -/
def insOf (S : Sto) : D → Option (Str × List (Str × D))
  | .loc l => match S[l]? with
    | some (.ins c fs) => some (c, fs)
    | _ => none
  | _ => none
structure GF (X : Cx) (G : Gx) (T : Tab) (P : Pr) (k : Nat) : Prop where
  fld : ∀ c C f, G.cls c = some C → T.fld c f = true → Cls X.K C ∧ NoAttr X.K C f
  meth : ∀ c C m q, G.cls c = some C → T.meth c m = some q → Cls X.K C ∧ ∃ fa, Meth X.K C m fa ∧ FnF X G k fa (P q)
  prop : ∀ c C m q, G.cls c = some C → T.prop c m = some q → Cls X.K C ∧ ∃ pa fa, PropOf X.K C m pa fa ∧ FnF X G k fa (P q)
  ini : ∀ c C q, G.cls c = some C → T.ini c = some q → ∃ fa, Mk X.K C fa ∧ FnF X G k fa (P q)
def ffind (fs : List (Str × D)) (f : Str) : Option D := fs.lookup f
theorem frs_find {K : PySem.W.Frag} {μ : Mu} {H : Hp} {f : Str} {d : D} : ∀ {fs : List (Str × D)} {vs : List (Str × V)}, FRs K μ H fs vs → ffind fs f = some d → ∃ v, vs.lookup f = some v ∧ DR K μ H d v
  | _, _, .nil, h => by simp [ffind] at h
  | (a, x) :: fs, (b, y) :: vs, .cons q r, h => by
    obtain ⟨e, q2⟩ := q
    have e' : a = b := e
    subst e'
    unfold ffind at h
    rw [List.lookup_cons] at h ⊢
    cases z : f == a with
    | true => rw [z] at h; cases h; exact ⟨y, rfl, q2⟩
    | false => rw [z] at h; exact frs_find r h
theorem frs_none {K : PySem.W.Frag} {μ : Mu} {H : Hp} {f : Str} : ∀ {fs : List (Str × D)} {vs : List (Str × V)}, FRs K μ H fs vs → ffind fs f = none → vs.lookup f = none
  | _, _, .nil, h => rfl
  | (a, x) :: fs, (b, y) :: vs, .cons q r, h => by
    obtain ⟨e, q2⟩ := q
    have e' : a = b := e
    subst e'
    unfold ffind at h
    rw [List.lookup_cons] at h ⊢
    cases z : f == a with
    | true => rw [z] at h; cases h
    | false => rw [z] at h; exact frs_none r h
theorem ins_at {μ : Mu} {S : Sto} {H : Hp} (R : Rl G μ S H) {d : D} {v : V} {c : Str} {fs : List (Str × D)} (e : insOf S d = some (c, fs)) (q : DR G.K μ H d v) :
    ∃ l a C dx vs, d = .loc l ∧ v = .ref a ∧ μ.l[l]? = some a ∧ S[l]? = some (.ins c fs) ∧ G.cls c = some C ∧ H a = some (.ins C dx vs) ∧ FRs G.K μ H fs vs := by
  unfold insOf at e
  split at e
  · rename_i l
    split at e
    · rename_i c' fs' es
      cases e
      rw [DR] at q
      obtain ⟨a, ea, hl⟩ := q
      obtain ⟨C, dx, vs, h1, h2, h3⟩ := R.at_ l a _ hl es
      exact ⟨l, a, C, dx, vs, rfl, ea, hl, es, h1, h2, h3⟩
    · cases e
  · cases e
/-- o.m(..) -/
def rMeth (T : Tab) (P : Pr) (m : Str) (ra : Run) (rr : RunA) : Run := fun ρ S => (ra ρ S).bind fun d S1 => match insOf S1 d with
  | some (c, fs) => (match T.meth c m, ffind fs m with
    | some q, none => (rr ρ S1).bind fun ds S2 => P q (d :: ds) S2
    | _, _ => .no)
  | none => .no
variable {T : Tab} {P : Pr} {o : Expr} {m : Str} {ra : Run} {apos : Pos} {pl : Sem Bool}
theorem u_meth (B : GF X G T P k) (hr : Room k X.A) (tk : Takes X W) (ho : PE X o (tI G W ra)) (ha : PA X (e :: es) (tA G W rr)) (hst : starEach (e :: es) X.env = (false, eval e X.env) :: starEach es X.env) (hpl : (backTo pos (starEach es X.env)).any (·.1) = false)
    (ht : eval (.Call (.Attribute o m apos) (e :: es) [] pos) X.env = (do
      let it ← eval o X.env
      standAt apos.atName
      let (g, more) ← holding [it] (getMethod it m pl)
      callWith pos g more (backTo pos (starEach (e :: es) X.env)) (backToKw pos (keywordEach [] X.env)))) : PE X (.Call (.Attribute o m apos) (e :: es) [] pos) (tI G W (rMeth T P m ra rr)) :=
  ⟨fun pins s σ H Q I ⟨μ, ρ, S, R, sr, f⟩ => PySem.W.methodCall_KW (pl := pl) (thn (ho.run pins s σ H _ I ⟨μ, ρ, S, R, sr, Fin.bind f⟩) fun u s1 ⟨x, H1, I1, rx, μ1, d, S1, m1, R1, q1, f1⟩ => by
    dsimp only at f1
    split at f1
    · rename_i c fs e1
      split at f1
      · rename_i q hq hn
        obtain ⟨l, a, C, dx, vs, rfl, rfl, hl, es1, h1, h2, h3⟩ := ins_at R1 e1 q1
        obtain ⟨cl, fa, mt, F⟩ := B.meth c C m q h1 hq
        obtain rfl : u = Value.ref a := rx
        refine getmeth_ok I1 h2 cl mt (frs_none h3 hn) ?_
        refine PySem.W.callWith_K (first := [.ref a]) (h₀ := X.base) I1.ok.mod.kin mt.kp (thn (ha.run pos pins s1 σ H1 _ I1 ⟨μ1, ρ, S1, R1, sr.mo m1, Fin.binds f1⟩) fun us s2 ⟨ws, H2, I2, rv, q⟩ => ?_) hst hpl
        obtain ⟨μ2, ds, S2, m2, R2, q2, f2⟩ := q
        exact ⟨I2.kIn, F.run (us := .ref a :: us) (vs := .ref a :: ws) hr tk I2 (.cons rfl rv) R2 (.cons (DR.mo m2 _ _ q1) q2) f2⟩
      · exact f1.elim
    · exact f1.elim) ht⟩
theorem u_meth0 (B : GF X G T P k) (hr : Room k X.A) (tk : Takes X W) (ho : PE X o (tI G W ra))
    (ht : eval (.Call (.Attribute o m apos) [] [] pos) X.env = (do
      let it ← eval o X.env
      standAt apos.atName
      let (g, more) ← holding [it] (getMethod it m pl)
      callWith pos g more (backTo pos (starEach [] X.env)) (backToKw pos (keywordEach [] X.env)))) : PE X (.Call (.Attribute o m apos) [] [] pos) (tI G W (rMeth T P m ra rNil)) :=
  ⟨fun pins s σ H Q I ⟨μ, ρ, S, R, sr, f⟩ => PySem.W.methodCall_KW (pl := pl) (thn (ho.run pins s σ H _ I ⟨μ, ρ, S, R, sr, Fin.bind f⟩) fun u s1 ⟨x, H1, I1, rx, μ1, d, S1, m1, R1, q1, f1⟩ => by
    dsimp only at f1
    split at f1
    · rename_i c fs e1
      split at f1
      · rename_i q hq hn
        obtain ⟨l, a, C, dx, vs, rfl, rfl, hl, es1, h1, h2, h3⟩ := ins_at R1 e1 q1
        obtain ⟨cl, fa, mt, F⟩ := B.meth c C m q h1 hq
        obtain rfl : u = Value.ref a := rx
        refine getmeth_ok I1 h2 cl mt (frs_none h3 hn) ?_
        exact PySem.W.callWith_K0 (first := [.ref a]) I1.kIn mt.kp (F.run (us := [.ref a]) (vs := [.ref a]) hr tk I1 (.cons rfl .nil) R1 (.cons q1 .nil) f1)
      · exact f1.elim
    · exact f1.elim) ht⟩
/-- o.f: an attribute, a property -/
def rAttr (T : Tab) (P : Pr) (f : Str) (ra : Run) : Run := fun ρ S => (ra ρ S).bind fun d S1 => match insOf S1 d with
  | some (c, fs) => (match T.prop c f with
    | some q => only (P q [d] S1)
    | none => if T.fld c f then ofO S1 (ffind fs f) else .no)
  | none => .no
theorem fin_only {μ : Mu} {H : Hp} {r : R D} {Q : VK} {E E' : XK} (h : Fin G μ H (only r) Q E) : Fin G μ H r Q E' := by
  cases r with
  | ok d S => exact h
  | ex c fs S => exact h.elim
  | no => exact h
theorem cx_never {P : Program} {w : World} {outer : List Env} {H : Hp} {s : Shared} {u : Value} {s' : Shared} (h : L2N.CX P w outer H s (fun _ _ _ => False) u s') : False := by
  obtain ⟨_, _, _, _, _, _, _, _, _, _, _, _, z⟩ := h
  exact z
theorem u_attr (B : GF X G T P k) (hr : Room (k + 1) X.A) (ho : PE X o (tI G W ra)) (hb : attributeBase o m X.env (eval o X.env) = eval o X.env) : PE X (.Attribute o m pos) (tI G W (rAttr T P m ra)) :=
  ⟨fun pins s σ H Q I ⟨μ, ρ, S, R, sr, f⟩ => attr_of hb (thn (ho.run pins s σ H _ I ⟨μ, ρ, S, R, sr, Fin.bind f⟩) fun u s1 ⟨x, H1, I1, rx, μ1, d, S1, m1, R1, q1, f1⟩ => by
    dsimp only at f1
    split at f1
    · rename_i c fs e1
      obtain ⟨l, a, C, dx, vs, rfl, rfl, hl, es1, h1, h2, h3⟩ := ins_at R1 e1 q1
      obtain rfl : u = Value.ref a := rx
      split at f1
      · rename_i q hq
        obtain ⟨cl, pa, fa, hp, fd, ps, F, hbd, hlen⟩ := B.prop c C m q h1 hq
        have hl : 1 = ps.length := Classical.byContradiction fun n => by
          rw [hlen [.loc l] S1 n] at f1
          exact f1
        exact getprop_ok (ds := []) (dvs := []) I1 h2 cl hp F hr hbd .nil (fun _ _ _ _ _ _ _ z => cx_never z) ⟨hl, μ1, S1, [.loc l], R1, .cons q1 .nil, fin_only f1⟩
      · split at f1
        · rename_i hf
          obtain ⟨cl, na⟩ := B.fld c C m h1 hf
          cases ef : ffind fs m with
          | none => rw [ef] at f1; exact f1.elim
          | some r =>
            rw [ef] at f1
            obtain ⟨v, hv, rv⟩ := frs_find h3 ef
            exact getattr_ok I1 h2 cl na hv fun u' s2 I2 ru => ⟨v, H1, I2, ru, Fin.ok f1 R1 rv⟩
        · exact f1.elim
    · exact f1.elim)⟩
/-! ### attributes written -/
def fput (f : Str) (v : D) : List (Str × D) → List (Str × D)
  | [] => [(f, v)]
  | (g, x) :: r => if g = f then (g, v) :: r else (g, x) :: fput f v r
theorem frs_put {K : PySem.W.Frag} {μ : Mu} {H : Hp} {f : Str} {d : D} {v : V} (q : DR K μ H d v) : ∀ {fs : List (Str × D)} {vs : List (Str × V)}, FRs K μ H fs vs → FRs K μ H (fput f d fs) (putF f v vs)
  | _, _, .nil => .cons ⟨rfl, q⟩ .nil
  | (a, x) :: fs, (b, y) :: vs, .cons z r => by
    obtain ⟨e, q2⟩ := z
    have e' : a = b := e
    subst e'
    unfold fput putF
    by_cases h : a = f
    · rw [if_pos h, if_pos h]; exact .cons ⟨rfl, q⟩ r
    · rw [if_neg h, if_neg h]; exact .cons ⟨rfl, q2⟩ (frs_put q r)
theorem frs_len {K : PySem.W.Frag} {μ : Mu} {H : Hp} : ∀ {fs : List (Str × D)} {vs : List (Str × V)}, FRs K μ H fs vs → fs.length = vs.length
  | _, _, .nil => rfl
  | _, _, .cons _ r => congrArg Nat.succ (frs_len r)
def setFld (T : Tab) (S : Sto) (f : Str) (o v : D) : Option Sto := match o with
  | .loc l => match S[l]? with
    | some (.ins c fs) => if T.fld c f && decide (fs.length < 1000) then some (S.set l (.ins c (fput f v fs))) else none
    | _ => none
  | _ => none
theorem setFld_at {μ : Mu} {S S' : Sto} {H : Hp} (B : GF X G T P k) (R : Rl G μ S H) {d y : D} {v w : V} {f : Str} (e : setFld T S f d y = some S') (q : DR G.K μ H d v) (qy : DR G.K μ H y w) :
    ∃ a C dx vs, v = .ref a ∧ H a = some (.ins C dx vs) ∧ Cls X.K C ∧ NoAttr X.K C f ∧ vs.length < 1000 ∧ Mo μ H μ (upd H a (.ins C dx (putF f w vs))) ∧ Rl G μ S' (upd H a (.ins C dx (putF f w vs))) := by
  unfold setFld at e
  split at e
  · rename_i l
    split at e
    · rename_i c fs es
      split at e
      · rename_i c0
        simp only [Bool.and_eq_true, decide_eq_true_eq] at c0
        cases e
        obtain ⟨l', a, C, dx, vs, e1, rfl, hl, es1, h1, h2, h3⟩ := ins_at R (show insOf S (.loc l) = some (c, fs) by simp only [insOf]; rw [es]) q
        cases e1
        obtain ⟨cl, na⟩ := B.fld c C f h1 c0.1
        have nf := nofrz_ins h2
        have mw := Mo.write (o := .ins C dx (putF f w vs)) R hl nf
        exact ⟨a, C, dx, vs, rfl, h2, cl, na, by rw [← frs_len h3]; exact c0.2, mw, R.write hl nf ⟨C, dx, _, h1, upd_same, FRs.mo mw (frs_put qy h3)⟩⟩
      · cases e
    · cases e
  · cases e
/-- o.f = value: the value first -/
def rsFld (T : Tab) (f : Str) (ra rv : Run) : RunS := fun ρ S => toS (rv ρ S) ρ fun y S1 => toS (ra ρ S1) ρ fun d S2 => match setFld T S2 f d y with
  | some S3 => .next ρ S3
  | none => .no
theorem s_fld {pos' : Pos} {v : Expr} {rv : Run} (B : GF X G T P k) (ho : PE X o (tI G W ra)) (hv : PE X v (tI G W rv)) (hs : swapsWith v (some (.Attribute o m pos')) pos.line X.env = pure false) : PS X (.Assign [.Attribute o m pos'] v pos) (tS G W (rsFld T m ra rv)) :=
  psImp (ps_fld ho hv hs) fun Z σ H ⟨μ, ρ, S, R, s, f⟩ => ⟨μ, ρ, S, R, s, (FinS.toS f s).mono fun y H1 ⟨μ1, d, S1, m1, R1, q1, f1⟩ => ⟨μ1, ρ, S1, R1, s.mo m1, (FinS.toS f1 (s.mo m1)).mono fun x H2 ⟨μ2, d2, S2, m2, R2, q2, f2⟩ => by
    split at f2
    · rename_i S3 e3
      obtain ⟨a, C, dx, vs, rfl, h2, cl, na, hz, mw, R3⟩ := setFld_at B R2 e3 q2 (q1.mo m2)
      exact ⟨a, C, dx, vs, rfl, h2, cl, na, hz, f2 _ _ _ mw R3 (((s.mo m1).mo m2).mo mw)⟩
    · exact f2.elim⟩⟩
/-! ### objects made -/
def rMake (P : Pr) (c q : Str) (rr : RunA) : Run := fun ρ S => (rr ρ S).bind fun ds S1 => (P q (.loc S1.length :: ds) (S1 ++ [.ins c []])).bind fun d S2 => if d = .non then .ok (.loc S1.length) S2 else .no
theorem made_of {C fa : Addr} {c q : Str} {pins : List (Addr × Obj)} {σ : L2.St} {H : Hp} {s : Shared} {Q : VK} {us : List Value} {vs : List V} (M : Mk X.K C fa) (F : FnF X G k fa (P q)) (hc : G.cls c = some C) (hr : Room (k + 1) X.A) (tk : Takes X W) (I : Inv X pins σ H s) (rv : Vals vs us)
    {μ : Mu} {S : Sto} {ds : List D} (R : Rl G μ S H) (qs : DRs G.K μ H ds vs) (f : Fin G μ H ((P q (.loc S.length :: ds) (S ++ [.ins c []])).bind fun d S2 => if d = .non then .ok (.loc S.length) S2 else .no) Q fun cv dx H' => W cv dx σ H') :
    wpAny (model X.prog X.w) X.A (call (.ref C) us) (EP X pins σ Q) X.xe s := by
  obtain ⟨fd, ps, F, hbd, hlen⟩ := F
  have n1 : H (s.heap.objs.size + 1) = none := I.hok.fresh (Nat.le_succ _)
  have n2 : H s.heap.objs.size = none := I.hok.fresh (Nat.le_refl _)
  have ne : s.heap.objs.size ≠ s.heap.objs.size + 1 := Nat.ne_of_lt (Nat.lt_succ_self _)
  have I2 := Inv.made (C := C) I
  generalize ex : s.heap.objs.size + 1 = x at n1 ne I2
  generalize ed : s.heap.objs.size = dx at n2 ne I2
  have n1' : upd H dx (.own x) x = none := by rw [upd_ne (Ne.symm ne)]; exact n1
  have mA : Mo μ H (μ.add x) (upd (upd H dx (.own x)) x (.ins C dx [])) := (Mo.new n2).trans (Mo.add n1')
  have RA : Rl G (μ.add x) (S ++ [.ins c []]) (upd (upd H dx (.own x)) x (.ins C dx [])) := (R.new n2).add n1' ⟨C, dx, [], hc, upd_same, .nil⟩
  have f2 := Fin.mo f mA
  have len : (V.ref x :: vs).length = ps.length := by
    rw [List.length_cons, ← qs.length]
    exact Classical.byContradiction fun n => by
      rw [hlen (.loc S.length :: ds) (S ++ [Ob.ins c []]) n] at f2
      exact f2
  have hq : spF G ps.length (P q) (.ref x :: vs) (upd (upd H dx (.own x)) x (.ins C dx [])) (fun v H2 => v = .non ∧ Q (.ref x) H2) (WE W σ) := by
    refine ⟨len, μ.add x, _, .loc S.length :: ds, RA, .cons (vr_new R x) (DRs.mo mA _ _ qs), (Fin.bind f2).mono fun v H2 ⟨μ2, d, S2, m2, R2, q2, f3⟩ => ?_⟩
    dsimp only at f3
    split at f3
    · rename_i hd
      subst hd
      refine ⟨q2.non, Fin.ok f3 R2 ?_⟩
      exact (vr_new (H' := upd (upd H dx (.own x)) x (.ins C dx [])) R x).mo m2
    · exact f3.elim
  subst ex ed
  have r2 : Vals (V.ref (s.heap.objs.size + 1) :: vs) (Value.ref (s.heap.objs.size + 1) :: us) := .cons rfl rv
  have b := hbd ({ s with heap := (s.heap.push PySem.W.emptyDict).push (PySem.W.instObj C s.heap.objs.size) } : Shared) (.ref (s.heap.objs.size + 1) :: us) I2.kIn (by rw [List.append_nil, ← r2.length]; exact len)
  rw [List.append_nil] at b
  refine wpAny_call (make_map (f := fa) I.kIn M.makes M.init (beq_iff_eq.mp M.fn) (codeAny_mono (F.run _ X.stack _ _ ⟨_, []⟩ _ _ _ (WE W σ) (hr.make C us []) (I2.env0.make C us []) b r2 hq) fun r s' hq' => ?_))
  cases r with
  | error er => exact passAt tk σ pins _ _ er s' I2 hq'
  | ok fl =>
    cases fl with
    | ret u =>
      obtain ⟨v, H', I3, rvv, ev, q3⟩ := I2.after hq'
      subst ev
      exact ⟨rvv, V.ref (s.heap.objs.size + 1), H', I3, rfl, q3⟩
    | next => exact hq'.elim
    | brk => exact hq'.elim
    | cont => exact hq'.elim
theorem u_make {c q : Str} {C : Addr} (B : GF X G T P k) (hc : G.cls c = some C) (hq : T.ini c = some q) (hr : Room (k + 1) X.A) (tk : Takes X W) (hg : Gl X x) (hm : X.mg x = some (.ref C)) (hdb : (x == ("__debug__" : Str)) = false)
    (ha : PA X (e :: es) (tA G W rr)) (he : starEach (e :: es) X.env = (false, eval e X.env) :: starEach es X.env) (hpl : (backTo pos (starEach es X.env)).any (·.1) = false) : PE X (.Call (.Name x pp) (e :: es) [] pos) (tI G W (rMake P c q rr)) := by
  obtain ⟨fa, M, F⟩ := B.ini c C q hc hq
  exact ⟨fun pins s σ H Q I ⟨μ, ρ, S, R, sr, f⟩ => wpAny_Call_Name_kw (ld_glob I hg hm (PySem.W.callWith_K (h₀ := X.base) I.ok.mod.kin M.kp (thn (ha.run pos pins s σ H _ I ⟨μ, ρ, S, R, sr, Fin.binds f⟩) fun us s1 ⟨vs, H1, I1, rv, z⟩ => by
    obtain ⟨μ1, ds, S1, m, R1, q1, f1⟩ := z
    exact ⟨I1.kIn, made_of M F hc hr tk I1 rv R1 q1 f1⟩) he hpl) hdb)⟩
theorem u_make0 {c q : Str} {C : Addr} (B : GF X G T P k) (hc : G.cls c = some C) (hq : T.ini c = some q) (hr : Room (k + 1) X.A) (tk : Takes X W) (hg : Gl X x) (hm : X.mg x = some (.ref C)) (hdb : (x == ("__debug__" : Str)) = false) : PE X (.Call (.Name x pp) [] [] pos) (tI G W (rMake P c q rNil)) := by
  obtain ⟨fa, M, F⟩ := B.ini c C q hc hq
  exact ⟨fun pins s σ H Q I ⟨μ, ρ, S, R, sr, f⟩ => wpAny_Call_Name_kw (ld_glob I hg hm (PySem.W.callWith_K0 I.kIn M.kp (made_of (us := []) M F hc hr tk I .nil R .nil f)) hdb)⟩
end
end Mt


set_option Elab.async false
set_option maxRecDepth 100000
set_option autoImplicit false
set_option linter.all false
/-! Methods of the built-in types. -/
namespace Mt
open PySem PySem.Spec PyProof.Rows L2

/-- what a method does on data: the value, the store behind it -/
abbrev Mg := Sto → D → List D → Option (D × Sto)
/-- how the value is told -/
def MtS (G : Gx) (X : Cx) (id : String) (g : Mg) : Prop :=
  ∀ (pins : List (Addr × Obj)) (s : Shared) (σ : L2.St) (H : Hp) (x : V) (xs : List V) (v : Value) (us : List Value) (Q : VK) (μ : Mu) (S : Sto) (d : D) (ds : List D) (r : D) (S' : Sto), Inv X pins σ H s → RelV x v → Vals xs us → Rl G μ S H → DR G.K μ H d x → DRs G.K μ H ds xs →
    g S d ds = some (r, S') → (∀ μ' H' w, Mo μ H μ' H' → Rl G μ' S' H' → VR G μ' H' r w → Q w H') → wpAny (model X.prog X.w) X.A (call (.builtin id) (v :: us)) (EP X pins σ Q) X.xe s
inductive Bt where
  | str | list | dict
def Bt.name : Bt → String
  | .str => "str"
  | .list => "list"
  | .dict => "dict"
def Bt.is (S : Sto) (d : D) : Bt → Bool
  | .str => match d with
    | .str _ => true
    | _ => false
  | .list => (asL S d).isSome
  | .dict => (locD S d).isSome
def rBm (T : Bt) (g : Mg) (ra : Run) (rr : RunA) : Run := fun ρ S => (ra ρ S).bind fun d S1 => if T.is S1 d then (rr ρ S1).bind fun ds S2 => match g S2 d ds with
  | some (r, S3) => .ok r S3
  | none => .no else .no
section
variable {X : Cx} {G : Gx} {W : WX} {T : Bt} {id : String} {g : Mg} {ra : Run} {rr : RunA} {o e : Expr} {es : List Expr} {name : Str} {apos pos : Pos}
theorem MtS.or {g g' : Mg} (h : MtS G X id g) (h' : MtS G X id g') : MtS G X id fun S d ds => (g S d ds).or (g' S d ds) := by
  intro pins s σ H x xs v us Q μ S d ds r S' I rx rv R q qs hg k
  rcases Option.or_eq_some_iff.mp hg with hg | ⟨_, hg⟩
  · exact h pins s σ H x xs v us Q μ S d ds r S' I rx rv R q qs hg k
  · exact h' pins s σ H x xs v us Q μ S d ds r S' I rx rv R q qs hg k
theorem bt_ty {μ : Mu} {S : Sto} {H : Hp} {d : D} {x : V} (R : Rl G μ S H) (q : DR G.K μ H d x) (h : T.is S d = true) : tyV X.K T.name x H := by
  cases T with
  | str =>
    cases d with
    | str y => rw [DR] at q; subst q; rfl
    | _ => cases h
  | list =>
    obtain ⟨xs, e⟩ := Option.isSome_iff_exists.mp (show (asL S d).isSome = true from h)
    obtain ⟨a, vs, rfl, h1, _⟩ := asL_sq R e q
    exact .inl ⟨rfl, vs, .inl h1⟩
  | dict =>
    obtain ⟨⟨l, xs⟩, e⟩ := Option.isSome_iff_exists.mp (show (locD S d).isSome = true from h)
    obtain ⟨a, ks, rfl, _, h1, _⟩ := locD_at R e q
    exact .inr (.inr (.inl ⟨rfl, .inl ⟨ks, h1⟩⟩))
theorem bm_fin {μ : Mu} {H : Hp} {S2 : Sto} {Q : VK} {E : XK} {d : D} {ds : List D} (f : Fin G μ H (match g S2 d ds with | some (r, S3) => R.ok r S3 | none => .no) Q E) :
    ∃ r S', g S2 d ds = some (r, S') ∧ ∀ μ' H' w, Mo μ H μ' H' → Rl G μ' S' H' → VR G μ' H' r w → Q w H' := by
  split at f
  · rename_i r S3 e
    exact ⟨r, S3, e, f⟩
  · exact f.elim
theorem u_bm0 (pa : PlainAttrs T.name) (slot : Slot T.name name id) (hty : typeOf (.builtin id) = pure (.type "method_descriptor")) (hm : MtS G X id g) (ho : PE X o (tI G W ra))
    (hbase : attributeBase o name X.env (eval o X.env) = eval o X.env) (hline : (apos.endLine == pos.line) = true) : PE X (.Call (.Attribute o name apos) [] [] pos) (tI G W (rBm T g ra rNil)) :=
  ⟨fun pins s σ H Q I ⟨μ, ρ, S, R, sr, f⟩ => wpAny_Call_method0_late hbase hline (thn (ho.run pins s σ H _ I ⟨μ, ρ, S, R, sr, Fin.bind f⟩) fun v s1 ⟨x, H1, I1, r1, μ1, d, S1, m1, R1, q1, f1⟩ => by
    dsimp only at f1
    split at f1
    · rename_i c
      obtain ⟨h1, h2⟩ := tyV_is I1 r1 (bt_ty R1 q1 c)
      obtain ⟨r, S', e, k⟩ := bm_fin (show Fin G μ1 H1 (match g S1 d [] with | some (r, S3) => Mt.R.ok r S3 | none => .no) Q fun cv dx H' => W cv dx σ H' from f1)
      exact ⟨T.name, id, pa, slot, hty, h1, h2, Calls.callWith_builtin rfl (PySem.evalArgs_none (hm pins s1 σ H1 x [] v [] Q μ1 S1 d [] r S' I1 r1 .nil R1 q1 .nil e k))⟩
    · exact f1.elim)⟩
theorem u_bm (pa : PlainAttrs T.name) (slot : Slot T.name name id) (hty : typeOf (.builtin id) = pure (.type "method_descriptor")) (hm : MtS G X id g) (ho : PE X o (tI G W ra)) (ha : PA X (e :: es) (tA G W rr))
    (hbase : attributeBase o name X.env (eval o X.env) = eval o X.env)
    (hfew : ((backTo pos (starEach (e :: es) X.env)).all (fun x => !x.1) && (backToKw pos (keywordEach [] X.env)).all (fun x => x.1.isSome) && decide ((e :: es).length + ([] : List Keyword).length + (if ([] : List Keyword).isEmpty then 0 else 1) < 30)) = true)
    (hline : (apos.endLine == pos.line) = true) (hs : starEach (e :: es) X.env = (false, eval e X.env) :: starEach es X.env) (hplain : (backTo pos (starEach es X.env)).any (·.1) = false) :
    PE X (.Call (.Attribute o name apos) (e :: es) [] pos) (tI G W (rBm T g ra rr)) :=
  ⟨fun pins s σ H Q I ⟨μ, ρ, S, R, sr, f⟩ => wpAny_Call_method_late hbase hfew hline rfl (thn (ho.run pins s σ H _ I ⟨μ, ρ, S, R, sr, Fin.bind f⟩) fun v s1 ⟨x, H1, I1, r1, μ1, d, S1, m1, R1, q1, f1⟩ => by
    dsimp only at f1
    split at f1
    · rename_i c
      obtain ⟨h1, h2⟩ := tyV_is I1 r1 (bt_ty R1 q1 c)
      refine ⟨T.name, id, pa, slot, hty, h1, h2, ?_⟩
      have hA := ha.run pos pins s1 σ H1 _ I1 ⟨μ1, ρ, S1, R1, sr.mo m1, Fin.binds f1⟩
      rw [hs] at hA ⊢
      refine Calls.callWith_builtin (by show (false || (backTo pos (starEach es X.env)).any (·.1)) = false; rw [hplain] <;> rfl) (Calls.evalArgs_plain ?_)
      refine thn hA fun us s2 ⟨vs, H2, I2, r2, z⟩ => ?_
      obtain ⟨μ2, ds, S2, m2, R2, q2, f2⟩ := z
      obtain ⟨r, S', e, k⟩ := bm_fin f2
      exact hm pins s2 σ H2 x vs v us Q μ2 S2 d ds r S' I2 r1 r2 R2 (DR.mo m2 _ _ q1) q2 e k
    · exact f1.elim)⟩
/-! ### lists of the store -/
/-- the list of the store at d -/
def locL (S : Sto) : D → Option (Nat × List D)
  | .loc l => match S[l]? with
    | some (.lst xs) => some (l, xs)
    | _ => none
  | _ => none
theorem locL_at {μ : Mu} {S : Sto} {H : Hp} (R : Rl G μ S H) {d : D} {v : V} {l : Nat} {xs : List D} (e : locL S d = some (l, xs)) (q : DR G.K μ H d v) : ∃ a vs, v = .ref a ∧ μ.l[l]? = some a ∧ H a = some (.lst vs) ∧ DRs G.K μ H xs vs := by
  unfold locL at e
  split at e
  · split at e
    · rename_i l' ys es
      cases e
      rw [DR] at q
      obtain ⟨a, ea, hl⟩ := q
      obtain ⟨vs, h1, h2⟩ := R.at_ l a _ hl es
      exact ⟨a, vs, ea, hl, h1, h2⟩
    · cases e
  · cases e
/-- the list written anew -/
theorem lst_put {μ : Mu} {S : Sto} {H : Hp} (R : Rl G μ S H) {l : Nat} {a : Addr} {ys : List D} {ws us : List V} (hl : μ.l[l]? = some a) (h1 : H a = some (.lst us)) (q : DRs G.K μ H ys ws) : Mo μ H μ (upd H a (.lst ws)) ∧ Rl G μ (S.set l (.lst ys)) (upd H a (.lst ws)) :=
  ⟨Mo.write R hl (nofrz_lst h1), R.write hl (nofrz_lst h1) ⟨ws, upd_same, DRs.mo (Mo.write R hl (nofrz_lst h1)) _ _ q⟩⟩
def gAppend : Mg := fun S d ds => match ds, locL S d with
  | [y], some (l, xs) => if xs.length < big then some (.non, S.set l (.lst (xs ++ [y]))) else none
  | _, _ => none
theorem m_append : MtS G X "list.append" gAppend := by
  intro pins s σ H x xs v us Q μ S d ds r S' I rx rv R q qs hg k
  unfold gAppend at hg
  split at hg
  · rename_i y l zs e
    split at hg
    · rename_i c
      cases hg
      obtain ⟨a, vs, rfl, hl, h1, h2⟩ := locL_at R e q
      obtain ⟨w, rfl, qy⟩ := drs1 qs
      obtain ⟨m, R'⟩ := lst_put R hl h1 (h2.append (.cons qy .nil))
      exact mt_append pins s σ H _ _ v us Q I rx rv ⟨a, vs, w, rfl, rfl, h1, by rw [← h2.length]; exact Nat.lt_of_lt_of_le c (big_le (Nat.le_refl _)), k μ _ _ m R' (.of .n)⟩
    · cases hg
  · cases hg
def gExtend : Mg := fun S d ds => match ds, locL S d with
  | [y], some (l, xs) => (match asL S y with
    | some ys => if xs.length + ys.length ≤ big then some (.non, S.set l (.lst (xs ++ ys))) else none
    | none => none)
  | _, _ => none
theorem m_extend : MtS G X "list.extend" gExtend := by
  intro pins s σ H x xs v us Q μ S d ds r S' I rx rv R q qs hg k
  unfold gExtend at hg
  split at hg
  · rename_i y l zs e
    split at hg
    · rename_i ys ey
      split at hg
      · rename_i c
        cases hg
        obtain ⟨a, vs, rfl, hl, h1, h2⟩ := locL_at R e q
        obtain ⟨w, rfl, qy⟩ := drs1 qs
        obtain ⟨b, ws, rfl, hb, qb⟩ := asL_sq R ey qy
        obtain ⟨m, R'⟩ := lst_put R hl h1 (h2.append qb)
        cases rx
        obtain ⟨u, rfl, ru⟩ := rv.one
        cases ru
        obtain ⟨z, its, n, r1, hl1, e1⟩ := I.lstM h1
        obtain ⟨z2, its2, n2, r2, e2⟩ := lstObj I hb
        have hsz : its.toArray.size + its2.toArray.size ≤ sizeLine := by
          rw [List.size_toArray, List.size_toArray, ← r1.length, ← r2.length, ← h2.length, ← qb.length]
          exact big_le c
        have hlong : ¬ (!its.toArray.isEmpty && Builtin.List.listTooLong (its.toArray.size + its2.toArray.size)) = true := by
          rw [notLongL hsz, Bool.and_false]
          exact Bool.false_ne_true
        refine call_meets PySem.F.slot_list_extend ⟨_, e1, rfl⟩ PySem.F.entry_list_extend (PySem.F.args_list_extend_2 _ _) (AutoSeq1.list_extend_list_list_0 a its.toArray n b its2.toArray n2 hlong (by omega) (by omega)) ⟨e1, e2, ?_⟩
        refine ⟨.non, _, I.lset (its' := its ++ its2) h1 e1 (by simp) (r1.append r2) ?_, rfl, k μ _ _ m R' (.of .n)⟩
        rw [List.length_append, ← h2.length, ← qb.length]
        exact big_le c
      · cases hg
    · cases hg
  · cases hg
def gPop : Mg := fun S d ds => match ds, locL S d with
  | [], some (l, xs) => (match xs[xs.length - 1]? with
    | some y => some (y, S.set l (.lst xs.dropLast))
    | none => none)
  | _, _ => none
theorem drs_dropLast {K : PySem.W.Frag} {μ : Mu} {H : Hp} {ds : List D} {xs : List V} (h : DRs K μ H ds xs) : DRs K μ H ds.dropLast xs.dropLast := by
  rw [List.dropLast_eq_take, List.dropLast_eq_take, h.length]
  exact h.take _
theorem drs_erase {K : PySem.W.Frag} {μ : Mu} {H : Hp} {ds : List D} {xs : List V} (h : DRs K μ H ds xs) (i : Nat) : DRs K μ H (ds.eraseIdx i) (xs.eraseIdx i) := by
  rw [List.eraseIdx_eq_take_drop_succ, List.eraseIdx_eq_take_drop_succ]
  exact (h.take i).append (h.drop (i + 1))
theorem m_pop : MtS G X "list.pop" gPop := by
  intro pins s σ H x xs v us Q μ S d ds r S' I rx rv R q qs hg k
  unfold gPop at hg
  split at hg
  · rename_i l zs e
    split at hg
    · rename_i y ey
      cases hg
      obtain ⟨a, vs, rfl, hl, h1, h2⟩ := locL_at R e q
      rw [DRs] at qs
      subst qs
      obtain ⟨w, hw, rw'⟩ := h2.get ey
      obtain ⟨m, R'⟩ := lst_put R hl h1 (drs_dropLast h2)
      exact mt_pop pins s σ H _ _ v us Q I rx rv ⟨a, vs, w, rfl, rfl, h1, by rw [← h2.length]; exact hw, k μ _ _ m R' (VR.mo rw' m)⟩
    · cases hg
  · cases hg
def gPopAt : Mg := fun S d ds => match ds, locL S d with
  | [.int i], some (l, xs) => if -(2 ^ 63) ≤ i ∧ i < 2 ^ 63 then (match seqIndex? i xs.length with
    | some j => (match xs[j]? with
      | some y => some (y, S.set l (.lst (xs.eraseIdx j)))
      | none => none)
    | none => none) else none
  | _, _ => none
theorem m_popAt : MtS G X "list.pop" gPopAt := by
  intro pins s σ H x xs v us Q μ S d ds r S' I rx rv R q qs hg k
  unfold gPopAt at hg
  split at hg
  · rename_i i l zs e
    split at hg
    · rename_i c
      split at hg
      · rename_i j ej
        split at hg
        · rename_i y ey
          cases hg
          obtain ⟨a, vs, rfl, hl, h1, h2⟩ := locL_at R e q
          obtain ⟨wi, rfl, qi⟩ := drs1 qs
          rw [DR] at qi
          subst qi
          obtain ⟨w, hw, rw'⟩ := h2.get ey
          obtain ⟨m, R'⟩ := lst_put R hl h1 (drs_erase h2 j)
          exact mt_popAt pins s σ H _ _ v us Q I rx rv ⟨a, vs, i, j, w, rfl, rfl, h1, c.1, c.2, by rw [← h2.length]; exact ej, hw, k μ _ _ m R' (VR.mo rw' m)⟩
        · cases hg
      · cases hg
    · cases hg
  · cases hg
def gPops : Mg := fun S d ds => (gPop S d ds).or (gPopAt S d ds)
theorem m_pops : MtS G X "list.pop" gPops := m_pop.or m_popAt
/-! ### dicts of the store -/
def gClear : Mg := fun S d ds => match ds, locD S d with
  | [], some (l, _) => some (.non, S.set l (.dic []))
  | _, _ => none
theorem m_clear : MtS G X "dict.clear" gClear := by
  intro pins s σ H x xs v us Q μ S d ds r S' I rx rv R q qs hg k
  unfold gClear at hg
  split at hg
  · rename_i l zs e
    cases hg
    obtain ⟨a, vs, rfl, hl, h1, h2⟩ := locD_at R e q
    rw [DRs] at qs
    subst qs
    exact mtd_clear pins s σ H _ _ v us Q I rx rv ⟨a, vs, rfl, rfl, h1, k μ _ _ (Mo.write R hl (nofrz_dK h1)) (R.write hl (nofrz_dK h1) ⟨[], upd_same, .nil⟩) (.of .n)⟩
  · cases hg
def gGet : Mg := fun S d ds => match asD S d with
  | some kvs => (match ds with
    | [y] => (match keyOf y with
      | some _ => some ((dfind kvs y).getD .non, S)
      | none => none)
    | [y, z] => (match keyOf y with
      | some _ => some ((dfind kvs y).getD z, S)
      | none => none)
    | _ => none)
  | none => none
theorem m_get (hu : X.A.units + 200 < cLine) : MtS G X "dict.get" gGet := by
  intro pins s σ H x xs v us Q μ S d ds r S' I rx rv R q qs hg k
  unfold gGet at hg
  split at hg
  · rename_i kvs e
    obtain ⟨l, a, ks, rfl, rfl, hl, h1, h2⟩ := asD_at R e q
    cases rx
    split at hg
    · rename_i y
      split at hg
      · rename_i ky ey
        cases hg
        obtain ⟨w, rfl, qy⟩ := drs1 qs
        obtain ⟨u, rfl, ru⟩ := rv.one
        have ew := VR.key ey (VR.of qy)
        subst ew
        refine d_get1 (by omega) I (.inl ⟨ks, ky, h1, rfl, rfl⟩) ru fun w' s' I' r' => ⟨_, H, I', r', ?_⟩
        have ek := keyOf_some ey
        subst ek
        rcases krs_find (k := ky) h2 with ⟨z1, z2⟩ | ⟨d, v, z1, z2, z3⟩
        · rw [z1] at k; rw [z2]; exact k μ H _ (Mo.refl _ _) R (.of .n)
        · rw [z1] at k; rw [z2]; exact k μ H _ (Mo.refl _ _) R (.of z3)
      · cases hg
    · rename_i y z
      split at hg
      · rename_i ky ey
        cases hg
        obtain ⟨w, w2, rfl, qy, qz⟩ := drs2 qs
        obtain ⟨u, u2, rfl, ru, ru2⟩ := rv.two
        have ew := VR.key ey (VR.of qy)
        subst ew
        refine d_get2 (by omega) I (.inl ⟨ks, ky, h1, rfl, rfl⟩) ru ru2 fun w' s' I' r' => ⟨_, H, I', r', ?_⟩
        have ek := keyOf_some ey
        subst ek
        rcases krs_find (k := ky) h2 with ⟨z1, z2⟩ | ⟨d, v, z1, z2, z3⟩
        · rw [z1] at k; rw [z2]; exact k μ H _ (Mo.refl _ _) R (.of qz)
        · rw [z1] at k; rw [z2]; exact k μ H _ (Mo.refl _ _) R (.of z3)
      · cases hg
    · cases hg
  · cases hg
end
end Mt


set_option Elab.async false
set_option maxRecDepth 100000
set_option autoImplicit false
set_option linter.all false
/-! Dicts walked; ranges, texts, enumerate, zip. -/
namespace Mt
open PySem PySem.Spec PyProof.Rows L2

/-! ### a dict is locked while it is walked -/
/-- which dict -/
abbrev Lk := En → Sto → Option Nat
def lkOf (ra : Run) : Lk := fun ρ S => match ra ρ S with
  | .ok (.loc l) _ => some l
  | _ => none
def unlk (l : Nat) (kvs : List (D × D)) (S : Sto) : Option Sto := if S[l]? = some (.dicL kvs) then some (S.set l (.dic kvs)) else none
def rLk (f : Lk) (r : Run) : Run := fun ρ S => match f ρ S with
  | some l => (match S[l]? with
    | some (.dic kvs) => (match r ρ (S.set l (.dicL kvs)) with
      | .ok d S1 => (match unlk l kvs S1 with
        | some S2 => .ok d S2
        | none => .no)
      | x => x)
    | _ => r ρ S)
  | none => .no
def rsLk (f : Lk) (r : RunS) : RunS := fun ρ S => match f ρ S with
  | some l => (match S[l]? with
    | some (.dic kvs) => (match r ρ (S.set l (.dicL kvs)) with
      | .next ρ1 S1 => (match unlk l kvs S1 with
        | some S2 => .next ρ1 S2
        | none => .no)
      | .cont ρ1 S1 => (match unlk l kvs S1 with
        | some S2 => .cont ρ1 S2
        | none => .no)
      | .brk ρ1 S1 => (match unlk l kvs S1 with
        | some S2 => .brk ρ1 S2
        | none => .no)
      | .ret d S1 => (match unlk l kvs S1 with
        | some S2 => .ret d S2
        | none => .no)
      | x => x)
    | _ => r ρ S)
  | none => .no
section
variable {X : Cx} {G : Gx} {W : WX} {μ : Mu} {H : Hp} {S : Sto} {l : Nat} {kvs : List (D × D)}
/-- the store locked -/
theorem lock_at (R : Rl G μ S H) (e : S[l]? = some (.dic kvs)) : ∃ a ks, μ.l[l]? = some a ∧ H a = some (.dK ks) ∧ KRs G.K μ H kvs ks ∧ ∀ od, Mo μ H μ (upd H a (.frz od (.dK ks))) ∧ Rl G μ (S.set l (.dicL kvs)) (upd H a (.frz od (.dK ks))) := by
  have hl : l < μ.l.length := by rw [R.len]; exact (List.getElem?_eq_some_iff.mp e).1
  have h1 : μ.l[l]? = some μ.l[l] := List.getElem?_eq_getElem hl
  obtain ⟨ks, h2, h3⟩ := R.at_ l _ _ h1 e
  exact ⟨_, ks, h1, h2, h3, fun od => ⟨Mo.write R h1 (nofrz_dK h2), R.put h1 ⟨od, ks, upd_same, h3.mo (Mo.write R h1 (nofrz_dK h2))⟩⟩⟩
/-- behind the walk -/
theorem unlock_at {μ' : Mu} {H' : Hp} {S' S2 : Sto} {a : Addr} {ks : List (Key × V)} {od : Obj} (R : Rl G μ S H) (hl : μ.l[l]? = some a) (h : H a = some (.dK ks)) (m : Mo μ (upd H a (.frz od (.dK ks))) μ' H') (R' : Rl G μ' S' H') (e : unlk l kvs S' = some S2) :
    H' a = some (.frz od (.dK ks)) ∧ Mo μ H μ' (upd H' a (.dK ks)) ∧ Rl G μ' S2 (upd H' a (.dK ks)) ∧ Mw μ' H' μ' (upd H' a (.dK ks)) := by
  have h' : H' a = some (.frz od (.dK ks)) := m.frz a od _ upd_same
  have hl' := m.at hl
  unfold unlk at e
  split at e
  · rename_i es
    cases e
    obtain ⟨od', ks', h2, h3⟩ := R'.at_ l a _ hl' es
    rw [h'] at h2
    cases h2
    exact ⟨h', Mo.unlock R hl h m h', R'.put hl' ⟨ks, upd_same, h3.w (Mw.put R' hl')⟩, Mw.put R' hl'⟩
  · cases e
theorem peOr {e : Expr} {t t' : TE} (h : PE X e t) (h' : PE X e t') : PE X e fun σ H Q => t σ H Q ∨ t' σ H Q := ⟨fun pins s σ H Q I z => z.elim (h.run pins s σ H Q I) (h'.run pins s σ H Q I)⟩
theorem psOr {e : Stmt} {t t' : TS} (h : PS X e t) (h' : PS X e t') : PS X e fun Z σ H => t Z σ H ∨ t' Z σ H := ⟨fun pins s σ H Z I z => z.elim (h.run pins s σ H Z I) (h'.run pins s σ H Z I)⟩
theorem u_lock {e : Expr} {r : Run} {f : Lk} (h : PE X e (tI G W r)) : PE X e (tI G W (rLk f r)) :=
  peImp (peOr h (pe_lock h)) fun σ H Q ⟨μ, ρ, S, R, s, z⟩ => by
    unfold rLk at z
    split at z
    · rename_i l _
      split at z
      · rename_i kvs e
        obtain ⟨a, ks, hl, h1, h2, k⟩ := lock_at R e
        refine .inr ⟨a, .dK ks, h1, trivial, fun od => ?_⟩
        obtain ⟨m, R1⟩ := k od
        refine ⟨μ, ρ, _, R1, s.mo m, ?_⟩
        cases er : r ρ (S.set l (.dicL kvs)) with
        | no => rw [er] at z; exact z
        | ex c fs S1 => rw [er] at z; exact fun μ' H' cv dx m' R' x => z μ' H' cv dx (m.trans m') R' x
        | ok d S1 =>
          rw [er] at z
          dsimp only at z
          split at z
          · rename_i S2 e2
            intro μ' H' v m' R' q
            obtain ⟨h', mm, R2, w⟩ := unlock_at R hl h1 m' R' e2
            exact ⟨h', z μ' _ v mm R2 (DR.w w q)⟩
          · exact z.elim
      · exact .inl ⟨μ, ρ, S, R, s, z⟩
    · exact z.elim
theorem s_lock {e : Stmt} {r : RunS} {f : Lk} (h : PS X e (tS G W r)) : PS X e (tS G W (rsLk f r)) :=
  psImp (psOr h (ps_lock h)) fun Z σ H ⟨μ, ρ, S, R, s, z⟩ => by
    unfold rsLk at z
    split at z
    · rename_i l _
      split at z
      · rename_i kvs e
        obtain ⟨a, ks, hl, h1, h2, k⟩ := lock_at R e
        refine .inr ⟨a, .dK ks, h1, trivial, fun od => ?_⟩
        obtain ⟨m, R1⟩ := k od
        refine ⟨μ, ρ, _, R1, s.mo m, ?_⟩
        cases er : r ρ (S.set l (.dicL kvs)) with
        | no => rw [er] at z; exact z
        | ex c fs ρ1 S1 => rw [er] at z; exact fun μ' H' cv dx σ' m' R' x s' => z μ' H' cv dx σ' (m.trans m') R' x s'
        | next ρ1 S1 =>
          rw [er] at z
          dsimp only at z
          split at z
          · rename_i S2 e2
            intro μ' H' σ' m' R' s'
            obtain ⟨h', mm, R2, w⟩ := unlock_at R hl h1 m' R' e2
            exact ⟨h', z μ' _ σ' mm R2 (s'.w w)⟩
          · exact z.elim
        | cont ρ1 S1 =>
          rw [er] at z
          dsimp only at z
          split at z
          · rename_i S2 e2
            intro μ' H' σ' m' R' s'
            obtain ⟨h', mm, R2, w⟩ := unlock_at R hl h1 m' R' e2
            exact ⟨h', z μ' _ σ' mm R2 (s'.w w)⟩
          · exact z.elim
        | brk ρ1 S1 =>
          rw [er] at z
          dsimp only at z
          split at z
          · rename_i S2 e2
            intro μ' H' σ' m' R' s'
            obtain ⟨h', mm, R2, w⟩ := unlock_at R hl h1 m' R' e2
            exact ⟨h', z μ' _ σ' mm R2 (s'.w w)⟩
          · exact z.elim
        | ret d S1 =>
          rw [er] at z
          dsimp only at z
          split at z
          · rename_i S2 e2
            intro μ' H' v m' R' q
            obtain ⟨h', mm, R2, w⟩ := unlock_at R hl h1 m' R' e2
            exact ⟨h', z μ' _ v mm R2 (DR.w w q)⟩
          · exact z.elim
      · exact .inl ⟨μ, ρ, S, R, s, z⟩
    · exact z.elim
end

/-! ### the walks -/
/-- the locked dict at d -/
def lockedD (S : Sto) : D → Option (List (D × D))
  | .loc l => match S[l]? with
    | some (.dicL kvs) => some kvs
    | _ => none
  | _ => none
theorem locked_at {G : Gx} {μ : Mu} {S : Sto} {H : Hp} (R : Rl G μ S H) {d : D} {kvs : List (D × D)} {v : V} (h : lockedD S d = some kvs) (q : DR G.K μ H d v) : ∃ a od ks, v = .ref a ∧ H a = some (.frz od (.dK ks)) ∧ KRs G.K μ H kvs ks := by
  unfold lockedD at h
  split at h
  · split at h
    · rename_i l _ _ e
      cases h
      rw [DR] at q
      obtain ⟨a, ea, hl⟩ := q
      obtain ⟨od, ks, h1, h2⟩ := R.at_ l a _ hl e
      exact ⟨a, od, ks, ea, h1, h2⟩
    · cases h
  · cases h
def rOver (f : Sto → D → Option (List D)) (ra : Run) : RunI := fun ρ S => (ra ρ S).bind fun d S1 => match f S1 d with
  | some xs => .ok (xs, .free) S1
  | none => .no
def dKeys (S : Sto) (d : D) : Option (List D) := (lockedD S d).map fun kvs => kvs.map (·.1)
def dItems (S : Sto) (d : D) : Option (List D) := (lockedD S d).map fun kvs => kvs.map fun p => .tup [p.1, p.2]
def dSigns (_ : Sto) (d : D) : Option (List D) := match d with
  | .str x => some (x.cps.toList.map fun c => .str ⟨#[c]⟩)
  | _ => none
section
variable {X : Cx} {G : Gx} {W : WX} {pos apos p : Pos} {ra rb : Run} {tg e e2 : Expr} {elts : List Expr} {kk : Nat} {tpos : Pos}
theorem krs_get {K : PySem.W.Frag} {μ : Mu} {H : Hp} {i : Nat} {d : D × D} : ∀ {kvs : List (D × D)} {ks : List (Key × V)}, KRs K μ H kvs ks → kvs[i]? = some d → ∃ k v, ks[i]? = some (k, v) ∧ d.1 = keyD k ∧ DR K μ H d.2 v := by
  induction i with
  | zero => intro kvs ks h e; cases h with
    | nil => simp at e
    | cons q r => rename_i a b as bs; simp at e; subst e; exact ⟨_, _, rfl, q.1, q.2⟩
  | succ i ih => intro kvs ks h e; cases h with
    | nil => simp at e
    | cons q r => simpa using ih r (by simpa using e)
theorem dr_key {K : PySem.W.Frag} {μ : Mu} {H : Hp} (k : Key) : DR K μ H (keyD k) (kV k) := by
  cases k with
  | inl i => exact .i i
  | inr x => exact .s x
theorem i_keys (ha : PE X e (tI G W ra)) : PI X tg e (tIt G W (rOver dKeys ra)) :=
  piImp (pi_keys ha) fun σ H Q ⟨μ, ρ, S, R, s, f⟩ => ⟨μ, ρ, S, R, s, (FinI.bind f).mono fun v H1 ⟨μ1, d, S1, m1, R1, q1, f1⟩ => by
    split at f1
    · rename_i xs e1
      obtain ⟨kvs, e2, rfl⟩ := Option.map_eq_some_iff.mp e1
      obtain ⟨a, od, ks, rfl, h1, h2⟩ := locked_at R1 e2 q1
      refine ⟨a, od, rfl, .inl ⟨ks, h1, f1 μ1 H1 _ (Mo.refl _ _) R1 rfl ⟨fun i μ' S' H' d m' R' _ hd => ?_, fun i μ' S' H' m' R' _ hi => ?_⟩⟩⟩
      · rw [List.getElem?_map] at hd
        obtain ⟨⟨k, w⟩, hk, rfl⟩ := Option.map_eq_some_iff.mp hd
        obtain ⟨k', v', hk', e3, q3⟩ := krs_get (h2.mo m') hk
        have e3' : k = keyD k' := e3
        subst e3'
        refine ⟨⟨m'.frz _ _ _ h1, (List.getElem?_eq_some_iff.mp hk').1⟩, fun x H'' ⟨eH, k2, v2, h4, ex⟩ => ?_⟩
        rw [hk'] at h4
        cases h4
        subst eH ex
        exact ⟨Mo.refl _ _, R', .of (dr_key _)⟩
      · rw [List.length_map, krs_length h2] at hi
        exact ⟨m'.frz _ _ _ h1, hi⟩
    · exact f1.elim⟩
theorem i_items (ha : PE X e (tI G W ra)) (hbase : attributeBase e "items" X.env (eval e X.env) = eval e X.env) (hline : (apos.endLine == pos.line) = true) : PI X (.Tuple elts kk tpos) (.Call (.Attribute e "items" apos) [] [] pos) (tIt G W (rOver dItems ra)) :=
  piImp (pi_items ha hbase hline) fun σ H Q ⟨μ, ρ, S, R, s, f⟩ => ⟨μ, ρ, S, R, s, (FinI.bind f).mono fun v H1 ⟨μ1, d, S1, m1, R1, q1, f1⟩ => by
    split at f1
    · rename_i xs e1
      obtain ⟨kvs, e2, rfl⟩ := Option.map_eq_some_iff.mp e1
      obtain ⟨a, od, ks, rfl, h1, h2⟩ := locked_at R1 e2 q1
      refine ⟨a, od, ks, rfl, h1, f1 μ1 H1 _ (Mo.refl _ _) R1 rfl ⟨fun i μ' S' H' d m' R' _ hd => ?_, fun i μ' S' H' m' R' _ hi => ?_⟩⟩
      · rw [List.getElem?_map] at hd
        obtain ⟨⟨k, w⟩, hk, rfl⟩ := Option.map_eq_some_iff.mp hd
        obtain ⟨k', v', hk', e3, q3⟩ := krs_get (h2.mo m') hk
        have e3' : k = keyD k' := e3
        subst e3'
        refine ⟨⟨m'.frz _ _ _ h1, (List.getElem?_eq_some_iff.mp hk').1⟩, fun x H'' ⟨T, k2, v2, h4, ex, hT, eH⟩ => ?_⟩
        rw [hk'] at h4
        cases h4
        subst eH ex
        refine ⟨Mo.new hT, R'.new hT, .of ?_⟩
        rw [DR]
        exact ⟨T, _, rfl, .inl ⟨.inl upd_same, R'.fresh hT⟩, .cons (dr_key _) (.cons (DR.mo (Mo.new hT) _ _ q3) .nil)⟩
      · rw [List.length_map, krs_length h2] at hi
        exact ⟨m'.frz _ _ _ h1, hi⟩
    · exact f1.elim⟩
theorem i_str (ha : PE X e (tI G W ra)) : PI X tg e (tIt G W (rOver dSigns ra)) :=
  piImp (pi_str ha) fun σ H Q ⟨μ, ρ, S, R, s, f⟩ => ⟨μ, ρ, S, R, s, (FinI.bind f).mono fun v H1 ⟨μ1, d, S1, m1, R1, q1, f1⟩ => by
    split at f1
    · rename_i xs e1
      unfold dSigns at e1
      split at e1
      · rename_i x
        cases e1
        refine ⟨x, q1.str, f1 μ1 H1 _ (Mo.refl _ _) R1 rfl ⟨fun i μ' S' H' d m' R' _ hd => ?_, fun i μ' S' H' m' R' _ hi => ?_⟩⟩
        · rw [List.getElem?_map] at hd
          obtain ⟨c, hc, rfl⟩ := Option.map_eq_some_iff.mp hd
          rw [Array.getElem?_toList] at hc
          refine ⟨(Array.getElem?_eq_some_iff.mp hc).1, fun y H'' ⟨eH, c2, h4, ex⟩ => ?_⟩
          rw [hc] at h4
          cases h4
          subst eH ex
          exact ⟨Mo.refl _ _, R', .of (.s _)⟩
        · rw [List.length_map, Array.length_toList] at hi
          exact hi
      · cases e1
    · exact f1.elim⟩
/-! ### ranges -/
def rRange1 (ra : Run) : RunI := fun ρ S => (ra ρ S).bind fun d S1 => match d with
  | .int j => if -(2 ^ 62) ≤ j ∧ j < 2 ^ 62 then .ok ((List.range j.toNat).map fun i : Nat => .int i, .free) S1 else .no
  | _ => .no
theorem range_wk {μ1 : Mu} {H1 : Hp} (lo : Int) (n : Nat) : Wk G (Itr lo n) ((List.range n).map fun i : Nat => .int (lo + i)) .free μ1 H1 :=
  ⟨fun i μ' S' H' d m' R' _ hd => by
    rw [List.getElem?_map] at hd
    obtain ⟨c, hc, rfl⟩ := Option.map_eq_some_iff.mp hd
    obtain ⟨hl, hc'⟩ := List.getElem?_eq_some_iff.mp hc
    rw [List.length_range] at hl
    rw [List.getElem_range] at hc'
    subst hc'
    exact ⟨hl, fun y H'' ⟨eH, ex⟩ => by
      subst eH ex
      exact ⟨Mo.refl _ _, R', .of (.i _)⟩⟩, fun i μ' S' H' m' R' _ hi => by
    rw [List.length_map, List.length_range] at hi
    exact hi⟩
theorem i_range1 (hg : Gl X "range") (hm : X.mg "range" = none) (ha : PE X e (tI G W ra)) (hs : starEach [e] X.env = [(false, eval e X.env)]) : PI X tg (.Call (.Name "range" p) [e] [] pos) (tIt G W (rRange1 ra)) :=
  piImp (pi_range1 hg hm (pa_cons ha pa_nil (by rw [hs]; rfl)) hs) fun σ H Q ⟨μ, ρ, S, R, s, f⟩ => ⟨μ, ρ, S, R, s, (FinI.bind f).mono fun v H1 ⟨μ1, d, S1, m1, R1, q1, f1⟩ => by
    split at f1
    · rename_i j
      split at f1
      · rename_i c
        refine ⟨j, by rw [q1.int], c.1, c.2, f1 μ1 H1 _ (Mo.refl _ _) R1 rfl ?_⟩
        have w := range_wk (G := G) (μ1 := μ1) (H1 := H1) 0 j.toNat
        have e : ((List.range j.toNat).map fun i : Nat => D.int ((0 : Int) + i)) = (List.range j.toNat).map fun i : Nat => D.int i := List.map_congr_left fun i _ => by rw [Int.zero_add]
        rw [e] at w
        exact w
      · exact f1.elim
    · exact f1.elim⟩
def rRange2 (ra rb : Run) : RunI := fun ρ S => (ra ρ S).bind fun d S1 => (match rb ρ S1 with
  | .ok d2 S2 => (match d, d2 with
    | .int i, .int j => if -(2 ^ 62) ≤ i ∧ i < 2 ^ 62 ∧ -(2 ^ 62) ≤ j ∧ j < 2 ^ 62 then .ok ((List.range (j - i).toNat).map fun k : Nat => .int (i + k), .free) S2 else .no
    | _, _ => .no)
  | .ex c fs S2 => .ex c fs S2
  | .no => .no)
end
end Mt


set_option Elab.async false
set_option maxRecDepth 100000
set_option autoImplicit false
set_option linter.all false
set_option maxHeartbeats 1000000
/-! enumerate. -/
namespace Mt
open PySem PySem.Spec PyProof.Rows L2
theorem meets_enumT (t : Addr) (its : Array Value) :
    Meets (Builtin.«enumerate.__new__» ⟨[.type "enumerate", .ref t], []⟩) (fun _ R s => s.heap.IsTuple t its ∧
      R (.ok (.ret (.ref (s.heap.push { cls := .type "tuple_iterator", data := .fields #[.ref t, .int 0 0] }).objs.size)))
        { s with heap := (s.heap.push { cls := .type "tuple_iterator", data := .fields #[.ref t, .int 0 0] }).push { cls := .type "enumerate", data := .fields #[.none, .bool false, .ref s.heap.objs.size, rawInt 0, .none, .none] } }) :=
  .of_wp fun prog w A R s h => by
    obtain ⟨hp, g, d, tk, os⟩ := s; obtain ⟨hl, h⟩ := h
    have hsub := sub_enumerate
    have q1 : ∀ {A' : Around} {E : Value → Shared → Prop} {Q : Value → Shared → Prop}, Q (.ref hp.objs.size) ⟨hp.push { cls := .type "tuple_iterator", data := .fields #[.ref t, .int 0 0] }, g, d, tk, os⟩ → wpAny (model prog w) A' (pyIter (.ref t)) Q E ⟨hp, g, d, tk, os⟩ :=
      fun q => wpAny_pyIter_tuple hl q
    wp_walk using q1
    refine wpAny_stack_any fun st => wpAny_pure ?_
    split
    · rename_i c _ _ _ _ _
      cases (c == Value.type "enumerate")
      · wp_walk using q1
        exact ⟨_, rfl, h⟩
      · wp_walk using q1
        exact ⟨_, rfl, h⟩
    · wp_walk using q1
      exact ⟨_, rfl, h⟩
theorem call_enumT {prog : Program} {w : World} {A : Around} {E : Value → Shared → Prop} {s : Shared} {l : Addr} {its : Array Value} {Q : Value → Shared → Prop} (hL : s.heap.IsTuple l its)
    (h : ∀ h', IsEnum h' (s.heap.objs.size + 1) s.heap.objs.size 0 .none → h'.IsTupleIter s.heap.objs.size l 0 → (∀ b o, s.heap.get? b = some o → h'.get? b = some o) → Q (.ref (s.heap.objs.size + 1)) { s with heap := h' }) :
    wpAny (model prog w) A (call (.type "enumerate") [.ref l]) Q E s := by
  refine callType_new F.called_enumerate (by decide) (F.typeCall_enumerate_1 _) (F.newCall_enumerate_1 _) (fun obj => F.args_object_init_2 obj _) F.entry_enumerate_new (meets_enumT l its) ⟨hL, ?_⟩
  have hz : (s.heap.push { cls := .type "tuple_iterator", data := .fields #[.ref l, .int 0 0] }).objs.size = s.heap.objs.size + 1 := Heap.size_push ..
  show _ ∧ _
  rw [hz]
  have he : IsEnum ((s.heap.push { cls := .type "tuple_iterator", data := .fields #[.ref l, .int 0 0] }).push { cls := .type "enumerate", data := .fields #[.none, .bool false, .ref s.heap.objs.size, rawInt 0, .none, .none] }) (s.heap.objs.size + 1) s.heap.objs.size 0 .none := by
    have := Heap.get?_push_size (s.heap.push { cls := .type "tuple_iterator", data := .fields #[.ref l, .int 0 0] }) (o := { cls := .type "enumerate", data := .fields #[.none, .bool false, .ref s.heap.objs.size, rawInt 0, .none, .none] }) rfl
    rw [hz] at this
    exact this
  exact ⟨⟨_, he, rfl⟩, h _ he ⟨_, Heap.get?_push_of_some _ (Heap.get?_push_size _ rfl), rfl, rfl⟩ fun b o x => Heap.get?_push_of_some _ (Heap.get?_push_of_some _ x)⟩
theorem enumT_end {prog : Program} {w : World} {A : Around} {E : Value → Shared → Prop} {s : Shared} {e it l : Addr} {i : Nat} {k : Int} {its : Array Value} {old : Value} {Q : Option Value → Shared → Prop} (hh : A.handled = none) (he : IsEnum s.heap e it k old)
    (hit : s.heap.IsTupleIter it l i) (hl : s.heap.IsTuple l its) (hx : its[i]? = none) (hQ : ∀ h', Heap.ExtBut it s.heap h' → Q none { s with heap := h' }) : wpAny (model prog w) A (pyNext (.ref e)) Q E s := by
  have ty : s.TypeIs (.ref e) "enumerate" := ⟨_, he, rfl⟩
  unfold pyNext
  refine wpAny_bind (wpAny_attempt (wpAny_callSpecial?_slot (name := Str.ofString "__next__") ty F.slot_enumerate_next (wpAny_call_entry F.slot_enumerate_next ty F.entry_enumerate_next ?_ (F.args_enumerate_next_1 _))))
  show wpAny _ _ (field (.ref e) 2 >>= fun x => _) _ _ _
  refine wpAny_bind (wpAny_field he rfl (x := .ref it) rfl (wpAny_bind (wpAny_nextOf_tuple_end hh hit hl hx fun h' x he' ⟨o, ho, hc⟩ => wpAny_bind (wpAny_isInstance (T := "StopIteration") (b := true) ⟨o, ho, hc⟩ isSubtype_stop ?_))))
  exact wpAny_pure (hQ _ he')
/-- the tuple at a, each item in a new pair -/
def IteT (K : PySem.W.Frag) (a : Addr) : It :=
  ⟨fun i H => ∃ (xs : List V) (x : V), SqT K H a xs ∧ xs[i]? = some x, fun i H v H' => ∃ T x, v = .ref T ∧ H T = none ∧ H' = upd H T (.tup [.int (i : Nat), x]) ∧ ∀ xs, SqT K H a xs → xs[i]? = some x, fun i H => ∃ xs : List V, SqT K H a xs ∧ xs.length ≤ i⟩
theorem turn_enumT {P : Program} {w : World} {K : PySem.W.Frag} {elts : List Expr} {kk : Nat} {tpos : Pos} (a e it : Addr) (hai : a ≠ it) (hae : a ≠ e) :
    Turn P w K (.Tuple elts kk tpos) (IteT K a) [e, it] e (fun i h => (∃ old, IsEnum h e it ((i : Nat) : Int) old) ∧ h.IsTupleIter it a i ∧ e ≠ it) where
  mem := by simp
  obj := fun i h st b hb => by
    obtain ⟨⟨old, he⟩, ⟨o, ho, hc, hd⟩, _⟩ := st
    rcases (show b = e ∨ b = it by simpa using hb) with z | z
    · rw [z]
      exact ⟨_, he, fun v q => nomatch q⟩
    · rw [z]
      exact ⟨o, ho, fun v q => by rw [hd] at q; cases q⟩
  keep := fun i h h' st k => let ⟨⟨old, he⟩, hi, hne⟩ := st; ⟨⟨old, k e (by simp) _ he⟩, hi.at fun o q => k it (by simp) o q, hne⟩
  item := by
    intro X hP hw hK hc i pins s σ H E I hf st hg
    subst hP hw hK
    obtain ⟨⟨old, he⟩, hit, hne⟩ := st
    obtain ⟨xs, x, hq, hx⟩ := hg
    obtain ⟨its, rv, p, hz⟩ := I.tuple hq
    obtain ⟨u, hu, ru⟩ := rv.get hx
    have hel : e < s.heap.objs.size := Heap.lt_size he
    have hil : it < s.heap.objs.size := by
      obtain ⟨_, q, _⟩ := hit
      exact Heap.lt_size q
    have hn : X.A.in1.handled = none := I.ok.hd hc
    have hlt : i < its.toArray.size := by
      rw [List.size_toArray]
      exact (List.getElem?_eq_some_iff.mp hu).1
    refine wpAny_pyNext_enum_itemD (Draws.tuple (prog := X.prog) (w := X.w) hn it a hai its.toArray) he ⟨hit, p⟩ hlt hne (by simp [hne, Ne.symm hae]) fun y h' tk hy ho hst' hT hsz hk => ?_
    have ey : y = u := by
      rw [← Array.getElem?_toList] at hy
      rw [hu] at hy
      exact (Option.some.inj hy).symm
    subst ey
    refine ⟨_, rfl, wpAny_letOwnedTupleGo_enum (s := { s with heap := h', toks := tk + 1 }) ho fun h'' he' sb => ?_⟩
    have hT2 : h''.get? s.heap.objs.size = some { cls := .type "tuple", data := .seq #[.int i tk, y] } := (sb.2 _ (Nat.ne_of_gt hel)).trans hT
    have new : ObjOk X.prog X.w (upd H s.heap.objs.size (.tup [.int (i : Nat), x])) h'' s.heap.objs.size (.tup [.int (i : Nat), x]) :=
      ⟨by show 2 ≤ sizeLine; decide, [.int i tk, y], .cons ⟨_, rfl⟩ (.cons ru .nil), ⟨_, hT2, rfl, _, rfl⟩⟩
    have I1 : Inv X pins σ (upd H s.heap.objs.size (.tup [.int (i : Nat), x])) { s with heap := h'', toks := tk + 1 } :=
      I.turnedNew (ch := [e, it]) (fun b ob hb q => (sb.2 b (fun z => hb (by simp [z]))).trans (hk b ob (fun z => hb (by simp [z])) (fun z => hb (by simp [z])) q)) hf (Nat.le_refl _) new
    refine ⟨.ref s.heap.objs.size, _, I1, rfl, ⟨_, x, rfl, I.hok.fresh (Nat.le_refl _), rfl, fun ys hy => by rw [I.tuple_inj hy hq]; exact hx⟩, ⟨⟨y, ?_⟩, hst'.1.at fun o q => (sb.2 it (Ne.symm hne)).trans q, hne⟩, fun b hb => ?_⟩
    · have e1 : ((i + 1 : Nat) : Int) = (i : Int) + 1 := by omega
      rw [e1]
      exact he'
    · have hb' : b < s.heap.objs.size := by
        rcases (show b = e ∨ b = it by simpa using hb) with z | z
        · rw [z]; exact hel
        · rw [z]; exact hil
      rw [upd_ne (Nat.ne_of_lt hb')]
      exact (hf b hb).1
  done := by
    intro X hP hw hK hc i pins s σ H E I hf st hg
    subst hP hw hK
    obtain ⟨⟨old, he⟩, hit, hne⟩ := st
    obtain ⟨xs, hq, hx⟩ := hg
    obtain ⟨its, rv, p, hz⟩ := I.tuple hq
    obtain ⟨f0, f1, f2, f3, f4, f5⟩ := hf it (by simp)
    have hl := rv.length
    exact enumT_end (I.ok.hd hc) he hit p (by simp; omega) fun h' eb => ⟨rfl, I.turned (t' := s.toks) (fun b o hb q => eb b o hb q) f0 f1 f3 f4 f5⟩
  self := fun A i s Q E st h => let ⟨⟨_, he⟩, _⟩ := st; wpAny_pyIter_enum he h
def rEnum (ra : Run) : RunI := fun ρ S => (ra ρ S).bind fun d S1 => match dSeq S1 d with
  | some p => .ok ((p.1.zipIdx).map fun q => .tup [.int (q.2 : Nat), q.1], p.2) S1
  | none => .no
theorem zipIdx_get {ds : List D} {i : Nat} {d : D} (h : ((ds.zipIdx).map fun q => D.tup [.int (q.2 : Nat), q.1])[i]? = some d) : ∃ x, ds[i]? = some x ∧ d = .tup [.int (i : Nat), x] := by
  rw [List.getElem?_map] at h
  obtain ⟨⟨x, j⟩, hx, rfl⟩ := Option.map_eq_some_iff.mp h
  rw [List.getElem?_zipIdx] at hx
  obtain ⟨y, hy, e⟩ := Option.map_eq_some_iff.mp hx
  cases e
  exact ⟨x, hy, by simp⟩
section
variable {X : Cx} {G : Gx} {W : WX} {pos p : Pos} {ra : Run} {e : Expr} {elts : List Expr} {kk : Nat} {tpos : Pos}
theorem i_enum (hK : G.K = X.K) (hg : Gl X "enumerate") (hm : X.mg "enumerate" = none) (ha : PE X e (tI G W ra)) (hs : starEach [e] X.env = [(false, eval e X.env)]) : PI X (.Tuple elts kk tpos) (.Call (.Name "enumerate" p) [e] [] pos) (tIt G W (rEnum ra)) := by
  refine ⟨fun pins s σ H Q I h => ?_⟩
  obtain ⟨μ, ρ, S, R, sr, f⟩ := h
  have hpa : PA X [e] (tCons (tI G W ra) tNil) := pa_cons ha pa_nil (by rw [hs]; rfl)
  have hA := hpa.run pos pins s σ H (fun vs H1 => ∃ v, vs = [v] ∧ ∃ μ1 d S1, Mo μ H μ1 H1 ∧ Rl G μ1 S1 H1 ∧ VR G μ1 H1 d v ∧ FinI G μ1 H1 (match dSeq S1 d with
    | some p => .ok ((p.1.zipIdx).map fun q => .tup [.int (q.2 : Nat), q.1], p.2) S1
    | none => .no) Q fun cv dx H' => W cv dx σ H') I ⟨μ, ρ, S, R, sr, (FinI.bind f).mono fun v H1 z => ⟨v, rfl, z⟩⟩
  refine Call_ (ld_blt I hg hm boot_enumerate (PyProof.Rows.callWith_type1 (thn hA fun us s1 ⟨vs, H1, I1, r1, v, ev, μ1, d, S1, m1, R1, q1, f1⟩ => ?_) hs rfl))
  subst ev
  obtain ⟨u, rfl, ru⟩ := r1.one
  split at f1
  · rename_i pr epr
    obtain ⟨xs, e1, rfl⟩ := Option.map_eq_some_iff.mp epr
    have fresh : ∀ b ∈ [s1.heap.objs.size + 1, s1.heap.objs.size], FpOk X pins H1 b := fun b hb => by
      have hle : s1.heap.objs.size ≤ b := by
        rcases (show b = s1.heap.objs.size + 1 ∨ b = s1.heap.objs.size by simpa using hb) with z | z
        · rw [z]; exact Nat.le_add_right _ _
        · rw [z]; exact Nat.le_refl _
      exact I1.fpOk hle (I1.hok.fresh hle)
    unfold itemsOf at e1
    split at e1
    · rename_i ys
      cases e1
      have q1' := q1.data
      rw [DR] at q1'
      obtain ⟨a, vs, rfl, t, r⟩ := q1'
      cases ru
      have hsq := t.sq
      rw [hK] at hsq
      obtain ⟨its, rv, p', hz⟩ := I1.tuple hsq
      have hlt : a < s1.heap.objs.size := by
        obtain ⟨o, ho, _⟩ := p'
        exact Heap.lt_size ho
      refine call_enumT p' fun h' he hit hk => wpAny_pyIter_enum he ?_
      have I2 : Inv X pins σ H1 { s1 with heap := h' } := I1.kept (t' := s1.toks) hk
      refine ⟨s1.heap.objs.size + 1, [s1.heap.objs.size + 1, s1.heap.objs.size], _, _, H1, rfl, I2, turn_enumT a (s1.heap.objs.size + 1) s1.heap.objs.size (Nat.ne_of_lt hlt) (Nat.ne_of_lt (Nat.lt_succ_of_lt hlt)), ⟨⟨.none, he⟩, hit, Nat.succ_ne_self _⟩, fresh, f1 μ1 H1 _ (Mo.refl _ _) R1 (ck_here S1 (.tup xs)) ?_⟩
      refine ⟨fun i μ' S' H' d m' R' _ hd => ?_, fun i μ' S' H' m' R' _ hi => ?_⟩
      · obtain ⟨x, hx, rfl⟩ := zipIdx_get hd
        have t' := (t.mo m').sq
        rw [hK] at t'
        obtain ⟨w, hw, rw'⟩ := (DRs.mo m' _ _ r).get hx
        refine ⟨⟨vs, w, t', hw⟩, fun y H'' ⟨T, w2, ey, hT, eH, hw2⟩ => ?_⟩
        subst ey eH
        have e2 := hw2 vs t'
        rw [hw] at e2
        cases e2
        refine ⟨Mo.new hT, R'.new hT, .of ?_⟩
        rw [DR]
        exact ⟨T, _, rfl, .inl ⟨.inl upd_same, R'.fresh hT⟩, .cons (.i _) (.cons (DR.mo (Mo.new hT) _ _ rw') .nil)⟩
      · have t' := (t.mo m').sq
        rw [hK] at t'
        rw [List.length_map, List.length_zipIdx, r.length] at hi
        exact ⟨vs, t', hi⟩
    · obtain ⟨a, ea, lat⟩ := asL_later R1 e1 q1
      subst ea
      cases ru
      obtain ⟨vs0, h0, _⟩ := lat μ1 S1 H1 (Mo.refl _ _) R1 (ck_here _ _)
      obtain ⟨its, rv, p', hz⟩ := I1.list (.inl h0)
      refine call_enumerate_list p'.isList fun h' he hit hsz hk => wpAny_pyIter_enum he ?_
      have I2 : Inv X pins σ H1 { s1 with heap := h' } := I1.kept (t' := s1.toks) hk
      refine ⟨s1.heap.objs.size + 1, [s1.heap.objs.size + 1, s1.heap.objs.size], _, _, H1, rfl, I2, turn_enum a (s1.heap.objs.size + 1) s1.heap.objs.size, ⟨⟨.none, he⟩, hit, Nat.succ_ne_self _⟩, fresh, f1 μ1 H1 _ (Mo.refl _ _) R1 (ck_here _ _) ?_⟩
      refine ⟨fun i μ' S' H' d m' R' ck hd => ?_, fun i μ' S' H' m' R' ck hi => ?_⟩
      · obtain ⟨x, hx, rfl⟩ := zipIdx_get hd
        obtain ⟨vs, h1, h2⟩ := lat μ' S' H' m' R' ck
        obtain ⟨w, hw, rw'⟩ := h2.get hx
        refine ⟨⟨vs, w, .inl h1, hw⟩, fun y H'' ⟨T, w2, ey, hT, eH, hw2⟩ => ?_⟩
        subst ey eH
        have e2 := hw2 vs (.inl h1)
        rw [hw] at e2
        cases e2
        refine ⟨Mo.new hT, R'.new hT, .of ?_⟩
        rw [DR]
        exact ⟨T, _, rfl, .inl ⟨.inl upd_same, R'.fresh hT⟩, .cons (.i _) (.cons (DR.mo (Mo.new hT) _ _ rw') .nil)⟩
      · obtain ⟨vs, h1, h2⟩ := lat μ' S' H' m' R' ck
        rw [List.length_map, List.length_zipIdx, h2.length] at hi
        exact ⟨vs, .inl h1, hi⟩
  · exact f1.elim
end
end Mt


set_option Elab.async false
set_option maxRecDepth 100000
set_option autoImplicit false
set_option linter.all false
/-! isinstance; == of dicts and of own objects. -/
namespace Mt
open PySem PySem.Spec PyProof.Rows L2

/-! ### isinstance -/
inductive Tg where
  | b (n : String)
  | own (c : Str)
  deriving DecidableEq
def tagOf (S : Sto) : D → Option Tg
  | .non => some (.b "NoneType")
  | .bl _ => some (.b "bool")
  | .int _ => some (.b "int")
  | .str _ => some (.b "str")
  | .tup _ => some (.b "tuple")
  | .lst _ => some (.b "list")
  | .loc l => match S[l]? with
    | some (.lst _) => some (.b "list")
    | some (.dic _) => some (.b "dict")
    | some (.dicL _) => some (.b "dict")
    | some (.ins c _) => some (.own c)
    | none => none
def tags : List String := ["NoneType", "bool", "int", "str", "tuple", "list", "dict"]
def kinds : List String := ["bool", "int", "str", "tuple", "list", "dict"]
def isB (a n : String) : Bool := a == n || (a == "bool" && n == "int")
theorem isB_ok : ∀ a ∈ tags, ∀ n ∈ kinds, kitB a n = some (isB a n) := by decide +kernel
def isAns (pl : Str → Bool) : Tg → Tg → Option Bool
  | .b a, .b n => if n ∈ kinds then some (isB a n) else none
  | .own c, .own e => if pl c && pl e then some (decide (c = e)) else none
  | .own c, .b n => if pl c && decide (n ∈ kinds) then some false else none
  | .b _, .own e => if pl e then some false else none
/-- what the text tells of the plain classes -/
structure GI (X : Cx) (G : Gx) (pl : Str → Bool) : Prop where
  ins : ∀ c C, G.cls c = some C → pl c = true → Cls X.K C ∧ PySem.W.findIn X.K (.ref C) "__class__" = some (some (.builtin "object.__class__")) ∧ PySem.W.specialIn X.K (.builtin "object.__class__") "__get__" = some (some (.builtin "getset_descriptor.__get__")) ∧
    PySem.W.takesIn X.K (.builtin "object.__class__") = some true ∧ PySem.W.mroIn X.K C (.type "object") = some true
  oo : ∀ c C e E, G.cls c = some C → G.cls e = some E → pl c = true → pl e = true → PySem.W.kitOne X.K (.ref C) (.ref E) = some (decide (c = e))
  ob : ∀ c C n, G.cls c = some C → pl c = true → n ∈ kinds → PySem.W.kitOne X.K (.ref C) (.type n) = some false
  bo : ∀ a e E, G.cls e = some E → pl e = true → a ∈ tags → PySem.W.kitOne X.K (.type a) (.ref E) = some false
def tgV (G : Gx) : Tg → Value → Prop
  | .b n, u => u = .type n
  | .own c, u => ∃ C, G.cls c = some C ∧ u = .ref C
def tgW (G : Gx) : Tg → V → Prop
  | .b n, v => v = .ty n
  | .own c, v => ∃ C, G.cls c = some C ∧ v = .ref C
def rIsiD (pl : Str → Bool) (t : Tg) (ra : Run) : Run := fun ρ S => (ra ρ S).bind fun d S1 => match tagOf S1 d with
  | some g => (match isAns pl g t with
    | some b => .ok (.bl b) S1
    | none => .no)
  | none => .no
section
variable {X : Cx} {G : Gx} {W : WX} {pl : Str → Bool}
theorem tag_ty (B : GI X G pl) (hK : G.K = X.K) {μ : Mu} {S : Sto} {H : Hp} (R : Rl G μ S H) {d : D} {x : V} (q : DR G.K μ H d x) {g : Tg} (e : tagOf S d = some g) (hp : ∀ c, g = .own c → pl c = true) :
    ∃ t, TyX X.K H x t ∧ tgV G g t ∧ ∀ n, g = .b n → n ∈ tags := by
  cases d with
  | non => cases e; rw [DR] at q; subst q; exact ⟨_, .base .non, rfl, fun n z => by cases z; decide⟩
  | bl y => cases e; rw [DR] at q; subst q; exact ⟨_, .base (.bl _), rfl, fun n z => by cases z; decide⟩
  | int y => cases e; rw [DR] at q; subst q; exact ⟨_, .base (.int _), rfl, fun n z => by cases z; decide⟩
  | str y => cases e; rw [DR] at q; subst q; exact ⟨_, .base (.str _), rfl, fun n z => by cases z; decide⟩
  | tup ds =>
    cases e
    rw [DR] at q
    obtain ⟨a, xs, rfl, t, _⟩ := q
    refine ⟨.type "tuple", ?_, rfl, fun n z => by cases z; decide⟩
    rcases t with ⟨h | ⟨o, h⟩, _⟩ | ⟨o, its, n, h, hc, _⟩
    · exact .base (.tup h)
    · exact .fTuple h
    · rw [hK] at h
      exact .kTuple h hc
  | lst ds =>
    cases e
    rw [DR] at q
    obtain ⟨a, xs, rfl, t, _⟩ := q
    refine ⟨.type "list", ?_, rfl, fun n z => by cases z; decide⟩
    rcases t with ⟨h | ⟨o, h⟩, _⟩
    · exact .base (.lst h)
    · exact .base (.frz h)
  | loc l =>
    rw [DR] at q
    obtain ⟨a, rfl, hl⟩ := q
    unfold tagOf at e
    dsimp only at e
    split at e
    · rename_i xs es
      cases e
      obtain ⟨vs, h, _⟩ := R.at_ l a _ hl es
      exact ⟨_, .base (.lst h), rfl, fun n z => by cases z; decide⟩
    · rename_i xs es
      cases e
      obtain ⟨vs, h, _⟩ := R.at_ l a _ hl es
      exact ⟨_, .base (.dK h), rfl, fun n z => by cases z; decide⟩
    · rename_i xs es
      cases e
      obtain ⟨od, vs, h, _⟩ := R.at_ l a _ hl es
      exact ⟨_, .fDict h, rfl, fun n z => by cases z; decide⟩
    · rename_i c fs es
      cases e
      obtain ⟨C, dx, vs, hc, h, _⟩ := R.at_ l a _ hl es
      obtain ⟨cl, ha, hn, htk, hm⟩ := B.ins c C hc (hp c rfl)
      exact ⟨_, .base (.ins h cl ha hn htk hm), ⟨C, hc, rfl⟩, fun n z => nomatch z⟩
    · cases e
theorem ans_kit (B : GI X G pl) {g t : Tg} {b : Bool} (e : isAns pl g t = some b) {u v : Value} (hu : tgV G g u) (hv : tgV G t v) (ht : ∀ n, g = .b n → n ∈ tags) : PySem.W.kitOne X.K u v = some b := by
  cases g with
  | b a =>
    cases t with
    | b n =>
      cases hu
      cases hv
      dsimp only [isAns] at e
      split at e
      · rename_i hn
        cases e
        exact kit_ty (isB_ok a (ht a rfl) n hn)
      · cases e
    | own c =>
      cases hu
      obtain ⟨C, hc, rfl⟩ := hv
      dsimp only [isAns] at e
      split at e
      · rename_i hp
        cases e
        exact B.bo a c C hc hp (ht a rfl)
      · cases e
  | own c =>
    obtain ⟨C, hc, rfl⟩ := hu
    cases t with
    | b n =>
      cases hv
      dsimp only [isAns] at e
      split at e
      · rename_i hp
        simp only [Bool.and_eq_true, decide_eq_true_eq] at hp
        cases e
        exact B.ob c C n hc hp.1 hp.2
      · cases e
    | own f =>
      obtain ⟨E, he, rfl⟩ := hv
      dsimp only [isAns] at e
      split at e
      · rename_i hp
        simp only [Bool.and_eq_true] at hp
        cases e
        exact B.oo c C f E hc he hp.1 hp.2
      · cases e
theorem ans_pl {c : Str} {t : Tg} {b : Bool} (e : isAns pl (.own c) t = some b) : pl c = true := by
  cases t with
  | b n =>
    dsimp only [isAns] at e
    split at e
    · rename_i hp
      simp only [Bool.and_eq_true] at hp
      exact hp.1
    · cases e
  | own f =>
    dsimp only [isAns] at e
    split at e
    · rename_i hp
      simp only [Bool.and_eq_true] at hp
      exact hp.1
    · cases e
theorem u_isi {t : Tg} {v : V} {ra : Run} {e c : Expr} {p pos : Pos} (B : GI X G pl) (hK : G.K = X.K) (b : Bl X "isinstance" (.builtin "isinstance")) (hv : tgW G t v) (hc : PE X c (tC v)) (ha : PE X e (tI G W ra))
    (he : starEach [e, c] X.env = (false, eval e X.env) :: starEach [c] X.env) (he2 : starEach [c] X.env = (false, eval c X.env) :: starEach [] X.env) (hpl : (backTo pos (starEach [c] X.env)).any (·.1) = false) : PE X (.Call (.Name "isinstance" p) [e, c] [] pos) (tI G W (rIsiD pl t ra)) := by
  obtain ⟨hg, hm, hv0, hn, hd, k⟩ := b
  refine peImp (pe_callB call_isi hg hm hv0 (pa_cons ha (pa_cons hc pa_nil he2) he) hn hd he hpl) fun σ H Q ⟨μ, ρ, S, R, s, f⟩ => ⟨μ, ρ, S, R, s, (Fin.bind f).mono fun x H1 ⟨μ1, d, S1, m, R1, q1, f1⟩ => ?_⟩
  dsimp only at f1
  split at f1
  · rename_i g eg
    split at f1
    · rename_i r er
      obtain ⟨ty, h1, h2, h3⟩ := tag_ty B hK R1 q1 eg fun c z => by subst z; exact ans_pl er
      have q := Fin.ok f1 R1 (.of (.b _))
      cases t with
      | b n => cases hv; exact ⟨x, _, ty, .type n, r, rfl, .ty n, h1, ans_kit B er h2 rfl h3, q⟩
      | own c0 =>
        obtain ⟨C, hC, rfl⟩ := hv
        exact ⟨x, _, ty, .ref C, r, rfl, .own C, h1, ans_kit B er h2 ⟨C, hC, rfl⟩ h3, q⟩
    · exact f1.elim
  · exact f1.elim
end
end Mt


set_option Elab.async false
set_option maxRecDepth 100000
set_option autoImplicit false
set_option linter.all false
/-! == of dicts, of own objects. -/
namespace Mt
open PySem PySem.Spec PyProof.Rows L2

/-- an operation on two values that may run a def -/
abbrev G2 := Sto → D → D → R D
def OpM (G : Gx) (X : Cx) (f : Value → Value → Sem Value) (g : G2) : Prop :=
  ∀ (pins : List (Addr × Obj)) (s : Shared) (σ : L2.St) (H : Hp) (x y : V) (v u : Value) (Q : VK) (μ : Mu) (S : Sto) (d e : D), Inv X pins σ H s → RelV x v → RelV y u → Rl G μ S H → VR G μ H d x → VR G μ H e y →
    Fin G μ H (g S d e) Q (fun _ _ _ => False) → wpAny (model X.prog X.w) X.A (f v u) (EP X pins σ Q) X.xe s
def rOpM (g : G2) (ra rb : Run) : Run := fun ρ S => (ra ρ S).bind fun x S1 => (rb ρ S1).bind fun y S2 => only (g S2 x y)
def cOpM (G : Gx) (g : G2) : R2 := fun x y H Q => ∃ μ S d e, Rl G μ S H ∧ VR G μ H d x ∧ VR G μ H e y ∧ Fin G μ H (g S d e) Q (fun _ _ _ => False)
section
variable {X : Cx} {G : Gx} {W : WX} {pos : Pos} {f : Value → Value → Sem Value} {g g' : G2} {ra rb : Run} {a b : Expr} {op : CmpOp}
theorem OpM.r (h : OpM G X f g) : OpR X f (cOpM G g) := fun pins s σ H x y v u Q I r1 r2 ⟨μ, S, d, e, R, q1, q2, q⟩ => h pins s σ H x y v u Q μ S d e I r1 r2 R q1 q2 q
theorem OpS.m {g : Sto → D → D → Option D} (h : OpS G X f g) : OpM G X f fun S d e => ofO S (g S d e) := fun pins s σ H x y v u Q μ S d e I r1 r2 R q1 q2 k => by
  obtain ⟨r, e1, q⟩ := got_of k
  exact h pins s σ H x y v u Q μ S d e r I r1 r2 R q1 q2 e1 q
theorem tOpM_of {σ : L2.St} {H : Hp} {Q : VK} (h : tI G W (rOpM g ra rb) σ H Q) : tOp (cOpM G g) (tI G W ra) (tI G W rb) σ H Q := by
  obtain ⟨μ, ρ, S, R, s, f⟩ := h
  exact ⟨μ, ρ, S, R, s, (Fin.bind f).mono fun x H1 ⟨μ1, d, S1, m, R1, q1, f1⟩ => ⟨μ1, ρ, S1, R1, s.mo m, (Fin.bind f1).mono fun y H2 ⟨μ2, e, S2, m2, R2, q2, f2⟩ => ⟨μ2, S2, d, e, R2, q1.mo m2, q2, fin_only f2⟩⟩⟩
theorem u_cmpM (ho : OpM G X (compareOp op) g) (ha : PE X a (tI G W ra)) (hb : PE X b (tI G W rb)) (hm : behindInMarks op b = false) : PE X (.Compare a [op] [b] pos) (tI G W (rOpM g ra rb)) := peImp (pe_cmpR ho.r ha hb hm) fun σ H Q h => tOpM_of h
theorem t_cmpM (ho : OpM G X (compareOp op) g) (ha : PE X a (tI G W ra)) (hb : PE X b (tI G W rb)) (hm : behindInMarks op b = false) : PT X (.Compare a [op] [b] pos) (tT G W (rOpM g ra rb)) := ptImp (pt_cmpR ho.r ha hb hm) fun σ H Q h => tOpM_of h
end
/-! ### dicts -/
def dHits (S : Sto) (ls : List (D × D)) : List (D × D) → Option Bool
  | [] => some true
  | (k, v) :: r => match dfind ls k with
    | none => some false
    | some w => match both S v w, dHits S ls r with
      | some p, some b => some (PyData.eqv p.1 p.2 && b)
      | _, _ => none
def dEqD (S : Sto) (d e : D) : Option Bool := match asD S d, asD S e with
  | some ks, some ls => if ks.length = ls.length then dHits S ls ks else some false
  | _, _ => none
section
variable {X : Cx} {G : Gx} (hK : G.K = X.K) (hu : X.A.units + 200 < cLine)
include hK hu
theorem both_eqP {pins : List (Addr × Obj)} {s : Shared} {σ : L2.St} {H : Hp} {x y : V} {v u : Value} {μ : Mu} {S : Sto} {d e : D} {p : PyData × PyData} (I : Inv X pins σ H s) (r1 : RelV x v) (r2 : RelV y u) (R : Rl G μ S H) (q1 : VR G μ H d x) (q2 : VR G μ H e y)
    (h : both S d e = some p) : SeqAt.EqP X.prog X.w X.A.in1 s v u (PyData.eqv p.1 p.2) := by
  have hh := h
  obtain ⟨⟨as, a1⟩, ⟨bs, a2⟩, p1, p2, hd⟩ := both_reads hK hu I r1 r2 R q1 q2 hh
  unfold both at h
  split at h
  · rename_i c
    simp only [Bool.and_eq_true, decide_eq_true_eq] at c
    cases h
    exact (SeqAt.eqAt_plain _ _ X.A.in1 s v u as bs a1 a2 p1 p2 (by show X.A.units + 1 + min (full S d).py.depth (full S e).py.depth < _; omega)).eqP
  · cases h
theorem hits_of {pins : List (Addr × Obj)} {s : Shared} {σ : L2.St} {H : Hp} {μ : Mu} {S : Sto} (I : Inv X pins σ H s) (R : Rl G μ S H) {ls : List (D × D)} {lv : List (Key × V)} {vb : List (Key × Value)} (hl : KRs G.K μ H ls lv) (rb : KV lv vb) :
    ∀ {ks : List (D × D)} {kv : List (Key × V)} {va : List (Key × Value)} {b : Bool}, KRs G.K μ H ks kv → KV kv va → dHits S ls ks = some b → PySem.W.KeqHitsP X.prog X.w X.A.in1 s vb va b
  | [], _, _, b, .nil, .nil, h => by cases h; exact .nil
  | (k, v) :: r, (k', w) :: r', (k2, u) :: r2, b, .cons ⟨e1, q⟩ t, .cons ⟨e2, rv⟩ t2, h => by
    have e1' : k = keyD k' := e1
    have e2' : k' = k2 := e2
    subst e1' e2'
    unfold dHits at h
    rcases krs_find (k := k') hl with ⟨z1, z2⟩ | ⟨d, y, z1, z2, z3⟩
    · rw [z1] at h
      cases h
      have rr := rb.val k'
      rw [z2] at rr
      exact .miss (RelO.none_of rr)
    · rw [z1] at h
      dsimp only at h
      split at h
      · rename_i p b' hp hb
        cases h
        have rr := rb.val k'
        rw [z2] at rr
        obtain ⟨yv, hy, ry⟩ := rr.some_of
        exact .hit hy (both_eqP hK hu I rv ry R q z3 hp) (hits_of I R hl rb t t2 hb)
      · cases h
theorem s_eqD : OpS G X (compareOp .Eq) fun S d e => (dEqD S d e).map .bl := by
  intro pins s σ H x y v u Q μ S d e r I r1 r2 R q1 q2 h g
  obtain ⟨b, hb, rfl⟩ := Option.map_eq_some_iff.mp h
  unfold dEqD at hb
  split at hb
  · rename_i ks ls e1 e2
    obtain ⟨_, a, kv, _, rfl, _, h1, k1⟩ := asD_at R e1 q1
    obtain ⟨_, a2, lv, _, rfl, _, h2, k2⟩ := asD_at R e2 q2
    cases r1
    cases r2
    obtain ⟨_, ya, va, ra, da⟩ := dk_rd I.hok h1
    obtain ⟨_, yb, vb, rb, db⟩ := dk_rd I.hok h2
    have l1 : ks.length = va.length := (krs_length k1).trans ra.length
    have l2 : ls.length = vb.length := (krs_length k2).trans rb.length
    show wpAny (model X.prog X.w) X.A (richCompare .Eq (.ref a) (.ref a2)) (EP X pins σ Q) X.xe s
    split at hb
    · rename_i c
      refine PySem.W.rcP_dicts (knd := mixKind X.prog X.w) (r := b) ya yb da db (by omega) (fun _ => hits_of hK hu I R k2 rb k1 ra hb) _ _ ⟨.bl b, H, I, ?_, got_here g R (.b _)⟩
      have : (va.length == vb.length) = true := by rw [← l1, ← l2, c]; exact beq_self_eq_true _
      rw [this, Bool.true_and]; rfl
    · rename_i c
      cases hb
      refine PySem.W.rcP_dicts (knd := mixKind X.prog X.w) (r := false) ya yb da db (by omega) (fun z => absurd (by rw [l1, l2]; exact z) c) _ _ ⟨.bl false, H, I, ?_, got_here g R (.b _)⟩
      rw [Bool.and_false]; rfl
  · cases hb
end
/-! ### own objects: the left one's own == -/
def okTag (T : Tab) (S : Sto) (e : D) : Bool := match tagOf S e with
  | some (.own c) => T.pl c
  | some _ => true
  | none => false
def gEq (T : Tab) (P : Pr) : G2 := fun S d e => match insOf S d with
  | some (c, _) => (match T.meth c "__eq__" with
    | some q => if okTag T S e then (P q [d, e] S).bind fun r S1 => (match r with
      | .bl b => .ok (.bl b) S1
      | _ => .no) else .no
    | none => .no)
  | none => match asD S d with
    | some _ => ofO S ((dEqD S d e).map .bl)
    | none => ofO S (dEq S d e)
/-- what the class at C must say of the right one's type -/
structure GE (X : Cx) (G : Gx) (T : Tab) : Prop where
  eq : ∀ c C q, G.cls c = some C → T.meth c "__eq__" = some q → ∃ f, PySem.W.findIn X.K (.ref C) "__eq__" = some (some (.ref f)) ∧ PySem.W.isFn X.K (.ref f) = true
  nb : ∀ c C q a, G.cls c = some C → T.meth c "__eq__" = some q → a ∈ tags → PySem.W.notFirst X.K C (.type a) = true
  no : ∀ c C q e E, G.cls c = some C → T.meth c "__eq__" = some q → G.cls e = some E → T.pl e = true → PySem.W.notFirst X.K C (.ref E) = true
theorem s_gEq {X : Cx} {G : Gx} {T : Tab} {P : Pr} {k : Nat} (hK : G.K = X.K) (hu : X.A.units + 200 < cLine) (B : GF X G T P k) (J : GI X G T.pl) (E : GE X G T) (hr : Room k X.A) : OpM G X (compareOp .Eq) (gEq T P) := by
  intro pins s σ H x y v u Q μ S d e I rx ry R q1 q2 f
  unfold gEq at f
  split at f
  · rename_i c fs e1
    split at f
    · rename_i q eq
      split at f
      case isFalse => exact f.elim
      rename_i okt
      obtain ⟨l, a, C, dx, vs, rfl, rfl, hl, es1, hC, h2, h3⟩ := ins_at R e1 q1
      obtain rfl : v = Value.ref a := rx
      obtain ⟨g, hs, hf⟩ := E.eq c C q hC eq
      obtain ⟨cl, fa, mt, F⟩ := B.meth c C "__eq__" q hC eq
      have eg : g = fa := by
        have z := mt.at_
        rw [hs] at z
        cases z
        rfl
      subst eg
      have ht : ∃ g, tagOf S e = some g ∧ ∀ c, g = .own c → T.pl c = true := by
        unfold okTag at okt
        split at okt
        · rename_i c' ec
          exact ⟨_, ec, fun c z => by cases z; exact okt⟩
        · rename_i g hn ec
          exact ⟨_, ec, fun c z => (hn c (by first | rw [z] | exact z)).elim⟩
        · cases okt
      obtain ⟨g, eg, eo⟩ := ht
      obtain ⟨ty, t1, t2, t3⟩ := tag_ty J hK R q2 eg eo
      obtain ⟨Pz, Z, pz, _⟩ := kit_of I ry t1
      obtain ⟨mA, O, _⟩ := ins_get I.hok h2
      obtain ⟨od, O, _⟩ := O.look
      obtain ⟨m, hF⟩ := I.fr
      have nf : PySem.W.notFirst X.K C ty = true := by
        cases g with
        | b n => cases t2; exact E.nb c C q n hC eq (t3 n rfl)
        | own c' =>
          obtain ⟨C', hC', rfl⟩ := t2
          exact E.no c C q c' C' hC eq hC' (eo c' rfl)
      show wpAny (model X.prog X.w) X.A (richCompare .Eq (.ref a) u) (EP X pins σ Q) X.xe s
      refine PySem.W.cmp_K (op := .Eq) (tb := ty) (by omega) hF I.ok.mod.kin O (Z.ty _ _ I.kIn pz) nf hs hf ?_
      obtain ⟨fd, ps, F, hbd, hlen⟩ := F
      have len : ([V.ref a, y] : List V).length = ps.length := Classical.byContradiction fun n => by
        rw [hlen [.loc l, e] S n] at f
        exact f
      have hsp : spF G ps.length (P q) [.ref a, y] H (fun w H' => ∃ b, w = .bl b ∧ Q (.bl b) H') (fun _ _ _ => False) := ⟨len, μ, S, [.loc l, e], R, .cons q1 (.cons q2 .nil), (Fin.bind f).mono fun w H1 ⟨μ1, d1, S1, m1, R1, z1, f1⟩ => by
        dsimp only at f1
        split at f1
        · rename_i b
          exact ⟨b, z1.bl, Fin.ok f1 R1 (.of (.b _))⟩
        · exact f1.elim⟩
      have r2 : Vals [V.ref a, y] [Value.ref a, u] := .cons rfl (.cons ry .nil)
      have b2 := hbd s [.ref a, u] I.kIn (by rw [List.append_nil]; exact len)
      rw [List.append_nil] at b2
      refine wpAny_call (codeAny_mono (F.run X.A X.stack s H ⟨[.ref a, u], []⟩ [.ref a, u] [.ref a, y] _ _ hr I.env0 b2 r2 hsp) fun r s' hq => ?_)
      cases r with
      | error er => exact (cx_never hq).elim
      | ok fl =>
        cases fl with
        | ret w =>
          obtain ⟨z, H', I', rz, b, ez, qz⟩ := I.after hq
          subst ez
          cases rz
          exact ⟨.bl b, H', I', rfl, qz⟩
        | next => exact hq.elim
        | brk => exact hq.elim
        | cont => exact hq.elim
    · exact f.elim
  · split at f
    · exact (s_eqD hK hu).m pins s σ H x y v u Q μ S d e I rx ry R q1 q2 f
    · exact (s_eq hK hu).m pins s σ H x y v u Q μ S d e I rx ry R q1 q2 f
end Mt


set_option Elab.async false
set_option maxRecDepth 100000
set_option autoImplicit false
set_option linter.all false
/-! Cuts, attributes as targets, several names at once, op=. -/
namespace Mt
open PySem PySem.Spec PyProof.Rows L2

/-! ### cuts -/
abbrev RunP := En → Sto → R (Option Int)
def FinP (G : Gx) (μ : Mu) (H : Hp) (r : R (Option Int)) (Q : Option Int → Hp → Prop) (E : XK) : Prop :=
  match r with
  | .ok o S' => ∀ μ' H', Mo μ H μ' H' → Rl G μ' S' H' → Q o H'
  | .ex c fs S' => ∀ μ' H' cv dx, Mo μ H μ' H' → Rl G μ' S' H' → XR G μ' H' c fs cv dx → E cv dx H'
  | .no => False
def tP (G : Gx) (W : WX) (r : RunP) : TO := fun σ H Q => ∃ μ ρ S, Rl G μ S H ∧ SR G μ H ρ σ ∧ FinP G μ H (r ρ S) Q fun cv dx H' => W cv dx σ H'
def rpNone : RunP := fun _ S => .ok none S
def rpSome (ra : Run) : RunP := fun ρ S => (ra ρ S).bind fun d S1 => match d with
  | .int i => .ok (some i) S1
  | _ => .no
def rCut (g : Sto → D → Option Int → Option Int → Option D) (ra : Run) (rl rh : RunP) : Run := fun ρ S => (ra ρ S).bind fun d S1 => (rl ρ S1).bind fun lo S2 => (rh ρ S2).bind fun hi S3 => ofO S3 (g S3 d lo hi)
section
variable {X : Cx} {G : Gx} {W : WX} {pos p2 : Pos} {ra : Run} {rl rh : RunP} {e : Expr} {lo hi : Option Expr} {g : Sto → D → Option Int → Option Int → Option D}
variable {μ μ1 : Mu} {H H1 : Hp} {r : R (Option Int)} {Q : VK} {E : XK}
theorem FinP.mono {Q Q' : Option Int → Hp → Prop} (h : FinP G μ H r Q E) (k : ∀ v H', Q v H' → Q' v H') : FinP G μ H r Q' E := by
  cases r with
  | ok d S => exact fun μ' H' m R => k d H' (h μ' H' m R)
  | ex c fs S => exact h
  | no => exact h
theorem Fin.bindP {k : Option Int → Sto → R D} (h : Fin G μ H (r.bind k) Q E) : FinP G μ H r (fun v H1 => ∃ μ1 S1, Mo μ H μ1 H1 ∧ Rl G μ1 S1 H1 ∧ Fin G μ1 H1 (k v S1) Q E) E := by
  cases r with
  | ok d S => exact fun μ' H' m R => ⟨μ', S, m, R, Fin.mo h m⟩
  | ex c fs S => exact h
  | no => exact h
theorem poImp {e : Option Expr} {t t' : TO} (h : PO X e t) (k : ∀ σ H Q, t' σ H Q → t σ H Q) : PO X e t' := ⟨fun pins s σ H Q I z => h.run pins s σ H Q I (k σ H Q z)⟩
theorem p_none : PO X none (tP G W rpNone) := poImp po_none fun σ H Q ⟨μ, ρ, S, R, s, f⟩ => f μ H (Mo.refl _ _) R
theorem p_some (h : PE X e (tI G W ra)) : PO X (some e) (tP G W (rpSome ra)) := poImp (po_some h) fun σ H Q ⟨μ, ρ, S, R, s, f⟩ => by
  refine ⟨μ, ρ, S, R, s, ?_⟩
  unfold rpSome at f
  cases er : ra ρ S with
  | no => rw [er] at f; exact f
  | ex c fs S1 => rw [er] at f; exact f
  | ok d S1 =>
    rw [er] at f
    cases d with
    | int i => exact fun μ' H' v m R' q => ⟨i, q.int, f μ' H' m R'⟩
    | _ => exact f.elim
theorem sls_of (h : SlS G X g) : SlR X fun x lo hi H Q => ∃ μ S d r, Rl G μ S H ∧ VR G μ H d x ∧ g S d lo hi = some r ∧ Got G μ S H r Q :=
  fun pins s σ H x v vl vu lo hi sl Q I r1 r2 r3 r4 ⟨μ, S, d, r, R, q, e, k⟩ => h pins s σ H x v vl vu lo hi sl Q μ S d r I r1 r2 r3 r4 R q e k
theorem u_cut (hs : SlS G X g) (he : PE X e (tI G W ra)) (hl : PO X lo (tP G W rl)) (hh : PO X hi (tP G W rh)) : PE X (.Subscript e (.Slice lo hi none p2) pos) (tI G W (rCut g ra rl rh)) :=
  peImp (pe_slice (sls_of hs) he hl hh) fun σ H Q ⟨μ, ρ, S, R, s, f⟩ => ⟨μ, ρ, S, R, s, (Fin.bind f).mono fun x H1 ⟨μ1, d, S1, m1, R1, q1, f1⟩ => ⟨μ1, ρ, S1, R1, s.mo m1, (Fin.bindP f1).mono fun a H2 ⟨μ2, S2, m2, R2, f2⟩ => ⟨μ2, ρ, S2, R2, (s.mo m1).mo m2, (Fin.bindP f2).mono fun b H3 ⟨μ3, S3, m3, R3, f3⟩ => by
    obtain ⟨r, e1, k⟩ := got_of f3
    exact ⟨μ3, S3, d, r, R3, (q1.mo m2).mo m3, e1, k⟩⟩⟩⟩
end
/-! ### attributes as targets -/
def gtFld (T : Tab) (f : Str) (ra : Run) : Tgt := fun d ρ S => match ra ρ S with
  | .ok o S1 => (setFld T S1 f o d).map fun S2 => (ρ, S2)
  | _ => none
section
variable {X : Cx} {G : Gx} {W : WX} {pos p2 : Pos} {ra rb : Run} {o e : Expr} {T : Tab} {P : Pr} {k : Nat} {m : Str}
theorem g_fld (B : GF X G T P k) (ho : PE X o (tI G W ra)) : PG X (.Attribute o m pos) (tG G [] (gtFld T m ra)) := by
  refine ⟨fun pins s σ H v u Q I r h => ?_⟩
  obtain ⟨μ, ρ, S, d, z, R, sr, q, eo, w⟩ := h
  unfold gtFld at eo
  cases er : ra ρ S with
  | no => rw [er] at eo; cases eo
  | ex c fs S1 => rw [er] at eo; cases eo
  | ok b S1 =>
    rw [er] at eo
    obtain ⟨S2, e2, rfl⟩ := Option.map_eq_some_iff.mp eo
    show wpAny _ _ (do
      let ov ← holding [u] (eval o X.env)
      standAt pos.atName
      holding [u, ov] (setAttr ov m u)
      release [u, ov] []) _ _ _
    refine wpAny_bind (wpAny_holding (thn (ho.run pins s σ H (fun x H1 => ∃ μ1, Mo μ H μ1 H1 ∧ Rl G μ1 S1 H1 ∧ VR G μ1 H1 b x) I ⟨μ, ρ, S, R, sr, by rw [er]; exact fun μ' H' x m' R' qx => ⟨μ', m', R', qx⟩⟩) fun ov s1 ⟨x, H1, I1, r1, μ1, m1, R1, q1⟩ => ?_))
    obtain ⟨a, C, dx, vs, rfl, h2, cl, na, hz, mw, R3⟩ := setFld_at B R1 e2 q1 (q.mo m1)
    obtain rfl : ov = Value.ref a := r1
    refine wpAny_bind (wpAny_standAt (wpAny_bind (wpAny_holding (setattr_ok I1 h2 cl na hz r fun s3 I3 => ?_))))
    exact wpAny_release ⟨σ, _, I3, w _ _ σ (m1.trans mw) R3 ((sr.mo m1).mo mw) (Only.refl _ _)⟩
/-! ### op= on ints -/
def iAug (f : Int → Int → Int) (d e : D) : Option D := match d, e with
  | .int i, .int j => some (.int (f i j))
  | _, _ => none
theorem iAug_inv {f : Int → Int → Int} {d e r : D} (h : iAug f d e = some r) : ∃ i j, d = .int i ∧ e = .int j ∧ r = .int (f i j) := by
  unfold iAug at h
  split at h
  · cases h; exact ⟨_, _, rfl, rfl, rfl⟩
  · cases h
def rsAugV (i : Nat) (f : Int → Int → Int) (ra : Run) : RunS := fun ρ S => match ρ.get i with
  | some d => toS (ra ρ S) ρ fun e S1 => (match iAug f d e with
    | some r => .next (ρ.set i r) S1
    | none => .no)
  | none => .no
theorem get_dat {ρ : En} {i : Nat} {d : D} (e : ρ.get i = some d) : ρ.d[i]? = some (some d) := by
  unfold En.get at e
  cases q : ρ.d[i]? with
  | none => rw [q] at e; cases e
  | some o => rw [q] at e; exact congrArg some e
theorem s_augV {i : Nat} {x : Str} {op : Operator} {f : Int → Int → Int} (hN : X.N.Nodup) (hi : X.N[i]? = some x) (hx : Loc X.env.scope x) (he : PE X e (tI G W ra)) (ho : PIp X op (ipI f)) (hf : X.fn x = true ∨ X.env.scope.names.lookup x = some .local) :
    PS X (.AugAssign (.Name x p2) op e pos) (tS G W (rsAugV i f ra)) :=
  psImp (ps_aug hN hi hx he ho hf) fun Z σ H ⟨μ, ρ, S, R, s, z⟩ => by
    unfold rsAugV at z
    split at z
    · rename_i d ed
      obtain ⟨v, h1, h2⟩ := s.dat i d (get_dat ed)
      refine ⟨v, h1, μ, ρ, S, R, s, (FinS.toS z s).mono fun w H1 ⟨μ1, e1, S1, m1, R1, q1, z1⟩ => ?_⟩
      split at z1
      · rename_i r er
        obtain ⟨a, b, rfl, rfl, rfl⟩ := iAug_inv er
        exact ⟨a, b, h2.int, q1.int, z1 μ1 H1 _ (Mo.refl _ _) R1 ((s.mo m1).set (.of (.i _)))⟩
      · exact z1.elim
    · exact z.elim
/-- o.f op= e -/
def rsAugF (T : Tab) (f : Int → Int → Int) (m : Str) (ra rb : Run) : RunS := fun ρ S => toS (ra ρ S) ρ fun o S1 => match insOf S1 o with
  | some (c, fs) => (match ffind fs m with
    | some d => if T.fld c m then toS (rb ρ S1) ρ fun e S2 => (match iAug f d e with
      | some r => (match insOf S2 o with
        | some (c2, _) => if c2 = c then (match setFld T S2 m o r with
          | some S3 => .next ρ S3
          | none => .no) else .no
        | none => .no)
      | none => .no) else .no
    | none => .no)
  | none => .no
theorem inop_of {op : Operator} {f : Int → Int → Int} (ho : PIp X op (ipI f)) : InOp X op (ipI f) := fun pins s σ H x y u v Q I r1 r2 h => ho pins s σ H x y u v Q I r1 r2 h
theorem s_augF {op : Operator} {f : Int → Int → Int} (B : GF X G T P k) (ho : PE X o (tI G W ra)) (he : PE X e (tI G W rb)) (hp : PIp X op (ipI f)) : PS X (.AugAssign (.Attribute o m p2) op e pos) (tS G W (rsAugF T f m ra rb)) :=
  psImp (ps_fldaug ho he (inop_of hp)) fun Z σ H ⟨μ, ρ, S, R, s, z⟩ => ⟨μ, ρ, S, R, s, (FinS.toS z s).mono fun x H1 ⟨μ1, d, S1, m1, R1, q1, z1⟩ => by
    split at z1
    · rename_i c fs e1
      split at z1
      · rename_i d0 ed
        split at z1
        · rename_i hf
          obtain ⟨l, a, C, dx, vs, rfl, rfl, hl, es1, hC, h2, h3⟩ := ins_at R1 e1 q1
          obtain ⟨cl, na⟩ := B.fld c C m hC hf
          obtain ⟨v, hv, rv⟩ := frs_find h3 ed
          refine ⟨a, C, dx, vs, v, rfl, h2, cl, na, hv, μ1, ρ, S1, R1, s.mo m1, (FinS.toS z1 (s.mo m1)).mono fun y H2 ⟨μ2, d2, S2, m2, R2, q2, z2⟩ => ?_⟩
          split at z2
          · rename_i r er
            split at z2
            case h_2 => exact z2.elim
            rename_i c2 fs2 ei2
            split at z2
            case isFalse => exact z2.elim
            rename_i hcc
            subst hcc
            split at z2
            · rename_i S3 e3
              obtain ⟨i, j, rfl, rfl, rfl⟩ := iAug_inv er
              have ev := VR.int (VR.of rv)
              have ey := q2.int
              refine ⟨i, j, ev, ey, ?_⟩
              obtain ⟨a', C', dx', vs', ea, h2', cl', na', hz', mw, R3⟩ := setFld_at B R2 e3 (DR.mo m2 _ _ q1) (.i _)
              cases ea
              have hm := m2.at hl
              obtain ⟨l3, a3, C3, dx3, vs3, el, ea3, hl3, _, hC3, w2, _⟩ := ins_at R2 ei2 (DR.mo m2 _ _ q1)
              cases ea3
              rw [hC] at hC3
              cases hC3
              rw [h2'] at w2
              cases w2
              exact ⟨dx', vs', h2', hz', z2 _ _ _ mw R3 (((s.mo m1).mo m2).mo mw)⟩
            · exact z2.elim
          · exact z2.elim
        · exact z1.elim
      · exact z1.elim
    · exact z1.elim⟩
/-! ### several names at once: a, b = x, y -/
def rsPar (is : List Nat) (rr : RunA) : RunS := fun ρ S => match rr ρ S with
  | .ok ds S1 => if ds.length = is.length then .next ((is.zip ds).foldl (fun r p => r.set p.1 p.2) ρ) S1 else .no
  | .ex c fs S1 => .ex c fs ρ S1
  | .no => .no
variable {rr : RunA} {a b c : Expr} {px py pz pt pt2 : Pos} {kt k2 : Nat} {x y z : Str} {i j l : Nat}
theorem par_fin {μ : Mu} {H : Hp} {S : Sto} {ρ : En} {σ : L2.St} {is : List Nat} {Z : Ends} (s : SR G μ H ρ σ) (f : FinS G μ H (rsPar is rr ρ S) Z W) :
    FinA G μ H (rr ρ S) (fun vs H1 => ∃ μ1 ds S1, Mo μ H μ1 H1 ∧ Rl G μ1 S1 H1 ∧ DRs G.K μ1 H1 ds vs ∧ SR G μ1 H1 ρ σ ∧ ds.length = is.length ∧ FinS G μ1 H1 (.next ((is.zip ds).foldl (fun r p => r.set p.1 p.2) ρ) S1) Z W) fun cv dx H' => W cv dx σ H' := by
  unfold rsPar at f
  cases e : rr ρ S with
  | no => rw [e] at f; exact f
  | ex c fs S1 => rw [e] at f; exact fun μ' H' cv dx m R x => f μ' H' cv dx σ m R x (s.mo m)
  | ok ds S1 =>
    rw [e] at f
    dsimp only at f
    split at f
    · rename_i hl
      exact fun μ' H' v m R q => ⟨μ', ds, S1, m, R, q, s.mo m, hl, FinS.mo f m⟩
    · exact f.elim
theorem s_par (hc : X.calm = true) (hN : X.N.Nodup) (hi : X.N[i]? = some x) (hj : X.N[j]? = some y) (hij : i ≠ j) (hx : X.env.scope.names.lookup x = some .local) (hy : X.env.scope.names.lookup y = some .local) (ha : PA X [a, b] (tA G W rr))
    (hw : swappedStores [.Tuple [.Name x px, .Name y py] kt pt] (.Tuple [a, b] k2 pt2) X.env = pure (some [x, y])) (hs : swapsWithSole [.Tuple [.Name x px, .Name y py] kt pt] (.Tuple [a, b] k2 pt2) pos.line X.env = pure false) :
    PS X (.Assign [.Tuple [.Name x px, .Name y py] kt pt] (.Tuple [a, b] k2 pt2) pos) (tS G W (rsPar [i, j] rr)) :=
  psImp (ps_par hc hN hi hj hij hx hy ha hw hs) fun Z σ H ⟨μ, ρ, S, R, s, f⟩ => ⟨μ, ρ, S, R, s, (par_fin s f).mono fun vs H1 ⟨μ1, ds, S1, m1, R1, q1, s1, hl, f1⟩ => by
    match ds, hl with
    | [d, e], _ =>
      obtain ⟨v, w, rfl, qd, qe⟩ := drs2 q1
      exact ⟨v, w, rfl, f1 μ1 H1 _ (Mo.refl _ _) R1 ((s1.set (.of qd)).set (.of qe))⟩⟩
theorem drs3 {K : PySem.W.Frag} {μ : Mu} {H : Hp} {d e f : D} {xs : List V} (h : DRs K μ H [d, e, f] xs) : ∃ u v w, xs = [u, v, w] ∧ DR K μ H d u ∧ DR K μ H e v ∧ DR K μ H f w := by
  rw [DRs] at h
  obtain ⟨u, r, rfl, h1, h2⟩ := h
  obtain ⟨v, w, rfl, h3, h4⟩ := drs2 h2
  exact ⟨u, v, w, rfl, h1, h3, h4⟩
theorem s_par3 (hc : X.calm = true) (hN : X.N.Nodup) (hi : X.N[i]? = some x) (hj : X.N[j]? = some y) (hl : X.N[l]? = some z) (hij : i ≠ j) (hil : i ≠ l) (hjl : j ≠ l) (hx : X.env.scope.names.lookup x = some .local) (hy : X.env.scope.names.lookup y = some .local) (hz : X.env.scope.names.lookup z = some .local)
    (ha : PA X [a, b, c] (tA G W rr)) (hw : swappedStores [.Tuple [.Name x px, .Name y py, .Name z pz] kt pt] (.Tuple [a, b, c] k2 pt2) X.env = pure (some [x, y, z]))
    (hs : swapsWithSole [.Tuple [.Name x px, .Name y py, .Name z pz] kt pt] (.Tuple [a, b, c] k2 pt2) pos.line X.env = pure false) : PS X (.Assign [.Tuple [.Name x px, .Name y py, .Name z pz] kt pt] (.Tuple [a, b, c] k2 pt2) pos) (tS G W (rsPar [i, j, l] rr)) :=
  psImp (ps_par3 hc hN hi hj hl hij hil hjl hx hy hz ha hw hs) fun Z σ H ⟨μ, ρ, S, R, s, f⟩ => ⟨μ, ρ, S, R, s, (par_fin s f).mono fun vs H1 ⟨μ1, ds, S1, m1, R1, q1, s1, hl, f1⟩ => by
    match ds, hl with
    | [d, e, g], _ =>
      obtain ⟨u, v, w, rfl, qd, qe, qg⟩ := drs3 q1
      exact ⟨u, v, w, rfl, f1 μ1 H1 _ (Mo.refl _ _) R1 (((s1.set (.of qd)).set (.of qe)).set (.of qg))⟩⟩
/-! ### y = [..] on one line -/
variable {elt tg iter : Expr} {ifs : List Expr} {scope : Scope} {own : List (Str × Nat)} {ri : RunI} {g : Tgt} {js : List Nat} {rc : Option Run} {re : Run} {kk : List D → Sto → R D}
theorem s_setLcK (o : LcOk X G W elt tg iter ifs scope own ri g js rc re) (hk : ∀ {μ : Mu} {H : Hp} {S : Sto} {Q : VK} {E : XK} {r : R (List D)}, Rl G μ S H → Fin G μ H ((only r).bind kk) Q E → LcEnd G μ H r Q)
    (hy : X.N[i]? = some y) (hyl : X.env.scope.names.lookup y = some .local) (hsw : swapsWith (.ListComp elt [⟨tg, iter, ifs, 0⟩] scope pt) (some (.Name y py)) pos.line X.env = pure true) :
    PS X (.Assign [.Name y py] (.ListComp elt [⟨tg, iter, ifs, 0⟩] scope pt) pos) (tS G W (rsAsg (rLcM ri g rc re (own.map (·.2)) kk) (gtName i))) :=
  psImp (ps_setLc o.calm o.nd hy hyl hsw o.it o.blk o.tgt o.tst o.elt o.set_) fun Z σ H ⟨μ, ρ, S, R, s, f⟩ => by
    refine tLc_of (k := kk) o.js_ hk ⟨μ, ρ, S, R, s, (FinS.toS f s).mono fun v H1 ⟨μ1, d, S1, m, R1, q, f1⟩ => ?_⟩
    exact f1 μ1 H1 _ (Mo.refl _ _) R1 ((s.mo m).set q)
theorem s_setLc (o : LcOk X G W elt tg iter ifs scope own ri g js rc re) (hy : X.N[i]? = some y) (hyl : X.env.scope.names.lookup y = some .local) (hsw : swapsWith (.ListComp elt [⟨tg, iter, ifs, 0⟩] scope pt) (some (.Name y py)) pos.line X.env = pure true) :
    PS X (.Assign [.Name y py] (.ListComp elt [⟨tg, iter, ifs, 0⟩] scope pt) pos) (tS G W (rsAsg (rLcM ri g rc re (own.map (·.2)) kLst) (gtName i))) := s_setLcK o (fun R f => lcEnd_lst R f) hy hyl hsw
theorem s_setLcN (o : LcOk X G W elt tg iter ifs scope own ri g js rc re) (hy : X.N[i]? = some y) (hyl : X.env.scope.names.lookup y = some .local) (hsw : swapsWith (.ListComp elt [⟨tg, iter, ifs, 0⟩] scope pt) (some (.Name y py)) pos.line X.env = pure true) :
    PS X (.Assign [.Name y py] (.ListComp elt [⟨tg, iter, ifs, 0⟩] scope pt) pos) (tS G W (rsAsg (rLcM ri g rc re (own.map (·.2)) kNew) (gtName i))) := s_setLcK o (fun R f => lcEnd_new R f) hy hyl hsw
end
end Mt


set_option Elab.async false
set_option maxRecDepth 100000
set_option autoImplicit false
set_option linter.all false
/-! Dicts made: {}, {k: v, ..}, {k: v for ..}. -/
namespace Mt
open PySem PySem.Spec PyProof.Rows L2

theorem KRs.under {K : PySem.W.Frag} {μ : Mu} {H : Hp} {P : Addr} {o : HO} (h : P ∈ μ.hid) {kvs : List (D × D)} {ks : List (Key × V)} (q : KRs K μ H kvs ks) : KRs K μ (upd H P o) kvs ks := Paired.mapP q fun _ _ z => ⟨z.1, DR.under h z.2⟩
def rDict0 : Run := fun _ S => .ok (.loc S.length) (S ++ [.dic []])
/-- pair by pair; each put as it comes -/
def rPairs : List (Run × Run) → En → Sto → R (List (D × D))
  | [], _, S => .ok [] S
  | (rk, rv) :: r, ρ, S => (rk ρ S).bind fun k S1 => (rv ρ S1).bind fun v S2 => (rPairs r ρ S2).bind fun ps S3 => .ok ((k, v) :: ps) S3
def dputs (kvs : List (D × D)) (ps : List (D × D)) : List (D × D) := ps.foldl (fun a p => dput a p.1 p.2) kvs
def keysOk (ps : List (D × D)) : Bool := ps.all fun p => (keyOf p.1).isSome
def rDict (prs : List (Run × Run)) : Run := fun ρ S => (rPairs prs ρ S).bind fun ps S1 => if keysOk ps then .ok (.loc S1.length) (S1 ++ [.dic (dputs [] ps)]) else .no
section
variable {X : Cx} {G : Gx} {W : WX} {pos : Pos} {μ μ1 : Mu} {H H1 : Hp} {S : Sto} {E : XK}
theorem u_dict0 : PE X (.Dict [] [] pos) (tI G W rDict0) := peImp pe_dnewK fun σ H Q ⟨μ, ρ, S, R, s, f⟩ p hp =>
  f (μ.add p) _ _ (Mo.add hp) (R.add hp ⟨[], upd_same, .nil⟩) (vr_new R p)
def tDs (G : Gx) (W : WX) (prs : List (Run × Run)) : List (TE × TE) := prs.map fun p => (tI G W p.1, tI G W p.2)
/-- the pairs that come, as data -/
def PRs (K : PySem.W.Frag) (μ : Mu) (H : Hp) : List (D × D) → List (V × V) → Prop := Paired fun p q => DR K μ H p.1 q.1 ∧ DR K μ H p.2 q.2
def FinD (G : Gx) (μ : Mu) (H : Hp) (r : R (List (D × D))) (Q : List (V × V) → Hp → Prop) (E : XK) : Prop :=
  match r with
  | .ok ds S' => ∀ μ' H' vs, Mo μ H μ' H' → Rl G μ' S' H' → PRs G.K μ' H' ds vs → Q vs H'
  | .ex c fs S' => ∀ μ' H' cv dx, Mo μ H μ' H' → Rl G μ' S' H' → XR G μ' H' c fs cv dx → E cv dx H'
  | .no => False
theorem FinD.mo {r : R (List (D × D))} {Q : List (V × V) → Hp → Prop} (h : FinD G μ H r Q E) (m : Mo μ H μ1 H1) : FinD G μ1 H1 r Q E := by
  cases r with
  | ok d S => exact fun μ' H' v m' R q => h μ' H' v (m.trans m') R q
  | ex c fs S => exact fun μ' H' cv dx m' R q => h μ' H' cv dx (m.trans m') R q
  | no => exact h
theorem FinD.bind {r : R D} {k : D → Sto → R (List (D × D))} {Q : List (V × V) → Hp → Prop} (h : FinD G μ H (r.bind k) Q E) : Fin G μ H r (fun v H1 => ∃ μ1 d S1, Mo μ H μ1 H1 ∧ Rl G μ1 S1 H1 ∧ VR G μ1 H1 d v ∧ FinD G μ1 H1 (k d S1) Q E) E := by
  cases r with
  | ok d S => exact fun μ' H' v m R q => ⟨μ', d, S, m, R, q, FinD.mo h m⟩
  | ex c fs S => exact h
  | no => exact h
theorem FinD.more {k v : D} {x y : V} (qk : DR G.K μ H k x) (qv : DR G.K μ H v y) {r : R (List (D × D))} {Q : List (V × V) → Hp → Prop} (h : FinD G μ H (r.bind fun ps S3 => .ok ((k, v) :: ps) S3) Q E) : FinD G μ H r (fun ps H' => Q ((x, y) :: ps) H') E := by
  cases r with
  | ok d S => exact fun μ' H' vs m R q => h μ' H' _ m R (.cons ⟨DR.mo m _ _ qk, DR.mo m _ _ qv⟩ q)
  | ex c fs S => exact h
  | no => exact h
theorem PRs.mo {ds : List (D × D)} {vs : List (V × V)} (h : PRs G.K μ H ds vs) (m : Mo μ H μ1 H1) : PRs G.K μ1 H1 ds vs := Paired.mapP h fun _ _ q => ⟨DR.mo m _ _ q.1, DR.mo m _ _ q.2⟩
theorem pairs_of : ∀ (prs : List (Run × Run)) {μ : Mu} {H : Hp} {S : Sto} {ρ : En} {σ : L2.St} {Q : List (V × V) → Hp → Prop}, Rl G μ S H → SR G μ H ρ σ → FinD G μ H (rPairs prs ρ S) Q (fun cv dx H' => W cv dx σ H') → tPairs (tDs G W prs) σ H Q
  | [], μ, H, S, ρ, σ, Q, R, s, f => f μ H [] (Mo.refl _ _) R .nil
  | (rk, rv) :: r, μ, H, S, ρ, σ, Q, R, s, f => ⟨μ, ρ, S, R, s, (FinD.bind f).mono fun x H1 ⟨μ1, k, S1, m1, R1, q1, f1⟩ => ⟨μ1, ρ, S1, R1, s.mo m1, (FinD.bind f1).mono fun y H2 ⟨μ2, v, S2, m2, R2, q2, f2⟩ =>
      pairs_of r R2 ((s.mo m1).mo m2) (FinD.more (DR.mo m2 _ _ q1) q2 f2)⟩⟩
/-- keys and values, put one by one -/
theorem prs_keys : ∀ {ds : List (D × D)} {vs : List (V × V)}, PRs G.K μ H ds vs → keysOk ds = true → ∃ kvs : List (Key × V), vs = kvs.map (fun kv => (kV kv.1, kv.2)) ∧ KRs G.K μ H ds kvs
  | [], _, .nil, _ => ⟨[], rfl, .nil⟩
  | (k, v) :: r, (x, y) :: r', .cons q t, h => by
    have h' : (keyOf k).isSome = true ∧ keysOk r = true := by simpa [keysOk] using h
    obtain ⟨ky, ek⟩ := Option.isSome_iff_exists.mp h'.1
    obtain ⟨kvs, rfl, t'⟩ := prs_keys t h'.2
    have ex := VR.key (G := G) ek q.1
    have ed := keyOf_some ek
    have ex' : x = kV ky := ex
    subst ex'
    exact ⟨(ky, y) :: kvs, rfl, .cons ⟨ed, q.2⟩ t'⟩
theorem krs_puts : ∀ {ds : List (D × D)} {kvs : List (Key × V)} {as : List (D × D)} {ks : List (Key × V)}, KRs G.K μ H as ks → KRs G.K μ H ds kvs → KRs G.K μ H (dputs as ds) (mergeK ks kvs)
  | [], _, as, ks, h, .nil => h
  | (k, v) :: r, (ky, y) :: r', as, ks, h, .cons ⟨e, q⟩ t => by
    have e' : k = keyD ky := e
    subst e'
    show KRs G.K μ H (dputs (dput as (keyD ky) v) r) (mergeK (putK ks ky y) r')
    exact krs_puts (krs_put h q) t
theorem u_dict {keys : List (Option Expr)} {values : List Expr} {prs : List (Run × Run)} (h : PPs X pos keys values (tDs G W prs)) (hall : keys.all (·.isSome) = true) (hl : keys.length = values.length) (h0 : keys ≠ []) (h15 : keys.length ≤ 15) (hn : prs.length ≤ 15) :
    PE X (.Dict keys values pos) (tI G W (rDict prs)) := peImp (pe_disp h hall hl h0 h15) fun σ H Q ⟨μ, ρ, S, R, s, f⟩ p hp => by
  refine pairs_of prs (R.hide (o := .dK []) hp) (s.mo (Mo.hide hp)) ?_
  have len : ∀ (prs : List (Run × Run)) (ρ : En) (S S' : Sto) (ds : List (D × D)), rPairs prs ρ S = .ok ds S' → ds.length = prs.length := by
    intro prs
    induction prs with
    | nil => intro ρ S S' ds e; cases e; rfl
    | cons a r ih =>
      intro ρ S S' ds e
      obtain ⟨rk, rv⟩ := a
      unfold rPairs at e
      cases e1 : rk ρ S with
      | no => rw [e1] at e; cases e
      | ex c fs S1 => rw [e1] at e; cases e
      | ok k S1 =>
        rw [e1] at e
        dsimp only [Mt.R.bind] at e
        cases e2 : rv ρ S1 with
        | no => rw [e2] at e; cases e
        | ex c fs S2 => rw [e2] at e; cases e
        | ok v S2 =>
          rw [e2] at e
          dsimp only [Mt.R.bind] at e
          cases e3 : rPairs r ρ S2 with
          | no => rw [e3] at e; cases e
          | ex c fs S3 => rw [e3] at e; cases e
          | ok ps S3 =>
            rw [e3] at e
            cases e
            rw [List.length_cons, List.length_cons, ih ρ S2 _ ps e3]
  unfold rDict at f
  cases er : rPairs prs ρ S with
  | no => rw [er] at f; exact f
  | ex c fs S1 => rw [er] at f; exact fun μ' H' cv dx m R' x => f μ' H' cv dx ((Mo.hide hp).trans m) R' x
  | ok ds S1 =>
    rw [er] at f
    dsimp only [Mt.R.bind] at f
    split at f
    · rename_i ko
      intro μ1 H1 vs m1 R1 q1
      have hm : p ∈ (μ.hide p).hid := List.mem_cons_self
      have hP := m1.sub p hm
      have hH := m1.hkp p hm _ upd_same
      obtain ⟨kvs, rfl, q2⟩ := prs_keys q1 ko
      have hlen : kvs.length ≤ 15 := by rw [← krs_length q2, len _ _ _ _ _ er]; exact hn
      refine ⟨hH, kvs, rfl, hlen, ?_⟩
      have q3 := KRs.under (o := .dK (mergeK [] kvs)) hP (krs_puts (as := []) (ks := []) .nil q2)
      have R2 : Rl G μ1 S1 (upd H1 p (.dK (mergeK [] kvs))) := R1.under hP
      exact f (μ1.track p) _ _ ((((Mo.hide hp).trans m1).under hp).track hp fun z => R.fresh hp (.inr z)) (R2.track hP ⟨_, upd_same, q3.track hP⟩) (vr_track R2)
    · exact f.elim
/-! ### {k: v for ..} -/
def rDcGo (g : Tgt) (rc : Option Run) (rk rv : Run) (ck : Ck) (ρ : En) : List D → List (D × D) → Sto → R (List (D × D))
  | [], acc, S => if ck.ok S then .ok acc S else .no
  | d :: r, acc, S => if ck.ok S && decide (acc.length < big) then (match g d ρ S with
      | some o => (match (match rc with | some c => c o.1 o.2 | none => .ok (.bl true) o.2) with
        | .ok (.bl true) S1 => (match rk o.1 S1 with
          | .ok k S2 => (match rv o.1 S2 with
            | .ok v S3 => if (keyOf k).isSome then rDcGo g rc rk rv ck ρ r (dput acc k v) S3 else .no
            | _ => .no)
          | _ => .no)
        | .ok (.bl false) S1 => rDcGo g rc rk rv ck ρ r acc S1
        | _ => .no)
      | none => .no) else .no
def rDc (ri : RunI) (g : Tgt) (rc : Option Run) (rk rv : Run) (vs : List Nat) : Run := fun ρ S => match ri ρ S with
  | .ok p S1 => (match rDcGo g rc rk rv p.2 (ρ.wipe vs) p.1 [] S1 with
    | .ok kvs S2 => .ok (.loc S2.length) (S2 ++ [.dic kvs])
    | _ => .no)
  | .ex c fs S1 => .ex c fs S1
  | .no => .no
/-- behind the last turn: the dict stands at P, hidden -/
def DcEnd (G : Gx) (μ : Mu) (H : Hp) (r : R (List (D × D))) (Q : VK) : Prop :=
  match r with
  | .ok ds S => ∀ μ' H' P xs, Mo μ H μ' H' → Rl G μ' S H' → H P = none → P ∈ μ'.hid → H' P = some (.dK xs) → KRs G.K μ' H' ds xs → Q (.ref P) H'
  | _ => False
theorem dc_turns {g : Tgt} {js vs : List Nat} {rc : Option Run} {rk rv : Run} {σ : L2.St} {ρ : En} {J : It} {ds : List D} {ck : Ck} {S1 : Sto} {Q : VK}
    (hj : ∀ j ∈ js, j ∈ vs) (R1 : Rl G μ1 S1 H1) (w1 : Wk G J ds ck μ1 H1) (s1 : SR G μ1 H1 (ρ.wipe vs) (wipe σ vs)) (f1 : DcEnd G μ1 H1 (rDcGo g rc rk rv ck (ρ.wipe vs) ds [] S1) Q) (P : Addr) (hP : H1 P = none) :
    ∃ W : Nat → Nat → Hp → Prop, (∃ m, W 0 m (upd H1 P (.dK []))) ∧ ∀ i m H, W i m H → (J.stop i H ∧ Q (.ref P) H) ∨ (J.go i H ∧ ∃ Nx : Hp → Prop, (∀ H', Nx H' → ∃ m', m' < m ∧ W (i + 1) m' H') ∧
      ∀ x H', J.yld i H x H' → tG G js g x (wipe σ vs) H' fun σ2 H2 => wipe σ2 vs = wipe σ vs ∧ tC0 G rc σ2 H2 fun b H3 => if b = true then tI G (fun _ _ _ _ => False) rk σ2 H3 fun y H4 => tI G (fun _ _ _ _ => False) rv σ2 H4 fun z H5 => ∃ kvs k, y = kV k ∧ H5 P = some (.dK kvs) ∧ kvs.length < sizeLine ∧ Nx (upd H5 P (.dK (putK kvs k z))) else Nx H3) := by
  let Inv' : Nat → Hp → Prop := fun i H => i ≤ ds.length ∧ ∃ μ S acc xs, Mo μ1 H1 μ H ∧ Rl G μ S H ∧ P ∈ μ.hid ∧ H P = some (.dK xs) ∧ KRs G.K μ H acc xs ∧ DcEnd G μ1 H1 (rDcGo g rc rk rv ck (ρ.wipe vs) (ds.drop i) acc S) Q
  refine ⟨fun i m H => m = ds.length - i ∧ Inv' i H, ⟨_, rfl, Nat.zero_le _, μ1.hide P, S1, [], [], Mo.hide hP, R1.hide hP, List.mem_cons_self, upd_same, .nil, by rw [List.drop_zero]; exact f1⟩, ?_⟩
  rintro i n H2 ⟨rfl, hi, μ2, S2, acc, xs, m2, R2, nP, hH, hd, f2⟩
  by_cases hl : i < ds.length
  · rw [List.drop_eq_getElem_cons hl] at f2
    unfold rDcGo at f2
    split at f2
    · rename_i c0
      simp only [Bool.and_eq_true, decide_eq_true_eq] at c0
      obtain ⟨ck0, hz⟩ := c0
      obtain ⟨go, yl⟩ := w1.go i μ2 S2 H2 ds[i] m2 R2 ck0 (List.getElem?_eq_getElem hl)
      split at f2
      · rename_i o eo
        refine .inr ⟨go, Inv' (i + 1), fun H' w => ⟨ds.length - (i + 1), by omega, rfl, w⟩, fun x H3 y => ?_⟩
        obtain ⟨m3, R3, q3⟩ := yl x H3 y
        refine ⟨μ2, ρ.wipe vs, S2, _, o, R3, (s1.mo m2).mo m3, q3, eo, fun μ4 H4 σ4 m4 R4 s4 on => ⟨wipe_only on hj, ?_⟩⟩
        have m14 : Mo μ1 H1 μ4 H4 := (m2.trans m3).trans m4
        have hH4 : H4 P = some (.dK xs) := (m3.trans m4).hkp P nP _ hH
        have nP4 : P ∈ μ4.hid := (m3.trans m4).sub P nP
        have hd4 : KRs G.K μ4 H4 acc xs := hd.mo (m3.trans m4)
        have yes : ∀ {S5 : Sto} {μ5 : Mu} {H5 : Hp}, Mo μ4 H4 μ5 H5 → Rl G μ5 S5 H5 → DcEnd G μ1 H1 (match rk o.1 S5 with
              | .ok k S6 => (match rv o.1 S6 with
                | .ok v S7 => if (keyOf k).isSome then rDcGo g rc rk rv ck (ρ.wipe vs) (ds.drop (i + 1)) (dput acc k v) S7 else .no
                | _ => .no)
              | _ => .no) Q →
            tI G (fun _ _ _ _ => False) rk σ4 H5 fun y H6 => tI G (fun _ _ _ _ => False) rv σ4 H6 fun z H7 => ∃ kvs k, y = kV k ∧ H7 P = some (.dK kvs) ∧ kvs.length < sizeLine ∧ Inv' (i + 1) (upd H7 P (.dK (putK kvs k z))) := fun {S5 μ5 H5} m5 R5 f5 => by
          refine ⟨μ5, o.1, S5, R5, s4.mo m5, ?_⟩
          cases er : rk o.1 S5 with
          | no => rw [er] at f5; exact f5
          | ex c fs S6 => rw [er] at f5; exact f5.elim
          | ok y S6 =>
            rw [er] at f5
            intro μ6 H6 v m6 R6 q6
            refine ⟨μ6, o.1, S6, R6, (s4.mo m5).mo m6, ?_⟩
            dsimp only at f5
            cases er2 : rv o.1 S6 with
            | no => rw [er2] at f5; exact f5
            | ex c fs S7 => rw [er2] at f5; exact f5.elim
            | ok z S7 =>
              rw [er2] at f5
              dsimp only at f5
              intro μ7 H7 v2 m7 R7 q7
              split at f5
              · rename_i hky
                obtain ⟨ky, ek⟩ := Option.isSome_iff_exists.mp hky
                have ev := VR.key ek q6
                have ed := keyOf_some ek
                subst ed
                have m57 := m5.trans (m6.trans m7)
                have hH7 : H7 P = some (.dK xs) := m57.hkp P nP4 _ hH4
                have nP7 : P ∈ μ7.hid := m57.sub P nP4
                have hz' : xs.length < sizeLine := by rw [← krs_length hd]; exact Nat.lt_of_lt_of_le hz (big_le (Nat.le_refl _))
                exact ⟨xs, ky, ev, hH7, hz', hl, μ7, S7, _, putK xs ky v2, (m14.trans m57).under hP, R7.under nP7, nP7, upd_same, KRs.under nP7 (krs_put (hd4.mo m57) q7), f5⟩
              · exact f5.elim
        revert f2
        cases rc with
        | none =>
          intro f2
          exact iteT (B := Inv' (i + 1) H4) (yes (Mo.refl _ _) R4 f2)
        | some c =>
          intro f2
          refine ⟨μ4, o.1, o.2, R4, s4, ?_⟩
          dsimp only at f2
          cases ec : c o.1 o.2 with
          | no => rw [ec] at f2; exact f2
          | ex cc fs S6 => rw [ec] at f2; exact f2.elim
          | ok b S5 =>
            rw [ec] at f2
            intro μ5 H5 v m5 R5 q5
            cases b with
            | bl b =>
              cases b with
              | true => exact ⟨true, q5.bl, iteT (yes m5 R5 f2)⟩
              | false => exact ⟨false, q5.bl, iteF ⟨hl, μ5, S5, acc, xs, m14.trans m5, R5, m5.sub P nP4, m5.hkp P nP4 _ hH4, hd4.mo m5, f2⟩⟩
            | _ => exact f2.elim
      · exact f2.elim
    · exact f2.elim
  · have e : i = ds.length := by omega
    subst e
    rw [List.drop_length] at f2
    unfold rDcGo at f2
    split at f2
    · rename_i ck0
      exact .inl ⟨w1.stop _ μ2 S2 H2 m2 R2 ck0 (Nat.le_refl _), f2 μ2 H2 P xs m2 R2 hP nP hH hd⟩
    · exact f2.elim
variable {kx vx tg iter : Expr} {ifs : List Expr} {scope : Scope} {own : List (Str × Nat)} {ri : RunI} {g : Tgt} {js : List Nat} {rc : Option Run} {rk rv : Run}
structure DcOk (X : Cx) (G : Gx) (W : WX) (kx vx tg iter : Expr) (ifs : List Expr) (scope : Scope) (own : List (Str × Nat)) (ri : RunI) (g : Tgt) (js : List Nat) (rc : Option Run) (rk rv : Run) : Prop where
  calm : X.calm = true
  nd : X.N.Nodup
  it : PI X tg iter (tIt G W ri)
  blk : BlkOk X.N X.env.scope scope own
  tgt : ∀ (s : Shared) (H : Hp) (C : Addr) (cl : List (Str × Addr)) (fp : List Addr), PG (X.blk s H scope (compEnvC scope cl C X.env) fp) tg (tG G js g)
  tst : ∀ (s : Shared) (H : Hp) (C : Addr) (cl : List (Str × Addr)) (fp : List Addr), PTs (X.blk s H scope (compEnvC scope cl C X.env) fp) ifs (tC0 G rc)
  kex : ∀ (s : Shared) (H : Hp) (C : Addr) (cl : List (Str × Addr)) (fp : List Addr), PE (X.blk s H scope (compEnvC scope cl C X.env) fp) kx (tI G (fun _ _ _ _ => False) rk)
  vex : ∀ (s : Shared) (H : Hp) (C : Addr) (cl : List (Str × Addr)) (fp : List Addr), PE (X.blk s H scope (compEnvC scope cl C X.env) fp) vx (tI G (fun _ _ _ _ => False) rv)
  set_ : ∀ x, foldedSetIterable iter X.env x = pure x
  js_ : ∀ j ∈ js, j ∈ own.map (·.2)
theorem tDc_of {vs : List Nat} (hj : ∀ j ∈ js, j ∈ vs) {σ : L2.St} {Q : VK} (h : tI G W (rDc ri g rc rk rv vs) σ H Q) :
    tDc (tIt G W ri) (tG G js g) (tC0 G rc) (tI G (fun _ _ _ _ => False) rk) (tI G (fun _ _ _ _ => False) rv) vs σ H Q := by
  obtain ⟨μ, ρ, S, R, s, f⟩ := h
  refine ⟨μ, ρ, S, R, s, ?_⟩
  unfold rDc at f
  cases er : ri ρ S with
  | no => rw [er] at f; exact f
  | ex c fs S1 => rw [er] at f; exact f
  | ok p S1 =>
    rw [er] at f
    intro μ1 H1 J m1 R1 k1 w1 P hP
    refine dc_turns hj R1 w1 ((s.mo m1).wipe vs) ?_ P hP
    unfold DcEnd
    dsimp only at f
    split at f
    · rename_i kvs S2 e2
      exact fun μ' H' P xs m R' hP nP e q => f (μ'.track P) H' (.ref P) ((m1.trans m).track (m1.free hP) fun z => R.fresh (m1.free hP) (.inr z)) (R'.track nP ⟨xs, e, q.track nP⟩) (vr_track R')
    · exact f.elim
theorem u_dc (o : DcOk X G W kx vx tg iter ifs scope own ri g js rc rk rv) : PE X (.DictComp kx vx [⟨tg, iter, ifs, 0⟩] scope pos) (tI G W (rDc ri g rc rk rv (own.map (·.2)))) :=
  peImp (pe_dc o.calm o.nd o.it o.blk o.tgt o.tst o.kex o.vex o.set_) fun σ H Q h => tDc_of o.js_ h
end
end Mt


set_option Elab.async false
set_option maxRecDepth 100000
set_option autoImplicit false
set_option linter.all false
set_option maxHeartbeats 1000000
/-! Sets of keys of one kind, filled from a list; sorted of a set of texts. -/
namespace Mt
open PySem PySem.Spec PyProof.Rows L2

section
variable {P : Program} {w : World} {Kt : Type} [DecidableEq Kt] {knd : KeyKind P w Kt}
/-- an element of the set is the key k -/
def ElK (knd : KeyKind P w Kt) (e : Int × Value) (k : Kt) : Prop := knd.is k e.2 = true ∧ e.1 = knd.hash k ∧ e.2.scannable = true
/-- at a a set of the keys ks, each once, that can be walked -/
def SgAt (knd : KeyKind P w Kt) (h : Heap) (a : Addr) (ks : List Kt) : Prop :=
  ∃ o es ep t, h.get? a = some o ∧ o.ExactSet ∧ o.data = .set es ep t ∧ Paired (ElK knd) es.toList ks ∧ ks.Nodup ∧ es.size < scanBound ∧ t.fits es.size = true ∧ Ris t.place.toList ∧ (w.params.followText "set-order" = true ∨ t.led = true)
theorem SgAt.at {h h' : Heap} {a : Addr} {ks : List Kt} (R : SgAt knd h a ks) (k : ∀ o, h.get? a = some o → h'.get? a = some o) : SgAt knd h' a ks := let ⟨o, es, ep, t, ho, r⟩ := R; ⟨o, es, ep, t, k o ho, r⟩
theorem elk_all : ∀ {es : List (Int × Value)} {ks : List Kt}, Paired (ElK knd) es ks → ElemsOf knd es
  | _, _, .nil => fun e he => by cases he
  | _, _, .cons q r => fun e he => by
    rcases List.mem_cons.mp he with z | z
    · rw [z]; exact ⟨⟨_, q.1, q.2.1⟩, q.2.2⟩
    · exact elk_all r e z
theorem elk_find {k : Kt} : ∀ {es : List (Int × Value)} {ks : List Kt}, Paired (ElK knd) es ks → ((es.findIdx? fun e => knd.is k e.2) = none ∧ k ∉ ks) ∨ ((∃ j, (es.findIdx? fun e => knd.is k e.2) = some j) ∧ k ∈ ks)
  | _, _, .nil => .inl ⟨rfl, by simp⟩
  | e :: es, k' :: ks, .cons q r => by
    rw [List.findIdx?_cons]
    cases c : knd.is k e.2 with
    | true => exact .inr ⟨⟨0, rfl⟩, by rw [knd.inj _ _ _ c q.1]; exact List.mem_cons_self⟩
    | false =>
      have ne : k ≠ k' := fun z => by rw [z, q.1] at c; cases c
      rcases elk_find (k := k) r with ⟨h1, h2⟩ | ⟨⟨j, h1⟩, h2⟩
      · exact .inl ⟨by rw [h1]; rfl, by simp [ne, h2]⟩
      · exact .inr ⟨⟨j + 1, by rw [h1]; rfl⟩, List.mem_cons_of_mem _ h2⟩
theorem paired_perm {α β : Type} {F : α → β → Prop} {l l' : List α} (p : l'.Perm l) : ∀ {m : List β}, Paired F l m → ∃ m', m'.Perm m ∧ Paired F l' m' := by
  induction p with
  | nil => intro m h; exact ⟨m, .refl _, h⟩
  | cons x _ ih =>
    intro m h
    cases h with
    | cons q r =>
      obtain ⟨m', p', r'⟩ := ih r
      exact ⟨_, .cons _ p', .cons q r'⟩
  | swap x y l =>
    intro m h
    cases h with
    | cons q r =>
      cases r with
      | cons q2 r2 => exact ⟨_, .swap _ _ _, .cons q2 (.cons q r2)⟩
  | trans _ _ ih1 ih2 =>
    intro m h
    obtain ⟨m1, p1, r1⟩ := ih2 h
    obtain ⟨m2, p2, r2⟩ := ih1 r1
    exact ⟨m2, p2.trans p1, r2⟩
variable {A : Around} {E : Value → Shared → Prop} {s : Shared} {a : Addr} {ks : List Kt}
/-- the new elements stored, the table grown where it is full -/
theorem sg_store {grow : Bool → Sem Unit} (hgrow : ∀ (b : Bool) (s1 : Shared) (Z : Unit → Shared → Prop), Z () s1 → wpAny (model P w) A (grow b) Z E s1) {o : Obj} {es fs : Array (Int × Value)} {ep : Nat} {t u : SetTable} {ls : List Kt}
    (ho : s.heap.get? a = some o) (hx : o.ExactSet) (hd : o.data = .set es ep t) (pr : Paired (ElK knd) fs.toList ls) (nd : ls.Nodup) (hb : fs.size < scanBound) (hf : u.fits fs.size = true) (hr : Ris u.place.toList) (hl : w.params.followText "set-order" = true ∨ u.led = true)
    {wasDummy : Bool} {Z : Option Bool → Shared → Prop} (hZ : ∀ h' ls', Heap.SameBut a s.heap h' → ls'.Perm ls → SgAt knd h' a ls' → Z (some true) { s with heap := h' }) :
    wpAny (model P w) A (do
        storeSet a fs u
        if (!wasDummy && u.tooFull) = true then do
            grow (relayAll u fs (SetTable.grown fs.size)).2.2
            storeSet a (relayAll u fs (SetTable.grown fs.size)).1 (relayAll u fs (SetTable.grown fs.size)).2.1
            pure (some true)
          else pure (some true)) Z E s := by
  have h1 := store_at (es' := fs) (t' := u) ho hd
  have b1 := Heap.SameBut.update s.heap a (Obj.putSet fs u)
  refine wpAny_bind (wpAny_storeSet_of ho hd ?_ (fits_of_scanBound hb))
  split
  · have q1 := relayAll_perm u fs (SetTable.grown fs.size)
    have q2 := relayAll_fits u fs (SetTable.grown fs.size)
    have q3 := relayAll_ris u fs (SetTable.grown fs.size)
    have q4 := relayAll_led u fs (SetTable.grown fs.size)
    generalize relayAll u fs (SetTable.grown fs.size) = Y at q1 q2 q3 q4 ⊢
    obtain ⟨gs, v, gave⟩ := Y
    dsimp only at q1 q2 q3 q4 ⊢
    have sz : gs.size = fs.size := by rw [← Array.length_toList, q1.length_eq, Array.length_toList]
    have hb2 : gs.size < scanBound := by omega
    obtain ⟨ls', pl, pr'⟩ := paired_perm q1 pr
    refine wpAny_bind (hgrow _ _ _ (wpAny_bind (wpAny_storeSet_of h1 rfl ?_ (fits_of_scanBound hb2))))
    exact wpAny_pure (hZ _ ls' (b1.trans (Heap.SameBut.update _ a _)) pl ⟨_, gs, _, v, store_at (es' := gs) (t' := v) h1 rfl, hx, rfl, pr', pl.nodup_iff.mpr nd, hb2, q2, q3, hl.imp id fun z => by rw [q4]; exact z⟩)
  · exact wpAny_pure (hZ _ ls b1 (.refl _) ⟨_, fs, _, u, h1, hx, rfl, pr, nd, hb, hf, hr, hl⟩)
/-- what stands behind an add -/
def Added (ks : List Kt) (k : Kt) (ks' : List Kt) : Prop := (k ∈ ks ∧ ks' = ks) ∨ (k ∉ ks ∧ ks'.Perm (k :: ks))
theorem sg_add {k : Kt} {x : Value} {Q : Bool → Shared → Prop} (R : SgAt knd s.heap a ks) (hk : knd.is k x = true) (hsc : x.scannable = true) (room : ks.length + 1 < scanBound)
    (hQ : ∀ h' ks' b, Heap.SameBut a s.heap h' → Added ks k ks' → SgAt knd h' a ks' → Q b { s with heap := h' }) : wpAny (model P w) A (setAddHashed a x (knd.hash k)) Q E s := by
  obtain ⟨o, es, ep, t, ho, hx, hd, pr, nd, hb, hf, hr, hl⟩ := R
  have el : ElemsOf knd es.toList := elk_all pr
  have hsz : es.size = ks.length := by rw [← Array.length_toList]; exact Paired.length pr
  unfold setAddHashed setAddHashedIn
  refine wpAny_holding (wpAny_bind (wpAny_setState_of ho hd hf ?_))
  dsimp only
  rw [byScan_of hsc hb el]
  simp only [↓reduceIte]
  unfold setAddByScan
  refine wpAny_bind (wpAny_bind (wpAny_rule (wpAny_bind (wpAny_setScan_of hk ho hd hf el ?_))))
  rcases elk_find (k := k) pr with ⟨z1, z2⟩ | ⟨⟨j, z1⟩, z2⟩
  · rw [z1]
    dsimp only
    have give : ∀ (b : Bool) {s1 : Shared} {Z : Unit → Shared → Prop}, Z () s1 → wpAny (model P w) A (match b with | true => rule "set.scan.the-table-gave-way" | false => pure ()) Z E s1 := fun b s1 Z q => by
      cases b <;> first | exact wpAny_pure q | exact wpAny_rule q
    have q1 := layNew_perm t es (knd.hash k) x
    have q2 := layNew_fits t es (knd.hash k) x
    have q3 := layNew_ris t es (knd.hash k) x hr
    have q4 := layNew_led t es (knd.hash k) x
    generalize layNew t es (knd.hash k) x = Y at q1 q2 q3 q4 ⊢
    obtain ⟨fs, u, wasD, gave⟩ := Y
    dsimp only at q1 q2 q3 q4 ⊢
    rw [Array.toList_push] at q1
    obtain ⟨ls, pl, pr'⟩ := paired_perm (q1.trans (List.perm_append_singleton _ _)) (.cons (F := ElK knd) (show ElK knd (knd.hash k, x) k from ⟨hk, rfl, hsc⟩) pr)
    have nd' : ls.Nodup := pl.nodup_iff.mpr (List.nodup_cons.mpr ⟨z2, nd⟩)
    have sz : fs.size = ks.length + 1 := by rw [← Array.length_toList, Paired.length pr', pl.length_eq]; rfl
    have hb2 : fs.size < scanBound := by omega
    have led : w.params.followText "set-order" = true ∨ u.led = true := hl.imp id fun z => by rw [q4]; exact z
    have fin : ∀ h' ls', Heap.SameBut a s.heap h' → ls'.Perm ls → SgAt knd h' a ls' → Q true { s with heap := h' } := fun h' ls' sb p r => hQ h' ls' true sb (.inr ⟨z2, p.trans pl⟩) r
    refine wpAny_bind (give _ ?_)
    split
    · refine wpAny_bind ?_
      rw [hashByValue_scannable 8 hsc]
      refine wpAny_pure ?_
      refine sg_store (knd := knd) (ls := ls) ?_ ho hx hd pr' nd' hb2 ?_ ?_ ?_ ?_
      · intro b s1 Z q; cases b <;> first | exact wpAny_pure q | exact wpAny_rule q
      · first | (split <;> first | exact q2 | exact SetTable.fits_plain_off q2) | exact q2
      · first | (split <;> exact q3) | exact q3
      · first | (split <;> exact led) | exact led
      · intro h' ls' sb p r
        dsimp only
        exact wpAny_pure (fin h' ls' sb p r)
    · refine wpAny_bind (wpAny_pure ?_)
      simp only [↓reduceIte]
      refine sg_store (knd := knd) (ls := ls) ?_ ho hx hd pr' nd' hb2 q2 q3 led ?_
      · intro b s1 Z q; cases b <;> first | exact wpAny_pure q | exact wpAny_rule q
      · intro h' ls' sb p r
        dsimp only
        exact wpAny_pure (fin h' ls' sb p r)
  · rw [z1]
    dsimp only
    exact wpAny_pure (wpAny_pure (hQ s.heap ks false (Heap.SameBut.refl a s.heap) (.inl ⟨z2, rfl⟩) ⟨o, es, ep, t, ho, hx, hd, pr, nd, hb, hf, hr, hl⟩))
/-- what stands behind the first i items -/
def Upto (xs ks : List Kt) : Prop := ∀ k, k ∈ ks ↔ k ∈ xs
theorem upto_more {xs ks ks' : List Kt} {x : Kt} (u : Upto xs ks) (a : Added ks x ks') : Upto (xs ++ [x]) ks' := fun k => by
  rw [List.mem_append, List.mem_singleton, ← u k]
  rcases a with ⟨h, e⟩ | ⟨_, p⟩
  · rw [e]
    exact ⟨.inl, fun z => z.elim (fun z => z) fun z => z ▸ h⟩
  · rw [p.mem_iff, List.mem_cons]
    exact Or.comm
theorem added_len {ks ks' : List Kt} {x : Kt} {n : Nat} (a : Added ks x ks') (h : ks.length ≤ n) : ks'.length ≤ n + 1 := by
  rcases a with ⟨_, e⟩ | ⟨_, p⟩
  · rw [e]; omega
  · rw [p.length_eq, List.length_cons]; omega
theorem sg_update {I : Addr} {fp wr : List Addr} {Gs : Array GenState → Array GenState → Prop} {n : Nat} {Pv : Nat → Value → Prop} {St : Nat → Shared → Prop} {Z : Result → Shared → Prop} (Wk : WalksS P w A.in1 I fp wr Gs n Pv St) (D : Addr) (hD : D ∉ fp) (xs : List Kt) (hn : n = xs.length)
    (hb : xs.length + 1 < scanBound) (hv : ∀ i v, Pv i v → ∃ k, xs[i]? = some k ∧ knd.is k v = true ∧ v.scannable = true) : ∀ (m i : Nat) (s : Shared), n - i = m → i ≤ n → St i s → (∃ ks, ks.length ≤ i ∧ Upto (xs.take i) ks ∧ SgAt knd s.heap D ks) →
      (∀ s' ks, Moved (D :: wr) Gs s s' → ks.length ≤ n → Upto xs ks → SgAt knd s'.heap D ks → Z (.ok (.ret .none)) s') → codeAny (model P w) A (.builtin "set.update.loop" ⟨[.ref D, .ref I], []⟩) Z s := by
  have out : D ∉ wr := fun z => hD (Wk.sub _ z)
  have more : ∀ b ∈ wr, b ∈ D :: wr := fun b z => List.mem_cons_of_mem _ z
  intro m
  induction m with
  | zero =>
    intro i s hm hi hs ⟨ks, c1, c2, R⟩ hZ
    have ei : i = n := by omega
    subst ei
    refine codeAny_builtin PyProof.Rows.F.entry_set_update_loop ?_
    rw [Around.under_plainId PyProof.Rows.F.plain_set_update_loop _]
    refine (show wpAny _ A.in1 (pyNext (.ref I) >>= _) _ _ s from wpAny_bind (Wk.done s _ _ hs fun s' mv => ?_))
    have e : xs.take i = xs := List.take_of_length_le (by omega)
    rw [e] at c2
    exact (show wpAny _ A.in1 (ret Value.none) _ _ s' from wpAny_pure (hZ s' ks (mv.mono more) c1 c2 (R.at fun o z => mv.heap D o out z)))
  | succ m ih =>
    intro i s hm hi hs ⟨ks, c1, c2, R⟩ hZ
    have hl : i < n := by omega
    refine codeAny_builtin PyProof.Rows.F.entry_set_update_loop ?_
    rw [Around.under_plainId PyProof.Rows.F.plain_set_update_loop _]
    refine (show wpAny _ A.in1 (pyNext (.ref I) >>= _) _ _ s from wpAny_bind (Wk.item i s _ _ hl hs fun v s' hp hs' mv => ?_))
    obtain ⟨k, hk, hik, hsc⟩ := hv i v hp
    have R' : SgAt knd s'.heap D ks := R.at fun o z => mv.heap D o out z
    refine (show wpAny _ A.in1 (holding [v] (setAdd D v) >>= _) _ _ s' from wpAny_bind (wpAny_holding ?_))
    unfold setAdd
    refine wpAny_holding (wpAny_bind (knd.pyHash hik (sg_add (s := { s' with toks := s'.toks + 1 }) R' hik hsc (by omega) fun h' ks' b sb ad R2 => ?_)))
    have up : Upto (xs.take (i + 1)) ks' := by
      rw [List.take_add_one, hk]
      exact upto_more c2 ad
    refine wpAny_pure ⟨plainId_quiet PyProof.Rows.F.plain_set_update_loop _, ih (i + 1) _ (by omega) hl (Wk.frame _ s' _ _ hs' (Nat.le_succ _) fun b hb o e => ?_) ⟨ks', added_len ad c1, up, R2⟩ fun s'' ks2 mv2 c3 c4 R3 => ?_⟩
    · rw [sb.2 b (fun z : b = D => hD (by rw [← z]; exact hb))]
      exact e
    · refine hZ s'' ks2 (Moved.trans Wk.gtrans ((mv.mono more).then_heap (Nat.le_succ _) fun b o hb e => ?_) mv2) c3 c4 R3
      rw [sb.2 b (fun z : b = D => hb (by rw [z]; exact List.mem_cons_self))]
      exact e
/-- a set just made -/
abbrev newSet (w : World) : Obj := { cls := .type "set", dict := none, data := .set #[] 0 (.fresh 0 0 (!w.params.followText "set-order")) }
theorem sg_new {h : Heap} {a : Addr} (ho : h.get? a = some (newSet w)) : SgAt knd h a [] :=
  ⟨_, #[], 0, _, ho, ⟨rfl, rfl, rfl⟩, rfl, .nil, List.nodup_nil, (by decide), rfl, List.Pairwise.nil, by
    show _ ∨ (!w.params.followText "set-order") = true
    cases w.params.followText "set-order" <;> simp⟩
end
section
set_option maxHeartbeats 3200000
variable {P : Program} {w : World} {Kt : Type} [DecidableEq Kt] {knd : KeyKind P w Kt} {A : Around} {E : Value → Shared → Prop} {s : Shared}
theorem sg_list {l : Addr} {its : Array Value} (xs : List Kt) {Q : Value → Shared → Prop} (hh : A.handled = none) (hl : s.heap.IsList l its) (hsz : its.size = xs.length) (hit : ∀ (i : Nat) (v : Value), its[i]? = some v → ∃ k, xs[i]? = some k ∧ knd.is k v = true ∧ v.scannable = true) (hb : xs.length + 1 < scanBound)
    (h : ∀ (h' : Heap) (tk : Nat) (ks : List Kt), SgAt knd h' s.heap.objs.size ks → ks.length ≤ xs.length → Upto xs ks → (∀ b o, s.heap.get? b = some o → h'.get? b = some o) → Q (.ref s.heap.objs.size) { s with heap := h', toks := tk }) : wpAny (model P w) A (call (.type "set") [.ref l]) Q E s := by
  obtain ⟨c, tl, hmro⟩ := PySem.F.called_set.mro
  have hmade := PySem.F.called_set.made
  have hsub := PySem.F.called_set.sub
  refine wpAny_call (codeAny_of_tree ?_)
  refine (show wpAny _ _ (callAny (.type "set") _) _ _ _ from wpAny_pure ⟨Code.quiet_builtin _ (by decide +kernel), codeAny_builtin PySem.F.entry_type_call ?_⟩)
  rw [Around.under_plain (weight_type_call_type "set" [.ref l] []) rfl]
  have h1 := PySem.F.called_set.notType
  have h2 := PySem.F.called_set.canCreate
  have hct := PySem.F.typeCall_set_1 (.ref l)
  repeat (any_goals (first | assumption | wp_step))
  refine codeAny_mono (code_set_led1 (.ref l) (E := E) (Q₁ := fun obj s1 => obj = .ref s.heap.objs.size ∧ s1 = { s with heap := s.heap.push (newSet w) }) ⟨rfl, rfl⟩) fun r s1 hr => ?_
  cases r with
  | error e => exact hr
  | ok fl =>
    cases fl with
    | ret obj =>
      obtain ⟨rfl, rfl⟩ := hr
      have hS : (s.heap.push (newSet w)).get? s.heap.objs.size = some (newSet w) := Heap.get?_push_size _ rfl
      have hT : Shared.TypeIs { s with heap := s.heap.push (newSet w) } (.ref s.heap.objs.size) "set" := ⟨_, hS, rfl⟩
      have hli := PySem.F.called_set.init.lookup
      have hbi := PySem.F.called_set.init.bind (.ref s.heap.objs.size)
      repeat (any_goals (first | assumption | wp_step))
      refine codeAny_mono (codeAny_call_builtin (R := wants (fun r s2 => r = .none ∧ ∃ h' tk ks, s2 = { s with heap := h', toks := tk } ∧ SgAt knd h' s.heap.objs.size ks ∧ ks.length ≤ xs.length ∧ Upto xs ks ∧ (∀ b o, s.heap.get? b = some o → h'.get? b = some o)) E) PySem.F.called_set.init.plain PySem.F.entry_set_init (check_set_init_1 hT ?_)) fun r2 s2 hr2 => ?_
      · obtain ⟨ol, hol, hcl, nl, hdl⟩ := hl
        obtain ⟨oc, od, odt, osl⟩ := ol
        simp only at hcl hdl
        subst hcl
        subst hdl
        have hol' : (s.heap.push (newSet w)).get? l = some { cls := .type "list", dict := od, data := .seq its nl, slots := osl } := Heap.get?_push_of_some _ hol
        have k1 := PySem.F.sub_list_set
        have k2 := PySem.F.sub_list_frozenset
        have k3 : (Value.type "list" == Value.type "dict") = false := by decide
        have hl1 : (s.heap.push (newSet w)).IsList l its := ⟨_, hol', rfl, nl, rfl⟩
        unfold Builtin.«set.__init__» noKeywords Builtin.Frozenset.updateFrom
        generalize hPI : pyIter = PI
        wp_walk
        subst hPI
        refine wpAny_pyIter_list hl1 (wpAny_bind (wpAny_runValue ?_))
        have lt : l < s.heap.objs.size := Heap.lt_size hol
        have hn3 : A.in1.in1.in1.handled = none := by simp [hh]
        have nj : l ≠ (s.heap.push (newSet w)).objs.size := by
          rw [Heap.size_push]
          exact Nat.ne_of_lt (Nat.lt_succ_of_lt lt)
        have nf : s.heap.objs.size ∉ [(s.heap.push (newSet w)).objs.size, l] := by
          rw [Heap.size_push]
          simp only [List.mem_cons, List.not_mem_nil, or_false, not_or]
          exact ⟨Nat.ne_of_lt (Nat.lt_succ_self _), Nat.ne_of_gt lt⟩
        refine sg_update (knd := knd) ((Walks.list hn3 _ l nj its).toS) s.heap.objs.size nf xs hsz hb hit (its.size - 0) 0 _ (by omega) (Nat.zero_le _) ⟨⟨_, Heap.get?_push_size _ rfl, rfl, rfl⟩, (hl1.push _)⟩ ⟨[], Nat.le_refl _, fun k => by simp, sg_new (Heap.get?_push_of_some _ hS)⟩ ?_
        intro s' ks mv c1 c2 R
        obtain ⟨h', g2, d', tk', os'⟩ := s'
        have eg : g2 = s.gens := mv.gens
        have ed : d' = s.drawn := mv.drawn
        have eo : os' = s.os := mv.os
        subst eg ed eo
        refine (show wpAny _ _ _ _ _ _ from wpAny_pure ?_)
        refine (show wpAny _ _ (ret Value.none) _ _ _ from wpAny_pure ⟨rfl, h', tk', ks, rfl, R, by rw [← hsz]; exact c1, c2, fun b o e => ?_⟩)
        have hb0 : b < s.heap.objs.size := Heap.lt_size e
        have hb2 : b ≠ (s.heap.push (newSet w)).objs.size := by
          rw [Heap.size_push]
          exact Nat.ne_of_lt (Nat.lt_succ_of_lt hb0)
        exact mv.heap b o (by simp only [List.mem_cons, List.not_mem_nil, or_false, not_or]; exact ⟨Nat.ne_of_lt hb0, hb2⟩) (Heap.get?_push_of_some _ (Heap.get?_push_of_some _ e))
      · cases r2 with
        | error e => exact hr2
        | ok fl2 =>
          cases fl2 with
          | ret r =>
            obtain ⟨rfl, h', tk, ks, rfl, R, c1, c2, kp⟩ := hr2
            repeat (any_goals (first | assumption | wp_step))
            exact h _ _ _ R c1 c2 kp
          | _ => exact hr2.elim
    | _ => exact hr.elim
/-- sorted(a set of texts) -/
theorem sg_sorted {a : Addr} {ks : List Str} {Q : Value → Shared → Prop} (R : SgAt (PySem.strKind P w) s.heap a ks) (hh : A.handled = none) (h64 : ks.length < 64)
    (hQ : ∀ s' p (out : Array Value) (c : Nat) (ys : List Str), (∀ b o, s.heap.get? b = some o → s'.heap.get? b = some o) → s'.gens = s.gens → s'.os = s.os → s.heap.objs.size ≤ p → s'.heap.get? p = some (seqObj "list" out c) → StrsAre out.toList ys → ys.Perm ks → sortedS ys = true → Q (.ref p) s') :
    wpAny (model P w) A (call (.builtin "sorted") [.ref a]) Q E s := by
  obtain ⟨o, es, ep, t, ho, hx, hd, pr, nd, hb, hf, hr, hl⟩ := R
  refine Calls.call_function_entry kind_sorted plain_sorted entry_sorted (args_sorted1 _) ?_
  unfold Builtin.«sorted»
  refine wpAny_bind (m := checkCount "sorted" 1 1 _) (wpAny_pure (wpAny_bind (collect_set (A := A.in1) hh ⟨o, ho, hx.1, hd⟩ hf hb hr hl fun s1 vs k1 hz g1 o1 pm => ?_)))
  obtain ⟨ms, pm2, pr2⟩ := paired_perm pm (m := ks) (F := fun v k => (PySem.strKind P w).is k v = true) (by
    have go : ∀ {es : List (Int × Value)} {ks : List Str}, Paired (ElK (PySem.strKind P w)) es ks → Paired (fun v k => (PySem.strKind P w).is k v = true) (es.map (·.2)) ks := by
      intro es ks h
      induction h with
      | nil => exact .nil
      | cons q _ ih => exact .cons q.1 ih
    exact go pr)
  have hS : StrsAre vs ms := by
    have go : ∀ {vs : List Value} {ms : List Str}, Paired (fun v k => (PySem.strKind P w).is k v = true) vs ms → StrsAre vs ms := by
      intro vs ms h
      induction h with
      | nil => exact .nil
      | @cons v k _ _ q _ ih =>
        have q' : v.isStrOf k = true := q
        cases v with
        | str y t =>
          have e : y = k := by simpa [Value.isStrOf] using q'
          subst e
          exact .cons y t ih
        | _ => cases q'
    exact go pr2
  have hvl : vs.length = ks.length := by rw [Paired.length pr2, pm2.length_eq]
  refine wpAny_bind (wpAny_newList ?_ (by rw [hvl, sizeLine_eq]; omega))
  have hoL : (s1.heap.push (seqObj "list" vs.toArray 0)).get? s1.heap.objs.size = some (seqObj "list" vs.toArray 0) := Heap.get?_push_size _ rfl
  refine wpAny_bind (wpAny_holding (wpAny_call_entry slot_list_sort ⟨_, hoL, rfl⟩ entry_list_sort (list_sort_treeK strKind_oneLt hoL hS.keysOf (fun v₁ v₂ rest e => keyKind_strs (by rw [← e]; exact hS)) (by rw [hvl]; exact h64) fun st' hp hs => ⟨_, rfl, ?_⟩) (args_list_sort _)))
  obtain ⟨ys, a1, a2, a3⟩ := sorted_out_str hS hp hs
  obtain ⟨c, hc⟩ := sortedHeap_at (vs := vs) (out := (arrOf st').map (·.2)) hoL
  refine wpAny_pure ⟨_, rfl, hQ _ s1.heap.objs.size _ c ys (fun b u e => ?_) g1 o1 hz hc a1 (a2.trans pm2) a3⟩
  have q := k1 b u e
  have lt := Heap.lt_size q
  show (sortedHeap (s1.heap.push (seqObj "list" vs.toArray 0)) s1.heap.objs.size vs ((arrOf st').map (·.2))).get? b = some u
  rw [sortedHeap_old (Nat.ne_of_lt lt) (by rw [size_push']; exact Nat.lt_succ_of_lt lt)]
  exact Heap.get?_push_of_some _ q
end

/-! ### sorted(set(a list of texts)) -/
/-- each once -/
def once : List Str → List Str
  | [] => []
  | x :: r => if x ∈ once r then once r else x :: once r
theorem once_mem {k : Str} : ∀ xs : List Str, k ∈ once xs ↔ k ∈ xs
  | [] => .rfl
  | x :: r => by
    unfold once
    have ih := once_mem (k := k) r
    split
    · rename_i h
      rw [ih, List.mem_cons]
      exact ⟨.inr, fun z => z.elim (fun z => by rw [z]; exact (once_mem r).mp h) fun z => z⟩
    · rw [List.mem_cons, List.mem_cons, ih]
theorem once_nodup : ∀ xs : List Str, (once xs).Nodup
  | [] => List.nodup_nil
  | x :: r => by
    unfold once
    split
    · exact once_nodup r
    · rename_i h
      exact List.nodup_cons.mpr ⟨h, once_nodup r⟩
def SetO (P : Program) (w : World) (a : Addr) (ks : List Str) : HO := .ext fun h => SgAt (PySem.strKind P w) h a ks
section
variable {X : Cx} {G : Gx} {W : WX} {pos p q qos : Pos} {e : Expr} {ra : Run}
def rSetS (K : PySem.W.Frag) (P : Program) (w : World) : List V → Hp → VK → Prop := fun vs H Q => ∃ (a : Addr) (xs : List Str), vs = [V.ref a] ∧ SqL K H a (xs.map V.str) ∧ xs.length + 1 < scanBound ∧ ∀ (b : Addr) (ks : List Str), H b = none → ks.Nodup → Upto xs ks → Q (.ref b) (upd H b (SetO P w b ks))
theorem cr_setS (hc : X.calm = true) : CallR X (.type "set") (rSetS X.K X.prog X.w) := by
  intro pins s σ H vs us Q I r h
  obtain ⟨a, xs, rfl, hs, hb, k⟩ := h
  obtain ⟨its, rv, hl, _⟩ := I.list hs
  rw [Vals.ref1 r]
  have sv := rv.strs
  have sz : its.toArray.size = xs.length := by rw [List.size_toArray]; exact sv.length
  refine sg_list (knd := PySem.strKind X.prog X.w) xs (I.ok.hd hc) hl.isList sz (fun i v hv => ?_) hb fun h' tk ks R c1 c2 kp => ?_
  · obtain ⟨y, t, rfl, hy⟩ := sv.item i v (by simpa using hv)
    exact ⟨y, hy, PySem.strKind_is _ _ y t, rfl⟩
  · obtain ⟨o, es, ep, t, ho, hx, hd, pr, nd, rest⟩ := id R
    have hp := I.hok.fresh (Nat.le_refl s.heap.objs.size)
    refine ⟨.ref s.heap.objs.size, upd H s.heap.objs.size (SetO X.prog X.w s.heap.objs.size ks), I.laid (t' := tk) kp (Nat.le_refl _) ⟨R, ⟨o, ho⟩, fun h1 h2 z k2 => SgAt.at z k2⟩, rfl, k _ ks hp nd c2⟩
def rSortSet (P : Program) (w : World) : List V → Hp → VK → Prop := fun vs H Q => ∃ (a : Addr) (ks : List Str), vs = [V.ref a] ∧ H a = some (SetO P w a ks) ∧ ks.length < 64 ∧ ∀ (ys : List Str) (b : Addr), ys.Perm ks → sortedS ys = true → H b = none → Q (.ref b) (upd H b (.lst (ys.map V.str)))
theorem cr_sortSet (hc : X.calm = true) : CallR X (.builtin "sorted") (rSortSet X.prog X.w) := by
  intro pins s σ H vs us Q I r h
  obtain ⟨a, ks, rfl, ha, h64, k⟩ := h
  rw [Vals.ref1 r]
  obtain ⟨R, _, _⟩ := (show ObjOk X.prog X.w H s.heap a (SetO X.prog X.w a ks) from I.hok a _ ha)
  refine sg_sorted R (I.ok.hd hc) h64 fun s' b out c ys kp g1 o1 hz hb hS hp hs => ?_
  have hlen : (ys.map V.str).length ≤ sizeLine := by rw [List.length_map, hp.length_eq]; exact small64 h64
  obtain ⟨h', gs', dr', tk', os'⟩ := s'
  have eg : gs' = s.gens := g1
  have eo : os' = s.os := o1
  subst eg eo
  have I2 : Inv X pins σ H { s with drawn := dr' } := ⟨I.ok, I.os, I.bare, I.base, I.loc, I.cell, I.free, I.freeC, I.pin, I.hok, I.len⟩
  exact ⟨.ref b, upd H b (.lst (ys.map V.str)), I2.laid (a := b) (t' := tk') kp hz ⟨hlen, out.toList, c, vals_of_strs hS, hb⟩, rfl, k ys b hp hs (I.hok.fresh hz)⟩
def dSortSet (S : Sto) (d : D) : Option (List D) := (asL S d).bind fun xs => (txts xs).bind fun bs => if bs.length < 64 then some ((sortS (once bs)).map .str) else none
def rSortSetD (ra : Run) : Run := fun ρ S => (ra ρ S).bind fun d S1 => match dSortSet S1 d with
  | some xs => .ok (.lst xs) S1
  | none => .no
theorem once_le : ∀ xs : List Str, (once xs).length ≤ xs.length
  | [] => Nat.le_refl _
  | x :: r => by
    have := once_le r
    unfold once
    split
    · rw [List.length_cons]; omega
    · rw [List.length_cons, List.length_cons]; omega
theorem u_sortSet (hc : X.calm = true) (b1 : Bl X "sorted" (.builtin "sorted")) (b2 : Bl X "set" (.type "set")) (ha : PE X e (tI G W ra)) (he : starEach [.Call (.Name "set" q) [e] [] qos] X.env = (false, eval (.Call (.Name "set" q) [e] [] qos) X.env) :: starEach [] X.env)
    (he2 : starEach [e] X.env = (false, eval e X.env) :: starEach [] X.env) (hpl : (backTo pos (starEach [] X.env)).any (·.1) = false) (hpl2 : (backTo qos (starEach [] X.env)).any (·.1) = false) : PE X (.Call (.Name "sorted" p) [.Call (.Name "set" q) [e] [] qos] [] pos) (tI G W (rSortSetD ra)) := by
  obtain ⟨hg, hm, hv, hn, hd, _⟩ := b1
  obtain ⟨hg2, hm2, hv2, hn2, hd2, _⟩ := b2
  have inner := pe_callTy (p := q) (pos := qos) (cr_setS hc) hg2 hm2 hv2 (pa_cons ha pa_nil he2) hn2 hd2 he2 hpl2
  refine peImp (pe_callB (cr_sortSet hc) hg hm hv (pa_cons inner pa_nil he) hn hd he hpl) fun σ H Q ⟨μ, ρ, S, R, s, f⟩ => ⟨μ, ρ, S, R, s, (Fin.bind f).mono fun x H1 ⟨μ1, d, S1, m, R1, q1, f1⟩ => ?_⟩
  dsimp only at f1
  split at f1
  · rename_i xs ex
    obtain ⟨ys, hl, ex⟩ := Option.bind_eq_some_iff.mp ex
    obtain ⟨bs, hb, ex⟩ := Option.bind_eq_some_iff.mp ex
    split at ex
    · rename_i c
      cases ex
      obtain ⟨a, vs, rfl, h1, h2⟩ := asL_sq R1 hl q1
      have ev := txts_rel hb h2
      rw [ev] at h1
      refine ⟨a, bs, rfl, .inl h1, by unfold scanBound; omega, fun b ks hn nd up => ?_⟩
      have pm : ks.Perm (once bs) := (List.perm_ext_iff_of_nodup nd (once_nodup bs)).mpr fun k => (up k).trans (once_mem bs).symm
      refine ⟨b, ks, rfl, upd_same, by rw [pm.length_eq]; exact Nat.lt_of_le_of_lt (once_le bs) c, fun ys b2 hp hs hn2 => ?_⟩
      rw [sortS_uniq (hp.trans pm) hs]
      have m1 := Mo.new (μ := μ1) (o := SetO X.prog X.w b ks) hn
      have R2 := R1.new (o := SetO X.prog X.w b ks) hn
      exact f1 μ1 _ _ (m1.trans (Mo.new hn2)) (R2.new hn2) (.of (by rw [DR]; exact ⟨b2, _, rfl, ⟨.inl upd_same, R2.fresh hn2⟩, txts_drs _⟩))
    · cases ex
  · exact f1.elim
end
end Mt


set_option Elab.async false
set_option maxRecDepth 100000
set_option autoImplicit false
set_option linter.all false
set_option maxHeartbeats 2000000
/-! An own error (over an own base over ValueError) whose __init__ says super().__init__("..") and keeps its argument. -/
namespace Mt
open PySem PySem.W PySem.Calls PyProof.Rows PySem.HandSPX
abbrev bwV (x : Addr) : Obj := { cls := .type "method-wrapper", dict := none, data := .fields #[.builtin "ValueError.__init__", .ref x], slots := #[] }
theorem vi_type : typeOf (.builtin "ValueError.__init__") = pure (.type "wrapper_descriptor") := by show builtinType _ = _; rw [builtinType_eq_fast]; kernel_rfl
theorem vi_nac : (kfb_private% "nameAndClass") (Value.builtin "ValueError.__init__") = (pure (("__init__" : Str), Value.type "ValueError") : Sem (Str × Value)) := by kernel_rfl
section
variable {prog : Program} {w : World} {M : Model} {A : Around} {E : Value → Shared → Prop} {h : Heap} {g : Array GenState} {d : Drawn} {t : Nat} {os : OsState}
theorem vi_run {x C : Addr} {Z : PySem.Fin → Shared → Prop} (hin : Looks M h (isInstance (.ref x) (.type "ValueError")) true) (hq : Z (.done (.ret (.ref h.objs.size))) ⟨h.push (bwV x), g, d, t, os⟩) :
    wpAny M A (Builtin.«wrapper_descriptor.__get__» ⟨[.builtin "ValueError.__init__", .ref x, .ref C], []⟩) Z E ⟨h, g, d, t, os⟩ := by
  unfold Builtin.«wrapper_descriptor.__get__»
  refine wpAny_bind (wpAny_of_eq (a := (.builtin "ValueError.__init__", some (.ref x), some (.ref C))) (by first | rfl | kernel_rfl) ?_)
  refine (show wpAny M A ((kfb_private% "checkInstance") (.builtin "ValueError.__init__") (.ref x) >>= fun _ => newFields "method-wrapper" [.builtin "ValueError.__init__", .ref x] >>= fun r => ret r) Z E _ from wpAny_bind ?_)
  refine (show wpAny M A ((kfb_private% "nameAndClass") (.builtin "ValueError.__init__") >>= _) _ E _ from wpAny_bind (wpAny_of_eq vi_nac ?_))
  refine (show wpAny M A (isInstance (.ref x) (.type "ValueError") >>= _) _ E _ from wpAny_bind (hin.at (KFB.if_not rfl (wpAny_pure (wpAny_bind (wpAny_newObj_type (wpAny_pure hq)))))))
theorem vi_ga {so D x C : Addr} {l₀ l : List Value} {K : Frag} {name : Str} {tk : Tok} {Q : PySem.Fin → Shared → Prop} (hso : h.get? so = some (ks_superObj D x C)) (hno : Looks (model prog w) h (opaqueClassAbove (.ref C)) none)
    (hC : Looks (model prog w) h (mroOf (.ref C)) l₀) (hl : (l₀.dropWhile (· != .ref D)).drop 1 = l) (X : K.In h) (hf : alongIn K name l = some (some (.builtin "ValueError.__init__"))) (hxC : x ≠ C) (hn : (name == ("__class__" : Str)) = false)
    (hin : Looks (model prog w) h (isInstance (.ref x) (.type "ValueError")) true) (hq : Q (.done (.ret (.ref h.objs.size))) ⟨h.push (bwV x), g, d, t, os⟩) : wpAny (model prog w) A (Builtin.«super.__getattribute__» ⟨[.ref so, .str name tk], []⟩) Q E ⟨h, g, d, t, os⟩ := by
  have hlk := ESX.slot_wd.lookup
  have hne : (Value.ref x == Value.ref C) = false := by simp [hxC]
  have ty := vi_type
  have hti : Shared.TypeIs ⟨h, g, d, t, os⟩ (.builtin "ValueError.__init__") "wrapper_descriptor" := vi_type
  have hdt : (ks_superObj D x C).data = .fields #[.ref D, .ref x, .ref C] := rfl
  have e0 : (#[.ref D, .ref x, .ref C] : Array Value)[0]? = some (.ref D) := rfl
  have e1 : (#[.ref D, .ref x, .ref C] : Array Value)[1]? = some (.ref x) := rfl
  have e2 : (#[.ref D, .ref x, .ref C] : Array Value)[2]? = some (.ref C) := rfl
  unfold Builtin.«super.__getattribute__»
  repeat (first
    | (with_reducible refine wpAny_field hso hdt e0 ?_) | (with_reducible refine wpAny_field hso hdt e1 ?_) | (with_reducible refine wpAny_field hso hdt e2 ?_)
    | (with_reducible refine ks_wpAny_notOpaque hno ?_) | (with_reducible refine Looks.at hC ?_; rw [hl]) | (refine ks_forIn_along X (fun _ _ => rfl) rfl ?_ hf)
    | (with_reducible refine wpAny_call_entry ESX.slot_wd hti ESX.entry_wd ?_ (ESX.args_wd _ _ _)) | (with_reducible refine vi_run hin ?_) | (with_reducible refine ⟨_, rfl, ?_⟩)
    | (simp only [hn, hne, Bool.or_false, Bool.false_eq_true, if_false]) | wp_step | dsimp only)
  all_goals exact hq
theorem vi_getMethod {so D x C : Addr} {l₀ l : List Value} {K : Frag} {name : Str} {pl : Sem Bool} {Q : Value × List Value → Shared → Prop} (hso : h.get? so = some (ks_superObj D x C)) (hno : Looks (model prog w) h (opaqueClassAbove (.ref C)) none)
    (hC : Looks (model prog w) h (mroOf (.ref C)) l₀) (hl : (l₀.dropWhile (· != .ref D)).drop 1 = l) (X : K.In h) (hf : alongIn K name l = some (some (.builtin "ValueError.__init__"))) (hxC : x ≠ C) (hn : (name == ("__class__" : Str)) = false)
    (hin : Looks (model prog w) h (isInstance (.ref x) (.type "ValueError")) true) (hq : Q (.ref h.objs.size, []) ⟨h.push (bwV x), g, d, t + 1, os⟩) : wpAny (model prog w) A (getMethod (.ref so) name pl) Q E ⟨h, g, d, t, os⟩ := by
  have hlk := F.ks_slot_super_ga.lookup
  have ty : ∀ t', (⟨h, g, d, t', os⟩ : Shared).TypeIs (.ref so) "super" := fun _ => ⟨_, hso, rfl⟩
  unfold getMethod
  refine wpAny_bind (wpAny_specialOf (ty _) hlk ?_)
  show wpAny _ _ (if (Manifest.canonical "super.__getattribute__" != "object.__getattribute__") = true then _ else _) _ _ ⟨h, g, d, t, os⟩
  rw [if_pos F.ks_canon_super_ga]
  unfold getAttr getAttrBy
  refine wpAny_bind (wpAny_bind (wpAny_mkText (wpAny_holding (wpAny_bind (wpAny_typeOf (ty _) (wpAny_bind (wpAny_of_eq hlk ?_)))))))
  show wpAny _ _ (getAttrByItsOwn (.ref so) (.str name t) (.type "super") (.builtin "super.__getattribute__") true false) _ _ ⟨h, g, d, t + 1, os⟩
  unfold getAttrByItsOwn hookBefore callGetattribute boundAndCalled
  refine wpAny_bind (wpAny_of_eq (show (if onTheHeap (.type "super") then typeLookup (.type "super") "__getattr__" else pure none) = pure none from rfl) (wpAny_bind (wpAny_attempt (wpAny_holding ?_))))
  refine (show wpAny _ _ (bindSpecial (.builtin "super.__getattribute__") (.ref so) >>= _) _ _ ⟨h, g, d, t + 1, os⟩ from wpAny_bind (wpAny_of_eq (F.ks_slot_super_ga.bind _) ?_))
  refine wpAny_mono (Q := fun v s' => v = .ref h.objs.size ∧ s' = ⟨h.push (bwV x), g, d, t + 1, os⟩) (E := fun _ _ => False)
    (wpAny_call_entry F.ks_slot_super_ga (ty _) F.ks_entry_super_ga (vi_ga hso hno hC hl X hf hxC hn hin ⟨_, rfl, rfl, rfl⟩) (F.ks_gaArgs_super _ _)) (fun v s' hv => ?_) fun _ _ z => z.elim
  obtain ⟨rfl, rfl⟩ := hv
  exact wpAny_pure (wpAny_pure hq)
end
section
variable {prog : Program} {w : World} {M : Model} {A : Around} {E : Value → Shared → Prop} {s : Shared}
theorem vi_with {pos : Pos} {u x : Addr} {first : List Value} {args : List (Bool × Sem Value)} {Q : Value → Shared → Prop} (hp : args.any (·.1) = false) (h : wpAny M A (evalArgs (.ref u) true args []) (fun a s1 => s1.heap.get? u = some (bwV x) ∧ wpAny M A (call (.ref u) (first ++ a.pos) a.kw) Q E s1) E s) :
    wpAny M A (callWith pos (.ref u) first args []) Q E s := by
  unfold callWith
  refine wpAny_bind (wpAny_holding (wpAny_mono h (fun a s1 h1 => wpAny_bind (wpAny_standAt ?_)) fun _ _ x => x))
  obtain ⟨ho, hcall⟩ := h1
  simp only [hp, List.any_nil, Bool.or_false]
  refine wpAny_bind (m := keeperOf (.ref u)) ?_
  unfold keeperOf
  refine wpAny_bind (wpAny_load ho ?_)
  have c1 : (Value.type "method-wrapper" != Value.type "method") = true := by decide
  have c2 : (Value.type "method-wrapper" == Value.type "builtin_function_or_method" || Value.type "method-wrapper" == Value.type "method-wrapper") = true := by decide
  simp only [bwV, c1, c2, if_true]
  refine wpAny_pure (wpAny_bind (wpAny_mono hcall (fun r s2 hr => wpAny_bind (wpAny_holding (wpAny_point (wpAny_pure hr)))) fun _ _ x => x))
theorem vi_callWith {pos : Pos} {u x : Addr} {first : List Value} {env : Env} {e : Expr} {rest : List Expr} {Q : Value → Shared → Prop} (h : wpAny M A (spliced (backTo pos (starEach (e :: rest) env))) (fun vs s1 => s1.heap.get? u = some (bwV x) ∧ wpAny M A (call (.ref u) (first ++ vs)) Q E s1) E s)
    (he : starEach (e :: rest) env = (false, eval e env) :: starEach rest env) (hplain : (backTo pos (starEach rest env)).any (·.1) = false) : wpAny M A (callWith pos (.ref u) first (backTo pos (starEach (e :: rest) env)) []) Q E s := by
  rw [he] at h ⊢
  refine vi_with (x := x) (show (false || (backTo pos (starEach rest env)).any (·.1)) = false by rw [hplain]; rfl) ?_
  exact evalArgs_plain h
end
section
variable {prog : Program} {w : World} {A : Around} {E : Value → Shared → Prop} {h : Heap} {g : Array GenState} {d : Drawn} {t : Nat} {os : OsState}
variable {nm q : Str} {C N : Addr} {bs bm : List Value} {hdct : Bool} {sn : List Str} {sub : List Value} {ab : Bool} {col : Option Bool} {dd : Option Addr} {k0 k1 k2 k3 k5 : Option Value}
theorem vi_call {u e t0 : Addr} {rest : List Value} {Q : Value → Shared → Prop} (hC : h.get? C = some (excClassObj nm q C N bs bm hdct sn sub ab col dd k0 k1 k2 k3 k5 "ValueError.__new__")) (he : h.get? e = some (excO C t0)) (hu : h.get? u = some (bwV e)) (hrest : rest.length ≤ sizeLine)
    (hq : ∀ h' t1, (∀ b o, b ≠ e → h.get? b = some o → h'.get? b = some o) → h'.get? e = some (excO C t1) → Q .none ⟨h', g, d, t, os⟩) : wpAny (model prog w) A (call (.ref u) rest) Q E ⟨h, g, d, t, os⟩ := by
  refine wpAny_call (codeAny_of_tree (show wpAny _ A.in1 (callAny (.ref u) ⟨rest, []⟩) _ _ ⟨h, g, d, t, os⟩ from ?_))
  simp only [callAny]
  refine wpAny_bind (wpAny_load hu ?_)
  have c1 : (Value.type "method-wrapper" == Value.type "method" || Value.type "method-wrapper" == Value.type "builtin_function_or_method" || Value.type "method-wrapper" == Value.type "method-wrapper") = true := by decide
  simp only [bwV, c1, if_true]
  refine KFB.if_so (by decide) (wpAny_bind (ESX.check_bound F.excBase_ValueError hC he rfl (wpAny_bind (wpAny_pure (wpAny_pure ⟨Code.quiet_builtin _ (by decide +kernel), codeAny_builtin F.excBase_ValueError.initEntry ?_⟩)))))
  rw [Around.under_plainId F.excBase_ValueError.init.plain _]
  wp_walk
  refine hq _ h.objs.size (fun b o hb ho => ?_) ?_
  · rw [Heap.get?_update_other _ _ (Ne.symm hb)]
    exact Heap.get?_push_of_some _ ho
  · rw [Heap.get?_update_self _ (Heap.get?_push_of_some _ he) rfl]
    rfl
end

/-! ### the text of such an __init__, what the written part says -/
def xA (fld : Str) (p1 p2 : Pos) : Arguments := { posonlyargs := [], args := [{ arg := "self", annotation := none, pos := p1 }, { arg := fld, annotation := none, pos := p2 }], vararg := none, kwonlyargs := [], kw_defaults := [], kwarg := none, defaults := [] }
def xS (fld : Str) : Scope := { kind := .function, names := [("self", .local), (fld, .local), ("__class__", .free), ("super", .globalImplicit)], isGenerator := false, isCoroutine := false, more := [] }
def xB (fld msg : Str) (j : Nat) (p : Nat → Pos) : List Stmt :=
  [.Expr (.Call (.Attribute (.Call (.Name "super" (p 0)) [] [] (p 1)) "__init__" (p 2)) [.Constant (.str msg) j (p 3)] [] (p 4)) (p 5), .Assign [.Attribute (.Name "self" (p 6)) fld (p 7)] (.Name fld (p 8)) (p 9)]
/-- how the call of super().__init__ is evaluated -/
def xCall (msg : Str) (j : Nat) (p : Nat → Pos) : Prop := ∀ env : Env, ∃ pl : Sem Bool, eval (.Call (.Attribute (.Call (.Name "super" (p 0)) [] [] (p 1)) "__init__" (p 2)) [.Constant (.str msg) j (p 3)] [] (p 4)) env = (do
      let it ← attributeBase (.Call (.Name "super" (p 0)) [] [] (p 1)) "__init__" env (eval (.Call (.Name "super" (p 0)) [] [] (p 1)) env)
      standAt (p 2).atName
      let (g, more) ← holding [it] (getMethod it "__init__" pl)
      callWith (p 4) g more (backTo (p 4) (starEach [.Constant (.str msg) j (p 3)] env)) [])
/-- how its parameters are bound -/
def xBind (fld : Str) : Prop := ∀ (qual : Str) (p1 p2 : Pos) (body : List Stmt) (cl : List (Str × Addr)) (doc pm cd ct : Value) (an : Option Addr) (a v : Value), bindArgs (fnX "__init__" qual (xA fld p1 p2) body (xS fld) cl .none .none doc pm an cd ct) ⟨[a, v], []⟩ = pure [(("self" : Str), a), (fld, v)]
/-- the field's name is no other name of the scope -/
def xOk (fld : Str) : Bool := decide (fld ≠ "self") && decide (fld ≠ "__class__") && decide (fld ≠ "super") && decide (fld ≠ "__debug__")
structure XcT (K : Frag) (file : Str) (C fI : Addr) (fld : Str) : Prop where
  cls : ∃ nm q N bs bm sn sub ab col dd k0 k1 k2 k3 k5, K.lookup C = some (excClassObj nm q C N bs bm true sn sub ab col dd k0 k1 k2 k3 k5 "ValueError.__new__") ∧ refsVE bm = true ∧ alongIn K "__init__" bm = some (some (.builtin "ValueError.__init__"))
  sa : findIn K (.ref C) "__setattr__" = some (some (.builtin "object.__setattr__"))
  noN : findIn K (.ref C) fld = some none
  iC : findIn K (.ref C) "__init__" = some (some (.ref fI))
  tI : typeIn K (.ref fI) = some (.type "function")
  kC : keepIn K (.ref C) = true
  exC : subIn K (.ref C) (.type "BaseException") = some true
  tyC : typeIn K (.ref C) = some (.type "type")
  op : nsIn K cStatics "thirdparty.any" = some none
  ve : mroIn K C (.type "ValueError") = some true
  me : mroIn K C (.ref C) = some true
  fn : ∃ (oc : Value) (od : Option Addr) (doc pm : Value) (an : Option Addr) (cda : Addr) (ct : Value) (osl : Array (Option Value)) (cc : Addr) (qual msg : Str) (j : Nat) (p1 p2 : Pos) (p : Nat → Pos), K.lookup fI = some ⟨oc, od, .func (fnX "__init__" qual (xA fld p1 p2) (xB fld msg j p) (xS fld) [("__class__", cc)] .none .none doc pm an (.ref cda) ct), osl⟩ ∧ codeIn K (.ref cda) qual = true ∧
    (∃ cl cld csl, K.lookup cc = some ⟨cl, cld, .cell (some (.ref C)), csl⟩) ∧ (∃ ccl cdd vs ccs tf, K.lookup cda = some ⟨ccl, cdd, .fields vs, ccs⟩ ∧ vs[2]? = some (.str file tf)) ∧ xCall msg j p
  bd : xBind fld
  ok : xOk fld = true
/-- what __init__ leaves of a fresh one at x -/
structure XcEnd (h h' : Heap) (x C dx t1 : Addr) (fld : Str) (v : Value) : Prop where
  keep : ∀ b o, b ≠ x → h.get? b = some o → h'.get? b = some o
  obj : h'.get? x = some { cls := .ref C, dict := some dx, data := .fields #[.ref t1, .none, .none, .none, .bool false, .none] }
  dbig : h.objs.size ≤ dx
  dne : dx ≠ x
  ns : h'.Ns1 dx (fun y => if y = fld then some v else none)
section
variable {prog : Program} {w : World} {A : Around} {E : Value → Shared → Prop} {R : Result → Shared → Prop} {s : Shared} {K : Frag} {file fld : Str} {mg mb : Str → Option Value} {C fI : Addr}
theorem xc_init (T : XcT K file C fI fld) {x t0 : Addr} {v : Value} (X : K.In s.heap) (hlim : s.heap.NoLimit) (hx : s.heap.get? x = some (excO C t0)) (hnx : K.lookup x = none) (hroom : A.depth < recursionLimit)
    (hg : s.heap.Ns mainGlobals mg) (hb : s.heap.Ns builtinsNs mb) (hsm : mg "super" = none) (hsb : mb "super" = some (.type "super")) (hfile : ((prog.main.file : Str) == file) = true) (htop : (prog.main.scope.names.lookup ("super" : Str)).isSome = false)
    (hq : ∀ h' tk dx t1, XcEnd s.heap h' x C dx t1 fld v → R (.ok (.ret .none)) { s with heap := h', toks := tk }) : codeAny (model prog w) A (.call (.ref fI) ⟨[.ref x, v], []⟩) R s := by
  obtain ⟨oc, od, doc, pm, an, cda, ct, osl, cc, qual, msg, j, p1, p2, p, ho, hcd, ⟨cl, cld, csl, hcell⟩, ⟨ccl, cdd, vs, ccs, tf, hco, hvs⟩, xc⟩ := T.fn
  obtain ⟨nm, q, N, bs, bm, sn, sub, ab, col, dd, k0, k1, k2, k3, k5, hC, hbm, hal⟩ := T.cls
  have hcl : clsIn K C = some { name := nm, bases := bs, mro := .ref C :: bm, ns := N, qualname := q, hasDict := true, slotNames := sn, subclasses := sub, abstract := ab, collection := col, hasDel := false } := by unfold clsIn; rw [hC] <;> rfl
  have ok := T.ok
  simp only [xOk, Bool.and_eq_true, decide_eq_true_eq] at ok
  obtain ⟨⟨⟨n1, n2⟩, n3⟩, n4⟩ := ok
  have beqF : ∀ {a b : Str}, a ≠ b → (a == b) = false := fun n => by simpa using n
  have lS : (xS fld).names.lookup ("self" : Str) = some .local := by simp [xS, List.lookup]
  have lF : (xS fld).names.lookup fld = some .local := by simp [xS, List.lookup, beqF n1]
  have lC : (xS fld).names.lookup ("__class__" : Str) = some .free := by
    have e1 : (("__class__" : Str) == "self") = false := by decide
    simp [xS, List.lookup, beqF (Ne.symm n2), e1]
  have lU : (xS fld).names.lookup ("super" : Str) = some .globalImplicit := by
    have e1 : (("super" : Str) == "self") = false := by decide
    have e2 : (("super" : Str) == "__class__") = false := by decide
    simp [xS, List.lookup, beqF (Ne.symm n3), e1, e2]
  have mS : ([(fld, v), (("self" : Str), Value.ref x)] : List (Str × Value)).lookup ("self" : Str) = some (.ref x) := by simp [List.lookup, beqF (Ne.symm n1)]
  have mF : ([(fld, v), (("self" : Str), Value.ref x)] : List (Str × Value)).lookup fld = some v := by simp [List.lookup]
  refine ks_codeAny_call_defAt (fd := fnX "__init__" qual (xA fld p1 p2) (xB fld msg j p) (xS fld) [("__class__", cc)] .none .none doc pm an (.ref cda) ct) (body := xB fld msg j p) (binds := [("self", .ref x), (fld, v)]) hroom (X _ _ ho) rfl hlim (codeRec_of X hcd) rfl
    (BindsTo.of_eq (T.bd _ _ _ _ _ _ _ _ _ _ _ _)) (fun y hy => ?_) (fun y hy => ?_) (fun h0 hns k0 => ?_)
  · have hy' : y ∈ (xS fld).names := hy
    simp only [xS, List.mem_cons, List.not_mem_nil, or_false] at hy'
    rcases hy' with z | z | z | z <;> (rw [z]; exact fun q => nomatch q)
  · rcases (show y = (("self" : Str), Value.ref x) ∨ y = (fld, v) by simpa using hy) with z | z
    · rw [z]; exact lS
    · rw [z]; exact lF
  · have X0 : K.In h0 := X.keeps k0
    have hx0 := k0 _ _ hx
    have hlt : x < s.heap.objs.size := Heap.lt_size hx
    have hxC : x ≠ C := fun z => by rw [z, hC] at hnx; cases hnx
    obtain ⟨pl, he⟩ := xc (ksEnv qual (xS fld) s.heap.objs.size fI (.ref cda) cc)
    refine ks_wpAt_execs_cons (ks_wpAt_Expr_any (ks_wpAt_MethodCall (pl := pl) ?_ he))
    refine ks_wpAt_super_base (env := ksEnv qual (xS fld) s.heap.objs.size fI (.ref cda) cc) (attr := "__init__") lU lC (by decide) rfl (X0 _ _ ho) rfl rfl rfl (X0 _ _ hco) rfl hvs hfile htop ?_
    refine ks_loadName_global rfl lU (loadGlobal_builtin (env := ksEnv qual (xS fld) s.heap.objs.size fI (.ref cda) cc) (hg.keeps k0) hsm (hb.keeps k0) hsb ⟨rfl, ?_⟩)
    refine wpAny_loadName_free rfl lC rfl ⟨_, X0 _ _ hcell, rfl⟩ (wpAny_loadName_local rfl lS hns mS (ks_wpAny_isType_cls (X0 _ _ hC) rfl ⟨rfl, ?_⟩))
    refine ks_wpAny_call_super (X0 _ _ hC) rfl hx0 rfl (fun c e => nomatch e) (looks_mroIn X0 T.me) (fun h1 e1 k1 => ?_)
    have X1 : K.In h1 := X0.keeps k1
    have I1 : InstAt h1 x (excO C t0) C none := ⟨k1 _ _ hx0, rfl, rfl, trivial⟩
    refine vi_getMethod e1 (looks_opaque X1 T.op) ((looks_clsIn X1 hcl).andThen .now) (l := bm) (by simp [List.dropWhile_cons]) X1 hal hxC (by decide) (I1.type.andThen (looks_mroIn X1 T.ve)) ?_
    have hu : (h1.push (bwV x)).get? h1.objs.size = some (bwV x) := Heap.get?_push_size _ rfl
    have kp : ∀ b o, h1.get? b = some o → (h1.push (bwV x)).get? b = some o := fun b o e => Heap.get?_push_of_some _ e
    refine vi_callWith (x := x) (e := .Constant (.str msg) j (p 3)) (rest := []) (Calls.spliced_cons (Calls.Constant_str (k := j) (pos := p 3) (Calls.spliced_nil ⟨hu, ?_⟩))) rfl rfl
    refine vi_call (kp _ _ (X1 _ _ hC)) (kp _ _ (k1 _ _ hx0)) hu (by show 1 ≤ sizeLine; decide) (fun h2 t1 k2 hx2 => ?_)
    have k02 : ∀ b o, b ≠ x → h0.get? b = some o → h2.get? b = some o := fun b o n e => k2 b o n (kp _ _ (k1 _ _ e))
    have X2 : K.In h2 := fun b o e => k02 b o (fun z => by rw [z, hnx] at e; cases e) (X0 b o e)
    have hns2 : h2.Ns s.heap.objs.size (fun y => ([(fld, v), (("self" : Str), Value.ref x)] : List (Str × Value)).lookup y) := by
      obtain ⟨oL, es, ep, hL, r⟩ := hns
      exact ⟨oL, es, ep, k02 _ _ (Nat.ne_of_gt hlt) hL, r⟩
    refine ks_wpAt_execs_cons (ks_wpAt_Assign_Attr (wpAt_of_wpAny ?_))
    refine wpAny_Name (wpAny_loadName_local rfl lF hns2 mF ?_) (beqF n4)
    refine wpAny_Name (wpAny_loadName_local rfl lS hns2 mS ?_) (by decide)
    refine set_plain X2 (ox := excO C t1) (od := none) ⟨hx2, rfl, rfl, trivial⟩ T.sa ?_
    refine exc_osa X2 hx2 hcl (show refsVE (.ref C :: bm) = true from hbm) rfl T.noN (fun h3 tk3 dx k3 dn dne hx3 hn3 => ?_)
    refine wpAt_of_wpAny (wpAny_execs_nil (hq h3 tk3 dx t1 ⟨fun b o n e => k3 b o n (k02 b o n (k0 b o e)), hx3, ?_, dne, hn3⟩))
    have z2 : s.heap.objs.size < h2.objs.size := by
      obtain ⟨oL, es, ep, hL, r⟩ := hns2
      exact Heap.lt_size hL
    exact Nat.le_of_lt (Nat.lt_of_lt_of_le z2 (show h2.objs.size ≤ dx from dn))
end
end Mt


set_option Elab.async false
set_option maxRecDepth 100000
set_option autoImplicit false
set_option linter.all false
set_option maxHeartbeats 2000000
/-! raise; try .. except. -/
namespace Mt
section
open PySem PySem.W PySem.Calls PyProof.Rows PySem.HandSPX
/-- one of them made -/
structure XcMade (h h' : Heap) (e C d : Addr) (fld : Str) (v : Value) : Prop where
  keep : ∀ b o, h.get? b = some o → h'.get? b = some o
  new : h.objs.size ≤ e
  obj : ∃ oe vs, h'.get? e = some oe ∧ oe.cls = .ref C ∧ oe.dict = some d ∧ oe.data = .fields vs ∧ vs[1]? = some .none ∧ vs[2]? = some .none
  dbig : h.objs.size ≤ d
  dne : d ≠ e
  ns : h'.Ns1 d (fun y => if y = fld then some v else none)
variable {prog : Program} {w : World} {A : Around} {E : Value → Shared → Prop} {R : Result → Shared → Prop} {s : Shared} {K : Frag} {file fld : Str} {mg mb : Str → Option Value} {C fI : Addr}
theorem xc_made (T : XcT K file C fI fld) {v : Value} (X : K.In s.heap) (hlim : s.heap.NoLimit) (hroom : A.depth + 1 < recursionLimit) (hg : s.heap.Ns mainGlobals mg) (hb : s.heap.Ns builtinsNs mb) (hsm : mg "super" = none) (hsb : mb "super" = some (.type "super"))
    (hfile : ((prog.main.file : Str) == file) = true) (htop : (prog.main.scope.names.lookup ("super" : Str)).isSome = false)
    (hq : ∀ h' tk e d, XcMade s.heap h' e C d fld v → R (.ok (.ret (.ref e))) { s with heap := h', toks := tk }) : codeAny (model prog w) A (.call (.ref C) ⟨[v], []⟩) R s := by
  obtain ⟨nm, q, N, bs, bm, sn, sub, ab, col, dd, k0, k1, k2, k3, k5, hC, hbm, _⟩ := T.cls
  obtain ⟨hp, g, dr, tk, os⟩ := s
  have k : ∀ b o, hp.get? b = some o → ((hp.push (kdv_tup [v])).push (excO C hp.objs.size)).get? b = some o := fun b o e => Heap.get?_push_of_some _ (Heap.get?_push_of_some _ e)
  have hget : ((hp.push (kdv_tup [v])).push (excO C hp.objs.size)).get? (hp.objs.size + 1) = some (excO C hp.objs.size) := by
    have z := Heap.get?_push_size (hp.push (kdv_tup [v])) (o := excO C hp.objs.size) rfl
    rw [Heap.size_push] at z
    exact z
  have hnx : K.lookup (hp.objs.size + 1) = none := by
    cases e : K.lookup (hp.objs.size + 1) with
    | none => rfl
    | some o =>
      have z : hp.get? (hp.objs.size + 1) = some o := X _ _ e
      exact absurd (Nat.lt_of_succ_lt (Heap.lt_size z)) (Nat.lt_irrefl _)
  refine call_own F.excBase_ValueError (fun X => refsVE_contains X bm hbm) (X _ _ hC) (looks_findIn X T.iC) (fun self => bind_fn X self T.tI) (by show 1 ≤ sizeLine; decide) ?_
  refine xc_init (s := ⟨(hp.push (kdv_tup [v])).push (excO C hp.objs.size), g, dr, tk, os⟩) T (X.keeps k) (hlim.keeps k) hget hnx hroom (hg.keeps k) (hb.keeps k) hsm hsb hfile htop fun h' tk' dx t1 ⟨k', hx, dn, dne, hns⟩ => ?_
  have old : ∀ b o, hp.get? b = some o → h'.get? b = some o := fun b o e => k' b o (Nat.ne_of_lt (Nat.lt_succ_of_lt (Heap.lt_size e))) (k b o e)
  have z : hp.objs.size + 1 + 1 ≤ dx := by
    have q := dn
    simp only [Heap.size_push] at q
    exact q
  exact ⟨rfl, hq h' tk' (hp.objs.size + 1) dx ⟨old, Nat.le_succ _, ⟨_, _, hx, rfl, rfl, rfl, rfl, rfl⟩, (by show hp.objs.size ≤ dx; omega), dne, hns⟩⟩
end

open PySem PySem.Spec PyProof.Rows
open L2 hiding Takes XE takes_of passAt PMk MkP ps_raise mk_of
open L2N (Takes XE takes_of passAt PMk MkP ps_raise mk_of Zn)
/-! ### several clauses, each with a name or without -/
structure Hd1 where
  c : Value
  i : Option Nat
  ts : Addr → Value → Option Addr → TS
def Ends.un (D : Ends) : Option Nat → Ends
  | none => D
  | some i => { nx := fun σ H => D.nx (σ.set i none) H, rt := D.rt, bk := fun σ H => D.bk (σ.set i none) H, ct := fun σ H => D.ct (σ.set i none) H }
def stAs (σ : L2.St) (a : Addr) : Option Nat → L2.St
  | none => σ
  | some i => σ.set i (some (.ref a))
def wHds (K : PySem.W.Frag) (Wout : WX) (D : Ends) : List Hd1 → WX
  | [] => Wout
  | h :: r => fun cls d σ H => ∃ b, PySem.W.exmOne K cls h.c = some b ∧ (b = true → ∀ a, H a = none → h.ts a cls d (Ends.un D h.i) (stAs σ a h.i) H) ∧ (b = false → wHds K Wout D r cls d σ H)
def slotOk (X : Cx) (i : Option Nat) (n : Option Str) : Prop := (i = none ∧ n = none) ∨ ∃ j y, i = some j ∧ n = some y ∧ X.N[j]? = some y ∧ X.env.kindOf y = some .local
inductive HsOk (X : Cx) : List ExceptHandler → List Hd1 → Prop
  | nil : HsOk X [] []
  | cons {x : Str} {h : Hd1} {n : Option Str} {b0 : Stmt} {suite : List Stmt} {np pos' : Pos} {hds : List ExceptHandler} {l : List Hd1} (hc : Names X x h.c) (hi : slotOk X h.i n)
      (hsu : ∀ (a : Addr) (oe : Obj) (cls : Value) (d : Option Addr) (pn : List (Addr × Obj)), Zn cls d oe → (∃ vs, oe.data = .fields vs) → PSs (X.suite a ((a, oe) :: pn)) (b0 :: suite) (h.ts a cls d)) (r : HsOk X hds l) :
      HsOk X (.ExceptHandler (some (.Name x np)) n (b0 :: suite) pos' :: hds) (h :: l)
section
variable {X : Cx} {body : List Stmt} {h0 : ExceptHandler} {hds : List ExceptHandler} {l : List Hd1} {pos : Pos} {tb : WX → TS} {Wout : WX}
theorem ps_try_named (hs : X.stack = X.env :: X.outer) (hf : X.env.frame = some X.env.locals) (hN : X.N.Nodup) (tk : Takes X Wout)
    (hb : ∀ (W : WX) (pn : List (Addr × Obj)) (xe : Value → Shared → Prop), Takes (X.tr pn xe) W → PassesOwn (model X.prog X.w) X.A X.env xe → PSs (X.tr pn xe) body (tb W)) (hh : HsOk X (h0 :: hds) l) :
    PS X (.Try body (h0 :: hds) [] [] pos) (fun D σ H => tb (wHds X.K Wout D l) D σ H) := by
  refine ⟨fun pins s σ H D I h => ?_⟩
  have okX := I.ok
  have frX : X.A.frames = some (X.env :: X.outer) := by rw [okX.frames, hs]
  have land : ∀ (u : Value) (s' : Shared), XE (X.tr (X.pn ++ pins) fun e s1 => wpAny (model X.prog X.w) X.A (noteFrame e X.env) (fun _ s2 => wpAny (model X.prog X.w) X.A (setFlight e none) (fun _ s3 => wpAny (model X.prog X.w) X.A (handleBy e X.env (h0 :: hds)) (SP X pins D) X.xe s3) X.xe s2) X.xe s1) (wHds X.K Wout D l) u s' →
      wpAny (model X.prog X.w) X.A (noteFrame u X.env) (fun _ s2 => wpAny (model X.prog X.w) X.A (setFlight u none) (fun _ s3 => wpAny (model X.prog X.w) X.A (handleBy u X.env (h0 :: hds)) (SP X pins D) X.xe s3) X.xe s2) X.xe s' := by
    intro u s' xx
    obtain ⟨a, B, sI, pins', σ', H', cls, d, rfl, J', nb, up, sky, na, os, ag, w⟩ := xx
    have J : Inv X pins σ' H' sI := J'.ofTry okX
    have sky' : Sky B (X.env :: X.outer) a (Zn cls d) X.env.locals s'.heap := by rw [← hs]; exact sky
    refine L2N.Sky.land L2N.Zn.steady frX hf sky' fun h3 fl3 up3 => ?_
    have J3 : Inv X pins σ' H' { s' with heap := h3 } := J.landed nb fl3.1 (up.trans up3) os ag
    obtain ⟨oe3, vs3, he3, hz3, hd3⟩ := fl3.there
    have nfr : a ∉ frs (X.env :: X.outer) := fun hm => by
      obtain ⟨_, o', e', hnf⟩ := fl3.2.2.1.mem hm
      rw [he3] at e'
      cases e'
      exact hnf _ hd3
    have nL : a ≠ X.env.locals := fun z => nfr (List.mem_filterMap.mpr ⟨X.env, List.mem_cons_self, by rw [hf, z]⟩)
    have nF : a ∉ X.fs := fun hm => by
      obtain ⟨e, he, q⟩ := List.mem_filterMap.mp hm
      exact nfr (List.mem_filterMap.mpr ⟨e, List.mem_cons_of_mem _ he, q⟩)
    have S3 := J3.suite he3 hd3 na nL nF
    have go : ∀ {hds' : List ExceptHandler} {l' : List Hd1}, HsOk X hds' l' → wHds X.K Wout D l' cls d σ' H' → wpAny (model X.prog X.w) X.A (handleBy (.ref a) X.env hds') (SP X pins D) X.xe { s' with heap := h3 } := by
      intro hds' l' hk
      induction hk with
      | nil =>
        intro w
        refine wpAny_handleBy_nil ?_
        obtain ⟨_, _, _, oe, vs, Tb, oT, ts', he, hz, hd, h1, hr⟩ := id fl3
        unfold PySem.passOn
        refine wpAny_bind (wpAny_field he hd h1 ?_)
        rw [if_neg (show ¬ ((Value.ref Tb == Value.none) = true) from by simp)]
        have fin : wpAny (model X.prog X.w) X.A (setFlight (.ref a) X.env.frame) (fun _ s4 => wpAny (model X.prog X.w) X.A (throw (.ref a) : Sem Flow) (SP X pins D) X.xe s4) X.xe { s' with heap := h3 } := by
          rw [hf]
          exact HandSPX.setFlight_upZ fl3 fun h4 hh4 up4 => wpAny_throw (tk _ _ ⟨a, B, sI, pins, σ', H', cls, d, rfl, J, nb, (up.trans up3).trans up4, .inr (.inr (by rw [hs]; exact hh4)), na, os, ag, w⟩)
        first
          | exact wpAny_bind (wpAny_pure (wpAny_bind fin))
          | exact wpAny_bind fin
      | @cons x hd n b0 suite np pos' hds2 l2 hc hi hsu r ih =>
        intro w
        obtain ⟨b, hb1, hyes, hno⟩ := w
        refine wpAny_handleBy_cons (codeAny_handlers_test ?_) (by intro q; cases q)
        have LT : PySem.W.Looks (model X.prog X.w) h3 (typeOf (.ref a)) cls := fun A Q E s k q => wpAny_typeOf_ref (k _ _ he3) (by rw [hz3.1]; exact q)
        have LM := PySem.W.exm_one (M := model X.prog X.w) (J3.kIn) LT hb1
        have tst : ∀ {Q : Value → Shared → Prop} {E : Value → Shared → Prop}, Q hd.c { s' with heap := h3 } → wpAny (model X.prog X.w) (X.A.mark (some (.ref a))) (eval (.Name x np) X.env) Q E { s' with heap := h3 } := fun {Q E} q => by
          obtain ⟨hg, hdbg, hm | ⟨hm, hv, hnn⟩⟩ := hc
          · exact ld_glob (X := X.suite a ((a, oe3) :: (X.pn ++ pins))) S3 hg hm q hdbg
          · exact ld_blt (X := X.suite a ((a, oe3) :: (X.pn ++ pins))) S3 hg hm hv q hnn hdbg
        refine tst (LM.here ?_)
        cases b with
        | false => exact ih (hno rfl)
        | true =>
          have yes := hyes rfl a na
          rcases hi with ⟨ei, rfl⟩ | ⟨i, y, ei, rfl, hy, hly⟩
          · rw [ei] at yes
            refine codeAny_handlers_suite (HandSPX.lands_againZ fl3 fun h4 fl4 up4 => ?_)
            have J4 : Inv X pins σ' H' { s' with heap := h4 } := J.landed nb fl4.1 ((up.trans up3).trans up4) os ag
            obtain ⟨oe4, vs4, he4, hz4, hd4⟩ := fl4.there
            refine wpAny_mono ((hsu a oe4 cls d (X.pn ++ pins) hz4 ⟨_, hd4⟩).run [] _ _ H' _ (J4.suite he4 hd4 na nL nF) yes) (fun f s6 hsp => ?_) (fun _ _ z => False.elim z)
            cases f with
            | next => exact let ⟨σ6, H6, S6, q6⟩ := hsp; ⟨_, _, S6.unsuite okX, q6⟩
            | brk => exact let ⟨σ6, H6, S6, q6⟩ := hsp; ⟨_, _, S6.unsuite okX, q6⟩
            | cont => exact let ⟨σ6, H6, S6, q6⟩ := hsp; ⟨_, _, S6.unsuite okX, q6⟩
            | ret u => exact let ⟨v6, σ6, H6, S6, r6, q6⟩ := hsp; ⟨_, _, _, S6.unsuite okX, r6, q6⟩
          · rw [ei] at yes
            refine codeAny_handlers_suite_as (HandSPX.lands_againZ fl3 fun h4 fl4 up4 => ?_)
            have J4 : Inv X pins σ' H' { s' with heap := h4 } := J.landed nb fl4.1 ((up.trans up3).trans up4) os ag
            obtain ⟨oe4, vs4, he4, hz4, hd4⟩ := fl4.there
            refine store_ok (X := X.suite a ((a, oe4) :: (X.pn ++ pins))) (v := .ref a) (J4.suite he4 hd4 na nL nF) hN hy (.inl hly) rfl (fun s5 S5 => ?_) (.inr hly)
            refine wpAny_mono ((hsu a oe4 cls d (X.pn ++ pins) hz4 ⟨_, hd4⟩).run [] s5 _ H' _ S5 yes) (fun f s6 hsp => ?_) (fun _ _ z => False.elim z)
            have end_ : ∀ {σ6 : L2.St} {H6 : Hp} {Q : Shared → Prop}, Inv (X.suite a ((a, oe4) :: (X.pn ++ pins))) [] σ6 H6 s6 → (∀ s7, Inv X pins (σ6.set i none) H6 s7 → Q s7) →
                wpAny (model X.prog X.w) X.A (do bindName X.env y .none; unbindBehindTheSuite X.env y pos') (fun _ s7 => Q s7) X.xe s6 := fun {σ6 H6 Q} S6 hq => gone_ok (S6.unsuite okX) hN hy hly hq
            cases f with
            | next => exact let ⟨σ6, H6, S6, q6⟩ := hsp; end_ S6 fun s7 J7 => ⟨_, _, J7, q6⟩
            | brk => exact let ⟨σ6, H6, S6, q6⟩ := hsp; end_ S6 fun s7 J7 => ⟨_, _, J7, q6⟩
            | cont => exact let ⟨σ6, H6, S6, q6⟩ := hsp; end_ S6 fun s7 J7 => ⟨_, _, J7, q6⟩
            | ret u => exact let ⟨v6, σ6, H6, S6, r6, q6⟩ := hsp; end_ S6 fun s7 J7 => ⟨_, _, _, J7, r6, q6⟩
    exact go hh w
  refine wpAny_Try_except ?_
  refine wpAny_mono ((hb (wHds X.K Wout D l) (X.pn ++ pins) _ land PassesOwn.looking).run [] s σ H D (I.toTry _) h) (fun f s1 hsp => ?_) (fun e s1 he => he)
  cases f with
  | next => exact let ⟨σ', H', J', q⟩ := hsp; wpAny_execs_nil ⟨σ', H', J'.ofTry okX, q⟩
  | brk => exact let ⟨σ', H', J', q⟩ := hsp; ⟨σ', H', J'.ofTry okX, q⟩
  | cont => exact let ⟨σ', H', J', q⟩ := hsp; ⟨σ', H', J'.ofTry okX, q⟩
  | ret u => exact let ⟨v, σ', H', J', r, q⟩ := hsp; ⟨v, σ', H', J'.ofTry okX, r, q⟩
end
end Mt


set_option Elab.async false
set_option maxRecDepth 100000
set_option autoImplicit false
set_option linter.all false
set_option maxHeartbeats 2000000
/-! raise of own errors; try told by data. -/
namespace Mt
open PySem PySem.Spec PyProof.Rows
open L2 hiding Takes XE takes_of passAt PMk MkP ps_raise mk_of
open L2N (Takes XE takes_of passAt PMk MkP ps_raise mk_of Zn)
/-! ### raise -/
/-- the own errors: with one field, bare; which clause takes which -/
structure Tx where
  xf : Str → Option Str
  xp : Str → Bool
  ex : Str → Str → Option Bool
  y : Str → Tg → Option Bool
structure GX1 (X : Cx) (G : Gx) (t : Tx) : Prop where
  xf : ∀ c C f, G.cls c = some C → t.xf c = some f → (∃ fI, XcT X.K X.prog.main.file C fI f) ∧ XfC X.K C
  sup : X.mg "super" = none ∧ (X.prog.main.scope.names.lookup ("super" : Str)).isSome = false
  xp : ∀ c C, G.cls c = some C → t.xp c = true → PySem.W.excIn X.K C He.veBase "ValueError.__new__" = true ∧ PySem.W.keepIn X.K (.ref C) = true ∧ Raises X (.ref C)
  ex : ∀ c C e E b, G.cls c = some C → G.cls e = some E → t.ex c e = some b → PySem.W.exmOne X.K (.ref C) (.ref E) = some b
  y : ∀ c C g b, G.cls c = some C → t.y c g = some b → ExcC X.K C ∧ ∀ v, tgV G g v → PySem.W.kitOne X.K (.ref C) v = some b
theorem rel_one {f : Str} {v : V} {u : Value} (r : RelV v u) (g : Str) : RelO (List.lookup g [(f, v)]) (if g = f then some u else none) := by
  by_cases h : g = f
  · subst h
    rw [if_pos rfl, show List.lookup g [(g, v)] = some v by simp [List.lookup]]
    exact r
  · rw [if_neg h]
    have q : (g == f) = false := by simpa using h
    rw [show List.lookup g [(f, v)] = none by simp [List.lookup, q]]
    trivial
def tMk1 (C : Addr) (f : Str) (te : TE) : L2.St → Hp → XK → Prop := fun σ H Q => te σ H fun v H1 => ∀ d, H1 d = none → Q (.ref C) (some d) (upd H1 d (.xd [(f, v)]))
section
variable {X : Cx} {G : Gx} {W : WX} {t : Tx} {pos p p2 : Pos} {e : Expr} {ra : Run} {x c f : Str} {C : Addr} {k : Nat}
theorem mk_xc {te : TE} {fI : Addr} (T : XcT X.K X.prog.main.file C fI f) (hs : X.mg "super" = none) (ht : (X.prog.main.scope.names.lookup ("super" : Str)).isSome = false) (hr : Room (k + 1) X.A) (hg : Gl X x) (hm : X.mg x = some (.ref C)) (hdb : (x == ("__debug__" : Str)) = false) (he : PE X e te)
    (h1 : starEach [e] X.env = (false, eval e X.env) :: starEach [] X.env) (h2 : (backTo pos (starEach [] X.env)).any (·.1) = false) : PMk X (.Call (.Name x p) [e] [] pos) (tMk1 C f te) := by
  intro pins s σ H Q I h
  refine wpAny_Call_Name_kw (ld_glob I hg hm ?_ hdb)
  have ha : PA X [e] (tCons te tNil) := pa_cons he pa_nil h1
  refine PySem.W.callWith_K (h₀ := X.base) I.ok.mod.kin T.kC (thn (ha.run pos pins s σ H (fun vs H1 => match vs with | [v] => ∀ d, H1 d = none → Q (.ref C) (some d) (upd H1 d (.xd [(f, v)])) | _ => False) I h) fun us s1 hh => ?_) h1 h2
  obtain ⟨vs, H1, I1, r1, q1⟩ := hh
  refine ⟨I1.kIn, ?_⟩
  cases r1 with
  | nil => exact False.elim q1
  | @cons v u vs' us' rv rn =>
    cases rn with
    | cons _ _ => exact False.elim q1
    | nil =>
      replace q1 : ∀ d, H1 d = none → Q (.ref C) (some d) (upd H1 d (.xd [(f, v)])) := q1
      show wpAny _ _ (call (.ref C) [u]) _ _ _
      have hlim := I1.nolimit
      obtain ⟨mb, b1, b2⟩ := I1.mod.blt
      have hmg := I1.mod.glob.keeps I1.bk
      have hmb := b1.keeps I1.bk
      obtain ⟨hp, g, dr, tk, os⟩ := s1
      refine wpAny_call (xc_made T I1.kIn hlim (by have := hr.dp; omega) hmg hmb hs ((b2 "super" (by decide)).trans rfl) (by simp) ht fun h' tk' a d M => ?_)
      show MkP X pins σ Q (.ref a) ⟨h', g, dr, tk', os⟩
      obtain ⟨oe, fv, hoe, hc, hd, hdat, h1', h2'⟩ := M.obj
      have hns := M.ns
      obtain ⟨G', g1, g2⟩ := restrict h' fun b => decide (b ≠ a)
      have gk : ∀ b, b ≠ a → G'.get? b = h'.get? b := fun b hb => g1 b (decide_eq_true hb)
      have ge : G'.get? a = none := g2 a (by simp)
      have old : ∀ b o, hp.get? b = some o → G'.get? b = some o := fun b o q => (gk b (Nat.ne_of_lt (Nat.lt_of_lt_of_le (Heap.lt_size q) M.new))).trans (M.keep b o q)
      have ob : ObjOk X.prog X.w (upd H1 d (.xd [(f, v)])) G' d (.xd [(f, v)]) := ⟨_, hns.at (fun o q => (gk d M.dne).trans q), fun f => rel_one rv f⟩
      have J : Inv X pins σ (upd H1 d (.xd [(f, v)])) ⟨G', g, dr, tk', os⟩ := I1.laid (t' := tk') old M.dbig ob
      refine ⟨a, oe, fv, ⟨G', g, dr, tk', os⟩, _, .ref C, some d, rfl, J, fun b o q => ?_, ge, hoe, ⟨hc, hd, fun vs e => by rw [hdat] at e; cases e; exact h2'⟩, hdat, h1', ?_, rfl, I1.bare, raises_own T.exC T.tyC, q1 d (I1.hok.fresh M.dbig)⟩
      · by_cases hb : b = a
        · have q' : G'.get? b = some o := q
          rw [hb, ge] at q'; cases q'
        · exact (gk b hb).symm.trans q
      · rw [upd_ne (Ne.symm M.dne)]
        exact I1.hok.fresh M.new
/-- a bare one -/
theorem mk_xp {C : Addr} {bmB : List Value} {B newId initId : String} (F : ExcBaseFacts B newId initId bmB) (q : PySem.W.excIn X.K C bmB newId = true) (gC : X.mg x = some (.ref C)) (kC : PySem.W.keepIn X.K (.ref C) = true) (r : Raises X (.ref C)) (hg : Gl X x)
    (hdb : (x == ("__debug__" : Str)) = false) : PMk X (.Call (.Name x p) [] [] pos) (fun _ H Q => Q (.ref C) none H) := by
  intro pins s σ H Q I h
  refine wpAny_Call_Name_kw (ld_glob I hg gC ?_ hdb)
  refine PySem.W.callWith_K0 I.kIn kC ?_
  show wpAny _ _ (call (.ref C) []) _ _ _
  obtain ⟨bm, N, nm, qn, bs, hdct, sn, sub, ab, col, dd, k0, k1, k2, k3, k5, mN, hC, hN, hni, T⟩ := exc_obj I.kIn q
  refine wpAny_call_exc_subT F T hC hN hni (fun h' e hm => ?_) (by show 0 ≤ sizeLine; exact Nat.zero_le _)
  exact mk_of I hm r h (I.hok.gone hm.new)
def rsRaise1 (c f : Str) (ra : Run) : RunS := fun ρ S => toS (ra ρ S) ρ fun d S1 => .ex c [(f, d)] ρ S1
def rsRaise0 (c : Str) : RunS := fun ρ S => .ex c [] ρ S
theorem s_raise1 (hc : X.calm = true) (tk : Takes X W) (B : GX1 X G t) (hx : t.xf c = some f) (hC : G.cls c = some C) (hr : Room (k + 1) X.A) (hg : Gl X x) (hm : X.mg x = some (.ref C)) (hdb : (x == ("__debug__" : Str)) = false) (he : PE X e (tI G W ra))
    (h1 : starEach [e] X.env = (false, eval e X.env) :: starEach [] X.env) (h2 : (backTo pos (starEach [] X.env)).any (·.1) = false) : PS X (.Raise (some (.Call (.Name x p) [e] [] pos)) none p2) (tS G W (rsRaise1 c f ra)) := by
  obtain ⟨⟨fI, T⟩, _⟩ := B.xf c C f hC hx
  refine psImp (ps_raise hc tk (mk_xc T B.sup.1 B.sup.2 hr hg hm hdb he h1 h2)) fun Z σ H ⟨μ, ρ, S, R, s, fs⟩ => ?_
  refine ⟨μ, ρ, S, R, s, (FinS.toS fs s).mono fun v H1 ⟨μ1, d, S1, m, R1, q, z⟩ P hP => ?_⟩
  exact z μ1 _ (.ref C) (some P) σ (Mo.new hP) (R1.new hP) ⟨C, hC, rfl, .inr ⟨P, [(f, v)], rfl, upd_same, R1.fresh hP, .cons ⟨rfl, DR.mo (Mo.new hP) _ _ q⟩ .nil⟩⟩ (s.mo (m.trans (Mo.new hP)))
theorem s_raise0 (hc : X.calm = true) (tk : Takes X W) (B : GX1 X G t) (hx : t.xp c = true) (hC : G.cls c = some C) (hg : Gl X x) (hm : X.mg x = some (.ref C)) (hdb : (x == ("__debug__" : Str)) = false) : PS X (.Raise (some (.Call (.Name x p) [] [] pos)) none p2) (tS G W (rsRaise0 c)) := by
  obtain ⟨h1, h2, h3⟩ := B.xp c C hC hx
  refine psImp (ps_raise hc tk (mk_xp PySem.F.excBase_ValueError h1 hm h2 h3 hg hdb)) fun Z σ H ⟨μ, ρ, S, R, s, fs⟩ => ?_
  exact fs μ H (.ref C) none σ (Mo.refl _ _) R ⟨C, hC, rfl, .inl ⟨rfl, rfl⟩⟩ s
end

/-! ### try -/
/-- the caught error's fields -/
def XF (G : Gx) (μ : Mu) (H : Hp) (d : Option Addr) (fs : List (Str × D)) : Prop := (fs = [] ∧ d = none) ∨ ∃ dx vs, d = some dx ∧ H dx = some (.xd vs) ∧ dx ∉ μ ∧ FRs G.K μ H fs vs
theorem XF.w {G : Gx} {μ μ' : Mu} {H H' : Hp} {d : Option Addr} {fs : List (Str × D)} (m : Mw μ H μ' H') (h : XF G μ H d fs) : XF G μ' H' d fs := by
  rcases h with h | ⟨dx, vs, e, h1, h2, h3⟩
  · exact .inl h
  · obtain ⟨q1, q2⟩ := m.keep dx _ h1 h2 (fun _ => nofun)
    exact .inr ⟨dx, vs, e, q1, q2, h3.w m⟩
/-- the suite's ground: the slot holds the error -/
def gx (G : Gx) (a : Addr) (d : Option Addr) (fs : List (Str × D)) : Gx where
  K := G.K
  T := G.T
  cls := G.cls
  clo := fun μ H _ _ x => x = a ∧ XF G μ H d fs
  stay := fun m h => ⟨h.1, h.2.w m⟩
structure Hn where
  e : Str
  i : Option Nat
  b : Str → List (Str × D) → RunS
def asHn (ρ : En) : Option Nat → En
  | none => ⟨ρ.d, none⟩
  | some i => ⟨ρ.d.set i none, some (i, 0, [])⟩
def unHn (ρ : En) : Option Nat → En
  | none => ⟨ρ.d, none⟩
  | some i => ⟨ρ.d.set i none, none⟩
def endHn (i : Option Nat) : Fs → Fs
  | .next ρ S => .next (unHn ρ i) S
  | .ret d S => .ret d S
  | .brk ρ S => .brk (unHn ρ i) S
  | .cont ρ S => .cont (unHn ρ i) S
  | _ => .no
def okI (ρ : En) : Option Nat → Bool
  | none => true
  | some i => decide (i < ρ.d.length)
def hGo (ex : Str → Str → Option Bool) (c : Str) (fs : List (Str × D)) (ρ : En) (S : Sto) : List Hn → Fs
  | [] => .ex c fs ρ S
  | h :: r => match ex c h.e with
    | some true => if okI ρ h.i then endHn h.i (h.b c fs (asHn ρ h.i) S) else .no
    | some false => hGo ex c fs ρ S r
    | none => .no
def rsTry (ex : Str → Str → Option Bool) (b : RunS) (hs : List Hn) : RunS := fun ρ S => match b ρ S with
  | .ex c fs ρ1 S1 => hGo ex c fs ρ1 S1 hs
  | r => r
def W0 : WX := fun _ _ _ _ => False
section
variable {X : Cx} {G : Gx} {W : WX} {t : Tx} {pos : Pos}
theorem set_none_some {ρ : List (Option D)} {i j : Nat} {d : D} (h : (ρ.set i none)[j]? = some (some d)) : j ≠ i ∧ ρ[j]? = some (some d) := by
  by_cases e : i = j
  · subst e
    by_cases hl : i < ρ.length
    · rw [List.getElem?_set_self hl] at h; cases h
    · rw [List.getElem?_eq_none (by rw [List.length_set]; omega)] at h; cases h
  · exact ⟨Ne.symm e, by rwa [List.getElem?_set_ne e] at h⟩
theorem Rl.gx {μ : Mu} {S : Sto} {H : Hp} {a : Addr} {d : Option Addr} {fs : List (Str × D)} (R : Rl G μ S H) : Rl (gx G a d fs) μ S H := ⟨R.len, R.nd, R.dis, R.hin, R.at_, R.tab, R.tbs⟩
theorem Rl.ungx {μ : Mu} {S : Sto} {H : Hp} {a : Addr} {d : Option Addr} {fs : List (Str × D)} (R : Rl (Mt.gx G a d fs) μ S H) : Rl G μ S H := ⟨R.len, R.nd, R.dis, R.hin, R.at_, R.tab, R.tbs⟩
theorem SR.asHn {μ : Mu} {H : Hp} {ρ : En} {σ : L2.St} {a : Addr} {d : Option Addr} {fs : List (Str × D)} (s : SR G μ H ρ σ) (q : XF G μ H d fs) {i : Option Nat} (hi : ∀ j, i = some j → j < σ.length) : SR (Mt.gx G a d fs) μ H (Mt.asHn ρ i) (stAs σ a i) := by
  cases i with
  | none => exact ⟨s.len, s.dat, fun _ _ _ h => by cases h⟩
  | some i =>
    refine ⟨by show (ρ.d.set i none).length = (σ.set i _).length; rw [List.length_set, List.length_set]; exact s.len, fun j x h => ?_, fun j g vs h => ?_⟩
    · obtain ⟨h1, h2⟩ := set_none_some h
      obtain ⟨v, e, q⟩ := s.dat j x h2
      exact ⟨v, by rw [show stAs σ a (some i) = σ.set i (some (.ref a)) from rfl, List.getElem?_set_ne (Ne.symm h1)]; exact e, q⟩
    · cases h
      exact ⟨a, List.getElem?_set_self (hi i rfl), rfl, q⟩
theorem SR.unHn {μ : Mu} {H : Hp} {ρ : En} {σ : L2.St} {a : Addr} {d : Option Addr} {fs : List (Str × D)} (s : SR (Mt.gx G a d fs) μ H ρ σ) : ∀ {i : Option Nat}, SR G μ H (Mt.unHn ρ i) (match i with | none => σ | some i => σ.set i none)
  | none => ⟨s.len, s.dat, fun _ _ _ h => by cases h⟩
  | some i => by
    refine ⟨by show (ρ.d.set i none).length = (σ.set i _).length; rw [List.length_set, List.length_set]; exact s.len, fun j x h => ?_, fun j g vs h => by cases h⟩
    obtain ⟨h1, h2⟩ := set_none_some h
    obtain ⟨v, e, q⟩ := s.dat j x h2
    exact ⟨v, by show (σ.set i none)[j]? = _; rw [List.getElem?_set_ne (Ne.symm h1)]; exact e, q⟩
/-- behind the suite -/
theorem endHn_fin {μ : Mu} {H : Hp} {a : Addr} {d : Option Addr} {fs : List (Str × D)} {i : Option Nat} {r : Fs} {Z : Ends} {W : WX} (h : FinS G μ H (endHn i r) Z W) : FinS (gx G a d fs) μ H r (Ends.un Z i) W0 := by
  cases r with
  | next ρ S =>
    intro μ' H' σ' m R s
    have z := h μ' H' _ m R.ungx (SR.unHn (i := i) s)
    cases i <;> exact z
  | brk ρ S =>
    intro μ' H' σ' m R s
    have z := h μ' H' _ m R.ungx (SR.unHn (i := i) s)
    cases i <;> exact z
  | cont ρ S =>
    intro μ' H' σ' m R s
    have z := h μ' H' _ m R.ungx (SR.unHn (i := i) s)
    cases i <;> exact z
  | ret x S =>
    intro μ' H' v m R q
    have z := h μ' H' v m R.ungx q
    cases i <;> exact z
  | ex c gs ρ S => exact h.elim
  | no => exact h.elim
def hdOf (G : Gx) (ev : Value) (h : Hn) : Hd1 := ⟨ev, h.i, fun a cls d Z σ H => ∃ c fs C, G.cls c = some C ∧ cls = .ref C ∧ tS (gx G a d fs) W0 (h.b c fs) Z σ H⟩
theorem hGo_of {c : Str} {fs : List (Str × D)} {C : Addr} {dx : Option Addr} {Z : Ends} (B : GX1 X G t) (hC : G.cls c = some C) : ∀ {hs : List Hn} {l : List Hd1} {μ : Mu} {H : Hp} {ρ : En} {S : Sto} {σ : L2.St},
    Paired (fun h k => ∃ E, G.cls h.e = some E ∧ k = hdOf G (.ref E) h) hs l → Rl G μ S H → SR G μ H ρ σ → XF G μ H dx fs → FinS G μ H (hGo t.ex c fs ρ S hs) Z W → wHds X.K W Z l (.ref C) dx σ H
  | [], _, μ, H, ρ, S, σ, .nil, R, s, q, f => f μ H (.ref C) dx σ (Mo.refl _ _) R ⟨C, hC, rfl, q⟩ s
  | h :: hs, _, μ, H, ρ, S, σ, .cons ⟨E, hE, rfl⟩ r, R, s, q, f => by
    unfold hGo at f
    cases hx : t.ex c h.e with
    | none => rw [hx] at f; exact f.elim
    | some b =>
      rw [hx] at f
      refine ⟨b, B.ex c C h.e E b hC hE hx, fun e a ha => ?_, fun e => ?_⟩
      · subst e
        dsimp only at f
        cases hl : okI ρ h.i with
        | false => rw [hl] at f; exact f.elim
        | true =>
          rw [hl] at f
          refine ⟨c, fs, C, hC, rfl, μ, asHn ρ h.i, S, R.gx, s.asHn q (fun j ej => ?_), endHn_fin f⟩
          rw [ej] at hl
          rw [← s.len]
          exact of_decide_eq_true hl
      · subst e
        exact hGo_of B hC r R s q f
/-- the clauses -/
inductive TrOk (X : Cx) (G : Gx) (T : Tx) : List ExceptHandler → List Hn → Prop
  | nil : TrOk X G T [] []
  | cons {x : Str} {h : Hn} {E : Addr} {n : Option Str} {b0 : Stmt} {suite : List Stmt} {np pos' : Pos} {hds : List ExceptHandler} {l : List Hn} (hE : G.cls h.e = some E) (hc : Names X x (.ref E)) (hi : slotOk X h.i n)
      (hsu : ∀ (a : Addr) (oe : Obj) (c : Str) (C : Addr) (d : Option Addr) (fs : List (Str × D)) (pn : List (Addr × Obj)), G.cls c = some C → Zn (.ref C) d oe → (∃ vs, oe.data = .fields vs) → PSs (X.suite a ((a, oe) :: pn)) (b0 :: suite) (tS (gx G a d fs) W0 (h.b c fs))) (r : TrOk X G T hds l) :
      TrOk X G T (.ExceptHandler (some (.Name x np)) n (b0 :: suite) pos' :: hds) (h :: l)
theorem TrOk.hds {hs : List ExceptHandler} {l : List Hn} (o : TrOk X G t hs l) : ∃ k, HsOk X hs k ∧ Paired (fun h k => ∃ E, G.cls h.e = some E ∧ k = hdOf G (.ref E) h) l k := by
  induction o with
  | nil => exact ⟨[], .nil, .nil⟩
  | @cons x h E n b0 suite np pos' hds l hE hc hi hsu r ih =>
    obtain ⟨k, h1, h2⟩ := ih
    refine ⟨hdOf G (.ref E) h :: k, .cons hc hi (fun a oe cls d pn hz hf => ⟨fun pins s σ H Z I ⟨c, fs, C, hC, ec, q⟩ => ?_⟩) h1, .cons ⟨E, hE, rfl⟩ h2⟩
    subst ec
    exact (hsu a oe c C d fs pn hC hz hf).run pins s σ H Z I q
theorem s_try {body : List Stmt} {h0 : ExceptHandler} {hds : List ExceptHandler} {l : List Hn} {rb : RunS} (hs : X.stack = X.env :: X.outer) (hf : X.env.frame = some X.env.locals) (hN : X.N.Nodup) (tk : Takes X W) (B : GX1 X G t)
    (hb : ∀ (W : WX) (pn : List (Addr × Obj)) (xe : Value → Shared → Prop), Takes (X.tr pn xe) W → PassesOwn (model X.prog X.w) X.A X.env xe → PSs (X.tr pn xe) body (tS G W rb)) (hh : TrOk X G t (h0 :: hds) l) :
    PS X (.Try body (h0 :: hds) [] [] pos) (tS G W (rsTry t.ex rb l)) := by
  obtain ⟨k, h1, h2⟩ := hh.hds
  refine ⟨fun pins s σ H Z I h => (ps_try_named hs hf hN tk (tb := fun W => tS G W rb) hb h1).run pins s σ H Z I ?_⟩
  obtain ⟨μ, ρ, S, R, q, f⟩ := h
  refine ⟨μ, ρ, S, R, q, ?_⟩
  unfold rsTry at f
  generalize rb ρ S = r at f
  cases r with
  | ex c fs ρ1 S1 =>
    intro μ' H' cv dx σ' m R' ⟨C, hC, ec, hx⟩ q'
    subst ec
    exact hGo_of B hC h2 R' q' hx (FinS.mo f m)
  | next ρ1 S1 => exact f
  | ret d S1 => exact f
  | brk ρ1 S1 => exact f
  | cont ρ1 S1 => exact f
  | no => exact f
/-- e.f of the caught error -/
def rXf (i : Nat) (t : Tx) (c : Str) (fs : List (Str × D)) (f : Str) : Run := fun ρ S => match ρ.c with
  | some (j, _, _) => if j = i ∧ t.xf c = some f then (match ffind fs f with
    | some d => .ok d S
    | none => .no) else .no
  | none => .no
/-- the error p is the one that is told: c with the fields fs -/
structure Told (G : Gx) (p : Addr × Obj) (c : Str) (C : Addr) (d : Option Addr) (fs : List (Str × D)) : Prop where
  cls : G.cls c = some C
  obj : Zn (.ref C) d p.2
  dat : ∃ a, p.2.data = .fields a
  clo : ∀ μ H i vs x, G.clo μ H i vs x → x = p.1 ∧ XF G μ H d fs
/-- the pinned error as an instance -/
theorem pin_inst {p : Addr × Obj} {C : Addr} {d : Option Addr} {pins : List (Addr × Obj)} {σ : L2.St} {H : Hp} {s : Shared} (I : Inv X pins σ H s) (hp : p ∈ X.pn) (hz : Zn (.ref C) d p.2) (hf : ∃ vs, p.2.data = .fields vs)
    (hd : d = none ∨ ∃ dd vs, d = some dd ∧ H dd = some (.xd vs)) : ∃ od, PySem.W.InstAt s.heap p.1 p.2 C od ∧ ∀ dd vs, d = some dd → H dd = some (.xd vs) → ∃ (o : Obj) (mA : Str → Option Value), od = some o ∧ (∀ g, RelO (vs.lookup g) (mA g)) ∧ ∀ g, PySem.W.lookIn g o = some (mA g) := by
  obtain ⟨g1, _⟩ := I.pin p (List.mem_append_left _ hp)
  obtain ⟨vs, hv⟩ := hf
  have nc : PySem.W.notCls p.2 = true := by unfold PySem.W.notCls; rw [hv] <;> rfl
  rcases hd with e | ⟨dd, xs, e, hx⟩
  · exact ⟨none, ⟨g1, hz.1, nc, by rw [hz.2.1, e]; trivial⟩, fun dd vs e' _ => by rw [e] at e'; cases e'⟩
  · obtain ⟨mA, hns, hr⟩ := (show ObjOk X.prog X.w H s.heap dd (.xd xs) from I.hok dd _ hx)
    obtain ⟨od, ho, hl⟩ := lookIn_ns hns
    exact ⟨some od, ⟨g1, hz.1, nc, by rw [hz.2.1, e]; exact ho⟩, fun dd' vs' e' h' => by
      rw [e] at e'; cases e'
      rw [hx] at h'; cases h'
      exact ⟨od, mA, rfl, hr, hl⟩⟩
theorem u_xf {p : Addr × Obj} {e : Expr} {i : Nat} {C : Addr} {c f : Str} {d : Option Addr} {fs : List (Str × D)} (B : GX1 X G t) (T : Told G p c C d fs) (hp : p ∈ X.pn) (he : PE X e (tVar i))
    (hb : attributeBase e f X.env (eval e X.env) = eval e X.env) : PE X (.Attribute e f pos) (tI G W (rXf i t c fs f)) := by
  refine ⟨fun pins s σ H Q I ⟨μ, ρ, S, R, sr, q⟩ => ?_⟩
  unfold rXf at q
  split at q
  case h_2 => exact q.elim
  rename_i j g vs e1
  split at q
  case isFalse => exact q.elim
  rename_i hj
  obtain ⟨rfl, hx⟩ := hj
  split at q
  case h_2 => exact q.elim
  rename_i r er
  obtain ⟨⟨fI, N⟩, Y⟩ := B.xf c C f T.cls hx
  obtain ⟨a, ha, hc⟩ := sr.clo _ _ _ e1
  obtain ⟨rfl, hX⟩ := T.clo _ _ _ _ _ hc
  rcases hX with ⟨rfl, _⟩ | ⟨dx, xs, ed, h1, h2, h3⟩
  · cases er
  · obtain ⟨v, l, qv⟩ := frs_find h3 er
    refine attr_of hb (thn (he.run pins s σ H (fun x H1 => x = .ref p.1 ∧ H1 = H) I ⟨_, ha, rfl, rfl⟩) fun u s1 ⟨x, H1, I1, rx, e2, e3⟩ => ?_)
    subst e2 e3
    obtain rfl : u = Value.ref p.1 := rx
    obtain ⟨od, J, k⟩ := pin_inst I1 hp T.obj T.dat (.inr ⟨dx, xs, ed, h1⟩)
    obtain ⟨o, mA, rfl, hr, hl⟩ := k dx xs ed h1
    obtain ⟨u, hu, ru⟩ := RelO.some_of (v := v) (o := mA f) (by rw [← l]; exact hr f)
    exact HandSPX.exc_get I1.kIn J Y.ga Y.gg Y.exC (PySem.W.findObj_own Y.hdC N.noN rfl (by rw [hl, hu])) (handed_of ru) ⟨v, _, I1.tok _, ru, q μ _ v (Mo.refl _ _) R qv⟩
/-- isinstance(e, T) of the caught error -/
def rIsx (i : Nat) (t : Tx) (c : Str) (g : Tg) : Run := fun ρ S => match ρ.c with
  | some (j, _, _) => if j = i then (match t.y c g with
    | some b => .ok (.bl b) S
    | none => .no) else .no
  | none => .no
def rIsG (K : PySem.W.Frag) (C a : Addr) (d : Option Addr) : List V → Hp → VK → Prop := fun xs H Q => (d = none ∨ ∃ dd vs, d = some dd ∧ H dd = some (.xd vs)) ∧ ∃ (c : V) (cv : Value) (b : Bool), xs = [.ref a, c] ∧ ClsV c cv ∧ PySem.W.kitOne K (.ref C) cv = some b ∧ Q (.bl b) H
theorem call_isG {p : Addr × Obj} {C : Addr} {d : Option Addr} (Y : ExcC X.K C) (hp : p ∈ X.pn) (hz : Zn (.ref C) d p.2) (hf : ∃ vs, p.2.data = .fields vs) : CallR X (.builtin "isinstance") (rIsG X.K C p.1 d) := by
  intro pins s σ H xs us Q I r ⟨hd, c, cv, b, e0, hcv, e, q⟩
  subst e0
  obtain ⟨u1, u2, rfl, r1, r2⟩ := vals2 r
  cases (show u1 = Value.ref p.1 from r1)
  have e2 := hcv.eq r2
  subst e2
  obtain ⟨od, J, _⟩ := pin_inst I hp hz hf hd
  exact PySem.W.kia_one (PySem.W.kitx_exc (by obtain ⟨cd, hc, _⟩ := PySem.W.any_some Y.hd; rw [hc]; rfl) Y.hg Y.hk Y.hs Y.ha Y.hn Y.ht Y.hm) I.kIn J e (fun z => nomatch z) fun tk => ⟨.bl b, H, I.tok tk, rfl, q⟩
theorem u_isx {p : Addr × Obj} {e c' : Expr} {i : Nat} {C : Addr} {c : Str} {g : Tg} {v : V} {d : Option Addr} {fs : List (Str × D)} {pp : Pos} (B : GX1 X G t) (T : Told G p c C d fs) (hp : p ∈ X.pn) (b : Bl X "isinstance" (.builtin "isinstance")) (hv : tgW G g v) (hc : PE X c' (tC v)) (he : PE X e (tVar i))
    (h1 : starEach [e, c'] X.env = (false, eval e X.env) :: starEach [c'] X.env) (h2 : starEach [c'] X.env = (false, eval c' X.env) :: starEach [] X.env) (hpl : (backTo pos (starEach [c'] X.env)).any (·.1) = false) : PE X (.Call (.Name "isinstance" pp) [e, c'] [] pos) (tI G W (rIsx i t c g)) := by
  obtain ⟨hg, hm, hv0, hn, hd, k⟩ := b
  refine ⟨fun pins s σ H Q I ⟨μ, ρ, S, R, sr, q⟩ => ?_⟩
  unfold rIsx at q
  split at q
  case h_2 => exact q.elim
  rename_i j g0 vs e1
  split at q
  case isFalse => exact q.elim
  rename_i hj
  subst hj
  split at q
  case h_2 => exact q.elim
  rename_i r er
  obtain ⟨Y, hk⟩ := B.y c C g r T.cls er
  obtain ⟨a, ha, hx⟩ := sr.clo _ _ _ e1
  obtain ⟨rfl, hX⟩ := T.clo _ _ _ _ _ hx
  refine (pe_callB (call_isG Y hp T.obj T.dat) hg hm hv0 (pa_cons he (pa_cons hc pa_nil h2) h1) hn hd h1 hpl).run pins s σ H Q I ⟨_, ha, ?_⟩
  refine ⟨hX.elim (fun z => .inl z.2) fun ⟨dx, xs, z1, z2, _⟩ => .inr ⟨dx, xs, z1, z2⟩, v, ?_⟩
  cases g with
  | b n =>
    cases hv
    exact ⟨.type n, r, rfl, .ty n, hk _ rfl, q μ H _ (Mo.refl _ _) R (.of (.b _))⟩
  | own c0 =>
    obtain ⟨E, hE, rfl⟩ := hv
    exact ⟨.ref E, r, rfl, .own E, hk _ ⟨E, hE, rfl⟩, q μ H _ (Mo.refl _ _) R (.of (.b _))⟩
end
end Mt


set_option Elab.async false
set_option maxRecDepth 100000
set_option autoImplicit false
set_option linter.all false
set_option maxHeartbeats 2000000
/-! Lambdas that are handed on: cells told of the heap while the callee runs. -/
namespace Mt
open PySem PySem.Spec PyProof.Rows
open L2 hiding Takes XE takes_of passAt PMk MkP ps_raise mk_of
open L2N (Takes XE takes_of passAt PMk MkP ps_raise mk_of Zn)
open LamX (CodeO TabS TabB)
/-! ### objects told exactly -/
def ObX (a : Addr) (o : Obj) : HO := .ext fun h => h.get? a = some o
abbrev Pts := List (Addr × Obj)
def addX (H : Hp) (ps : Pts) : Hp := fun b => match ps.lookup b with
  | some o => some (ObX b o)
  | none => H b
def cutX (H : Hp) (ps : Pts) : Hp := fun b => match ps.lookup b with
  | some _ => none
  | none => H b
section
variable {H H2 : Hp} {ps : Pts} {b : Addr} {o : Obj} {fs : List Addr} {h h' B : Heap} {P : Program} {w : World}
theorem addX_some (e : ps.lookup b = some o) : addX H ps b = some (ObX b o) := by unfold addX; rw [e]
theorem addX_none (e : ps.lookup b = none) : addX H ps b = H b := by unfold addX; rw [e]
theorem cutX_some (e : ps.lookup b = some o) : cutX H ps b = none := by unfold cutX; rw [e]
theorem cutX_none (e : ps.lookup b = none) : cutX H ps b = H b := by unfold cutX; rw [e]
theorem addX_off {u : HO} (hp : ∀ b o, ps.lookup b = some o → H b = none) (e : H b = some u) : addX H ps b = some u := by
  cases q : ps.lookup b with
  | none => rw [addX_none q]; exact e
  | some o => rw [hp b o q] at e; cases e
theorem cutX_off {u : HO} (hp : ∀ b o, ps.lookup b = some o → H b = some (ObX b o)) (hu : ∀ φ, u ≠ .ext φ) (e : H b = some u) : cutX H ps b = some u := by
  cases q : ps.lookup b with
  | none => rw [cutX_none q]; exact e
  | some o => rw [hp b o q] at e; cases e; exact absurd rfl (hu _)
theorem hok_add (ok : HOk P w H h) (hp : ∀ b o, ps.lookup b = some o → H b = none ∧ h.get? b = some o) : HOk P w (addX H ps) h := fun a u e => by
  cases q : ps.lookup a with
  | none =>
    rw [addX_none q] at e
    exact (ok a u e).stay (fun _ _ _ z => z) (fun b z => addX_off (fun b o z => (hp b o z).1) z) fun b xs z => addX_off (fun b o z => (hp b o z).1) z
  | some o =>
    rw [addX_some q] at e
    cases e
    exact ⟨(hp a o q).2, ⟨o, (hp a o q).2⟩, fun h1 h2 z st => st _ z⟩
theorem hok_cut (ok : HOk P w H h) (hp : ∀ b o, ps.lookup b = some o → H b = some (ObX b o)) : HOk P w (cutX H ps) h := fun a u e => by
  cases q : ps.lookup a with
  | none =>
    rw [cutX_none q] at e
    exact (ok a u e).stay (fun _ _ _ z => z) (fun b z => cutX_off hp (fun _ => nofun) z) fun b xs z => cutX_off hp (fun _ => nofun) z
  | some o =>
    rw [cutX_some q] at e
    cases e
theorem obx_at (ok : HOk P w H h) (e : H b = some (ObX b o)) : h.get? b = some o := (ok b _ e).1
/-- behind a run that was told of them: they are told of no more -/
theorem un_cut (u : Un fs [] (addX H ps) H2 h h') (hp : ∀ b o, ps.lookup b = some o → H b = none ∧ h.get? b = some o ∧ h'.get? b = some o) : Un fs [] H (cutX H2 ps) h h' := by
  have off : ∀ {b v}, H b = some v → ps.lookup b = none := fun {b v} e => by
    cases q : ps.lookup b with
    | none => rfl
    | some o => rw [(hp b o q).1] at e; cases e
  refine ⟨fun b o q n hf hx => ?_, fun b o q n hf hx => ?_, fun b o q n hx => ?_, u.there, fun b xs e => ?_, fun b o v e => ?_, fun b qs e => ?_⟩
  · cases z : ps.lookup b with
    | none => exact u.keep b o q (by rw [addX_none z]; exact n) hf hx
    | some o' =>
      obtain ⟨_, h1, h2⟩ := hp b o' z
      rw [h1] at q; cases q; exact h2
  · cases z : ps.lookup b with
    | none => exact u.slot b o q (by rw [addX_none z]; exact n) hf hx
    | some o' =>
      obtain ⟨_, h1, h2⟩ := hp b o' z
      rw [h1] at q; cases q; exact ⟨o.slots, h2⟩
  · cases z : ps.lookup b with
    | none => rw [cutX_none z]; exact u.free b o q (by rw [addX_none z]; exact n) hx
    | some o' => exact cutX_some z
  · rw [cutX_none (off e)]; exact u.tups b xs (by rw [addX_none (off e)]; exact e)
  · rw [cutX_none (off e)]; exact u.frzs b o v (by rw [addX_none (off e)]; exact e)
  · rw [cutX_none (off e)]; exact u.tbls b qs (by rw [addX_none (off e)]; exact e)
/-- behind a run that was not told of them -/
theorem un_add (u : Un fs [] (cutX H ps) H2 h h') (hp : ∀ b o, ps.lookup b = some o → H b = some (ObX b o)) : Un fs [] H (addX H2 ps) h h' := by
  have off : ∀ {b}, H b = none → ps.lookup b = none := fun {b} e => by
    cases q : ps.lookup b with
    | none => rfl
    | some o => rw [hp b o q] at e; cases e
  have of2 : ∀ {b v}, H b = some v → (∀ φ, v ≠ .ext φ) → ps.lookup b = none := fun {b v} e n => by
    cases q : ps.lookup b with
    | none => rfl
    | some o => rw [hp b o q] at e; cases e; exact absurd rfl (n _)
  refine ⟨fun b o q n => u.keep b o q (by rw [cutX_none (off n)]; exact n), fun b o q n => u.slot b o q (by rw [cutX_none (off n)]; exact n), fun b o q n hx => ?_, u.there, fun b xs e => ?_, fun b o v e => ?_, fun b qs e => ?_⟩
  · rw [addX_none (off n)]; exact u.free b o q (by rw [cutX_none (off n)]; exact n) hx
  · have z := of2 e fun _ => nofun
    rw [addX_none z]; exact u.tups b xs (by rw [cutX_none z]; exact e)
  · have z := of2 e fun _ => nofun
    rw [addX_none z]; exact u.frzs b o v (by rw [cutX_none z]; exact e)
  · have z := of2 e fun _ => nofun
    rw [addX_none z]; exact u.tbls b qs (by rw [cutX_none z]; exact e)
theorem ub_cut (u : UB fs (addX H ps) H2 h B h') (hp : ∀ b o, ps.lookup b = some o → H b = none ∧ h.get? b = some o ∧ B.get? b = some o) : UB fs H (cutX H2 ps) h B h' := by
  have off : ∀ {b v}, H b = some v → ps.lookup b = none := fun {b v} e => by
    cases q : ps.lookup b with
    | none => rfl
    | some o => rw [(hp b o q).1] at e; cases e
  refine ⟨fun b o q n hf => ?_, u.slot, fun b o q n => ?_, u.there, fun b xs e => ?_, fun b o v e => ?_, fun b qs e => ?_⟩
  · cases z : ps.lookup b with
    | none => exact u.keep b o q (by rw [addX_none z]; exact n) hf
    | some o' =>
      obtain ⟨_, h1, h2⟩ := hp b o' z
      rw [h1] at q; cases q; exact h2
  · cases z : ps.lookup b with
    | none => rw [cutX_none z]; exact u.free b o q (by rw [addX_none z]; exact n)
    | some o' => exact cutX_some z
  · rw [cutX_none (off e)]; exact u.tups b xs (by rw [addX_none (off e)]; exact e)
  · rw [cutX_none (off e)]; exact u.frzs b o v (by rw [addX_none (off e)]; exact e)
  · rw [cutX_none (off e)]; exact u.tbls b qs (by rw [addX_none (off e)]; exact e)
end
/-! ### the data do not see them -/
/-- alike but for things told of the machine's heap; code objects are kept -/
structure Eqx (H H' : Hp) : Prop where
  pl : ∀ b u, H b = some u → (∀ φ, u ≠ .ext φ) → H' b = some u
  pl' : ∀ b u, H' b = some u → (∀ φ, u ≠ .ext φ) → H b = some u
  cod : ∀ b q, H b = some (CodeO b q) → H' b = some (CodeO b q)
section
variable {G : Gx} {K : PySem.W.Frag} {μ μ' : Mu} {H H' H2 : Hp} {S : Sto} {ps : Pts}
theorem Eqx.rd (x : Eqx H H') {a : Addr} {u : HO} (h : Rd H a u) (p : Pl u) : Rd H' a u := h.imp (fun z => x.pl a u z p.2) fun ⟨o, z⟩ => ⟨o, x.pl a _ z fun _ => nofun⟩
theorem Eqx.dr (x : Eqx H H') {d : D} {v : V} (h : DR K μ H d v) : DR K μ H' d v := DR.viaT (fun _ _ z => z) (fun a u z n p => ⟨x.rd z p, n⟩) d v h
theorem Eqx.drs (x : Eqx H H') : ∀ {ds : List D} {xs : List V}, DRs K μ H ds xs → DRs K μ H' ds xs
  | [], xs, h => by rw [DRs] at h ⊢; exact h
  | d :: ds, xs, h => by
    rw [DRs] at h ⊢
    obtain ⟨v, r, e, h1, h2⟩ := h
    exact ⟨v, r, e, x.dr h1, x.drs h2⟩
theorem Eqx.frs (x : Eqx H H') {fs : List (Str × D)} {vs : List (Str × V)} (h : FRs K μ H fs vs) : FRs K μ H' fs vs := Paired.mapP h fun _ _ q => ⟨q.1, x.dr q.2⟩
theorem Eqx.krs (x : Eqx H H') {fs : List (D × D)} {vs : List (Key × V)} (h : KRs K μ H fs vs) : KRs K μ H' fs vs := Paired.mapP h fun _ _ q => ⟨q.1, x.dr q.2⟩
theorem Eqx.obj (x : Eqx H H') {a : Addr} {o : Ob} (h : OR G μ H a o) : OR G μ H' a o := by
  cases o with
  | lst ds => obtain ⟨xs, e, q⟩ := h; exact ⟨xs, x.pl _ _ e fun _ => nofun, x.drs q⟩
  | dic kvs => obtain ⟨xs, e, q⟩ := h; exact ⟨xs, x.pl _ _ e fun _ => nofun, x.krs q⟩
  | dicL kvs => obtain ⟨od, xs, e, q⟩ := h; exact ⟨od, xs, x.pl _ _ e fun _ => nofun, x.krs q⟩
  | ins c fs => obtain ⟨C, dx, vs, e0, e, q⟩ := h; exact ⟨C, dx, vs, e0, x.pl _ _ e fun _ => nofun, x.frs q⟩
theorem Eqx.rl (x : Eqx H H') (R : Rl G μ S H) : Rl G μ S H' :=
  ⟨R.len, R.nd, R.dis, fun a h => let ⟨o, e, p⟩ := R.hin a h; ⟨o, x.pl a o e p.2, p⟩, fun l a o h1 h2 => x.obj (R.at_ l a o h1 h2), fun p hp => by
    obtain ⟨qs, h1, h2, h3⟩ := R.tab p hp
    refine ⟨qs, x.pl _ _ h1 fun _ => nofun, h2, fun pos cv hc => ?_⟩
    obtain ⟨c, e1, e2⟩ := h3 pos cv hc
    exact ⟨c, e1, x.cod c _ e2⟩, R.tbs⟩
theorem eqx_add (hp : ∀ b o, ps.lookup b = some o → H b = none) : Eqx H (addX H ps) :=
  ⟨fun b u e _ => addX_off hp e, fun b u e n => by
    cases q : ps.lookup b with
    | none => rw [addX_none q] at e; exact e
    | some o => rw [addX_some q] at e; cases e; exact absurd rfl (n _), fun b q e => addX_off hp e⟩
theorem eqx_cut (hp : ∀ b o, ps.lookup b = some o → H b = some (ObX b o)) (hc : ∀ b o q, ps.lookup b = some o → H b ≠ some (CodeO b q)) : Eqx H (cutX H ps) := by
  refine ⟨fun b u e n => cutX_off hp n e, fun b u e n => ?_, fun b q e => ?_⟩
  · cases q : ps.lookup b with
    | none => rw [cutX_none q] at e; exact e
    | some o => rw [cutX_some q] at e; cases e
  · cases z : ps.lookup b with
    | none => rw [cutX_none z]; exact e
    | some o => exact absurd e (hc b o q z)
theorem mo_cut (m : Mo μ (addX H ps) μ' H2) (hp : ∀ b o, ps.lookup b = some o → H b = none) : Mo μ H μ' (cutX H2 ps) := by
  have off : ∀ {b v}, H b = some v → ps.lookup b = none := fun {b v} e => by
    cases q : ps.lookup b with
    | none => rfl
    | some o => rw [hp b o q] at e; cases e
  have non : ∀ {b}, addX H ps b = none → H b = none := fun {b} e => by
    cases q : ps.lookup b with
    | none => rw [addX_none q] at e; exact e
    | some o => exact hp b o q
  refine ⟨let ⟨ν, e, q⟩ := m.pre; ⟨ν, e, fun a ha => non (q a ha)⟩, fun a o e => ?_, fun a o e n t => ?_, m.sub, fun a h => (m.fre a h).imp (fun z => z) non, fun a h o e => ?_, fun a o u e => ?_⟩
  · rw [cutX_none (off e)]; exact m.dom a o (addX_off hp e)
  · rw [cutX_none (off e)]; exact m.keep a o (addX_off hp e) n t
  · rw [cutX_none (off e)]; exact m.hkp a h o (addX_off hp e)
  · rw [cutX_none (off e)]; exact m.frz a o u (addX_off hp e)
theorem mo_add (m : Mo μ (cutX H ps) μ' H2) (hp : ∀ b o, ps.lookup b = some o → H b = some (ObX b o)) (hn : ∀ b o, ps.lookup b = some o → b ∉ μ ∧ b ∉ μ') : Mo μ H μ' (addX H2 ps) := by
  have non : ∀ {b}, b ∈ μ' → cutX H ps b = none → H b = none := fun {b} hb e => by
    cases q : ps.lookup b with
    | none => rw [cutX_none q] at e; exact e
    | some o => exact absurd hb (hn b o q).2
  refine ⟨let ⟨ν, e, q⟩ := m.pre; ⟨ν, e, fun a ha => non (.inl (by rw [e]; exact List.mem_append_right _ ha)) (q a ha)⟩, fun a o e => ?_, fun a o e n t => ?_, m.sub, fun a h => (m.fre a h).imp (fun z => z) (non (.inr h)), fun a h o e => ?_, fun a o u e => ?_⟩
  · cases q : ps.lookup a with
    | none => rw [addX_none q]; exact m.dom a o (by rw [cutX_none q]; exact e)
    | some o' => exact ⟨_, addX_some q⟩
  · cases q : ps.lookup a with
    | none => rw [addX_none q]; exact m.keep a o (by rw [cutX_none q]; exact e) n t
    | some o' => rw [addX_some q, ← hp a o' q]; exact e
  · cases q : ps.lookup a with
    | none => rw [addX_none q]; exact m.hkp a h o (by rw [cutX_none q]; exact e)
    | some o' => rw [addX_some q, ← hp a o' q]; exact e
  · cases q : ps.lookup a with
    | none => rw [addX_none q]; exact m.frz a o u (by rw [cutX_none q]; exact e)
    | some o' => rw [addX_some q, ← hp a o' q]; exact e
end
/-! ### a lambda as it lies -/
structure Lm where
  qual : Str
  params : Arguments
  body : Expr
  scope : Scope
  par : List Str
  fr : List Str
def Lm.nf (lm : Lm) (cl : List (Str × Addr)) (c : Addr) : NdefX.NF := ⟨"<lambda>", lm.qual, lm.params, [], lm.scope, cl, c⟩
abbrev Lm.obj (lm : Lm) (cl : List (Str × Addr)) (pm : Value) (c : Addr) (ctv : Value) : Obj := PySem.W.kla_obj "<lambda>" lm.qual lm.params lm.body lm.scope cl pm c ctv
/-- the captured cells -/
structure CellsX (K : PySem.W.Frag) (μ : Mu) (H : Hp) (cl : List (Str × Addr)) (fr : List Str) (cs : List D) (ps : Pts) (xs : List V) : Prop where
  dat : DRs K μ H cs xs
  len : xs.length = fr.length
  all : ∀ y c, cl.lookup y = some c → ∃ o, ps.lookup c = some o
  pin : ∀ c o, ps.lookup c = some o → H c = some (ObX c o) ∧ c ∉ μ ∧ ∃ v, o.data = .cell v
  inj : ∀ x y c, cl.lookup x = some c → cl.lookup y = some c → x = y
  has : ∀ (i : Nat) (y : Str), fr[i]? = some y → ∃ c o u v, cl.lookup y = some c ∧ ps.lookup c = some o ∧ o.data = .cell (some u) ∧ xs[i]? = some v ∧ RelV v u
def LamAt (K : PySem.W.Frag) (μ : Mu) (H : Hp) (lm : Lm) (cs : List D) (f : Addr) : Prop :=
  ∃ pm c ctv cl ps xs, H f = some (ObX f (lm.obj cl pm c ctv)) ∧ f ∉ μ ∧ H c = some (CodeO c lm.qual) ∧ c ∉ μ ∧ CellsX K μ H cl lm.fr cs ps xs
theorem LamAt.w {K : PySem.W.Frag} {μ μ' : Mu} {H H' : Hp} {lm : Lm} {cs : List D} {f : Addr} (m : Mw μ H μ' H') (h : LamAt K μ H lm cs f) : LamAt K μ' H' lm cs f := by
  obtain ⟨pm, c, ctv, cl, ps, xs, h1, h2, h3, h4, C⟩ := h
  obtain ⟨q1, q2⟩ := m.keep f _ h1 h2 fun _ z => by cases z
  obtain ⟨q3, q4⟩ := m.keep c _ h3 h4 fun _ z => by cases z
  refine ⟨pm, c, ctv, cl, ps, xs, q1, q2, q3, q4, C.dat.w m, C.len, C.all, fun c o e => ?_, C.inj, C.has⟩
  obtain ⟨z1, z2, z3⟩ := C.pin c o e
  obtain ⟨y1, y2⟩ := m.keep c _ z1 z2 fun _ z => by cases z
  exact ⟨y1, y2, z3⟩
/-- what it promises -/
structure LmOk (P : Program) (w : World) (K : PySem.W.Frag) (mg : Str → Option Value) (base : Heap) (G : Gx) (k : Nat) (lm : Lm) (rb : Run) : Prop where
  one : lm.par.length = 1
  sc : NdefX.NScope (lm.par ++ lm.fr) lm.par lm.fr lm.scope
  bind : ∀ cl pm c ctv us, us.length = lm.par.length → bindArgs (PySem.W.kla_fn "<lambda>" lm.qual lm.params lm.body lm.scope cl pm (.ref c) ctv) ⟨us, []⟩ = pure (lm.par.zip us)
  body : ∀ (A : Around) (outer : List Env) (s : Shared) (H : Hp) (f : Addr) (cl : List (Str × Addr)) (c : Addr), Room k (A.deeper (NdefX.envF (lm.nf cl c) f s.heap.objs.size)) → PE (NdefX.ncx (L2N.CX P w) P w K mg base (lm.par ++ lm.fr) (lm.nf cl c) f A outer s H fun _ _ _ => False) lm.body (tI G W0 rb)
def enOf (ds cs : List D) : En := ⟨ds.map some ++ cs.map some, none⟩
theorem sr_of {G : Gx} {μ : Mu} {H : Hp} {ds cs : List D} {vs xs : List V} {N : List Str} (h1 : DRs G.K μ H ds vs) (h2 : DRs G.K μ H cs xs) (hN : N.length = vs.length + xs.length) : SR G μ H (enOf ds cs) (NdefX.startF N vs (xs.map some)) := by
  have e : NdefX.startF N vs (xs.map some) = (vs ++ xs).map some := by
    unfold NdefX.startF
    rw [List.length_map, show N.length - vs.length - xs.length = 0 by omega, List.replicate_zero, List.append_nil, List.map_append]
  have q := h1.append h2
  rw [e]
  refine ⟨by show (ds.map some ++ cs.map some).length = _; rw [← List.map_append, List.length_map, List.length_map]; exact q.length, fun i d z => ?_, fun i g vs z => by cases z⟩
  have z' : ((ds ++ cs).map some)[i]? = some (some d) := by rw [List.map_append]; exact z
  rw [List.getElem?_map] at z'
  cases hi : (ds ++ cs)[i]? with
  | none => rw [hi] at z'; cases z'
  | some d' =>
    rw [hi] at z'; cases z'
    obtain ⟨v, hv, r⟩ := q.get hi
    exact ⟨v, by rw [List.getElem?_map, hv] <;> rfl, r⟩
section
variable {X : Cx} {G : Gx} {W : WX} {k : Nat} {lm : Lm} {rb : Run}
theorem lam_call (L : LmOk X.prog X.w X.K X.mg X.base G k lm rb) (hr : Room (k + 1) X.A) {pins : List (Addr × Obj)} {σ : L2.St} {H : Hp} {s : Shared} {Q : VK} {E : XK} {us : List Value} {vs : List V} {μ : Mu} {S : Sto} {ds cs : List D} {f : Addr} (I : Inv X pins σ H s) (rv : Vals vs us) (R : Rl G μ S H)
    (q : DRs G.K μ H ds vs) (at_ : LamAt G.K μ H lm cs f) (h1 : ds.length = 1) (fin : Fin G μ H (only (rb (enOf ds cs) S)) Q E) : wpAny (model X.prog X.w) X.A (call (.ref f) us) (EP X pins σ Q) X.xe s := by
  obtain ⟨pm, c, ctv, cl, ps, xs, f1, f2, f3, f4, C⟩ := at_
  have hf := obx_at I.hok f1
  have hcode := NdefX.codeO_at I.hok f3
  have hp : ∀ b o, ps.lookup b = some o → H b = some (ObX b o) := fun b o e => (C.pin b o e).1
  have hh : ∀ b o, ps.lookup b = some o → s.heap.get? b = some o := fun b o e => obx_at I.hok (hp b o e)
  have hc : ∀ b o q, ps.lookup b = some o → H b ≠ some (CodeO b q) := fun b o q e z => by
    obtain ⟨⟨oc, vs, t, g1, g2, g3⟩, _⟩ := I.hok b _ z
    obtain ⟨v, hd⟩ := (C.pin b o e).2.2
    rw [hh b o e] at g1
    cases g1
    rw [hd] at g2
    cases g2
  have x1 : Eqx H (cutX H ps) := eqx_cut hp hc
  have lvs : vs.length = lm.par.length := by rw [← q.length, h1, L.one]
  have e0 := I.env0
  have e1 : Env0 X.prog X.w X.K X.mg X.base X.A X.stack s (cutX H ps) := by
    have cn : ∀ b, H b = none → cutX H ps b = none := fun b e => by
      cases z : ps.lookup b with
      | none => rw [cutX_none z]; exact e
      | some o => exact cutX_some z
    exact ⟨e0.frames, e0.mod, fun b o e => ⟨(e0.bs b o e).1, cn b (e0.bs b o e).2⟩, e0.bsz, e0.funs, fun b hb => cn b (e0.frf b hb), hok_cut e0.hok hp, e0.bare⟩
  have CA : NdefX.CellsAt cl lm.fr (xs.map some) s.heap (cutX H ps) := by
    refine ⟨by rw [List.length_map]; exact C.len, fun y c e => ?_, C.inj, fun i y e => ?_⟩
    · obtain ⟨o, ho⟩ := C.all y c e
      obtain ⟨v, hv⟩ := (C.pin c o ho).2.2
      exact ⟨cutX_some ho, v, o, hh c o ho, hv⟩
    · obtain ⟨c, o, u, v, g1, g2, g3, g4, g5⟩ := C.has i y e
      refine ⟨c, g1, fun v' e' => ⟨u, ?_, o, hh c o g2, g3⟩⟩
      rw [List.getElem?_map, g4] at e'
      cases e'
      exact g5
  have lim : s.heap.NoLimit := I.nolimit
  have rc : codeAny (model X.prog X.w) X.A (.call (.ref f) ⟨us, []⟩) (CR (L2N.CX X.prog X.w) X.stack X.prog X.w (cutX H ps) s (fun v H2 => (∀ b o, ps.lookup b = some o → H2 b = none) → Q v (addX H2 ps)) fun _ _ _ => False) s := by
    refine PySem.W.kla_callFunE hr.depth hf rfl L.sc.co L.sc.gen rfl hcode ?_
    rw [L.bind cl pm c ctv us (by rw [← rv.length]; exact lvs)]
    refine wpAny_pure (wpAny_newFunctionEnv L.sc.nocell (fun ⟨n, _⟩ hy => L.sc.par n (List.of_mem_zip hy).1) (fun h₁ hns hsb => ⟨lim.fresh _ hsb, ?_⟩) L.sc.kind)
    show codeAny _ _ (.expr lm.body (NdefX.envF (lm.nf cl c) f s.heap.objs.size)) _ _
    have kp : ∀ b o, s.heap.get? b = some o → h₁.get? b = some o := fun b o e => hsb.extBut b o (Nat.ne_of_lt (Heap.lt_size e)) (Heap.get?_push_of_some _ e)
    have J := NdefX.inv_startN (f := f) (F := lm.nf cl c) (CX := L2N.CX X.prog X.w) (E := fun _ _ _ => False) (tk := s.toks + (lm.par.zip us).length) L.sc hr.hd e1 lvs rv CA hns kp
    refine PySem.W.kla_codeExpr (wpAny_mono ((L.body X.A X.stack s (cutX H ps) f cl c (hr.deeper _)).run [] _ _ (cutX H ps) (fun v H2 => (∀ b o, ps.lookup b = some o → H2 b = none) → Q v (addX H2 ps)) J ⟨μ, enOf ds cs, S, x1.rl R, sr_of (x1.drs q) (x1.drs C.dat) (by rw [List.length_append, ← lvs, C.len]), ?_⟩) (fun v s' hq => ?_) fun e s' hq => hq)
    · cases hb : rb (enOf ds cs) S with
      | no => rw [hb] at fin; exact fin.elim
      | ex c fs S' => rw [hb] at fin; exact fin.elim
      | ok d S' =>
        rw [hb] at fin
        intro μ' H2 v m R2 qv hz
        have x2 : Eqx H2 (addX H2 ps) := eqx_add hz
        exact fin μ' _ v (mo_add m hp fun b o e => ⟨(C.pin b o e).2.1, R2.fresh (hz b o e)⟩) (x2.rl R2) (x2.dr qv)
    · obtain ⟨w', H', J', rv, q⟩ := hq
      exact ⟨w', H', J'.os, J'.bare, J'.base, J'.hok, rv, q⟩
  refine wpAny_call (codeAny_mono rc fun r s' hq => ?_)
  cases r with
  | error e =>
    obtain ⟨_, _, _, _, _, _, _, _, _, _, _, _, z⟩ := hq
    exact z.elim
  | ok fl =>
    cases fl with
    | ret u =>
      obtain ⟨v, H2, os, bare, un, hok, r, z⟩ := hq
      have hz : ∀ b o, ps.lookup b = some o → H2 b = none := fun b o e => un.free b o (hh b o e) (cutX_some e) (by simp)
      have hk : ∀ b o, ps.lookup b = some o → s'.heap.get? b = some o := fun b o e => un.keep b o (hh b o e) (cutX_some e) (fun hb => by
        have y := e0.frf b hb
        rw [hp b o e] at y; cases y) (by simp)
      exact I.after ⟨v, addX H2 ps, os, bare, un_add un hp, hok_add hok fun b o e => ⟨hz b o e, hk b o e⟩, r, z hz⟩
    | next => exact hq.elim
    | brk => exact hq.elim
    | cont => exact hq.elim
/-- the call of a lambda that a slot holds -/
def rClo (i : Nat) (lb : Nat → Run) (rr : RunA) : Run := fun ρ S => match ρ.c with
  | some (j, g, cs) => if j = i then (rr ρ S).bind fun ds S1 => if ds.length = 1 then only (lb g (enOf ds cs) S1) else .no else .no
  | none => .no
/-- what the closures of the ground are -/
structure GL (X : Cx) (G : Gx) (k : Nat) (lb : Nat → Run) : Prop where
  at_ : ∀ (μ : Mu) (H : Hp) (g : Nat) (cs : List D) (a : Addr), G.clo μ H g cs a → ∃ lm, LamAt G.K μ H lm cs a ∧ LmOk X.prog X.w X.K X.mg X.base G k lm (lb g)
theorem lam_fn {pins : List (Addr × Obj)} {σ : L2.St} {H : Hp} {s : Shared} {μ : Mu} {cs : List D} {f : Addr} (I : Inv X pins σ H s) (h : LamAt G.K μ H lm cs f) : PySem.W.FnAt f s.heap := by
  obtain ⟨pm, c, ctv, cl, ps, xs, h1, _⟩ := h
  exact ⟨_, _, _, _, obx_at I.hok h1⟩
theorem u_clo {lb : Nat → Run} {i : Nat} {x : Str} {p pos : Pos} {e : Expr} {es : List Expr} {rr : RunA} (B : GL X G k lb) (hr : Room (k + 1) X.A) (hN : X.N[i]? = some x) (hv : Vis X.env.scope x) (hd : (x == ("__debug__" : Str)) = false) (hcd : (x == ("__classdict__" : Str)) = false)
    (ha : PA X (e :: es) (tA G W rr)) (he : starEach (e :: es) X.env = (false, eval e X.env) :: starEach es X.env) (hpl : (backTo pos (starEach es X.env)).any (·.1) = false) : PE X (.Call (.Name x p) (e :: es) [] pos) (tI G W (rClo i lb rr)) := by
  refine ⟨fun pins s σ H Q I ⟨μ, ρ, S, R, sr, f⟩ => ?_⟩
  unfold rClo at f
  split at f
  case h_2 => exact f.elim
  rename_i j g cs hc
  split at f
  case isFalse => exact f.elim
  rename_i hj
  subst hj
  obtain ⟨a, hs, hcl⟩ := sr.clo _ _ _ hc
  refine wpAny_Call_Name_kw (thn ((pe_var (pos := p) hN hv hd hcd).run pins s σ H (fun v H1 => v = .ref a ∧ H1 = H) I ⟨.ref a, hs, rfl, rfl⟩) fun u s1 ⟨v, H1, I1, r1, q1⟩ => ?_)
  obtain ⟨ev, eH⟩ := q1
  subst ev
  rw [eH] at I1
  obtain rfl : u = Value.ref a := r1
  obtain ⟨lm, hat, L⟩ := B.at_ μ H g cs a hcl
  refine PySem.W.callWith_F (first := []) (lam_fn I1 hat) (thn (ha.run pos pins s1 σ H _ I1 ⟨μ, ρ, S, R, sr, Fin.binds f⟩) fun us s2 ⟨vs, H2, I2, rv, μ1, ds, S1, m, R1, q, f1⟩ => ?_) he hpl
  obtain ⟨lm', hat', L'⟩ := B.at_ μ1 H2 g cs a (G.stay m.w hcl)
  refine ⟨lam_fn I2 hat', ?_⟩
  show wpAny _ _ (call (.ref a) us) _ _ _
  split at f1
  · rename_i h1
    exact lam_call L' hr I2 rv R1 q hat' h1 f1
  · exact f1.elim
end
end Mt


set_option Elab.async false
set_option maxRecDepth 100000
set_option autoImplicit false
set_option linter.all false
set_option maxHeartbeats 2000000
/-! A lambda made as the last argument of a call. -/
namespace Mt
open PySem PySem.Spec PyProof.Rows
open L2 hiding Takes XE takes_of passAt PMk MkP ps_raise mk_of
open L2N (Takes XE takes_of passAt PMk MkP ps_raise mk_of Zn)
open LamX (CodeO TabS TabB Tabs ExtN)
/-- what stands when the lambda has been made: f the function, c its code -/
structure LamMade (X : Cx) (pins : List (Addr × Obj)) (σ : L2.St) (H : Hp) (s : Shared) (T : List (Addr × Str)) (o : Obj) (q : Str) (f c : Addr) (H' : Hp) (s' : Shared) : Prop where
  inv : Inv X pins σ H' s'
  ext : ExtN H H'
  dom : ∀ b, H' b = none → H b = none
  tbl : ∀ b qs, H' b = some (.tbl qs) → ∃ rs, H b = some (.tbl rs)
  tabs : Tabs T H'
  fn : s'.heap.get? f = some o
  free : H' f = none
  big : s.heap.objs.size ≤ f
  frm : f ∉ frs X.stack
  code : H' c = some (CodeO c q)
section
variable {X : Cx} {pins : List (Addr × Obj)} {σ : L2.St} {H : Hp} {s : Shared}
theorem lam_mk {T : List (Addr × Str)} {k P : Addr} {params : Arguments} {body : Expr} {scope : Scope} {pos : Pos} {E Q : Value → Shared → Prop} (I : Inv X pins σ H s) (B : TabB X.base X.mg k P) (hk : X.env.code = .ref k) (hm : (P, X.env.qual ++ "<lambda>") ∈ T)
    (hu : ∀ p ∈ T, p.1 = P → p.2 = X.env.qual ++ "<lambda>") (ht : Tabs T H) (hd : defaultsOf params X.env = ([], [])) (hf : ∀ y ∈ scope.names, y.2 = .free → ∃ c, X.env.cells.lookup y.1 = some c)
    (h : ∀ (f c : Addr) (pm ctv : Value) (H' : Hp) (s' : Shared), LamMade X pins σ H s T (PySem.W.kla_obj "<lambda>" (X.env.qual ++ "<lambda>") params body scope (cloFrom X.env.cells scope.names []) pm c ctv) (X.env.qual ++ "<lambda>") f c H' s' → Q (.ref f) s') :
    wpAny (model X.prog X.w) X.A (eval (.Lambda params body scope pos) X.env) Q E s := by
  obtain ⟨qs, tP, tq, ta⟩ := ht _ hm
  have gP : s.heap.get? P = some { cls := .none, data := .fields qs } := I.hok P _ tP
  have far : ∀ b, s.heap.objs.size ≤ b → b ∉ frs X.stack := fun b hb z =>
    (List.mem_cons.mp (I.stkSub _ z)).elim (fun e => absurd (Nat.lt_of_lt_of_le (e ▸ I.lt) hb) (Nat.lt_irrefl _)) fun e => I.nofs hb e
  apply PySem.W.kla_eval hd
  cases hit : codeAmong pos qs.toList with
  | some cv =>
    obtain ⟨c, rfl, hc⟩ := ta pos cv hit
    apply PySem.W.kla_makeFunctionHit (mg := X.mg) (c := k) (P := P) (ps := qs) (closure_ok hf) I.ok.glob (I.mod.glob.keeps I.bk) hk (B.code.keeps I.bk) gP tq hit (B.bm.keeps I.bk)
    intro ctv hp tk keep hsz
    refine h hp.objs.size c _ ctv H _ ⟨I.kept fun b o e => Heap.get?_push_of_some _ (keep b o e), ExtN.refl H, fun _ e => e, fun b rs e => ⟨rs, e⟩, ht, Heap.get?_push_size _ rfl, I.hok.fresh hsz, hsz, far _ hsz, hc⟩
  | none =>
    apply PySem.W.kla_makeFunction (mg := X.mg) (c := k) (P := P) (ps := qs) (closure_ok hf) I.ok.glob (I.mod.glob.keeps I.bk) hk (B.code.keeps I.bk) gP tq hit B.gP (B.bm.keeps I.bk)
    intro c ctv hp tk keep hge hlt hrec htb
    obtain ⟨c2, oc, vs, t, e2, hoc, hdat, hv⟩ := hrec
    cases e2
    have hsz : s.heap.objs.size ≤ hp.objs.size := Nat.le_trans hge (Nat.le_of_lt hlt)
    have nc : H c = none := I.hok.fresh hge
    have nPc : P ≠ c := ne_of_none tP nc
    have nfc : hp.objs.size ≠ c := Nat.ne_of_gt hlt
    have nfP : hp.objs.size ≠ P := Nat.ne_of_gt (Nat.lt_of_lt_of_le (Heap.lt_size gP) hsz)
    let H' : Hp := upd (upd H P (.tbl (qs ++ #[rawInt pos.line, rawInt pos.col, .ref c]))) c (CodeO c (X.env.qual ++ "<lambda>"))
    have atc : H' c = some (CodeO c (X.env.qual ++ "<lambda>")) := upd_same
    have atP : H' P = some (.tbl (qs ++ #[rawInt pos.line, rawInt pos.col, .ref c])) := by
      show upd _ c _ P = _
      rw [upd_ne nPc, upd_same]
    have at_ : ∀ b, b ≠ P → b ≠ c → H' b = H b := fun b h1 h2 => by
      show upd _ c _ b = _
      rw [upd_ne h2, upd_ne h1]
    have ex : ExtN H H' := fun b o e n => (at_ b (fun z => n qs (Option.some.inj (e.symm.trans (z ▸ tP)))) (ne_of_none e nc)).trans e
    refine h hp.objs.size c ((X.mg "__name__").getD .none) ctv H' _ ⟨LamX.inv_table I tP (fun b o n e => Heap.get?_push_of_some _ (keep b o n e)) (Heap.get?_push_of_some _ htb) hge ⟨oc, vs, t, Heap.get?_push_of_some _ hoc, hdat, hv⟩, ex, fun b e => ?_, fun b rs e => ?_, fun p hp' => ?_, Heap.get?_push_size _ rfl, ?_, hsz, far _ hsz, atc⟩
    · by_cases h2 : b = c
      · rw [h2]; exact nc
      · by_cases h1 : b = P
        · rw [h1, atP] at e; cases e
        · rw [at_ b h1 h2] at e; exact e
    · by_cases h2 : b = c
      · rw [h2, atc] at e; cases e
      · by_cases h1 : b = P
        · rw [h1]; exact ⟨qs, tP⟩
        · rw [at_ b h1 h2] at e; exact ⟨rs, e⟩
    · by_cases h1 : p.1 = P
      · rw [hu p hp' h1, h1]
        have el : (qs ++ #[rawInt pos.line, rawInt pos.col, Value.ref c]).toList = qs.toList ++ [rawInt pos.line, rawInt pos.col, .ref c] := by simp
        refine ⟨_, atP, by rw [el]; exact PySem.TriplesOk_snoc _ _ _ _ tq, fun p2 cv hcv => ?_⟩
        rw [el] at hcv
        rcases LamX.among_app _ tq hcv with z | z
        · obtain ⟨c0, e1, e2⟩ := ta p2 cv z
          exact ⟨c0, e1, ex _ _ e2 LamX.codeO_ne⟩
        · exact ⟨c, z, atc⟩
      · obtain ⟨rs, a1, a2, a3⟩ := ht p hp'
        refine ⟨rs, (at_ p.1 h1 (ne_of_none a1 nc)).trans a1, a2, fun p2 cv hcv => ?_⟩
        obtain ⟨c0, e1, e2⟩ := a3 p2 cv hcv
        exact ⟨c0, e1, ex _ _ e2 LamX.codeO_ne⟩
    · rw [at_ _ nfP nfc]
      exact I.hok.fresh hsz
/-- the store does not see it -/
theorem LamMade.mo {G : Gx} {μ : Mu} {S : Sto} {o : Obj} {q : Str} {f c : Addr} {H' : Hp} {s' : Shared} (m : LamMade X pins σ H s G.T o q f c H' s') (R : Rl G μ S H) : Mo μ H μ H' ∧ Rl G μ S H' := by
  have mo : Mo μ H μ H' := by
    refine ⟨⟨[], by simp, by simp⟩, fun b u e => ?_, fun b u e _ t => m.ext b u e t, fun _ z => z, fun _ z => .inl z, fun b hb u e => ?_, fun b u v e => m.ext b _ e fun _ => nofun⟩
    · cases z : H' b with
      | some u' => exact ⟨u', rfl⟩
      | none => rw [m.dom b z] at e; cases e
    · obtain ⟨u', e', p⟩ := R.hin b hb
      rw [e] at e'; cases e'
      exact m.ext b u e p.1
  refine ⟨mo, R.mo mo (fun a ha => ?_) m.tabs R.tbs⟩
  · rcases ha with ha | ha
    · obtain ⟨l, ob, hl, hS, q⟩ := R.obj ha
      obtain ⟨u, hu⟩ := R.there (.inl ha)
      rw [hu]
      exact m.ext a u hu (q.pl u hu).1
    · obtain ⟨u, hu, p⟩ := R.hin a ha
      rw [hu]
      exact m.ext a u hu p.1
end
/-! ### handed on -/
def spC (G : Gx) (pc : D → Nat → List D → Sto → R D) : Sp := fun vs H Q E => ∃ v a, vs = [v, .ref a] ∧ ∃ μ S d g cs, Rl G μ S H ∧ DR G.K μ H d v ∧ G.clo μ H g cs a ∧ Fin G μ H (pc d g cs S) Q E
/-- the def at fa takes a value and a lambda, and does pc -/
def FnC (X : Cx) (G : Gx) (k : Nat) (fa : Addr) (pc : D → Nat → List D → Sto → R D) : Prop :=
  ∃ (fd : FuncData) (ps : List Str), FnOk X.prog X.w X.K X.mg X.base (L2N.CX X.prog X.w) k fa fd ps (spC G pc) ∧ Binds X.K fd ps [] ∧ ps.length = 2
def gets (ρ : En) : List Nat → Option (List D)
  | [] => some []
  | j :: js => match ρ.get j, gets ρ js with
    | some d, some ds => some (d :: ds)
    | _, _ => none
theorem gets_rel {G : Gx} {μ : Mu} {H : Hp} {ρ : En} {σ : L2.St} (s : SR G μ H ρ σ) : ∀ {js : List Nat} {cs : List D}, gets ρ js = some cs → ∃ xs, js.map (NdefX.slotAt σ) = xs.map some ∧ DRs G.K μ H cs xs
  | [], cs, h => by cases h; exact ⟨[], rfl, .nil⟩
  | j :: js, cs, h => by
    unfold gets at h
    split at h
    · rename_i d ds e1 e2
      cases h
      obtain ⟨xs, h1, h2⟩ := gets_rel s e2
      obtain ⟨v, h3, h4⟩ := s.dat j d (get_dat e1)
      exact ⟨v :: xs, by rw [List.map_cons, List.map_cons, h1]; congr 1; unfold NdefX.slotAt; rw [h3] <;> rfl, .cons h4 h2⟩
    · cases h
theorem lk_mem {α : Type} {a : Addr} {b : α} : ∀ {l : List (Addr × α)}, l.lookup a = some b → (a, b) ∈ l
  | (x, y) :: r, h => by
    rw [List.lookup_cons] at h
    split at h
    · rename_i e
      have e' : a = x := by simpa using e
      cases h
      rw [e']
      exact List.mem_cons_self
    · exact List.mem_cons_of_mem _ (lk_mem h)
theorem lk_has {α : Type} {a : Addr} {b : α} : ∀ {l : List (Addr × α)}, (a, b) ∈ l → ∃ c, l.lookup a = some c
  | (x, y) :: r, h => by
    rw [List.lookup_cons]
    split
    · exact ⟨y, rfl⟩
    · rename_i e
      rcases List.mem_cons.mp h with z | z
      · cases z; simp at e
      · exact lk_has z
/-- the captured cells' objects -/
def ptsOf (h : Heap) (cl : List (Str × Addr)) : Pts := cl.filterMap fun p => if cl.lookup p.1 = some p.2 then (h.get? p.2).map fun o => (p.2, o) else none
theorem pts_at {h : Heap} {cl : List (Str × Addr)} {c : Addr} {o : Obj} (e : (ptsOf h cl).lookup c = some o) : h.get? c = some o ∧ ∃ y, cl.lookup y = some c := by
  obtain ⟨⟨y, c'⟩, hm, hp⟩ := List.mem_filterMap.mp (lk_mem e)
  split at hp
  · rename_i hl
    cases ho : h.get? c' with
    | none => rw [ho] at hp; cases hp
    | some o' =>
      rw [ho] at hp
      cases hp
      exact ⟨ho, y, hl⟩
  · cases hp
theorem pts_has {h : Heap} {cl : List (Str × Addr)} {y : Str} {c : Addr} {o : Obj} (e : cl.lookup y = some c) (ho : h.get? c = some o) : (ptsOf h cl).lookup c = some o := by
  have hm : (c, o) ∈ ptsOf h cl := List.mem_filterMap.mpr ⟨(y, c), PySem.mem_of_lookup e, by rw [if_pos e, ho] <;> rfl⟩
  obtain ⟨o', h'⟩ := lk_has hm
  have z := (pts_at h').1
  rw [ho] at z
  rw [h', ← z]
theorem Rl.out {G : Gx} {μ : Mu} {S : Sto} {H : Hp} {a : Addr} {φ : Heap → Prop} (R : Rl G μ S H) (e : H a = some (.ext φ)) : a ∉ μ := fun h => by
  rcases h with h | h
  · obtain ⟨l, ob, hl, hS, q⟩ := R.obj h
    exact (q.pl _ e).2 φ rfl
  · obtain ⟨u, e', p⟩ := R.hin a h
    rw [e] at e'; cases e'
    exact p.2 φ rfl
/-- the wish of a run that is told of them -/
def KeptX (pf : Pts) (H : Hp) (Z : Hp → Prop) : Prop := (∀ b o, pf.lookup b = some o → H b = some (ObX b o)) ∧ ((∀ b o q, pf.lookup b = some o → H b ≠ some (CodeO b q)) → Z (cutX H pf))
theorem fin_told {G : Gx} {μ : Mu} {H : Hp} {r : R D} {Q : VK} {E : XK} {pf : Pts} (f : Fin G μ H r Q E) (hp : ∀ b o, pf.lookup b = some o → H b = none ∧ b ∉ μ) : Fin G μ (addX H pf) r (fun v H' => KeptX pf H' (Q v)) fun cv dx H' => KeptX pf H' (E cv dx) := by
  have h0 : ∀ b o, pf.lookup b = some o → H b = none := fun b o e => (hp b o e).1
  have kept : ∀ {μ' : Mu} {H' : Hp}, Mo μ (addX H pf) μ' H' → ∀ b o, pf.lookup b = some o → H' b = some (ObX b o) := fun m b o e => m.keep b _ (addX_some e) (hp b o e).2 fun _ z => by cases z
  cases r with
  | ok d S =>
    intro μ' H' v m R q
    exact ⟨kept m, fun hc => f μ' _ v (mo_cut m h0) ((eqx_cut (kept m) hc).rl R) ((eqx_cut (kept m) hc).dr q)⟩
  | ex c fs S =>
    intro μ' H' cv dx m R ⟨C, h1, h2, h3⟩
    refine ⟨kept m, fun hc => f μ' _ cv dx (mo_cut m h0) ((eqx_cut (kept m) hc).rl R) ⟨C, h1, h2, h3.imp (fun z => z) fun ⟨dy, vs, z1, z2, z3, z4⟩ => ⟨dy, vs, z1, (eqx_cut (kept m) hc).pl _ _ z2 fun _ => nofun, z3, (eqx_cut (kept m) hc).frs z4⟩⟩⟩
  | no => exact f.elim
def rFnL (pc : D → Nat → List D → Sto → R D) (g : Nat) (js : List Nat) (re : Run) : Run := fun ρ S => (re ρ S).bind fun d S1 => match gets ρ js with
  | some cs => pc d g cs S1
  | none => .no
section
variable {X : Cx} {G : Gx} {W : WX} {k : Nat} {fa : Addr} {pc : D → Nat → List D → Sto → R D}
/-- the call with the lambda at f just made -/
theorem told_call (F : FnC X G k fa pc) (hr : Room k X.A) (tk : Takes X W) {pins : List (Addr × Obj)} {σ : L2.St} {H : Hp} {s : Shared} {Q : VK} {u : Value} {v : V} {f c : Addr} {pm ctv : Value} {lm : Lm} {g : Nat} {cl : List (Str × Addr)} {js : List Nat} {cs : List D} {xs : List V}
    (I : Inv X pins σ H s) (rv : RelV v u) {μ : Mu} {S : Sto} {d : D} (R : Rl G μ S H) (q : DR G.K μ H d v) (hclo : ∀ (μ : Mu) (H : Hp) (cs : List D) (a : Addr), LamAt G.K μ H lm cs a → G.clo μ H g cs a)
    (hfn : s.heap.get? f = some (lm.obj cl pm c ctv)) (hf0 : H f = none) (hfr : f ∉ frs X.stack) (hfb : X.base.get? f = none) (hco : H c = some (CodeO c lm.qual)) (CA : NdefX.CellsAt cl lm.fr (js.map (NdefX.slotAt σ)) s.heap H) (hcl : ∀ y c, cl.lookup y = some c → X.s_0.heap.objs.size ≤ c)
    (h1 : js.map (NdefX.slotAt σ) = xs.map some) (h2 : DRs G.K μ H cs xs) (fin : Fin G μ H (pc d g cs S) Q fun cv dx H' => W cv dx σ H') : wpAny (model X.prog X.w) X.A (call (.ref fa) [u, .ref f]) (EP X pins σ Q) X.xe s := by
  obtain ⟨fd, ps, F, hb, hl⟩ := F
  let pt : Pts := ptsOf s.heap cl
  let pf : Pts := (f, lm.obj cl pm c ctv) :: pt
  have cell : ∀ b o, pt.lookup b = some o → s.heap.get? b = some o ∧ H b = none ∧ (∃ v, o.data = .cell v) ∧ X.s_0.heap.objs.size ≤ b := fun b o e => by
    obtain ⟨z1, y, z2⟩ := pts_at e
    obtain ⟨n, v, o', g1, g2⟩ := CA.all y b z2
    rw [z1] at g1; cases g1
    exact ⟨z1, n, ⟨v, g2⟩, hcl y b z2⟩
  have nef : ∀ b o, pt.lookup b = some o → b ≠ f := fun b o e z => by
    obtain ⟨z1, _, ⟨v, z3⟩, _⟩ := cell b o e
    rw [z, hfn] at z1
    cases z1
    cases z3
  have lkf : pf.lookup f = some (lm.obj cl pm c ctv) := by
    show List.lookup f ((f, _) :: pt) = _
    rw [List.lookup_cons, beq_self_eq_true] <;> rfl
  have lkc : ∀ b o, pt.lookup b = some o → pf.lookup b = some o := fun b o e => by
    show List.lookup b ((f, _) :: pt) = _
    rw [List.lookup_cons, show (b == f) = false by simpa using nef b o e]
    exact e
  have lk : ∀ b o, pf.lookup b = some o → (b = f ∧ o = lm.obj cl pm c ctv) ∨ pt.lookup b = some o := fun b o e => by
    have e' : List.lookup b ((f, lm.obj cl pm c ctv) :: pt) = some o := e
    rw [List.lookup_cons] at e'
    split at e'
    · rename_i z
      cases e'
      exact .inl ⟨by simpa using z, rfl⟩
    · exact .inr e'
  have hz : ∀ b o, pf.lookup b = some o → H b = none ∧ s.heap.get? b = some o := fun b o e => by
    rcases lk b o e with ⟨rfl, rfl⟩ | e
    · exact ⟨hf0, hfn⟩
    · exact ⟨(cell b o e).2.1, (cell b o e).1⟩
  have h0 : ∀ b o, pf.lookup b = some o → H b = none := fun b o e => (hz b o e).1
  have nocode : ∀ b o q oc vs, pf.lookup b = some o → o.data = .fields vs → oc = o → q = q → False := fun b o (q : Str) (oc : Obj) vs e hd _ _ => by
    rcases lk b o e with ⟨rfl, rfl⟩ | e
    · cases hd
    · obtain ⟨_, _, ⟨v, z⟩, _⟩ := cell b o e
      rw [z] at hd; cases hd
  have hcode : ∀ {H3 : Hp} {h3 : Heap}, HOk X.prog X.w H3 h3 → (∀ b o, pf.lookup b = some o → H3 b = some (ObX b o)) → ∀ b o q, pf.lookup b = some o → H3 b ≠ some (CodeO b q) := fun {H3 h3} ok kept b o q e z => by
    obtain ⟨⟨oc, vs, t, g1, g2, g3⟩, _⟩ := ok b _ z
    have g4 := obx_at ok (kept b o e)
    rw [g1] at g4
    cases g4
    exact nocode b _ q _ vs e g2 rfl rfl
  have x : Eqx H (addX H pf) := eqx_add h0
  have R1 := x.rl R
  have nb : ∀ b o, pf.lookup b = some o → X.base.get? b = none := fun b o e => by
    rcases lk b o e with ⟨rfl, rfl⟩ | e
    · exact hfb
    · exact Heap.get?_none_of_le (Nat.le_trans I.ok.bsz (cell b o e).2.2.2)
  have nfr : ∀ b o, pf.lookup b = some o → b ∉ frs X.stack := fun b o e hm => by
    rcases lk b o e with ⟨rfl, rfl⟩ | e
    · exact hfr hm
    · rcases List.mem_cons.mp (I.stkSub b hm) with z | z
      · obtain ⟨h', _, ⟨v, hd⟩, _⟩ := cell b o e
        obtain ⟨m, ⟨o', es, ep, ho', hd', _⟩, _⟩ := I.loc
        rw [z, ho'] at h'
        cases h'
        rw [hd'] at hd
        cases hd
      · obtain ⟨_, o', ho', _⟩ := I.ok.funs.mem z
        exact absurd (Nat.lt_of_lt_of_le (Heap.lt_size ho') (cell b o e).2.2.2) (Nat.lt_irrefl _)
  have e0 := I.env0
  have off : ∀ b, H b = none → pf.lookup b = none → addX H pf b = none := fun b e z => by rw [addX_none z]; exact e
  have lkn : ∀ b, (∀ o, pf.lookup b ≠ some o) → pf.lookup b = none := fun b n => by
    cases z : pf.lookup b with
    | none => rfl
    | some o => exact absurd z (n o)
  have e1 : Env0 X.prog X.w X.K X.mg X.base X.A X.stack s (addX H pf) :=
    ⟨e0.frames, e0.mod, fun b o e => ⟨(e0.bs b o e).1, off b (e0.bs b o e).2 (lkn b fun o' z => by rw [nb b o' z] at e; cases e)⟩, e0.bsz, e0.funs, fun b hb => off b (e0.frf b hb) (lkn b fun o' z => nfr b o' z hb), hok_add e0.hok hz, e0.bare⟩
  have lxs : xs.length = lm.fr.length := by
    have z := CA.len
    rw [h1, List.length_map] at z
    exact z
  have hat : LamAt G.K μ (addX H pf) lm cs f := by
    refine ⟨pm, c, ctv, cl, pt, xs, addX_some lkf, R.fresh hf0, addX_off h0 hco, R.out hco, x.drs h2, lxs, fun y b e => ?_, fun b o e => ?_, CA.inj, fun i y e => ?_⟩
    · obtain ⟨n, v, o, g1, g2⟩ := CA.all y b e
      exact ⟨o, pts_has e g1⟩
    · obtain ⟨z1, z2, z3, _⟩ := cell b o e
      exact ⟨addX_some (lkc b o e), R.fresh z2, z3⟩
    · obtain ⟨b, g1, g2⟩ := CA.has i y e
      have hi : i < xs.length := by rw [lxs]; exact (List.getElem?_eq_some_iff.mp e).1
      have hx : xs[i]? = some xs[i] := List.getElem?_eq_getElem hi
      obtain ⟨u', r, o, g3, g4⟩ := g2 xs[i] (by rw [h1, List.getElem?_map, hx] <;> rfl)
      exact ⟨b, o, u', xs[i], g1, pts_has g1 g3, g4, hx, r⟩
  have b := hb s [u, .ref f] I.kIn (by rw [List.append_nil, hl] <;> rfl)
  rw [List.append_nil] at b
  refine wpAny_call (codeAny_mono (F.run X.A X.stack s (addX H pf) ⟨[u, .ref f], []⟩ [u, .ref f] [v, .ref f] (fun v H' => KeptX pf H' (Q v)) (fun cv dx H' => KeptX pf H' fun H2 => W cv dx σ H2) hr e1 b (.cons rv (.cons rfl .nil)) ⟨v, f, rfl, μ, S, d, g, cs, R1, x.dr q, hclo _ _ _ _ hat, fin_told fin fun b o e => ⟨h0 b o e, R.fresh (h0 b o e)⟩⟩) fun r s' hq => ?_)
  cases r with
  | error e =>
    obtain ⟨a, B, H3, cls, dx, rfl, fl, hok, ub, na, os, ag, kept, z⟩ := hq
    have hB : ∀ b o, pf.lookup b = some o → B.get? b = some o := fun b o e => obx_at hok (kept b o e)
    refine tk _ s' (XE.of_call I (E := fun cv dx H' => W cv dx σ H') (fun _ _ _ h => h) ⟨a, B, cutX H3 pf, cls, dx, rfl, fl, hok_cut hok kept, ub_cut ub fun b o e => ⟨h0 b o e, (hz b o e).2, hB b o e⟩, ?_, os, ag, z (hcode hok kept)⟩)
    cases y : pf.lookup a with
    | none => rw [cutX_none y]; exact na
    | some o => exact cutX_some y
  | ok fl =>
    cases fl with
    | ret w =>
      obtain ⟨v', H3, os, bare, un, hok, r, kept, z⟩ := hq
      exact I.after ⟨v', cutX H3 pf, os, bare, un_cut un fun b o e => ⟨h0 b o e, (hz b o e).2, obx_at hok (kept b o e)⟩, hok_cut hok kept, r, z (hcode hok kept)⟩
    | next => exact hq.elim
    | brk => exact hq.elim
    | cont => exact hq.elim
theorem u_fnL {x : Str} {g : Nat} {js : List Nat} {re : Run} {e body : Expr} {params : Arguments} {scope : Scope} {par fr : List Str} {c P : Addr} {pp lp pos : Pos} (F : FnC X G k fa pc) (hr : Room k X.A) (tk : Takes X W) (hg : Gl X x) (hm : X.mg x = some (.ref fa)) (hkp : PySem.W.keepIn X.K (.ref fa) = true) (hdb : (x == ("__debug__" : Str)) = false)
    (ho : PE X e (tI G W re)) (TB : TabB X.base X.mg c P) (hcode : X.env.code = .ref c) (hT : (P, X.env.qual ++ "<lambda>") ∈ G.T) (hu : ∀ p ∈ G.T, p.1 = P → p.2 = X.env.qual ++ "<lambda>") (hdef : defaultsOf params X.env = ([], []))
    (hclo : ∀ (μ : Mu) (H : Hp) (cs : List D) (a : Addr), LamAt G.K μ H ⟨X.env.qual ++ "<lambda>", params, body, scope, par, fr⟩ cs a → G.clo μ H g cs a)
    (hfree : ∀ y ∈ scope.names, y.2 = .free → X.env.scope.names.lookup y.1 = some .cell ∨ X.env.scope.names.lookup y.1 = some .free) (hfr : ∀ y ∈ fr, (y, NameKind.free) ∈ scope.names) (hjs : js.map (fun j => X.N[j]?) = fr.map some) (hfn : ∀ y, X.fn y = true)
    (he : starEach [e, .Lambda params body scope lp] X.env = (false, eval e X.env) :: starEach [.Lambda params body scope lp] X.env) (he2 : starEach [.Lambda params body scope lp] X.env = (false, eval (.Lambda params body scope lp) X.env) :: starEach [] X.env) (hpl : (backTo pos (starEach [.Lambda params body scope lp] X.env)).any (·.1) = false) :
    PE X (.Call (.Name x pp) [e, .Lambda params body scope lp] [] pos) (tI G W (rFnL pc g js re)) := by
  refine ⟨fun pins s σ H Q I ⟨μ, ρ, S, R, sr, f⟩ => wpAny_Call_Name_kw (ld_glob I hg hm (PySem.W.callWith_K (h₀ := X.base) I.ok.mod.kin hkp ?_ he hpl) hdb)⟩
  rw [he]
  show wpAny _ _ (spliced ((false, eval e X.env) :: backTo pos (starEach [.Lambda params body scope lp] X.env))) _ _ s
  refine Calls.spliced_cons (thn (ho.run pins s σ H _ I ⟨μ, ρ, S, R, sr, Fin.bind f⟩) fun u s1 ⟨v, H1, I1, rv, μ1, d, S1, m1, R1, q1, f1⟩ => ?_)
  rw [he2]
  show wpAny _ _ (spliced ((false, eval (.Lambda params body scope lp) X.env) :: backTo pos (starEach [] X.env))) _ _ s1
  have hfr' : ∀ y ∈ scope.names, y.2 = .free → ∃ c, X.env.cells.lookup y.1 = some c := fun y hy e => (hfree y hy e).elim (fun z => I.ok.has _ (.inl z)) fun z => I.ok.has _ (.inr z)
  refine Calls.spliced_cons (lam_mk I1 TB hcode hT hu R1.tab hdef hfr' fun fl c' pm ctv H2 s2 M => Calls.spliced_nil ?_)
  have I2 := M.inv
  refine ⟨I2.kIn, ?_⟩
  show wpAny _ _ (call (.ref fa) [u, .ref fl]) _ _ _
  obtain ⟨m2, R2⟩ := M.mo R1
  split at f1
  case h_2 => exact f1.elim
  rename_i cs hcs
  have sr2 : SR G μ1 H2 ρ σ := (sr.mo m1).mo m2
  obtain ⟨xs, h1, h2⟩ := gets_rel sr2 hcs
  have cp := NdefX.Caps.made (X := X) (fr := fr) (js := js) I2.ok hfree hfr hjs
  refine told_call (lm := ⟨X.env.qual ++ "<lambda>", params, body, scope, par, fr⟩) F hr tk I2 rv R2 (DR.mo m2 _ _ q1) hclo M.fn M.free M.frm ?_ M.code (NdefX.cells_of I2 cp) (fun y b e => I2.ok.cab y b (hfn y) (cp.sub y b e)) h1 h2 (Fin.mo f1 m2)
  cases z : X.base.get? fl with
  | none => rfl
  | some o =>
    exact absurd (Nat.lt_of_lt_of_le (Heap.lt_size (I1.bk _ _ z)) M.big) (Nat.lt_irrefl _)
end
end Mt


set_option Elab.async false
set_option maxRecDepth 100000
set_option autoImplicit false
set_option linter.all false
set_option maxHeartbeats 2000000
/-! While an error is handled: the end of a list's walk, all, list comprehensions. -/
namespace Mt
open PySem PySem.Spec PyProof.Rows L2 HotX L2H

section
variable {prog : Program} {w : World} {A : Around} {E : Value → Shared → Prop} {s : Shared}
theorem hot_list_end {J l x1 : Addr} {i : Nat} {vs : Array Value} {Q : Option Value → Shared → Prop} (hot : HotAt A x1 s.heap) (nx : x1 ≠ J) (a1 : s.heap.IsListIter J l i) (a2 : s.heap.IsList l vs) (a3 : vs[i]? = none)
    (q : ∀ h', Heap.ExtBut J s.heap h' → Q none { s with heap := h' }) : wpAny (model prog w) A (pyNext (.ref J)) Q E s := by
  obtain ⟨o, e1, c1, d1⟩ := id a1
  obtain ⟨ol, e2, _, nl, d2⟩ := a2
  obtain ⟨hh, ox, ws, e3, d3, c3⟩ := hot
  unfold pyNext
  refine wpAny_bind (wpAny_attempt (wpAny_callSpecial?_slot (name := Str.ofString "__next__") a1.typeIs slot_listiter_next (wpAny_call_entry slot_listiter_next a1.typeIs entry_listiter_next ?_ (args_listiter_next _))))
  show wpAny _ _ (field (.ref J) 0 >>= _) _ _ s
  refine wpAny_bind (wpAny_field e1 d1 (x := .ref l) rfl ?_)
  show wpAny _ _ (if (Value.ref l == Value.none) = true then _ else _) _ _ _
  rw [if_neg (show ¬ ((Value.ref l == Value.none) = true) from nofun)]
  show wpAny _ _ (field (.ref J) 1 >>= _) _ _ s
  refine wpAny_bind (wpAny_field e1 d1 (x := .int i 0) rfl ?_)
  show wpAny _ _ (seqItems? (.ref l) >>= _) _ _ _
  refine wpAny_bind (wpAny_seqItems e2 d2 ?_)
  simp only [Int.toNat_natCast, a3]
  refine wpAny_bind (wpAny_rule (wpAny_bind (wpAny_setField e1 d1 (by simp) ?_)))
  show wpAny _ _ (newExc (.type "StopIteration") ([] : List Value) >>= _) _ _ _
  refine wpAny_bind ?_
  simp only [newExc, newTuple]
  refine wpAny_bind (wpAny_newObj_type ?_ (by size_fits))
  refine wpAny_bind (m := firstArgMember _ _) (wpAny_of_eq (a := Value.none) (by first | (simp only [firstArgMember]; rfl) | rfl) ?_)
  refine wpAny_newObj_type ?_ (by size_fits)
  have e4 : ∀ (f : Obj → Obj), (s.heap.update J f).get? x1 = some ox := fun f => by
    rw [Heap.get?_update_other _ _ (Ne.symm nx)]
    exact e3
  refine raiseNew_hot ⟨hh, ox, ws, Heap.get?_push_of_some _ (Heap.get?_push_of_some _ (e4 _)), d3, c3⟩ (Nat.ne_of_lt (Heap.lt_size (Heap.get?_push_of_some _ (e4 _)))) (Heap.get?_push_size _ rfl) rfl (by first | (simp; done) | (simp; omega) | (simp only [Array.size_append]; simp; omega)) ?_
  refine wpAny_bind (wpAny_isInstance (b := true) (T := "StopIteration") ⟨_, Heap.get?_update_self _ (Heap.get?_push_size _ rfl) rfl, rfl⟩ isSubtype_stop ?_)
  refine wpAny_pure (q _ fun b u nb e => ?_)
  have e5 : ∀ (f : Obj → Obj), (s.heap.update J f).get? b = some u := fun f => by
    rw [Heap.get?_update_other _ _ (Ne.symm nb)]
    exact e
  rw [Heap.get?_update_other _ _ (Nat.ne_of_gt (Heap.lt_size (Heap.get?_push_of_some _ (e5 _))))]
  exact Heap.get?_push_of_some _ (Heap.get?_push_of_some _ (e5 _))
theorem hot_at {A : Around} {x : Addr} {h h' : Heap} (c : HotAt A x h) (k : ∀ o, h.get? x = some o → h'.get? x = some o) : HotAt A x h' := by
  obtain ⟨a, o, vs, b, c, d⟩ := c
  exact ⟨a, o, vs, k o b, c, d⟩
theorem walks_listH {x1 : Addr} (I ax : Addr) (n1 : ax ≠ I) (n2 : x1 ≠ I) (items : Array Value) :
    Walks prog w A I [I, ax, x1] [I] items.size (fun i v => items[i]? = some v) (fun i h => h.IsListIter I ax i ∧ h.IsList ax items ∧ HotAt A x1 h) where
  sub := fun b m => by simp at m; simp [m]
  frame := fun _ _ _ st hk => ⟨st.1.at fun o e => hk I (by simp) o e, st.2.1.at fun o e => hk ax (by simp) o e, hot_at st.2.2 fun o e => hk x1 (by simp) o e⟩
  item := fun i s Q E lt st hQ => by
    refine wpAny_pyNext_list_item st.1 st.2.1 (x := items[i]) (by simp [lt]) fun h' hit' hs' => ?_
    exact hQ _ h' s.toks (by simp [lt]) ⟨hit', st.2.1.extBut hs'.extBut n1, hot_at st.2.2 fun o e => hs'.extBut _ o n2 e⟩ fun b o hb e => hs'.extBut b o (fun h => hb (by simp [h])) e
  done := fun s Q E st hQ => hot_list_end st.2.2 n2 st.1 st.2.1 (by simp) fun h' he' => hQ h' s.toks fun b o hb e => he' b o (fun h => hb (by simp [h])) e
  self := fun _ _ _ _ y k => wpAny_pyIter_listiter y.1 k
end
section
variable {X : Cx}
theorem cr_allH (c : HotC X) : CallR X (.builtin "all") (rAll X.K) := by
  intro pins s σ H vs us Q I r h
  obtain ⟨a, bs, rfl, sq, q⟩ := h
  obtain ⟨x1, hot⟩ := c.at I
  obtain ⟨its, rv, hl, _⟩ := I.list sq
  rw [Vals.ref1 r]
  have eb := rv.bls
  refine call_all_walk (iter_any hl.isList fun s₂ e2 st ne => ?_)
  subst e2
  have hx : x1 < s.heap.objs.size := by
    obtain ⟨_, o, _, e, _⟩ := hot
    exact Heap.lt_size e
  refine ⟨_, _, _, _, _, _, _, rfl, walks_listH (A := X.A.in1) (x1 := x1) _ a ne (Nat.ne_of_lt hx) its.toArray, ⟨st.1, st.2, hot_at (A := X.A.in1) hot fun o e => Heap.get?_push_of_some _ e⟩, truth_bools eb, fun h' tk hk => ?_⟩
  refine ⟨.bl _, H, I.kept fun b o eo => hk b o (fun m => ?_) (Heap.get?_push_of_some _ eo), ?_, q⟩
  · have e1 : b = s.heap.objs.size := by simpa using m
    exact absurd (e1 ▸ Heap.lt_size eo) (Nat.lt_irrefl _)
  · show Value.bool _ = Value.bool _
    rw [← L2.all_range, eb, List.size_toArray, List.length_map]
end
end Mt


set_option Elab.async false
set_option maxRecDepth 100000
set_option autoImplicit false
set_option linter.all false
set_option maxHeartbeats 2000000
/-! List comprehensions while an error is handled. -/
namespace Mt
open PySem PySem.Spec PyProof.Rows L2 HotX L2H
/-- a block's ground that keeps the handled error p in view -/
abbrev blkH (X : Cx) (p : Addr × Obj) (s : Shared) (H : Hp) (scope : Scope) (ce : Env) (fp : List Addr) : Cx := (X.blk s H scope ce fp).tr [p] fun _ _ => False
section
variable {X : Cx}
theorem lc_hot {p : Addr × Obj} {pins : List (Addr × Obj)} {s : Shared} {σ : L2.St} {H : Hp} {Q : VK} {elt tg iter : Expr} {ifs : List Expr} {scope : Scope} {own : List (Str × Nat)} {pos pos' : Pos} {wi : TI} {g : TG} {tt : TT} {te : TE} {use : Option (Value → Sem Unit)} {Qf : Value → Shared → Prop}
    (hot : Hot1 X.A p) (hp : p ∈ X.pn) (hN : X.N.Nodup) (I : Inv X pins σ H s) (hi : PIH X tg iter wi) (ok : BlkOk X.N X.env.scope scope own)
    (hg : ∀ (s : Shared) (H : Hp) (C : Addr) (cl : List (Str × Addr)) (fp : List Addr), PG (blkH X p s H scope (compEnvC scope cl C X.env) fp) tg g) (ht : ∀ (s : Shared) (H : Hp) (C : Addr) (cl : List (Str × Addr)) (fp : List Addr), PTs (blkH X p s H scope (compEnvC scope cl C X.env) fp) ifs tt)
    (he : ∀ (s : Shared) (H : Hp) (C : Addr) (cl : List (Str × Addr)) (fp : List Addr), PE (blkH X p s H scope (compEnvC scope cl C X.env) fp) elt te) (hset : ∀ x, foldedSetIterable iter X.env x = pure x)
    (h : tLc wi g tt te (own.map (·.2)) σ H Q)
    (fin : ∀ D C s' m H', Inv X pins σ H' s' → Q (.ref D) H' → s'.heap.Ns C m → FpOk X pins H' C → compPost (model X.prog X.w) X.A X.xe use Qf (.ref D) C (.ok .next) s') :
    wpAny (model X.prog X.w) X.A (comprehension (.ListComp elt [⟨tg, iter, ifs, 0⟩] scope pos) scope X.env pos' (newList []) false (eval iter X.env) use) Qf X.xe s := by
  have inner : ∀ y ∈ scope.names, y.2 = .free → ∃ c, X.env.cells.lookup y.1 = some c := fun y hy e => (ok.free y hy e).elim (fun z => I.ok.has _ (.inl z)) fun z => I.ok.has _ (.inr z)
  refine wpAny_comprehension_free (use := use) rfl hset (closure_ok inner) ok.kind (fun y hy e => by rw [ok.uniq y hy, e]) (thn (hi.run pins s σ H _ I h) fun _ s1 h1 => thn h1 fun _ sb a2 => ?_)
  obtain ⟨it, fp, tn, J, H2, e, U2, T, y2, g2, q⟩ := a2
  subst e
  refine wpAny_newObj_type (newEnv_comp ?_) (by show 0 ≤ sizeLine; decide)
  generalize eD : sb.heap.objs.size = D
  obtain ⟨W, ⟨m0, w0⟩, trn⟩ := q D (U2.hok.fresh (Nat.le_of_eq eD))
  generalize es3 : ({ sb with heap := sb.heap.push { cls := .type "list", data := .seq ([] : List Value).toArray } } : Shared) = sc
  have h3 : sc.heap = sb.heap.push { cls := .type "list", data := .seq ([] : List Value).toArray } := by rw [← es3]
  have U3 : Inv X pins σ (upd H2 D (.lst [])) sc := by
    rw [← es3]
    refine U2.laid (t' := sb.toks) (fun b o e => Heap.get?_push_of_some _ e) (Nat.le_of_eq eD) ⟨Nat.zero_le _, [], 0, .nil, ?_⟩
    subst eD
    exact Heap.get?_push_size _ rfl
  have g3 : ∀ b ∈ fp, FpOk X pins (upd H2 D (.lst [])) b ∧ b < sc.heap.objs.size := fun b hb => by
    obtain ⟨o, e, _⟩ := T.obj _ _ y2 b hb
    have lt := Heap.lt_size e
    have ne : b ≠ D := by rw [← eD]; exact Nat.ne_of_lt lt
    exact ⟨⟨(upd_ne ne).trans (g2 b hb).1, (g2 b hb).2⟩, by rw [h3, Heap.size_push]; exact Nat.lt_succ_of_lt lt⟩
  have y3 : tn 0 sc.heap := T.keep _ _ _ y2 fun b _ o e => by rw [h3]; exact Heap.get?_push_of_some _ e
  have U4 := block_start U3 ok hN g3
  have pgt := hg sc (upd H2 D (.lst [])) sc.heap.objs.size (cellsFrom (sc.heap.objs.size + 1) scope.names (cloFrom X.env.cells scope.names [])) fp
  have ptt := ht sc (upd H2 D (.lst [])) sc.heap.objs.size (cellsFrom (sc.heap.objs.size + 1) scope.names (cloFrom X.env.cells scope.names [])) fp
  have pet := he sc (upd H2 D (.lst [])) sc.heap.objs.size (cellsFrom (sc.heap.objs.size + 1) scope.names (cloFrom X.env.cells scope.names [])) fp
  have P3 := U3.pin p (List.mem_append_left _ hp)
  have npf : ∀ b ∈ fp, p.1 ≠ b := fun b hb => (g3 b hb).1.2.2.2.2.2 p (List.mem_append_left _ hp)
  show codeAny _ _ (.compStart (.ListComp elt [⟨tg, iter, ifs, 0⟩] scope pos) 0 (.ref it) (.ref D) (compEnvC scope (cellsFrom (sc.heap.objs.size + 1) scope.names (cloFrom X.env.cells scope.names [])) sc.heap.objs.size X.env)) (compPost (model X.prog X.w) X.A X.xe use Qf (.ref D) sc.heap.objs.size) ⟨pushCells (sc.heap.push { cls := .type "dict", data := .dict #[] }) scope.names, sc.gens, sc.drawn, sc.toks, sc.os⟩
  have none3 : ∀ b ∈ fp, (upd H2 D (.lst [])) b = none := fun b hb => (g3 b hb).1.1
  generalize hce : compEnvC scope (cellsFrom (sc.heap.objs.size + 1) scope.names (cloFrom X.env.cells scope.names [])) sc.heap.objs.size X.env = ce at U4 pgt ptt pet ⊢
  have eL : ce.locals = sc.heap.objs.size := by subst hce; rfl
  generalize eH3 : upd H2 D (.lst []) = H3 at U3 U4 pgt ptt pet w0 none3 g3 P3
  have U4 : Inv (blkH X p sc H3 scope ce fp) [] (wipe σ (own.map (·.2))) H3 ⟨pushCells (sc.heap.push { cls := .type "dict", data := .dict #[] }) scope.names, sc.gens, sc.drawn, sc.toks, sc.os⟩ := by
    refine (U4.pins_of (pins' := [p]) fun r hr => ?_).toTry _
    have er : r = p := by simpa using hr
    subst er
    refine ⟨pushCells_keeps _ _ _ _ (Heap.get?_push_of_some _ P3.1), P3.2.1, ?_, fun z => ?_, P3.2.2.2.2⟩
    · show r.1 ≠ ce.locals
      rw [eL]
      exact Nat.ne_of_lt (Heap.lt_size P3.1)
    · rcases List.mem_cons.mp (U3.stkSub r.1 z) with z | z
      · exact P3.2.2.1 z
      · exact P3.2.2.2.1 z
  generalize es4 : (⟨pushCells (sc.heap.push { cls := .type "dict", data := .dict #[] }) scope.names, sc.gens, sc.drawn, sc.toks, sc.os⟩ : Shared) = sd at U4 ⊢
  have y4 : tn 0 sd.heap := T.keep _ _ _ y3 fun b _ o e => by rw [← es4]; exact pushCells_keeps _ _ _ _ (Heap.get?_push_of_some _ e)
  have hotB : HotC (blkH X p sc H3 scope ce fp) := ⟨p, hot, List.mem_singleton_self p⟩
  have stat : ∀ {σ' : L2.St} {H' : Hp} {s' : Shared}, Inv (blkH X p sc H3 scope ce fp) [] σ' H' s' → (∀ b ∈ fp, H' b = none) → ∀ b ∈ fp, FpOk (blkH X p sc H3 scope ce fp) [] H' b := fun {σ' H' s'} I' hns b hb =>
    ⟨hns b hb, (I'.ok.exf b hb).1, I'.ok.exfs b hb, .inl hb, fun x c e => (I'.ok.exf b hb).2 x c e, fun r hr => by
      have er : r = p := by simpa using (show r ∈ [p] ++ ([] : List (Addr × Obj)) from hr)
      rw [er]
      exact npf b hb⟩
  have lp : codeAny (model X.prog X.w) X.A (.compLoop (.ListComp elt [⟨tg, iter, ifs, 0⟩] scope pos) 0 (.ref it) (.ref D) ce) (compPost (model X.prog X.w) X.A X.xe use Qf (.ref D) sc.heap.objs.size) sd := by
    refine compLoop_any (fun n s' => ∃ i H', Inv (blkH X p sc H3 scope ce fp) [] (wipe σ (own.map (·.2))) H' s' ∧ tn i s'.heap ∧ (∀ b ∈ fp, H' b = none) ∧ W i n H') ?_ m0 ⟨0, H3, U4, y4, none3, w0⟩
    rintro n se ⟨i, H5, U5, st5, n5, w5⟩
    rcases trn i n H5 w5 with ⟨stop, qq⟩ | ⟨go, Nx, kNx, step⟩
    · refine thnF (T.done (blkH X p sc H3 scope ce fp) rfl rfl rfl hotB i [] se _ H5 (fun _ _ => False) U5 (stat U5 n5) st5 stop) fun r sf ⟨hr, U6⟩ => ?_
      subst hr
      have U7 : Inv X pins σ H5 sf := U3.call' (ch := fp) U6.os U6.base U6.hok U6.bare fun b hb => by
        obtain ⟨⟨_, a1, a2, a3, a4, a5⟩, _⟩ := g3 b hb
        exact ⟨a3, a1, a4, a5⟩
      have nC : H5 sc.heap.objs.size = none := by rw [← eL]; exact U6.free
      obtain ⟨m, hns, _⟩ := U6.loc
      have hns : sf.heap.Ns ce.locals m := hns
      rw [eL] at hns
      exact fin D sc.heap.objs.size sf m H5 U7 qq hns (U3.fpOk (Nat.le_refl _) nC)
    · refine thnF (T.item (blkH X p sc H3 scope ce fp) rfl rfl rfl hotB i [] se _ H5 (fun _ _ => False) U5 (stat U5 n5) st5 go) fun r sf ⟨u, hr, h6⟩ => ?_
      subst hr
      refine thnF h6 fun _ sg ⟨x, H7, U7, r7, y7, st7, n7⟩ => thnF (pgt.run _ sg _ H7 x u _ (U7.pinned (stat U7 n7) (T.obj _ _ st7)) r7 (step x H7 y7)) fun _ sh ⟨σ8, H8, I8, hw8, q8⟩ => thnF (ptt.run _ sh σ8 H8 _ I8 q8) fun b si ⟨H9, I9, q9⟩ => ?_
      have last : ∀ {s' : Shared} {H' : Hp}, Inv (blkH X p sc H3 scope ce fp) ([] ++ pinsAt fp sg.heap) σ8 H' s' → Nx H' → ∃ m, m < n ∧ ∃ i H', Inv (blkH X p sc H3 scope ce fp) [] (wipe σ (own.map (·.2))) H' s' ∧ tn i s'.heap ∧ (∀ b ∈ fp, H' b = none) ∧ W i m H' := fun {s' H'} I' nx => by
        obtain ⟨m', hm, w'⟩ := kNx H' nx
        have pin' : ∀ b ∈ fp, ∀ o, sg.heap.get? b = some o → s'.heap.get? b = some o ∧ H' b = none := fun b hb o e => by
          obtain ⟨z1, z2, _⟩ := I'.pin (b, o) (List.mem_append_right _ (List.mem_append_right _ (mem_pinsAt hb e)))
          exact ⟨z1, z2⟩
        refine ⟨m', hm, i + 1, H', (I'.unpinned (pins := [])).weak (by rw [← hw8, wipe_length]) (fun j v e => by rw [← hw8] at e; exact (wipe_some e).1), T.keep _ _ _ st7 fun b hb o e => (pin' b hb o e).1, fun b hb => ?_, w'⟩
        obtain ⟨o, e, _⟩ := T.obj _ _ st7 b hb
        exact (pin' b hb o e).2
      cases b with
      | false =>
        simp only [Bool.false_eq_true, if_false] at q9 ⊢
        exact last I9 q9
      | true =>
        simp only [if_true] at q9 ⊢
        exact thnF (pet.run _ si σ8 H9 _ I9 q9) fun z s10 ⟨yv, H10, I10, r10, acc, hD10, hz10, nx⟩ => app_ok (X := blkH X p sc H3 scope ce fp) I10 hD10 hz10 r10 fun s11 I11 => last I11 nx
  exact codeAny_compStart_list lp (T.self X.A 0 _ _ _ y4 lp)
/-- as a value -/
theorem pe_lcH {p : Addr × Obj} {elt tg iter : Expr} {ifs : List Expr} {scope : Scope} {own : List (Str × Nat)} {pos : Pos} {wi : TI} {g : TG} {tt : TT} {te : TE} (hot : Hot1 X.A p) (hp : p ∈ X.pn) (hN : X.N.Nodup) (hi : PIH X tg iter wi) (ok : BlkOk X.N X.env.scope scope own)
    (hg : ∀ (s : Shared) (H : Hp) (C : Addr) (cl : List (Str × Addr)) (fp : List Addr), PG (blkH X p s H scope (compEnvC scope cl C X.env) fp) tg g) (ht : ∀ (s : Shared) (H : Hp) (C : Addr) (cl : List (Str × Addr)) (fp : List Addr), PTs (blkH X p s H scope (compEnvC scope cl C X.env) fp) ifs tt)
    (he : ∀ (s : Shared) (H : Hp) (C : Addr) (cl : List (Str × Addr)) (fp : List Addr), PE (blkH X p s H scope (compEnvC scope cl C X.env) fp) elt te) (hset : ∀ x, foldedSetIterable iter X.env x = pure x) :
    PE X (.ListComp elt [⟨tg, iter, ifs, 0⟩] scope pos) (tLc wi g tt te (own.map (·.2))) := by
  refine ⟨fun pins s σ H Q I h => ?_⟩
  rw [eval_ListComp]
  refine lc_hot hot hp hN I hi ok hg ht he hset h fun D C s' m H' I' q hns f => ⟨m, hns, fun h'' sb => ⟨.ref D, H', ?_, rfl, q⟩⟩
  obtain ⟨f0, f1, g2, g3, f4, f5⟩ := f
  exact I'.turned (fun b o hb e => (sb.2 b hb).trans e) f0 f1 g3 f4 f5
/-- the parts of a comprehension there -/
structure LcOkH (X : Cx) (p : Addr × Obj) (G : Gx) (W : WX) (elt tg iter : Expr) (ifs : List Expr) (scope : Scope) (own : List (Str × Nat)) (ri : RunI) (g : Tgt) (js : List Nat) (rc : Option Run) (re : Run) : Prop where
  hot : Hot1 X.A p
  mem : p ∈ X.pn
  nd : X.N.Nodup
  it : PIH X tg iter (tIt G W ri)
  blk : BlkOk X.N X.env.scope scope own
  tgt : ∀ (s : Shared) (H : Hp) (C : Addr) (cl : List (Str × Addr)) (fp : List Addr), PG (blkH X p s H scope (compEnvC scope cl C X.env) fp) tg (tG G js g)
  tst : ∀ (s : Shared) (H : Hp) (C : Addr) (cl : List (Str × Addr)) (fp : List Addr), PTs (blkH X p s H scope (compEnvC scope cl C X.env) fp) ifs (tC0 G rc)
  elt : ∀ (s : Shared) (H : Hp) (C : Addr) (cl : List (Str × Addr)) (fp : List Addr), PE (blkH X p s H scope (compEnvC scope cl C X.env) fp) elt (tI G (fun _ _ _ _ => False) re)
  set_ : ∀ x, foldedSetIterable iter X.env x = pure x
  js_ : ∀ j ∈ js, j ∈ own.map (·.2)
variable {G : Gx} {W : WX} {p : Addr × Obj} {pos pp : Pos} {elt tg iter e : Expr} {ifs : List Expr} {scope : Scope} {own : List (Str × Nat)} {ri : RunI} {g : Tgt} {js : List Nat} {rc : Option Run} {re ra : Run}
theorem u_lcH (o : LcOkH X p G W elt tg iter ifs scope own ri g js rc re) : PE X (.ListComp elt [⟨tg, iter, ifs, 0⟩] scope pos) (tI G W (rLcM ri g rc re (own.map (·.2)) kLst)) :=
  peImp (pe_lcH o.hot o.mem o.nd o.it o.blk o.tgt o.tst o.elt o.set_) fun σ H Q h => tLc_of o.js_ (fun R f => lcEnd_lst R f) h
theorem u_lcNH (o : LcOkH X p G W elt tg iter ifs scope own ri g js rc re) : PE X (.ListComp elt [⟨tg, iter, ifs, 0⟩] scope pos) (tI G W (rLcM ri g rc re (own.map (·.2)) kNew)) :=
  peImp (pe_lcH o.hot o.mem o.nd o.it o.blk o.tgt o.tst o.elt o.set_) fun σ H Q h => tLc_of o.js_ (fun R f => lcEnd_new R f) h
theorem pihImp {t t' : TI} (h : PIH X tg e t) (k : ∀ σ H Q, t' σ H Q → t σ H Q) : PIH X tg e t' := ⟨fun pins s σ H Q I z => h.run pins s σ H Q I (k σ H Q z)⟩
theorem i_range1H (hg : Gl X "range") (hm : X.mg "range" = none) (ha : PE X e (tI G W ra)) (hs : starEach [e] X.env = [(false, eval e X.env)]) : PIH X tg (.Call (.Name "range" pp) [e] [] pos) (tIt G W (rRange1 ra)) :=
  pihImp (pi_range1H hg hm (pa_cons ha pa_nil (by rw [hs]; rfl)) hs) fun σ H Q ⟨μ, ρ, S, R, s, f⟩ => ⟨μ, ρ, S, R, s, (FinI.bind f).mono fun v H1 ⟨μ1, d, S1, m1, R1, q1, f1⟩ => by
    split at f1
    · rename_i j
      split at f1
      · rename_i c
        have w := range_wk (G := G) (μ1 := μ1) (H1 := H1) 0 j.toNat
        rw [show ((List.range j.toNat).map fun i : Nat => D.int ((0 : Int) + i)) = (List.range j.toNat).map fun i : Nat => D.int i from List.map_congr_left fun i _ => by rw [Int.zero_add]] at w
        exact ⟨j, by rw [q1.int], c.1, c.2, f1 μ1 H1 _ (Mo.refl _ _) R1 rfl w⟩
      · exact f1.elim
    · exact f1.elim⟩
end
end Mt


set_option Elab.async false
set_option maxRecDepth 100000
set_option autoImplicit false
set_option linter.all false
set_option maxHeartbeats 2000000
/-! Own defs called while an error is handled; the error as an argument. -/
namespace Mt
open PySem PySem.Spec PyProof.Rows HotX L2H
open L2 hiding Takes XE takes_of passAt PMk MkP ps_raise mk_of
open L2N (Takes XE takes_of passAt PMk MkP ps_raise mk_of Zn)
/-- what a def promises where p's error is handled -/
structure FnP (P : Program) (w : World) (K : PySem.W.Frag) (mg : Str → Option Value) (base : Heap) (k : Nat) (f : Addr) (fd : FuncData) (ps : List Str) (sp : Addr × Obj → Sp) : Prop where
  len : ∀ p vs H Q E, sp p vs H Q E → vs.length = ps.length
  run : ∀ (A : Around) (outer : List Env) (s : Shared) (H : Hp) (args : Args) (us : List Value) (vs : List V) (Q : VK) (E : XK) (p : Addr × Obj), RoomH k A → Hot1 A p → PinOk outer H s p → Env0 P w K mg base A outer s H → BindsTo s fd args (ps.zip us) → Vals vs us → sp p vs H Q E →
    codeAny (model P w) A (.call (.ref f) args) (CR (L2N.CX P w) outer P w H s Q E) s
theorem FnP.imp {P : Program} {w : World} {K : PySem.W.Frag} {mg : Str → Option Value} {base : Heap} {k : Nat} {f : Addr} {fd : FuncData} {ps : List Str} {sp sp' : Addr × Obj → Sp} (F : FnP P w K mg base k f fd ps sp) (h : ∀ p vs H Q E, sp' p vs H Q E → sp p vs H Q E) : FnP P w K mg base k f fd ps sp' :=
  ⟨fun p vs H Q E z => F.len p vs H Q E (h _ _ _ _ _ z), fun A outer s H args us vs Q E p a b c d e f z => F.run A outer s H args us vs Q E p a b c d e f (h _ _ _ _ _ z)⟩
theorem FnP.mono {P : Program} {w : World} {K : PySem.W.Frag} {mg : Str → Option Value} {base : Heap} {j k : Nat} {f : Addr} {fd : FuncData} {ps : List Str} {sp : Addr × Obj → Sp} (F : FnP P w K mg base k f fd ps sp) (h : k ≤ j) : FnP P w K mg base j f fd ps sp :=
  ⟨F.len, fun A outer s H args us vs Q E p a => F.run A outer s H args us vs Q E p (a.mono h)⟩
/-- the ground of such a def's body -/
abbrev cxP (P : Program) (w : World) (K : PySem.W.Frag) (mg : Str → Option Value) (base : Heap) (N : List Str) (qual : Str) (scope : Scope) (f : Addr) (cd : Value) (A : Around) (outer : List Env) (s : Shared) (H : Hp) (E : XK) (p : Addr × Obj) : Cx := cxH (L2N.CX P w) P w K mg base N qual scope f cd A outer s H E p
theorem fn_ofP {P : Program} {w : World} {K : PySem.W.Frag} {mg : Str → Option Value} {base : Heap} {k : Nat} {f : Addr} {name qual : Str} {params : Arguments} {body : List Stmt} {scope : Scope} {dV kV doc pm cdv ct oc : Value} {an od : Option Addr}
    {osl : Array (Option Value)} {N ps : List Str} {sp : Addr × Obj → Sp} (lk : K.lookup f = some ⟨oc, od, .func (PySem.W.fnOf name qual params body scope dV kV doc pm an cdv ct), osl⟩) (hcd : PySem.W.codeIn K cdv qual = true) (S : FnScope N ps scope)
    (len : ∀ p vs H Q E, sp p vs H Q E → vs.length = ps.length)
    (hbody : ∀ (A : Around) (outer : List Env) (s : Shared) (H : Hp) (vs : List V) (Q : VK) (E : XK) (p : Addr × Obj), Hot1 A p → RoomH k (A.deeper (envOfC qual scope s.heap.objs.size f cdv)) → sp p vs H Q E →
      ∃ t, PSs (cxP P w K mg base N qual scope f cdv A outer s H E p) body t ∧ t { nx := fun _ H' => Q .non H', rt := Q } (L2.start N vs) H) :
    FnP P w K mg base (k + 1) f (PySem.W.fnOf name qual params body scope dV kV doc pm an cdv ct) ps sp := by
  refine ⟨len, fun A outer s H args us vs Q E p hr hot pin e0 hb r sat => ?_⟩
  have hkind : ∀ y ∈ ps.zip us, scope.names.lookup y.1 = some .local ∨ (scope.names.lookup y.1 = some .cell ∧ ((cellsFrom (s.heap.objs.size + 1) scope.names []).lookup y.1).isSome = true) := fun ⟨n, v⟩ hy =>
    (S.par n (List.of_mem_zip hy).1).elim .inl fun q => .inr ⟨q, PySem.W.cellsFrom_some _ _ _ (.inl q)⟩
  have kx : K.In s.heap := e0.mod.kin.keeps fun b o e => (e0.bs b o e).1
  refine codeAny_call_function hr.depth (kx _ _ lk) rfl S.co S.gen rfl (PySem.W.codeRec_of kx hcd) (hb _ _ _ _ ?_)
  refine wpAny_newFunctionEnv_cells S.kind hkind fun env e s1 x => ?_
  subst e
  refine ⟨(e0.mod.nolimit.keeps fun b o e => (e0.bs b o e).1).keeps x.toInCall.keep, codeAny_func ?_⟩
  obtain ⟨t, ht, hq⟩ := hbody A outer s H vs Q E p hot (hr.deeper _) sat
  refine wpAny_mono (ht.run [] s1 (L2.start N vs) H _ (inv_startH S pin e0 (len _ _ _ _ _ sat) r x) hq) (fun fl s' hs => ?_) fun e s' hs => hs
  cases fl with
  | ret u =>
    obtain ⟨v, σ', H', J, q1, q⟩ := hs
    exact ⟨v, H', J.os, J.bare, J.base, J.hok, q1, q⟩
  | next =>
    obtain ⟨σ', H', J, q⟩ := hs
    exact ⟨.non, H', J.os, J.bare, J.base, J.hok, rfl, q⟩
  | brk => exact hs.elim fun _ z => z.elim fun _ z => z.2.elim
  | cont => exact hs.elim fun _ z => z.elim fun _ z => z.2.elim
/-- the def at fa does r, on data -/
def FnG (X : Cx) (G : Gx) (k : Nat) (fa : Addr) (r : Fn) : Prop :=
  ∃ (fd : FuncData) (ps : List Str), FnP X.prog X.w X.K X.mg X.base k fa fd ps (fun _ => spF G ps.length r) ∧ Binds X.K fd ps [] ∧ ∀ ds S, ds.length ≠ ps.length → r ds S = .no
/-- the last argument is the error -/
def spX (G : Gx) (n : Nat) (r : Str → List (Str × D) → Fn) (p : Addr × Obj) : Sp := fun vs H Q E => vs.length = n ∧ ∃ ws μ S ds c C d fs, vs = ws ++ [V.ref p.1] ∧ G.cls c = some C ∧ Zn (.ref C) d p.2 ∧ (∃ a, p.2.data = .fields a) ∧ XF G μ H d fs ∧ Rl G μ S H ∧ DRs G.K μ H ds ws ∧ Fin G μ H (r c fs ds S) Q E
def FnX (X : Cx) (G : Gx) (k : Nat) (fa : Addr) (r : Str → List (Str × D) → Fn) : Prop :=
  ∃ (fd : FuncData) (ps : List Str), FnP X.prog X.w X.K X.mg X.base k fa fd ps (spX G ps.length r) ∧ Binds X.K fd ps [] ∧ ∀ c fs ds S, ds.length + 1 ≠ ps.length → r c fs ds S = .no
section
variable {X : Cx} {G : Gx} {k : Nat}
theorem run_fnP {f : Addr} {fd : FuncData} {ps : List Str} {sp : Addr × Obj → Sp} {p : Addr × Obj} {pins : List (Addr × Obj)} {σ : L2.St} {H : Hp} {s : Shared} {Q : VK} {us : List Value} {vs : List V} (F : FnP X.prog X.w X.K X.mg X.base k f fd ps sp) (hr : RoomH k X.A) (hot : Hot1 X.A p) (hp : p ∈ X.pn) (hb : Binds X.K fd ps [])
    (I : Inv X pins σ H s) (r : Vals vs us) (h : sp p vs H Q fun _ _ _ => False) : wpAny (model X.prog X.w) X.A (call (.ref f) us) (EP X pins σ Q) X.xe s := by
  have b := hb s us I.kIn (by rw [List.append_nil, ← r.length]; exact F.len _ _ _ _ _ h)
  rw [List.append_nil] at b
  obtain ⟨g1, g2, g3, g4, g5⟩ := I.pin p (List.mem_append_left _ hp)
  have hpin : PinOk X.stack H s p := ⟨g1, g2, fun hm => (List.mem_cons.mp (I.stkSub p.1 hm)).elim g3 g4, g5⟩
  refine wpAny_call (codeAny_mono (F.run X.A X.stack s H ⟨us, []⟩ us vs Q (WE W0 σ) p hr hot hpin I.env0 b r h) fun r s' hq => ?_)
  cases r with
  | error e => exact passAt (X := X) takes0N σ pins H s e s' I hq
  | ok fl => cases fl <;> first | exact I.after hq | exact False.elim hq
theorem only_fin {μ : Mu} {H : Hp} {r : R D} {Q : VK} {E : XK} (h : Fin G μ H (only r) Q E) : Fin G μ H r Q fun _ _ _ => False := by
  cases r with
  | ok d S => exact h
  | ex c fs S => exact h.elim
  | no => exact h.elim
variable {W : WX} {fa : Addr} {r : Fn} {rx : Str → List (Str × D) → Fn} {p : Addr × Obj} {e : Expr} {es : List Expr} {pos pp py : Pos} {rr : RunA} {x y : Str} {ra : Run}
/-- f(..), nothing raised -/
def rFnO (r : Fn) (rr : RunA) : Run := fun ρ S => (rr ρ S).bind fun ds S1 => only (r ds S1)
theorem u_fnH (F : FnG X G k fa r) (hr : RoomH k X.A) (hot : Hot1 X.A p) (hp : p ∈ X.pn) (hg : Gl X x) (hm : X.mg x = some (.ref fa)) (hk : PySem.W.keepIn X.K (.ref fa) = true) (hdb : (x == ("__debug__" : Str)) = false)
    (ha : PA X (e :: es) (tA G W rr)) (he : starEach (e :: es) X.env = (false, eval e X.env) :: starEach es X.env) (hpl : (backTo pos (starEach es X.env)).any (·.1) = false) : PE X (.Call (.Name x pp) (e :: es) [] pos) (tI G W (rFnO r rr)) := by
  obtain ⟨fd, ps, F, hb, hl⟩ := F
  refine ⟨fun pins s σ H Q I ⟨μ, ρ, S, R, sr, f⟩ => wpAny_Call_Name_kw (ld_glob I hg hm (PySem.W.callWith_K (h₀ := X.base) I.ok.mod.kin hk (thn (ha.run pos pins s σ H _ I ⟨μ, ρ, S, R, sr, Fin.binds f⟩) fun us s1 ⟨vs, H1, I1, rv, q⟩ => ?_) he hpl) hdb)⟩
  obtain ⟨μ1, ds, S1, m, R1, q1, f1⟩ := q
  refine ⟨I1.kIn, run_fnP F hr hot hp hb I1 rv ⟨?_, μ1, S1, ds, R1, q1, only_fin f1⟩⟩
  rw [← q1.length]
  exact Classical.byContradiction fun n => by
    rw [hl ds S1 n] at f1
    exact f1
/-- f(e), f(a, e): e the error, in the slot i -/
def rFx0 (i : Nat) (r : Fn) : Run := fun ρ S => match ρ.c with
  | some (j, _, _) => if j = i then only (r [] S) else .no
  | none => .no
def rFx1 (i : Nat) (r : Fn) (ra : Run) : Run := fun ρ S => match ρ.c with
  | some (j, _, _) => if j = i then (only (ra ρ S)).bind fun d S1 => only (r [d] S1) else .no
  | none => .no
theorem u_fx0 {i : Nat} {c : Str} {C : Addr} {d : Option Addr} {fs : List (Str × D)} (F : FnX X G k fa rx) (T : Told G p c C d fs) (hr : RoomH k X.A) (hot : Hot1 X.A p) (hp : p ∈ X.pn) (hg : Gl X x) (hm : X.mg x = some (.ref fa)) (hk : PySem.W.keepIn X.K (.ref fa) = true) (hdb : (x == ("__debug__" : Str)) = false)
    (hv : PE X (.Name y py) (tVar i)) : PE X (.Call (.Name x pp) [.Name y py] [] pos) (tI G W (rFx0 i (rx c fs))) := by
  obtain ⟨fd, ps, F, hb, hl⟩ := F
  refine ⟨fun pins s σ H Q I ⟨μ, ρ, S, R, sr, f⟩ => ?_⟩
  unfold rFx0 at f
  split at f
  case h_2 => exact f.elim
  rename_i j g vs ec
  split at f
  case isFalse => exact f.elim
  rename_i ej
  subst ej
  obtain ⟨a, ha, hc⟩ := sr.clo _ _ _ ec
  obtain ⟨rfl, hx⟩ := T.clo _ _ _ _ _ hc
  have pa : PA X [.Name y py] (tCons (tVar j) tNil) := pa_cons hv pa_nil rfl
  refine wpAny_Call_Name_kw (ld_glob I hg hm (PySem.W.callWith_K (h₀ := X.base) I.ok.mod.kin hk (thn (pa.run pos pins s σ H (fun vs H1 => vs = [.ref p.1] ∧ H1 = H) I ⟨_, ha, rfl, rfl⟩) fun us s1 ⟨vs, H1, I1, rv, q⟩ => ?_) rfl rfl) hdb)
  obtain ⟨rfl, rfl⟩ := q
  refine ⟨I1.kIn, run_fnP F hr hot hp hb I1 rv ⟨?_, [], μ, S, [], c, C, d, fs, rfl, T.cls, T.obj, T.dat, hx, R, .nil, only_fin f⟩⟩
  exact Classical.byContradiction fun n => by
    rw [hl c fs [] S n] at f
    exact f
theorem u_fx1 {i : Nat} {c : Str} {C : Addr} {d : Option Addr} {fs : List (Str × D)} (F : FnX X G k fa rx) (T : Told G p c C d fs) (hr : RoomH k X.A) (hot : Hot1 X.A p) (hp : p ∈ X.pn) (hg : Gl X x) (hm : X.mg x = some (.ref fa)) (hk : PySem.W.keepIn X.K (.ref fa) = true) (hdb : (x == ("__debug__" : Str)) = false)
    (hv : PE X (.Name y py) (tVar i)) (ha : PE X e (tI G W ra)) (he : starEach [e, .Name y py] X.env = (false, eval e X.env) :: starEach [.Name y py] X.env) : PE X (.Call (.Name x pp) [e, .Name y py] [] pos) (tI G W (rFx1 i (rx c fs) ra)) := by
  obtain ⟨fd, ps, F, hb, hl⟩ := F
  refine ⟨fun pins s σ H Q I ⟨μ, ρ, S, R, sr, f⟩ => ?_⟩
  unfold rFx1 at f
  split at f
  case h_2 => exact f.elim
  rename_i j g vs ec
  split at f
  case isFalse => exact f.elim
  rename_i ej
  subst ej
  have pa : PA X [e, .Name y py] (tCons (tI G W ra) (tCons (tVar j) tNil)) := pa_cons ha (pa_cons hv pa_nil rfl) he
  have pre : tCons (tI G W ra) (tCons (tVar j) tNil) σ H (fun vs H1 => ∃ v μ1 d1 S1, vs = [v, .ref p.1] ∧ Mo μ H μ1 H1 ∧ Rl G μ1 S1 H1 ∧ VR G μ1 H1 d1 v ∧ XF G μ1 H1 d fs ∧ Fin G μ1 H1 (only (rx c fs [d1] S1)) Q fun cv dx H' => W cv dx σ H') := by
    refine ⟨μ, ρ, S, R, sr, (fin_only (Fin.bind f)).mono fun v H1 ⟨μ1, d1, S1, m, R1, q1, f1⟩ => ?_⟩
    obtain ⟨a, ha', hc⟩ := (sr.mo m).clo _ _ _ ec
    obtain ⟨rfl, hx⟩ := T.clo _ _ _ _ _ hc
    exact ⟨_, ha', v, μ1, d1, S1, rfl, m, R1, q1, hx, f1⟩
  refine wpAny_Call_Name_kw (ld_glob I hg hm (PySem.W.callWith_K (h₀ := X.base) I.ok.mod.kin hk (thn (pa.run pos pins s σ H _ I pre) fun us s1 ⟨vs, H1, I1, rv, q⟩ => ?_) he rfl) hdb)
  obtain ⟨v, μ1, d1, S1, rfl, m, R1, q1, hx, f1⟩ := q
  refine ⟨I1.kIn, run_fnP F hr hot hp hb I1 rv ⟨?_, [v], μ1, S1, [d1], c, C, d, fs, rfl, T.cls, T.obj, T.dat, hx, R1, .cons q1 .nil, only_fin f1⟩⟩
  exact Classical.byContradiction fun n => by
    rw [hl c fs [d1] S1 n] at f1
    exact f1
end
/-! ### the suite's ground and the outer one -/
section
variable {X : Cx} {G : Gx} {a : Addr} {d : Option Addr} {fs : List (Str × D)} {k : Nat} {fa : Addr}
theorem fin_ungx {μ : Mu} {H : Hp} {r : R D} {Q : VK} {E : XK} (h : Fin (gx G a d fs) μ H r Q E) : Fin G μ H r Q E := by
  cases r with
  | ok x S => exact fun μ' H' v m R q => h μ' H' v m R.gx q
  | ex c gs S => exact fun μ' H' cv dx m R x => h μ' H' cv dx m R.gx x
  | no => exact h
theorem FnG.gx {r : Fn} (F : FnG X G k fa r) : FnG X (Mt.gx G a d fs) k fa r := by
  obtain ⟨fd, ps, F, hb, hl⟩ := F
  exact ⟨fd, ps, F.imp fun p vs H Q E ⟨e, μ, S, ds, R, q, f⟩ => ⟨e, μ, S, ds, R.ungx, q, fin_ungx f⟩, hb, hl⟩
theorem FnX.gx {r : Str → List (Str × D) → Fn} (F : FnX X G k fa r) : FnX X (Mt.gx G a d fs) k fa r := by
  obtain ⟨fd, ps, F, hb, hl⟩ := F
  exact ⟨fd, ps, F.imp fun p vs H Q E ⟨e, ws, μ, S, ds, c, C, d1, fs1, h1, h2, h3, h4, h5, R, q, f⟩ => ⟨e, ws, μ, S, ds, c, C, d1, fs1, h1, h2, h3, h4, h5, R.ungx, q, fin_ungx f⟩, hb, hl⟩
end
end Mt


set_option Elab.async false
set_option maxRecDepth 100000
set_option autoImplicit false
set_option linter.all false
set_option maxHeartbeats 2000000
/-! The own tree of a text and its meaning. -/
namespace Mt
open PySem PySem.Spec PyProof.Rows L2
/-! ### list + list, a new object -/
def gAddN : G2 := fun S d e => match dAddL S d e with
  | some ds => .ok (.loc S.length) (S ++ [.lst ds])
  | none => .no
theorem s_addN {G : Gx} {X : Cx} : OpM G X (binaryOp .Add) gAddN := fun pins s σ H x y v u Q μ S d e I r1 r2 R q1 q2 f => by
  unfold gAddN at f
  split at f
  · rename_i ds eds
    exact s_addL pins s σ H x y v u Q μ S d e ds I r1 r2 R q1 q2 eds (gotL_new (fun μ' H' w m R' q => f μ' H' w m R' q) R)
  · exact f.elim
theorem u_binM {X : Cx} {G : Gx} {W : WX} {pos : Pos} {g : G2} {ra rb : Run} {a b : Expr} {op : Operator} (ho : OpM G X (binaryOp op) g) (ha : PE X a (tI G W ra)) (hb : PE X b (tI G W rb)) : PE X (.BinOp a op b pos) (tI G W (rOpM g ra rb)) :=
  peImp (pe_op ho.r ha hb) fun σ H Q h => tOpM_of h
/-! ### the tree -/
inductive Bo where
  | add | sub | mul | fdiv | mod | pow
  deriving DecidableEq
inductive Co where
  | lt | le | gt | ge | ne | is_ | isNot | in_ | notIn
  deriving DecidableEq
inductive Bn where
  | len | all_ | any_ | sum | max | min | int | abs | str | tuple
  deriving DecidableEq
inductive Bm where
  | append | extend | pop | clear | get
  deriving DecidableEq
mutual
inductive Ex where
  | var (i : Nat)
  | cst (d : D)
  | glob (x : Str)
  | bin (o : Bo) (a b : Ex)
  | addN (a b : Ex)
  | neg (a : Ex)
  | cmp (o : Co) (a b : Ex)
  | eq (a b : Ex)
  | chain (o p : Co) (a b c : Ex)
  | and (es : Es)
  | or (es : Es)
  | not (a : Ex)
  | ite (c a b : Ex)
  | tup (es : Es)
  | lst (n : Bool) (es : Es)
  | call (b : Bn) (e : Ex)
  | sorted (n : Bool) (e : Ex)
  | list (n : Bool) (e : Ex)
  | dictOf (e : Ex)
  | ix (a b : Ex)
  | cut (a : Ex) (lo hi : Eo)
  | lc (n : Bool) (own : List (Str × Nat)) (it : Iw) (tg : Gt) (c : Eo) (e : Ex)
  | dc (own : List (Str × Nat)) (it : Iw) (tg : Gt) (c : Eo) (k v : Ex)
  | fn (q : Str) (es : Es)
  | make (c q : Str) (es : Es)
  | meth (o : Ex) (m : Str) (es : Es)
  | attr (o : Ex) (f : Str)
  | bm (b : Bm) (o : Ex) (es : Es)
  | isi (t : Tg) (e : Ex)
  | dict (ks : Ks)
  | srt (e : Ex)
  | fnL (q : Str) (g : Nat) (js : List Nat) (par fr : List Str) (e : Ex)
  | clo (i : Nat) (es : Es)
  | xf (i : Nat) (f : Str)
  | eqP (a b : Ex)
  | isH (t : Tg) (e : Ex)
  | isx (i : Nat) (t : Tg)
  | callH (b : Bn) (e : Ex)
  | ixP (a b : Ex)
  | lcH (n : Bool) (own : List (Str × Nat)) (j : Nat) (it e : Ex)
  | fnH (q : Str) (es : Es)
  | fx0 (q : Str) (i : Nat)
  | fx1 (q : Str) (i : Nat) (e : Ex)
  | lock (d e : Ex)
inductive Es where
  | nil
  | cons (e : Ex) (r : Es)
  | star (e : Ex) (r : Es)
inductive Eo where
  | none
  | some (e : Ex)
inductive Ks where
  | nil
  | cons (k v : Ex) (r : Ks)
inductive Iw where
  | seq (e : Ex)
  | keys (e : Ex)
  | items (e : Ex)
  | signs (e : Ex)
  | range (e : Ex)
  | enum (e : Ex)
inductive Gt where
  | name (i : Nat)
  | tup (gs : Gs)
  | sub (o i : Ex)
  | fld (o : Ex) (f : Str)
inductive Gs where
  | nil
  | cons (g : Gt) (r : Gs)
end
mutual
inductive St where
  | pass
  | expr (e : Ex)
  | ret (e : Ex)
  | retN
  | ite (c : Ex) (a b : Ss)
  | asg (t : Gt) (e : Ex)
  | fld (o : Ex) (f : Str) (e : Ex)
  | par (is : List Nat) (es : Es)
  | aug (i : Nat) (o : Bo) (e : Ex)
  | augF (o : Ex) (f : Str) (p : Bo) (e : Ex)
  | while_ (c : Ex) (b : Ss)
  | for_ (it : Iw) (g : Gt) (b : Ss)
  | raise1 (c f : Str) (e : Ex)
  | raise0 (c : Str)
  | try_ (b : Ss) (hs : Hs)
  | lock (d : Ex) (s : St)
  | bad
  | setLc (i : Nat) (n : Bool) (own : List (Str × Nat)) (it : Iw) (tg : Gt) (c : Eo) (e : Ex)
inductive Ss where
  | nil
  | cons (s : St) (r : Ss)
inductive Hs where
  | nil
  | cons (e : Str) (i : Option Nat) (b : Ss) (r : Hs)
end
/-! ### the meaning -/
def Bo.op : Bo → Operator
  | .add => .Add
  | .sub => .Sub
  | .mul => .Mult
  | .fdiv => .FloorDiv
  | .mod => .Mod
  | .pow => .Pow
def Bo.g : Bo → Sto → D → D → Option D
  | .add => dAdd
  | .sub => dSub
  | .mul => dMul
  | .fdiv => dFdiv
  | .mod => dMod
  | .pow => dPow
def Bo.i : Bo → Int → Int → Int
  | .add => fun i j => i + j
  | .sub => fun i j => i - j
  | _ => fun i j => i * j
def Co.op : Co → CmpOp
  | .lt => .Lt
  | .le => .LtE
  | .gt => .Gt
  | .ge => .GtE
  | .ne => .NotEq
  | .is_ => .Is
  | .isNot => .IsNot
  | .in_ => .In
  | .notIn => .NotIn
def Co.g : Co → Sto → D → D → Option D
  | .lt => dLt
  | .le => dLe
  | .gt => dGt
  | .ge => dGe
  | .ne => dNe
  | .is_ => dIs
  | .isNot => dIsNot
  | .in_ => dIn
  | .notIn => dNotIn
def Bn.x : Bn → Str
  | .len => "len"
  | .all_ => "all"
  | .any_ => "any"
  | .sum => "sum"
  | .max => "max"
  | .min => "min"
  | .int => "int"
  | .abs => "abs"
  | .str => "str"
  | .tuple => "tuple"
def Bn.g : Bn → Sto → List D → Option D
  | .len => on1 dLen
  | .all_ => on1 dAll
  | .any_ => on1 dAny
  | .sum => on1 dSum
  | .max => on1 dMax
  | .min => on1 dMin
  | .int => on1 dInt
  | .abs => on1 dAbs
  | .str => on1 dStr
  | .tuple => on1 dTuple
def Bm.t : Bm → Bt
  | .append => .list
  | .extend => .list
  | .pop => .list
  | .clear => .dict
  | .get => .dict
def Bm.x : Bm → Str
  | .append => "append"
  | .extend => "extend"
  | .pop => "pop"
  | .clear => "clear"
  | .get => "get"
def Bm.g : Bm → Mg
  | .append => gAppend
  | .extend => gExtend
  | .pop => gPops
  | .clear => gClear
  | .get => gGet
/-- what the text's parts mean: the classes' table, the errors', the defs, those that take a lambda, the lambdas, the constants, the caught error, the turns of a while -/
structure Mm where
  T : Tab
  t : Tx
  P : Pr
  PC : Str → D → Nat → List D → Sto → R D
  PX : Str → Str → List (Str × D) → Fn
  lb : Nat → Run
  k : Str → Option D
  c : Str
  fs : List (Str × D)
  n : Nat
def rNeg (ra : Run) : Run := rOp1 (fun _ d => match d with
  | .int i => some (.int (-i))
  | _ => none) ra
mutual
def Ex.den (m : Mm) : Ex → Run
  | .var i => rVar i
  | .cst d => rK d
  | .glob x => match m.k x with
    | some d => rK d
    | none => fun _ _ => .no
  | .bin o a b => rOp2 o.g (a.den m) (b.den m)
  | .addN a b => rOpM gAddN (a.den m) (b.den m)
  | .neg a => rNeg (a.den m)
  | .cmp o a b => rOp2 o.g (a.den m) (b.den m)
  | .eq a b => rOpM (gEq m.T m.P) (a.den m) (b.den m)
  | .chain o p a b c => rChain o.g p.g (a.den m) (b.den m) (c.den m)
  | .and es => es.dAnd m
  | .or es => es.dOr m
  | .not a => rNot (a.den m)
  | .ite c a b => rIf (c.den m) (a.den m) (b.den m)
  | .tup es => rTup (es.den m)
  | .lst n es => if n then rLstN (es.den m) else rLst (es.den m)
  | .call b e => rCall b.g (rCons (e.den m) rNil)
  | .sorted n e => if n then rCallN (fun S ds => ((on1L dSorted) S ds).map .lst) (rCons (e.den m) rNil) else rCall (fun S ds => ((on1L dSorted) S ds).map .lst) (rCons (e.den m) rNil)
  | .list n e => if n then rCallN (fun S ds => ((on1L dList) S ds).map .lst) (rCons (e.den m) rNil) else rCall (fun S ds => ((on1L dList) S ds).map .lst) (rCons (e.den m) rNil)
  | .dictOf e => rCallN dDict (rCons (e.den m) rNil)
  | .ix a b => rOp2 dIx (a.den m) (b.den m)
  | .cut a lo hi => rCut (fun S d lo hi => (dCut S d lo hi).or ((dCutL S d lo hi).map .lst)) (a.den m) (lo.denP m) (hi.denP m)
  | .lc n own it tg c e => rLcM (it.den m) (tg.den m) (c.denC m) (e.den m) (own.map (·.2)) (if n then kNew else kLst)
  | .dc own it tg c k v => rDc (it.den m) (tg.den m) (c.denC m) (k.den m) (v.den m) (own.map (·.2))
  | .fn q es => rFn (m.P q) (es.den m)
  | .make c q es => rMake m.P c q (es.den m)
  | .meth o f es => rMeth m.T m.P f (o.den m) (es.den m)
  | .attr o f => rAttr m.T m.P f (o.den m)
  | .bm b o es => rBm b.t b.g (o.den m) (es.den m)
  | .isi t e => rIsiD m.T.pl t (e.den m)
  | .dict ks => match ks with
    | .nil => rDict0
    | ks => rDict (ks.den m)
  | .srt e => rSortSetD (e.den m)
  | .fnL q g js _ _ e => rFnL (m.PC q) g js (e.den m)
  | .clo i es => rClo i m.lb (es.den m)
  | .xf i f => rXf i m.t m.c m.fs f
  | .eqP a b => rOp2 dEq (a.den m) (b.den m)
  | .isH t e => rIsiD m.T.pl t (e.den m)
  | .isx i t => rIsx i m.t m.c t
  | .callH b e => rCall b.g (rCons (e.den m) rNil)
  | .ixP a b => rOp2 dIx (a.den m) (b.den m)
  | .lcH n own j it e => rLcM (rRange1 (it.den m)) (gtName j) none (e.den m) (own.map (·.2)) (if n then kNew else kLst)
  | .fnH q es => rFnO (m.P q) (es.den m)
  | .fx0 q i => rFx0 i (m.PX q m.c m.fs)
  | .fx1 q i e => rFx1 i (m.PX q m.c m.fs) (e.den m)
  | .lock d e => rLk (lkOf (d.den m)) (e.den m)
def Es.den (m : Mm) : Es → RunA
  | .nil => rNil
  | .cons e r => rCons (e.den m) (r.den m)
  | .star e r => rStar (e.den m) (r.den m)
def Es.dAnd (m : Mm) : Es → Run
  | .nil => fun _ _ => .no
  | .cons e r => match r with
    | .nil => e.den m
    | r => rAnd (e.den m) (r.dAnd m)
  | .star _ _ => fun _ _ => .no
def Es.dOr (m : Mm) : Es → Run
  | .nil => fun _ _ => .no
  | .cons e r => match r with
    | .nil => e.den m
    | r => rOr (e.den m) (r.dOr m)
  | .star _ _ => fun _ _ => .no
def Eo.denP (m : Mm) : Eo → RunP
  | .none => rpNone
  | .some e => rpSome (e.den m)
def Eo.denC (m : Mm) : Eo → Option Run
  | .none => none
  | .some e => some (e.den m)
def Ks.den (m : Mm) : Ks → List (Run × Run)
  | .nil => []
  | .cons k v r => (k.den m, v.den m) :: r.den m
def Iw.den (m : Mm) : Iw → RunI
  | .seq e => rSeq (e.den m)
  | .keys e => rOver dKeys (e.den m)
  | .items e => rOver dItems (e.den m)
  | .signs e => rOver dSigns (e.den m)
  | .range e => rRange1 (e.den m)
  | .enum e => rEnum (e.den m)
def Gt.den (m : Mm) : Gt → Tgt
  | .name i => gtName i
  | .tup gs => gtTup gs.len (gs.den m)
  | .sub o i => gtSub (o.den m) (i.den m)
  | .fld o f => gtFld m.T f (o.den m)
def Gs.den (m : Mm) : Gs → Tgts
  | .nil => gtNil
  | .cons g r => gtCons (g.den m) (r.den m)
def Gs.len : Gs → Nat
  | .nil => 0
  | .cons _ r => r.len + 1
end
def Mm.at_ (m : Mm) (c : Str) (fs : List (Str × D)) : Mm := { m with c := c, fs := fs }
mutual
def St.den : St → Mm → RunS
  | .pass, _ => rsNil
  | .expr e, m => rsExpr (e.den m)
  | .ret e, m => rsRet (e.den m)
  | .retN, _ => rsRetN
  | .ite c a b, m => rsIf (c.den m) (a.den m) (b.den m)
  | .asg t e, m => rsAsg (e.den m) (t.den m)
  | .fld o f e, m => rsFld m.T f (o.den m) (e.den m)
  | .par is es, m => rsPar is (es.den m)
  | .aug i o e, m => rsAugV i o.i (e.den m)
  | .augF o f p e, m => rsAugF m.T p.i f (o.den m) (e.den m)
  | .while_ c b, m => rsWhile (c.den m) (b.den m) m.n
  | .for_ it g b, m => rsFor (it.den m) (g.den m) (b.den m)
  | .raise1 c f e, m => rsRaise1 c f (e.den m)
  | .raise0 c, _ => rsRaise0 c
  | .try_ b hs, m => rsTry m.t.ex (b.den m) (hs.den m)
  | .lock d s, m => rsLk (lkOf (d.den m)) (s.den m)
  | .bad, _ => fun _ _ => .no
  | .setLc i n own it tg c e, m => rsAsg (rLcM (it.den m) (tg.den m) (c.denC m) (e.den m) (own.map (·.2)) (if n then kNew else kLst)) (gtName i)
def Ss.den : Ss → Mm → RunS
  | .nil, _ => rsNil
  | .cons s r, m => rsSeq (s.den m) (r.den m)
def Hs.den : Hs → Mm → List Hn
  | .nil, _ => []
  | .cons e i b r, m => ⟨e, i, fun c fs => b.den (m.at_ c fs)⟩ :: r.den m
end
/-- a def's run: its parameters' slots, then the others -/
def runOf (r : Fs) : R D := match r with
  | .next _ S => .ok .non S
  | .ret d S => .ok d S
  | .ex c fs _ S => .ex c fs S
  | _ => .no
structure Df where
  np : Nat
  N : List Str
  b : Ss
def Df.run (f : Df) (m : Mm) : Fn := fun ds S => if ds.length = f.np then runOf (f.b.den m ⟨ds.map some ++ List.replicate (f.N.length - f.np) none, none⟩ S) else .no
/-- a def that takes a value and a lambda -/
def Df.runC (f : Df) (m : Mm) : D → Nat → List D → Sto → R D := fun d g cs S => runOf (f.b.den m ⟨some d :: none :: List.replicate (f.N.length - 2) none, some (1, g, cs)⟩ S)
/-- a def whose last parameter is the error -/
def Df.runX (f : Df) (m : Mm) : Str → List (Str × D) → Fn := fun c fs ds S => if ds.length + 1 = f.np then runOf (f.b.den (m.at_ c fs) ⟨ds.map some ++ none :: List.replicate (f.N.length - f.np) none, some (ds.length, 0, [])⟩ S) else .no
/-! ### forms of the text that the rules ask for -/
def nst : Expr → Bool
  | .Starred _ _ => false
  | _ => true
theorem star_of {e : Expr} {es : List Expr} {env : Env} (h : nst e = true) : starEach (e :: es) env = (false, eval e env) :: starEach es env := by
  cases e <;> first | rfl | cases h
theorem plain_of {pos : Pos} {env : Env} : ∀ {es : List Expr}, es.all nst = true → (backTo pos (starEach es env)).any (·.1) = false
  | [], _ => rfl
  | e :: es, h => by
    have h' := Bool.and_eq_true_iff.mp (show (nst e && es.all nst) = true from h)
    rw [star_of h'.1]
    exact plain_of h'.2
def nset : Expr → Bool
  | .Set _ _ _ => false
  | _ => true
theorem mark_of {op : CmpOp} {e : Expr} (h : nset e = true) : behindInMarks op e = false := by
  cases e <;> first | rfl | cases h
theorem fold_of {e : Expr} {env : Env} (h : nset e = true) (x : Value) : foldedSetIterable e env x = pure x := by
  cases e <;> first | rfl | cases h
def natt : Expr → Bool
  | .Call (.Name _ _) [] [] _ => false
  | _ => true
theorem att_of {e : Expr} {m : Str} {env : Env} (h : natt e = true) : attributeBase e m env (eval e env) = eval e env := by
  unfold attributeBase
  split
  · cases h
  · rfl
end Mt


set_option Elab.async false
set_option maxRecDepth 100000
set_option autoImplicit false
set_option linter.all false
set_option maxHeartbeats 4000000
/-! Is the own tree that of the text? -/
namespace Mt
open PySem PySem.Spec PyProof.Rows L2
/-- what the text's top gives: classes, errors, constants, defs, those that take a lambda, classes by name, built-in names that nothing hides, which text is the i-th lambda's -/
structure Glb where
  T : Tab
  t : Tx
  k : List (Str × D)
  fn : List (Str × Str)
  fc : List (Str × Str)
  fh : List (Str × Str)
  fx : List (Str × Str)
  cl : List (Str × Str)
  bl : List Str
  lc : Nat → Lm → Bool
/-- where one stands: the slots' names, the scope, within an except suite, in a def's own frame, the def's qualified name -/
structure Cs where
  N : List Str
  sc : Scope
  hot : Bool
  own : Bool
  mkr : Bool
  qual : Str
def okName (y : Str) : Bool := !(y == ("__debug__" : Str)) && !(y == ("__classdict__" : Str))
def visB (sc : Scope) (y : Str) : Bool := match sc.names.lookup y with
  | some .local => true
  | some .cell => true
  | some .free => true
  | _ => false
def locB (sc : Scope) (y : Str) : Bool := match sc.names.lookup y with
  | some .local => true
  | some .cell => true
  | _ => false
def glB (sc : Scope) (y : Str) : Bool := decide (sc.names.lookup y = some .globalImplicit)
def bltB (g : Glb) (cx : Cs) (y x : Str) : Bool := decide (y = x) && glB cx.sc y && decide (y ∈ g.bl)
def constB (c : Const) (d : D) : Bool := match c with
  | .none => decide (d = .non)
  | .bool b => decide (d = .bl b)
  | .int i => decide (d = .int i)
  | .str x => decide (d = .str x)
  | _ => false
def blkB (N : List Str) (sc scope : Scope) (own : List (Str × Nat)) : Bool :=
  decide (scope.kind = .function) && scope.names.all (fun y => decide (scope.names.lookup y.1 = some y.2)) && own.all (fun p => decide (N[p.2]? = some p.1)) &&
  scope.names.all (fun y => !decide (y.2 = .free) || decide (sc.names.lookup y.1 = some .cell) || decide (sc.names.lookup y.1 = some .free)) &&
  scope.names.all (fun y => !(decide (y.2 = .local) || decide (y.2 = .cell)) || decide (y.1 ∈ own.map (·.1)) || decide (y.1 ∉ N))
def Cs.blk (cx : Cs) (scope : Scope) : Cs := { cx with sc := relS scope cx.sc, own := false, mkr := false }
mutual
def Gt.js : Gt → List Nat
  | .name i => [i]
  | .tup gs => gs.js
  | .sub _ _ => []
  | .fld _ _ => []
def Gs.js : Gs → List Nat
  | .nil => []
  | .cons g r => g.js ++ r.js
end
def nsl : Expr → Bool
  | .Slice _ _ none _ => false
  | _ => true
theorem plainIx_of {b : Expr} (h : nsl b = true) : PlainIx b := fun o i => by
  unfold subscripted
  split
  · cases h
  · rename_i e; cases e
  · rfl
theorem plainSet_of {X : Cx} {o i : Expr} {pos : Pos} (h : nsl i = true) : PlainSet X o i pos := fun v => by
  unfold assign
  cases i <;> first | rfl | (rename_i a b c d; cases c <;> first | rfl | cases h)
def tgName (g : Glb) (cx : Cs) : Tg → Expr → Bool
  | .b n, .Name y _ => decide (y = Str.ofString n) && decide (n ∈ kinds) && glB cx.sc y && decide (y ∈ g.bl)
  | .own c, .Name y _ => glB cx.sc y && decide (g.cl.lookup y = some c) && okName y
  | _, _ => false
/-- what the error may be an instance of -/
def tgX (g : Glb) (cx : Cs) : Tg → Expr → Bool
  | .b n, .Name y _ => decide (y = ("ValueError" : Str)) && decide (n = "ValueError") && glB cx.sc y && decide (y ∈ g.bl)
  | .own c, .Name y _ => glB cx.sc y && decide (g.cl.lookup y = some c) && okName y
  | _, _ => false
def isTup : Expr → Bool
  | .Tuple _ _ _ => true
  | _ => false
def parB (params : Arguments) (par : List Str) : Bool := match params with
  | ⟨[], [⟨a, none, _⟩], none, [], [], none, []⟩ => decide (par = [a])
  | _ => false
mutual
def Ex.chk (g : Glb) : Ex → Cs → Expr → Bool
  | .var i, cx, x => (match x with
    | .Name y _ => decide (cx.N[i]? = some y) && visB cx.sc y && okName y
    | _ => false)
  | .cst d, _, x => (match x with
    | .Constant c _ _ => constB c d
    | _ => false)
  | .glob y, cx, x => (match x with
    | .Name z _ => decide (z = y) && glB cx.sc z && (g.k.lookup z).isSome && okName z
    | _ => false)
  | .bin o a b, cx, x => (match x with
    | .BinOp p op q _ => decide (op = o.op) && a.chk g cx p && b.chk g cx q
    | _ => false)
  | .addN a b, cx, x => (match x with
    | .BinOp p op q _ => decide (op = .Add) && a.chk g cx p && b.chk g cx q
    | _ => false)
  | .neg a, cx, x => (match x with
    | .UnaryOp op p _ => decide (op = .USub) && a.chk g cx p
    | _ => false)
  | .cmp o a b, cx, x => (match x with
    | .Compare p [op] [q] _ => decide (op = o.op) && nset q && a.chk g cx p && b.chk g cx q
    | _ => false)
  | .eq a b, cx, x => (match x with
    | .Compare p [op] [q] _ => decide (op = .Eq) && nset q && !cx.hot && a.chk g cx p && b.chk g cx q
    | _ => false)
  | .chain o o' a b c, cx, x => (match x with
    | .Compare p [op, op'] [q, r] _ => decide (op = o.op) && decide (op' = o'.op) && nset r && a.chk g cx p && b.chk g cx q && c.chk g cx r
    | _ => false)
  | .and es, cx, x => (match x with
    | .BoolOp op ys _ => decide (op = .And) && es.chk g cx ys && es.flat
    | _ => false)
  | .or es, cx, x => (match x with
    | .BoolOp op ys _ => decide (op = .Or) && es.chk g cx ys && es.flat
    | _ => false)
  | .not a, cx, x => (match x with
    | .UnaryOp op p _ => decide (op = .Not) && a.chk g cx p
    | _ => false)
  | .ite c a b, cx, x => (match x with
    | .IfExp p q r _ => c.tst && c.chk g cx p && a.chk g cx q && b.chk g cx r
    | _ => false)
  | .tup es, cx, x => (match x with
    | .Tuple ys _ _ => es.chk g cx ys
    | _ => false)
  | .lst _ es, cx, x => (match x with
    | .List ys _ => es.chk g cx ys
    | _ => false)
  | .call b e, cx, x => (match x with
    | .Call (.Name y _) [p] [] _ => !cx.hot && bltB g cx y b.x && nst p && e.chk g cx p
    | _ => false)
  | .sorted _ e, cx, x => (match x with
    | .Call (.Name y _) [p] [] _ => !cx.hot && bltB g cx y "sorted" && nst p && e.chk g cx p
    | _ => false)
  | .list _ e, cx, x => (match x with
    | .Call (.Name y _) [p] [] _ => !cx.hot && bltB g cx y "list" && nst p && e.chk g cx p
    | _ => false)
  | .dictOf e, cx, x => (match x with
    | .Call (.Name y _) [p] [] _ => !cx.hot && bltB g cx y "dict" && nst p && e.chk g cx p
    | _ => false)
  | .ix a b, cx, x => (match x with
    | .Subscript p q _ => nsl q && !cx.hot && a.chk g cx p && b.chk g cx q
    | _ => false)
  | .cut a lo hi, cx, x => (match x with
    | .Subscript p (.Slice l h none _) _ => !cx.hot && a.chk g cx p && lo.chk g cx l && hi.chk g cx h
    | _ => false)
  | .lc _ own it tg c e, cx, x => (match x with
    | .ListComp elt [⟨t, iter, ifs, 0⟩] scope _ => !cx.hot && nset iter && blkB cx.N cx.sc scope own && tg.js.all (fun j => decide (j ∈ own.map (·.2))) &&
        it.chk g cx t iter && tg.chk g (cx.blk scope) t && c.chkC g (cx.blk scope) ifs && e.chk g (cx.blk scope) elt
    | _ => false)
  | .dc own it tg c k v, cx, x => (match x with
    | .DictComp kx vx [⟨t, iter, ifs, 0⟩] scope _ => !cx.hot && nset iter && blkB cx.N cx.sc scope own && tg.js.all (fun j => decide (j ∈ own.map (·.2))) &&
        it.chk g cx t iter && tg.chk g (cx.blk scope) t && c.chkC g (cx.blk scope) ifs && k.chk g (cx.blk scope) kx && v.chk g (cx.blk scope) vx
    | _ => false)
  | .fn q es, cx, x => (match x with
    | .Call (.Name y _) ps [] _ => !cx.hot && glB cx.sc y && decide (g.fn.lookup y = some q) && okName y && ps.all nst && es.chk g cx ps
    | _ => false)
  | .make c q es, cx, x => (match x with
    | .Call (.Name y _) ps [] _ => !cx.hot && glB cx.sc y && decide (g.cl.lookup y = some c) && decide (g.T.ini c = some q) && okName y && ps.all nst && es.chk g cx ps
    | _ => false)
  | .meth o f es, cx, x => (match x with
    | .Call (.Attribute p n ap) ps [] pos => !cx.hot && decide (n = f) && natt p && (ap.endLine == pos.line) && decide (ps.length < 30) && ps.all nst && o.chk g cx p && es.chk g cx ps
    | _ => false)
  | .attr o f, cx, x => (match x with
    | .Attribute p n _ => !cx.hot && decide (n = f) && natt p && o.chk g cx p
    | _ => false)
  | .bm b o es, cx, x => (match x with
    | .Call (.Attribute p n ap) ps [] pos => !cx.hot && decide (n = b.x) && natt p && (ap.endLine == pos.line) && decide (ps.length < 30) && ps.all nst && o.chk g cx p && es.chk g cx ps
    | _ => false)
  | .isi t e, cx, x => (match x with
    | .Call (.Name y _) [p, c] [] _ => !cx.hot && bltB g cx y "isinstance" && nst p && tgName g cx t c && e.chk g cx p
    | _ => false)
  | .dict ks, cx, x => (match x with
    | .Dict kx vx _ => ks.chk g cx kx vx && decide (kx.length ≤ 15)
    | _ => false)
  | .srt e, cx, x => (match x with
    | .Call (.Name y _) [.Call (.Name z _) [p] [] _] [] _ => !cx.hot && bltB g cx y "sorted" && bltB g cx z "set" && nst p && e.chk g cx p
    | _ => false)
  | .fnL q i js par fr e, cx, x => (match x with
    | .Call (.Name y _) [p, .Lambda params body scope _] [] _ => !cx.hot && cx.mkr && glB cx.sc y && decide (g.fc.lookup y = some q) && okName y && nst p && e.chk g cx p && parB params par &&
        g.lc i ⟨cx.qual ++ "<lambda>", params, body, scope, par, fr⟩ && decide (js.map (fun j => cx.N[j]?) = fr.map some) && fr.all (fun y => decide ((y, NameKind.free) ∈ scope.names)) &&
        scope.names.all (fun y => !decide (y.2 = .free) || decide (cx.sc.names.lookup y.1 = some .cell) || decide (cx.sc.names.lookup y.1 = some .free))
    | _ => false)
  | .clo i es, cx, x => (match x with
    | .Call (.Name y _) ps [] _ => !cx.hot && decide (cx.N[i]? = some y) && visB cx.sc y && okName y && !ps.isEmpty && ps.all nst && es.chk g cx ps
    | _ => false)
  | .xf i f, cx, x => (match x with
    | .Attribute (.Name y _) n _ => cx.hot && decide (n = f) && decide (cx.N[i]? = some y) && visB cx.sc y && okName y
    | _ => false)
  | .eqP a b, cx, x => (match x with
    | .Compare p [op] [q] _ => decide (op = .Eq) && nset q && a.chk g cx p && b.chk g cx q
    | _ => false)
  | .isH t e, cx, x => (match x with
    | .Call (.Name y _) [p, c] [] _ => bltB g cx y "isinstance" && nst p && tgName g cx t c && e.chk g cx p
    | _ => false)
  | .isx i t, cx, x => (match x with
    | .Call (.Name y _) [.Name z _, c] [] _ => cx.hot && bltB g cx y "isinstance" && tgX g cx t c && decide (cx.N[i]? = some z) && visB cx.sc z && okName z
    | _ => false)
  | .callH b e, cx, x => (match x with
    | .Call (.Name y _) [p] [] _ => cx.hot && (decide (b = .len) || decide (b = .all_)) && bltB g cx y b.x && nst p && e.chk g cx p
    | _ => false)
  | .ixP a b, cx, x => (match x with
    | .Subscript p q _ => nsl q && a.chk g cx p && b.chk g cx q
    | _ => false)
  | .lcH _ own j it e, cx, x => (match x with
    | .ListComp elt [⟨.Name y _, .Call (.Name r _) [p] [] _, [], 0⟩] scope _ => cx.hot && bltB g cx r "range" && nst p && blkB cx.N cx.sc scope own && decide (j ∈ own.map (·.2)) && decide (cx.N[j]? = some y) && decide ((cx.blk scope).sc.names.lookup y = some .local) &&
        it.chk g cx p && e.chk g (cx.blk scope) elt
    | _ => false)
  | .fnH q es, cx, x => (match x with
    | .Call (.Name y _) ps [] _ => cx.hot && glB cx.sc y && decide (g.fh.lookup y = some q) && okName y && !ps.isEmpty && ps.all nst && es.chk g cx ps
    | _ => false)
  | .fx0 q i, cx, x => (match x with
    | .Call (.Name y _) [.Name z _] [] _ => cx.hot && glB cx.sc y && decide (g.fx.lookup y = some q) && okName y && decide (cx.N[i]? = some z) && visB cx.sc z && okName z
    | _ => false)
  | .fx1 q i e, cx, x => (match x with
    | .Call (.Name y _) [p, .Name z _] [] _ => cx.hot && glB cx.sc y && decide (g.fx.lookup y = some q) && okName y && decide (cx.N[i]? = some z) && visB cx.sc z && okName z && nst p && e.chk g cx p
    | _ => false)
  | .lock _ e, cx, x => e.chk g cx x
/-- an expression whose answer may be asked for as a test -/
def Ex.tst : Ex → Bool
  | .and es => es.tst
  | .or es => es.tst
  | .not a => a.tst
  | .ite _ _ _ => false
  | .lock _ _ => false
  | _ => true
def Es.tst : Es → Bool
  | .nil => true
  | .cons e r => e.tst && r.tst
  | .star _ _ => false
def Es.flat : Es → Bool
  | .nil => false
  | .cons _ r => match r with
    | .nil => true
    | r => r.flat
  | .star _ _ => false
def Es.chk (g : Glb) : Es → Cs → List Expr → Bool
  | .nil, _, ys => ys.isEmpty
  | .cons e r, cx, ys => (match ys with
    | y :: ys => nst y && e.chk g cx y && r.chk g cx ys
    | [] => false)
  | .star e r, cx, ys => (match ys with
    | .Starred y _ :: ys => e.chk g cx y && r.chk g cx ys
    | _ => false)
def Eo.chk (g : Glb) : Eo → Cs → Option Expr → Bool
  | .none, _, y => y.isNone
  | .some e, cx, y => (match y with
    | some y => e.chk g cx y
    | none => false)
def Eo.chkC (g : Glb) : Eo → Cs → List Expr → Bool
  | .none, _, ys => ys.isEmpty
  | .some e, cx, ys => (match ys with
    | [y] => e.tst && e.chk g cx y
    | _ => false)
def Ks.chk (g : Glb) : Ks → Cs → List (Option Expr) → List Expr → Bool
  | .nil, _, ks, vs => ks.isEmpty && vs.isEmpty
  | .cons k v r, cx, ks, vs => (match ks, vs with
    | some a :: ks, b :: vs => k.chk g cx a && v.chk g cx b && r.chk g cx ks vs
    | _, _ => false)
def Iw.chk (g : Glb) : Iw → Cs → Expr → Expr → Bool
  | .seq e, cx, _, x => e.chk g cx x
  | .keys e, cx, _, x => e.chk g cx x
  | .items e, cx, t, x => (match x with
    | .Call (.Attribute p n ap) [] [] pos => decide (n = ("items" : Str)) && isTup t && natt p && (ap.endLine == pos.line) && e.chk g cx p
    | _ => false)
  | .signs e, cx, _, x => e.chk g cx x
  | .range e, cx, _, x => (match x with
    | .Call (.Name y _) [p] [] _ => bltB g cx y "range" && nst p && e.chk g cx p
    | _ => false)
  | .enum e, cx, t, x => (match x with
    | .Call (.Name y _) [p] [] _ => bltB g cx y "enumerate" && isTup t && nst p && e.chk g cx p
    | _ => false)
def Gt.chk (g : Glb) : Gt → Cs → Expr → Bool
  | .name i, cx, x => (match x with
    | .Name y _ => decide (cx.N[i]? = some y) && (decide (cx.sc.names.lookup y = some .local) || (cx.own && decide (cx.sc.names.lookup y = some .cell)))
    | _ => false)
  | .tup gs, cx, x => (match x with
    | .Tuple ys _ _ => !cx.hot && ys.all nst && gs.chk g cx ys
    | _ => false)
  | .sub o i, cx, x => (match x with
    | .Subscript p q _ => !cx.hot && nsl q && o.chk g cx p && i.chk g cx q
    | _ => false)
  | .fld o f, cx, x => (match x with
    | .Attribute p n _ => !cx.hot && decide (n = f) && o.chk g cx p
    | _ => false)
def Gs.chk (g : Glb) : Gs → Cs → List Expr → Bool
  | .nil, _, ys => ys.isEmpty
  | .cons t r, cx, ys => (match ys with
    | y :: ys => t.chk g cx y && r.chk g cx ys
    | [] => false)
end
end Mt


set_option Elab.async false
set_option maxRecDepth 100000
set_option autoImplicit false
set_option linter.all false
set_option maxHeartbeats 4000000
/-! If the tree is the text's, the text does what the tree means: facts, small parts. -/
namespace Mt
open PySem PySem.Spec PyProof.Rows
open L2 hiding Takes XE takes_of passAt PMk MkP ps_raise mk_of
open L2N (Takes XE takes_of passAt PMk MkP ps_raise mk_of Zn)
structure Cold (g : Glb) (m : Mm) (k : Nat) (X : Cx) (G : Gx) (W : WX) : Prop where
  calm : X.calm = true
  room : Room (k + 2) X.A
  tk : Takes X W
  gf : GF X G g.T m.P k
  gi : GI X G g.T.pl
  ge : GE X G g.T
  gx : GX1 X G g.t
  fn : ∀ x q, g.fn.lookup x = some q → ∃ fa, X.mg x = some (.ref fa) ∧ PySem.W.keepIn X.K (.ref fa) = true ∧ FnF X G k fa (m.P q)
  fc : ∀ x q, g.fc.lookup x = some q → ∃ fa, X.mg x = some (.ref fa) ∧ PySem.W.keepIn X.K (.ref fa) = true ∧ FnC X G k fa (m.PC q)
  cl : ∀ x c, g.cl.lookup x = some c → ∃ C, X.mg x = some (.ref C) ∧ G.cls c = some C
  lam : GL X G k m.lb
  fh : ∀ x q, g.fh.lookup x = some q → ∃ fa, X.mg x = some (.ref fa) ∧ PySem.W.keepIn X.K (.ref fa) = true ∧ FnG X G k fa (m.P q)
  fx : ∀ x q, g.fx.lookup x = some q → ∃ fa, X.mg x = some (.ref fa) ∧ PySem.W.keepIn X.K (.ref fa) = true ∧ FnX X G k fa (m.PX q)
/-- while p's error is handled -/
structure HotP (g : Glb) (m : Mm) (k : Nat) (X : Cx) (G : Gx) (p : Addr × Obj) : Prop where
  hot : L2H.Hot1 X.A p
  mem : p ∈ X.pn
  told : (g.t.xf m.c = none ∧ (∀ t, g.t.y m.c t = none) ∧ ∀ q ds S, m.PX q m.c m.fs ds S = .no) ∨ ∃ C d, Told G p m.c C d m.fs
  room : L2H.RoomH (k + 2) X.A
  gx : GX1 X G g.t
  fh : ∀ x q, g.fh.lookup x = some q → ∃ fa, X.mg x = some (.ref fa) ∧ PySem.W.keepIn X.K (.ref fa) = true ∧ FnG X G k fa (m.P q)
  fx : ∀ x q, g.fx.lookup x = some q → ∃ fa, X.mg x = some (.ref fa) ∧ PySem.W.keepIn X.K (.ref fa) = true ∧ FnX X G k fa (m.PX q)
structure Own (g : Glb) (q : Str) (X : Cx) (G : Gx) : Prop where
  qual : X.env.qual = q
  mkr : ∃ c P, LamX.TabB X.base X.mg c P ∧ X.env.code = .ref c ∧ (P, q ++ "<lambda>") ∈ G.T ∧ ∀ p ∈ G.T, p.1 = P → p.2 = q ++ "<lambda>"
  lc : ∀ i lm, g.lc i lm = true → ∀ (μ : Mu) (H : Hp) (cs : List D) (a : Addr), LamAt G.K μ H lm cs a → G.clo μ H i cs a
structure XS (g : Glb) (m : Mm) (cx : Cs) (k : Nat) (X : Cx) (G : Gx) (W : WX) : Prop where
  hK : G.K = X.K
  N : X.N = cx.N
  sc : X.env.scope = cx.sc
  nd : X.N.Nodup
  mT : m.T = g.T
  mt : m.t = g.t
  mkk : m.k = fun x => g.k.lookup x
  kk : ∀ x d, g.k.lookup x = some d → ∃ v u, X.mg x = some u ∧ RelV v u ∧ ∀ μ H, DR G.K μ H d v
  bl : ∀ x, x ∈ g.bl → X.mg x = none
  un : X.A.units + 200 < cLine
  cold : cx.hot = false → Cold g m k X G W
  fnc : cx.own = true → ∀ y, X.fn y = true
  own : cx.mkr = true → Own g cx.qual X G ∧ ∀ y, X.fn y = true
  loc : cx.hot = true → X.env.scope = cx.sc
  xf : cx.hot = true → ∀ (e : Expr) (i : Nat) (f : Str) (pos : Pos), PE X e (tVar i) → attributeBase e f X.env (eval e X.env) = eval e X.env → PE X (.Attribute e f pos) (tI G W (rXf i m.t m.c m.fs f))
  hotp : cx.hot = true → ∃ p, HotP g m k X G p
  gi : GI X G g.T.pl
  cl : ∀ x c, g.cl.lookup x = some c → ∃ C, X.mg x = some (.ref C) ∧ G.cls c = some C
section
variable {g : Glb} {m : Mm} {cx : Cs} {k : Nat} {X : Cx} {G : Gx} {W : WX}
theorem okName_of {y : Str} (h : okName y = true) : (y == ("__debug__" : Str)) = false ∧ (y == ("__classdict__" : Str)) = false := by
  unfold okName at h
  simpa using h
theorem vis_of (A : XS g m cx k X G W) {y : Str} (h : visB cx.sc y = true) : Vis X.env.scope y := by
  unfold visB at h
  rw [← A.sc] at h
  split at h
  · rename_i e; exact .inl e
  · rename_i e; exact .inr (.inl e)
  · rename_i e; exact .inr (.inr e)
  · cases h
theorem gl_of (A : XS g m cx k X G W) {y : Str} (h : glB cx.sc y = true) : Gl X y := by
  unfold glB at h
  rw [← A.sc] at h
  exact of_decide_eq_true (p := X.env.scope.names.lookup y = some .globalImplicit) h
theorem k_const {c : Const} {d : D} {j : Nat} {pos : Pos} (h : constB c d = true) : PE X (.Constant c j pos) (tI G W (rK d)) := by
  cases c <;> first | cases h | skip
  · obtain rfl : d = .non := of_decide_eq_true h
    exact u_k pe_non fun _ _ => .n
  · obtain rfl := of_decide_eq_true h
    exact u_k pe_bl fun _ _ => .b _
  · obtain rfl := of_decide_eq_true h
    exact u_k pe_int fun _ _ => .i _
  · obtain rfl := of_decide_eq_true h
    exact u_k pe_str fun _ _ => .s _
theorem bl_of (A : XS g m cx k X G W) {y x : Str} {f : Value} (h : bltB g cx y x = true) (hv : bootBuiltins x = some f) (hn : x ≠ "__name__") (hd : (x == ("__debug__" : Str)) = false) (hk : (∃ id, f = .builtin id) ∨ ∃ T, f = .type T) : Bl X y f := by
  unfold bltB at h
  simp only [Bool.and_eq_true, decide_eq_true_eq] at h
  obtain ⟨⟨rfl, h2⟩, h3⟩ := h
  exact ⟨gl_of A h2, A.bl _ h3, hv, hn, hd, hk⟩
theorem Bo.ok (o : Bo) (hK : G.K = X.K) : OpS G X (binaryOp o.op) o.g := by
  cases o
  · exact s_add hK
  · exact s_sub
  · exact s_mul hK
  · exact s_fdiv
  · exact s_mod
  · exact s_pow
theorem Co.ok (o : Co) (hK : G.K = X.K) (hu : X.A.units + 200 < cLine) : OpS G X (compareOp o.op) o.g := by
  cases o
  · exact s_lt
  · exact s_le
  · exact s_gt
  · exact s_ge
  · exact s_ne hK hu
  · exact s_is
  · exact s_isNot
  · exact s_in hK hu
  · exact s_notIn hK hu
theorem Bn.bl (b : Bn) (A : XS g m cx k X G W) {y : Str} (h : bltB g cx y b.x = true) (hc : X.calm = true) : ∃ f, Bl X y f ∧ CallS G X f b.g := by
  cases b
  · exact ⟨.builtin "len", bl_of A h (by decide +kernel) (by decide) (by decide) (.inl ⟨_, rfl⟩), c_len A.hK⟩
  · exact ⟨.builtin "all", bl_of A h (by decide +kernel) (by decide) (by decide) (.inl ⟨_, rfl⟩), c_all A.hK hc⟩
  · exact ⟨.builtin "any", bl_of A h (by decide +kernel) (by decide) (by decide) (.inl ⟨_, rfl⟩), c_any A.hK hc⟩
  · exact ⟨.builtin "sum", bl_of A h (by decide +kernel) (by decide) (by decide) (.inl ⟨_, rfl⟩), c_sum A.hK hc⟩
  · exact ⟨.builtin "max", bl_of A h (by decide +kernel) (by decide) (by decide) (.inl ⟨_, rfl⟩), c_max A.hK hc⟩
  · exact ⟨.builtin "min", bl_of A h (by decide +kernel) (by decide) (by decide) (.inl ⟨_, rfl⟩), c_min A.hK hc⟩
  · exact ⟨.type "int", bl_of A h (by decide +kernel) (by decide) (by decide) (.inr ⟨_, rfl⟩), c_int A.hK⟩
  · exact ⟨.builtin "abs", bl_of A h (by decide +kernel) (by decide) (by decide) (.inl ⟨_, rfl⟩), c_abs A.hK⟩
  · exact ⟨.type "str", bl_of A h (by decide +kernel) (by decide) (by decide) (.inr ⟨_, rfl⟩), c_str A.hK⟩
  · exact ⟨.type "tuple", bl_of A h (by decide +kernel) (by decide) (by decide) (.inr ⟨_, rfl⟩), c_tuple A.hK⟩
theorem s_neg : UnS G X (unaryOp .USub) (fun _ d => match d with
  | .int i => some (.int (-i))
  | _ => none) := fun pins s σ H x v Q μ S d r I rx R q e got => by
  cases d <;> first | cases e | skip
  obtain rfl := q.int
  exact un_neg pins s σ H _ v Q I rx ⟨_, rfl, got_here got R (.i _)⟩
theorem blk_of {N : List Str} {sc scope : Scope} {own : List (Str × Nat)} (h : blkB N sc scope own = true) : BlkOk N sc scope own := by
  unfold blkB at h
  simp only [Bool.and_eq_true, Bool.or_eq_true, Bool.not_eq_true', decide_eq_true_eq, decide_eq_false_iff_not, List.all_eq_true, Bool.or_eq_false_iff] at h
  obtain ⟨⟨⟨⟨h1, h2⟩, h3⟩, h4⟩, h5⟩ := h
  refine ⟨h1, h2, h3, fun y hy e => ?_, fun y hy e => ?_⟩
  · rcases h4 y hy with (z | z) | z
    · exact absurd e z
    · exact .inl z
    · exact .inr z
  · rcases h5 y hy with (z | z) | z
    · exact e.elim (fun q => absurd q z.1) fun q => absurd q z.2
    · exact .inl z
    · exact .inr z
/-- the block of a comprehension -/
theorem XS.blk (A : XS g m cx k X G W) (hc : cx.hot = false) (s : Shared) (H : Hp) (scope : Scope) (C : Addr) (cl : List (Str × Addr)) (fp : List Addr) : XS g m (cx.blk scope) k (X.blk s H scope (compEnvC scope cl C X.env) fp) G fun _ _ _ _ => False := by
  have B := A.cold hc
  refine ⟨A.hK, A.N, ?_, A.nd, A.mT, A.mt, A.mkk, A.kk, A.bl, A.un, fun _ => ⟨B.calm, B.room, takes0N, ⟨B.gf.fld, B.gf.meth, B.gf.prop, B.gf.ini⟩, ⟨B.gi.ins, B.gi.oo, B.gi.ob, B.gi.bo⟩, ⟨B.ge.eq, B.ge.nb, B.ge.no⟩, ⟨B.gx.xf, B.gx.sup, B.gx.xp, B.gx.ex, B.gx.y⟩, B.fn, B.fc, B.cl, ⟨B.lam.at_⟩, B.fh, B.fx⟩, (fun z => nomatch (show false = true from z)), (fun z => nomatch (show false = true from z)), fun z => ?_, fun z => ?_, fun z => ?_, ⟨A.gi.ins, A.gi.oo, A.gi.ob, A.gi.bo⟩, A.cl⟩
  · show relS scope X.env.scope = relS scope cx.sc
    rw [A.sc]
  · rw [show (cx.blk scope).hot = cx.hot from rfl, hc] at z; cases z
  · rw [show (cx.blk scope).hot = cx.hot from rfl, hc] at z; cases z
  · rw [show (cx.blk scope).hot = cx.hot from rfl, hc] at z; cases z
theorem HotP.xf {p : Addr × Obj} (h : HotP g m k X G p) (e : Expr) (i : Nat) (f : Str) (pos : Pos) (he : PE X e (tVar i)) (hb : attributeBase e f X.env (eval e X.env) = eval e X.env) : PE X (.Attribute e f pos) (tI G W (rXf i g.t m.c m.fs f)) := by
  rcases h.told with ⟨n, _⟩ | ⟨C, d, T⟩
  · refine ⟨fun pins s σ H Q I ⟨μ, ρ, S, R, sr, q⟩ => ?_⟩
    unfold rXf at q
    split at q
    · rw [if_neg (by rw [n]; exact fun z => nomatch z.2)] at q
      exact q.elim
    · exact q.elim
  · exact u_xf h.gx T h.mem he hb
/-- the block of a comprehension there -/
theorem XS.blkH (A : XS g m cx k X G W) (hc : cx.hot = true) {p : Addr × Obj} (h : HotP g m k X G p) (s : Shared) (H : Hp) (scope : Scope) (C : Addr) (cl : List (Str × Addr)) (fp : List Addr) : XS g m (cx.blk scope) k (Mt.blkH X p s H scope (compEnvC scope cl C X.env) fp) G fun _ _ _ _ => False := by
  have P : HotP g m k (Mt.blkH X p s H scope (compEnvC scope cl C X.env) fp) G p := ⟨h.hot, List.mem_singleton_self p, h.told, h.room, ⟨h.gx.xf, h.gx.sup, h.gx.xp, h.gx.ex, h.gx.y⟩, h.fh, h.fx⟩
  have esc : relS scope X.env.scope = relS scope cx.sc := by rw [A.sc]
  refine ⟨A.hK, A.N, esc, A.nd, A.mT, A.mt, A.mkk, A.kk, A.bl, A.un, fun z => ?_, (fun z => nomatch (show false = true from z)), (fun z => nomatch (show false = true from z)), fun _ => esc, fun _ e i f pos he hb => ?_, fun _ => ⟨p, P⟩, ⟨A.gi.ins, A.gi.oo, A.gi.ob, A.gi.bo⟩, A.cl⟩
  · rw [show (cx.blk scope).hot = cx.hot from rfl, hc] at z; cases z
  · rw [A.mt]
    exact P.xf e i f pos he hb
end
end Mt


set_option Elab.async false
set_option maxRecDepth 100000
set_option autoImplicit false
set_option linter.all false
set_option maxHeartbeats 8000000
/-! If the tree is the text's, the text does what the tree means: expressions. -/
namespace Mt
open PySem PySem.Spec PyProof.Rows L2
def Bm.id : Bm → String
  | .append => "list.append"
  | .extend => "list.extend"
  | .pop => "list.pop"
  | .clear => "dict.clear"
  | .get => "dict.get"
theorem Bm.ok (b : Bm) {X : Cx} {G : Gx} (hu : X.A.units + 200 < cLine) : PlainAttrs b.t.name ∧ Slot b.t.name b.x b.id ∧ typeOf (.builtin b.id) = pure (.type "method_descriptor") ∧ MtS G X b.id b.g := by
  cases b
  · exact ⟨PySem.F.plainAttrs_list, PySem.F.slot_list_append, PySem.F.type_list_append, m_append⟩
  · exact ⟨PySem.F.plainAttrs_list, PySem.F.slot_list_extend, PySem.F.type_list_extend, m_extend⟩
  · exact ⟨PySem.F.plainAttrs_list, PySem.F.slot_list_pop, PySem.F.type_list_pop, m_pops⟩
  · exact ⟨PySem.F.plainAttrs_dict, PySem.F.slot_dict_clear, PySem.F.type_dict_clear, m_clear⟩
  · exact ⟨PySem.F.plainAttrs_dict, PySem.F.slot_dict_get, PySem.F.type_dict_get, m_get hu⟩
section
variable {g : Glb} {m : Mm} {cx : Cs} {k : Nat} {X : Cx} {G : Gx} {W : WX}
theorem andT {x : Expr} {r : Run} {t : Bool} (p : PE X x (tI G W r)) (he : ∀ whole, isTrue x X.env whole = (do let v ← whole; standAt x.pos; holding [v] (truthy v))) : PE X x (tI G W r) ∧ (t = true → PT X x (tT G W r)) := ⟨p, fun _ => t_val p he⟩
theorem bltB_eq {y x : Str} (h : bltB g cx y x = true) : y = x := by
  unfold bltB at h
  simp only [Bool.and_eq_true, decide_eq_true_eq] at h
  exact h.1.1
theorem hot_of {b : Bool} (h : (!b) = true) : b = false := by simpa using h
theorem few_of {ps : List Expr} {pos : Pos} {env : Env} (h : ps.all nst = true) (hl : ps.length < 30) :
    ((backTo pos (starEach ps env)).all (fun x => !x.1) && (backToKw pos (keywordEach [] env)).all (fun x => x.1.isSome) && decide (ps.length + ([] : List Keyword).length + (if ([] : List Keyword).isEmpty then 0 else 1) < 30)) = true := by
  have h1 : (backTo pos (starEach ps env)).all (fun x => !x.1) = true := by
    have z := plain_of (pos := pos) (env := env) h
    rw [List.all_eq_not_any_not]
    simpa using z
  rw [h1]
  show (true && true && decide (ps.length + 0 + 0 < 30)) = true
  simpa using hl
theorem mcall_of {o : Expr} {f : Str} {ap pos : Pos} {ps : List Expr} {env : Env} (h1 : natt o = true) (h4 : ps.all nst = true) (hl : ps.length < 30) (h2 : (ap.endLine == pos.line) = true) :
    eval (.Call (.Attribute o f ap) ps [] pos) env = (do
      let it ← eval o env
      standAt ap.atName
      let (g, more) ← holding [it] (getMethod it f (plainOf o env))
      callWith pos g more (backTo pos (starEach ps env)) (backToKw pos (keywordEach [] env))) := by
  rw [arm_eval_Call, att_of h1]
  have hf : methodCallForm (ps.length + ([] : List Keyword).length) (backTo pos (starEach ps env)) (backToKw pos (keywordEach [] env)) = true := few_of (pos := pos) (env := env) h4 hl
  refine bind_congr fun ov => bind_congr fun _ => ?_
  exact mcall_line hf h2
theorem kinds_boot : ∀ n ∈ kinds, bootBuiltins (Str.ofString n) = some (.type n) ∧ Str.ofString n ≠ "__name__" ∧ (Str.ofString n == ("__debug__" : Str)) = false := by decide +kernel
theorem tg_ok {t : Tg} {c : Expr} (A : XS g m cx k X G W) (h : tgName g cx t c = true) : ∃ v, tgW G t v ∧ PE X c (tC v) ∧ nst c = true := by
  unfold tgName at h
  split at h
  · simp only [Bool.and_eq_true, decide_eq_true_eq] at h
    obtain ⟨⟨⟨rfl, h2⟩, h3⟩, h4⟩ := h
    obtain ⟨k1, k2, k3⟩ := kinds_boot _ h2
    exact ⟨_, rfl, pe_bltn (gl_of A h3) (A.bl _ h4) k1 rfl k2 k3, rfl⟩
  · simp only [Bool.and_eq_true, decide_eq_true_eq] at h
    obtain ⟨⟨h1, h2⟩, h3⟩ := h
    obtain ⟨C, e1, e2⟩ := A.cl _ _ h2
    exact ⟨.ref C, ⟨C, e2, rfl⟩, pe_glob (gl_of A h1) e1 rfl (okName_of h3).1, rfl⟩
  · cases h
theorem tgx_ok {t : Tg} {c : Expr} (A : XS g m cx k X G W) (h : tgX g cx t c = true) : ∃ v, tgW G t v ∧ PE X c (tC v) ∧ nst c = true := by
  unfold tgX at h
  split at h
  · simp only [Bool.and_eq_true, decide_eq_true_eq] at h
    obtain ⟨⟨⟨rfl, rfl⟩, h3⟩, h4⟩ := h
    exact ⟨.ty "ValueError", rfl, pe_bltn (v := .ty "ValueError") (u := .type "ValueError") (gl_of A h3) (A.bl _ h4) (by decide +kernel) rfl (by decide) (by decide), rfl⟩
  · simp only [Bool.and_eq_true, decide_eq_true_eq] at h
    obtain ⟨⟨h1, h2⟩, h3⟩ := h
    obtain ⟨C, e1, e2⟩ := A.cl _ _ h2
    exact ⟨.ref C, ⟨C, e2, rfl⟩, pe_glob (gl_of A h1) e1 rfl (okName_of h3).1, rfl⟩
  · cases h
theorem c_allH {hK : G.K = X.K} (hc : L2H.HotC X) : CallS G X (.builtin "all") (on1 dAll) := by
  intro pins s σ H xs us Q μ S ds r I rv R q hg k
  obtain ⟨d, e0, hh⟩ := on1_inv hg
  subst e0
  obtain ⟨v, rfl, hd⟩ := drs1 q
  obtain ⟨ys, hl, hh⟩ := Option.bind_eq_some_iff.mp hh
  obtain ⟨bs, hb, rfl⟩ := Option.map_eq_some_iff.mp hh
  obtain ⟨a, vs, ea, h1, h2⟩ := asL_sq R hl (show VR G μ H d v from hd)
  rw [bools_rel hb h2] at h1
  exact cr_allH hc pins s σ H _ us Q I rv ⟨a, bs, by rw [ea], .inl h1, got_here k R (.b _)⟩
theorem par_def {params : Arguments} {par : List Str} {env : Env} (h : parB params par = true) : defaultsOf params env = ([], []) := by
  unfold parB at h
  split at h
  · rfl
  · cases h
theorem asg_plain {env : Env} : ∀ {es : List Expr}, es.all nst = true → (assignEach es env).findIdx? (·.1) = none ∧ (assignEach es env).length = es.length
  | [], _ => ⟨rfl, rfl⟩
  | e :: es, h => by
    have h' := Bool.and_eq_true_iff.mp (show (nst e && es.all nst) = true from h)
    obtain ⟨q1, q2⟩ := asg_plain (env := env) h'.2
    have q : assignEach (e :: es) env = (false, assign e env) :: assignEach es env := by
      cases e <;> first | rfl | cases h'.1
    rw [q]
    refine ⟨?_, by rw [List.length_cons, List.length_cons, q2]⟩
    rw [List.findIdx?_cons, q1]
    rfl
theorem asg_cons {env : Env} {e : Expr} {es : List Expr} (h : nst e = true) : (assignEach (e :: es) env).map (·.2) = assign e env :: (assignEach es env).map (·.2) := by
  cases e <;> first | rfl | cases h
theorem Gt.chk_nst {t : Gt} {e : Expr} (h : t.chk g cx e = true) : nst e = true := by
  cases e <;> first | rfl | (cases t <;> (unfold Gt.chk at h; cases h))
end
theorem Gs.chk_len (g : Glb) : ∀ (t : Gs) (cx : Cs) (xs : List Expr), t.chk g cx xs = true → t.len = xs.length
  | .nil, cx, xs, h => by
    unfold Gs.chk at h
    cases xs with
    | nil => rfl
    | cons _ _ => cases h
  | .cons t r, cx, xs, h => by
    unfold Gs.chk at h
    split at h
    case h_2 => cases h
    simp only [Bool.and_eq_true] at h
    show r.len + 1 = _
    rw [Gs.chk_len g r cx _ h.2]; rfl
mutual
theorem Ex.ok (g : Glb) : ∀ (e : Ex) (m : Mm) (cx : Cs) (k : Nat) (X : Cx) (G : Gx) (W : WX) (x : Expr), XS g m cx k X G W → e.chk g cx x = true → PE X x (tI G W (e.den m)) ∧ (e.tst = true → PT X x (tT G W (e.den m)))
  | .var i, m, cx, k, X, G, W, x, A, h => by
    unfold Ex.chk at h
    split at h
    case h_2 => cases h
    simp only [Bool.and_eq_true, decide_eq_true_eq] at h
    obtain ⟨⟨h1, h2⟩, h3⟩ := h
    rw [← A.N] at h1
    exact andT (u_var (G := G) (W := W) (pe_var h1 (vis_of A h2) (okName_of h3).1 (okName_of h3).2)) fun _ => rfl
  | .cst d, m, cx, k, X, G, W, x, A, h => by
    unfold Ex.chk at h
    split at h
    case h_2 => cases h
    exact andT (k_const h) fun _ => rfl
  | .glob y, m, cx, k, X, G, W, x, A, h => by
    unfold Ex.chk at h
    split at h
    case h_2 => cases h
    simp only [Bool.and_eq_true, decide_eq_true_eq] at h
    obtain ⟨⟨⟨rfl, h2⟩, h3⟩, h4⟩ := h
    obtain ⟨d, hd⟩ := Option.isSome_iff_exists.mp h3
    obtain ⟨v, u, e1, e2, e3⟩ := A.kk _ _ hd
    unfold Ex.den
    rw [A.mkk]
    dsimp only
    rw [hd]
    exact andT (u_k (pe_glob (gl_of A h2) e1 e2 (okName_of h4).1) e3) fun _ => rfl
  | .bin o a b, m, cx, k, X, G, W, x, A, h => by
    unfold Ex.chk at h
    split at h
    case h_2 => cases h
    simp only [Bool.and_eq_true, decide_eq_true_eq] at h
    obtain ⟨⟨rfl, h2⟩, h3⟩ := h
    exact andT (u_bin (o.ok (G := G) A.hK) (Ex.ok g a m cx k X G W _ A h2).1 (Ex.ok g b m cx k X G W _ A h3).1) fun _ => rfl
  | .addN a b, m, cx, k, X, G, W, x, A, h => by
    unfold Ex.chk at h
    split at h
    case h_2 => cases h
    simp only [Bool.and_eq_true, decide_eq_true_eq] at h
    obtain ⟨⟨rfl, h2⟩, h3⟩ := h
    exact andT (u_binM (s_addN (G := G)) (Ex.ok g a m cx k X G W _ A h2).1 (Ex.ok g b m cx k X G W _ A h3).1) fun _ => rfl
  | .neg a, m, cx, k, X, G, W, x, A, h => by
    unfold Ex.chk at h
    split at h
    case h_2 => cases h
    simp only [Bool.and_eq_true, decide_eq_true_eq] at h
    obtain ⟨rfl, h2⟩ := h
    exact andT (u_un (s_neg (G := G)) (Ex.ok g a m cx k X G W _ A h2).1) fun _ => rfl
  | .cmp o a b, m, cx, k, X, G, W, x, A, h => by
    unfold Ex.chk at h
    split at h
    case h_2 => cases h
    simp only [Bool.and_eq_true, decide_eq_true_eq] at h
    obtain ⟨⟨⟨rfl, h1⟩, h2⟩, h3⟩ := h
    have pa := (Ex.ok g a m cx k X G W _ A h2).1
    have pb := (Ex.ok g b m cx k X G W _ A h3).1
    exact ⟨u_cmp (o.ok A.hK A.un) pa pb (mark_of h1), fun _ => t_cmp (o.ok A.hK A.un) pa pb (mark_of h1)⟩
  | .eq a b, m, cx, k, X, G, W, x, A, h => by
    unfold Ex.chk at h
    split at h
    case h_2 => cases h
    simp only [Bool.and_eq_true, decide_eq_true_eq] at h
    obtain ⟨⟨⟨⟨rfl, h1⟩, h0⟩, h2⟩, h3⟩ := h
    have B := A.cold (hot_of h0)
    have pa := (Ex.ok g a m cx k X G W _ A h2).1
    have pb := (Ex.ok g b m cx k X G W _ A h3).1
    have o : OpM G X (compareOp .Eq) (gEq m.T m.P) := by
      rw [A.mT]
      exact s_gEq A.hK A.un B.gf B.gi B.ge (B.room.mono (by omega))
    exact ⟨u_cmpM o pa pb (mark_of h1), fun _ => t_cmpM o pa pb (mark_of h1)⟩
  | .chain o o' a b c, m, cx, k, X, G, W, x, A, h => by
    unfold Ex.chk at h
    split at h
    case h_2 => cases h
    simp only [Bool.and_eq_true, decide_eq_true_eq] at h
    obtain ⟨⟨⟨⟨⟨rfl, rfl⟩, h1⟩, h2⟩, h3⟩, h4⟩ := h
    have pa := (Ex.ok g a m cx k X G W _ A h2).1
    have pb := (Ex.ok g b m cx k X G W _ A h3).1
    have pc := (Ex.ok g c m cx k X G W _ A h4).1
    have hm : ∀ y z, nset z = true → lastMarks [o.op, o'.op] [y, z] = false := fun y z hz => mark_of hz
    exact ⟨u_chain (o.ok A.hK A.un) (o'.ok A.hK A.un) pa pb pc (hm _ _ h1), fun _ => t_chain (o.ok A.hK A.un) (o'.ok A.hK A.un) pa pb pc (hm _ _ h1)⟩
  | .and es, m, cx, k, X, G, W, x, A, h => by
    unfold Ex.chk at h
    split at h
    case h_2 => cases h
    simp only [Bool.and_eq_true, decide_eq_true_eq] at h
    obtain ⟨⟨rfl, h2⟩, h3⟩ := h
    obtain ⟨q1, q2⟩ := (Es.okB g es m cx k X G W _ A h2 h3).1 ‹Pos›
    exact ⟨q1, fun z => (q2 (by unfold Ex.tst at z; exact z)).pt⟩
  | .or es, m, cx, k, X, G, W, x, A, h => by
    unfold Ex.chk at h
    split at h
    case h_2 => cases h
    simp only [Bool.and_eq_true, decide_eq_true_eq] at h
    obtain ⟨⟨rfl, h2⟩, h3⟩ := h
    obtain ⟨q1, q2⟩ := (Es.okB g es m cx k X G W _ A h2 h3).2 ‹Pos›
    exact ⟨q1, fun z => (q2 (by unfold Ex.tst at z; exact z)).pt⟩
  | .not a, m, cx, k, X, G, W, x, A, h => by
    unfold Ex.chk at h
    split at h
    case h_2 => cases h
    simp only [Bool.and_eq_true, decide_eq_true_eq] at h
    obtain ⟨rfl, h2⟩ := h
    obtain ⟨q1, q2⟩ := Ex.ok g a m cx k X G W _ A h2
    exact ⟨u_not q1, fun z => t_not (q2 (by unfold Ex.tst at z; exact z))⟩
  | .ite c a b, m, cx, k, X, G, W, x, A, h => by
    unfold Ex.chk at h
    split at h
    case h_2 => cases h
    simp only [Bool.and_eq_true] at h
    obtain ⟨⟨⟨h0, h1⟩, h2⟩, h3⟩ := h
    exact ⟨u_ife ((Ex.ok g c m cx k X G W _ A h1).2 h0) (Ex.ok g a m cx k X G W _ A h2).1 (Ex.ok g b m cx k X G W _ A h3).1, fun z => by cases z⟩
  | .tup es, m, cx, k, X, G, W, x, A, h => by
    unfold Ex.chk at h
    split at h
    case h_2 => cases h
    exact andT (u_tup (Es.ok g es m cx k X G W _ A h)) fun _ => rfl
  | .lst n es, m, cx, k, X, G, W, x, A, h => by
    unfold Ex.chk at h
    split at h
    case h_2 => cases h
    have q := Es.ok g es m cx k X G W _ A h
    cases n with
    | true => exact andT (u_lstN q) fun _ => rfl
    | false => exact andT (u_lst q) fun _ => rfl
  | .call b e, m, cx, k, X, G, W, x, A, h => by
    unfold Ex.chk at h
    split at h
    case h_2 => cases h
    simp only [Bool.and_eq_true] at h
    obtain ⟨⟨⟨h0, h1⟩, h2⟩, h3⟩ := h
    have B := A.cold (hot_of h0)
    obtain ⟨f, q1, q2⟩ := b.bl A h1 B.calm
    exact andT (u_call q1 q2 (a_cons (Ex.ok g e m cx k X G W _ A h3).1 a_nil (star_of h2)) (star_of h2) rfl) fun _ => rfl
  | .sorted n e, m, cx, k, X, G, W, x, A, h => by
    unfold Ex.chk at h
    split at h
    case h_2 => cases h
    simp only [Bool.and_eq_true] at h
    obtain ⟨⟨⟨h0, h1⟩, h2⟩, h3⟩ := h
    have q1 := bl_of (f := .builtin "sorted") A h1 (by decide +kernel) (by decide) (by decide) (.inl ⟨_, rfl⟩)
    have q2 := a_cons (Ex.ok g e m cx k X G W _ A h3).1 (a_nil (G := G) (W := W)) (star_of h2)
    cases n with
    | true => exact andT (u_callN q1 (c_sorted A.hK).new q2 (star_of h2) rfl) fun _ => rfl
    | false => exact andT (u_call q1 (c_sorted A.hK).keep q2 (star_of h2) rfl) fun _ => rfl
  | .list n e, m, cx, k, X, G, W, x, A, h => by
    unfold Ex.chk at h
    split at h
    case h_2 => cases h
    simp only [Bool.and_eq_true] at h
    obtain ⟨⟨⟨h0, h1⟩, h2⟩, h3⟩ := h
    have B := A.cold (hot_of h0)
    have q1 := bl_of (f := .type "list") A h1 (by decide +kernel) (by decide) (by decide) (.inr ⟨_, rfl⟩)
    have q2 := a_cons (Ex.ok g e m cx k X G W _ A h3).1 (a_nil (G := G) (W := W)) (star_of h2)
    cases n with
    | true => exact andT (u_callN q1 (c_list A.hK B.calm).new q2 (star_of h2) rfl) fun _ => rfl
    | false => exact andT (u_call q1 (c_list A.hK B.calm).keep q2 (star_of h2) rfl) fun _ => rfl
  | .dictOf e, m, cx, k, X, G, W, x, A, h => by
    unfold Ex.chk at h
    split at h
    case h_2 => cases h
    simp only [Bool.and_eq_true] at h
    obtain ⟨⟨⟨h0, h1⟩, h2⟩, h3⟩ := h
    have q1 := bl_of (f := .type "dict") A h1 (by decide +kernel) (by decide) (by decide) (.inr ⟨_, rfl⟩)
    exact andT (u_callN q1 (c_dict A.hK) (a_cons (Ex.ok g e m cx k X G W _ A h3).1 a_nil (star_of h2)) (star_of h2) rfl) fun _ => rfl
  | .ix a b, m, cx, k, X, G, W, x, A, h => by
    unfold Ex.chk at h
    split at h
    case h_2 => cases h
    simp only [Bool.and_eq_true] at h
    obtain ⟨⟨⟨h1, h0⟩, h2⟩, h3⟩ := h
    exact andT (u_ix (s_ix A.hK A.un) (Ex.ok g a m cx k X G W _ A h2).1 (Ex.ok g b m cx k X G W _ A h3).1 (plainIx_of h1)) fun _ => rfl
  | .cut a lo hi, m, cx, k, X, G, W, x, A, h => by
    unfold Ex.chk at h
    split at h
    case h_2 => cases h
    simp only [Bool.and_eq_true] at h
    obtain ⟨⟨⟨h0, h1⟩, h2⟩, h3⟩ := h
    exact andT (u_cut (s_cut A.hK) (Ex.ok g a m cx k X G W _ A h1).1 (Eo.okP g lo m cx k X G W _ A h2) (Eo.okP g hi m cx k X G W _ A h3)) fun _ => rfl
  | .lc n own it tg c e, m, cx, k, X, G, W, x, A, h => by
    unfold Ex.chk at h
    split at h
    case h_2 => cases h
    simp only [Bool.and_eq_true] at h
    obtain ⟨⟨⟨⟨⟨⟨⟨h0, h1⟩, h2⟩, h3⟩, h4⟩, h5⟩, h6⟩, h7⟩ := h
    have hc := hot_of h0
    have B := A.cold hc
    have o : LcOk X G W _ _ _ _ _ own (it.den m) (tg.den m) tg.js (c.denC m) (e.den m) := ⟨B.calm, A.nd, Iw.ok g it m cx k X G W _ _ A hc h4, by rw [A.N, A.sc]; exact blk_of h2,
      fun s H C cl fp => Gt.ok g tg m _ k _ G _ _ (A.blk hc s H _ C cl fp) h5, fun s H C cl fp => Eo.okC g c m _ k _ G _ (A.blk hc s H _ C cl fp) h6, fun s H C cl fp => (Ex.ok g e m _ k _ G _ _ (A.blk hc s H _ C cl fp) h7).1,
      fold_of h1, fun j hj => of_decide_eq_true (List.all_eq_true.mp h3 j hj)⟩
    cases n with
    | true => exact andT (u_lcN o) fun _ => rfl
    | false => exact andT (u_lc o) fun _ => rfl
  | .dc own it tg c kx v, m, cx, k, X, G, W, x, A, h => by
    unfold Ex.chk at h
    split at h
    case h_2 => cases h
    simp only [Bool.and_eq_true] at h
    obtain ⟨⟨⟨⟨⟨⟨⟨⟨h0, h1⟩, h2⟩, h3⟩, h4⟩, h5⟩, h6⟩, h7⟩, h8⟩ := h
    have hc := hot_of h0
    have B := A.cold hc
    have o : DcOk X G W _ _ _ _ _ _ own (it.den m) (tg.den m) tg.js (c.denC m) (kx.den m) (v.den m) := ⟨B.calm, A.nd, Iw.ok g it m cx k X G W _ _ A hc h4, by rw [A.N, A.sc]; exact blk_of h2,
      fun s H C cl fp => Gt.ok g tg m _ k _ G _ _ (A.blk hc s H _ C cl fp) h5, fun s H C cl fp => Eo.okC g c m _ k _ G _ (A.blk hc s H _ C cl fp) h6, fun s H C cl fp => (Ex.ok g kx m _ k _ G _ _ (A.blk hc s H _ C cl fp) h7).1, fun s H C cl fp => (Ex.ok g v m _ k _ G _ _ (A.blk hc s H _ C cl fp) h8).1,
      fold_of h1, fun j hj => of_decide_eq_true (List.all_eq_true.mp h3 j hj)⟩
    exact andT (u_dc o) fun _ => rfl
  | .isi t e, m, cx, k, X, G, W, x, A, h => by
    unfold Ex.chk at h
    split at h
    case h_2 => cases h
    simp only [Bool.and_eq_true] at h
    obtain ⟨⟨⟨⟨h0, h1⟩, h2⟩, h3⟩, h4⟩ := h
    have B := A.cold (hot_of h0)
    have q1 := bl_of (f := .builtin "isinstance") A h1 (by decide +kernel) (by decide) (by decide) (.inl ⟨_, rfl⟩)
    obtain rfl := bltB_eq h1
    rename_i p1 p c pos
    obtain ⟨v, e1, e2, e3⟩ : ∃ v, tgW G t v ∧ PE X c (tC v) ∧ nst c = true := tg_ok A h3
    refine andT (r := Ex.den m (.isi t e)) ?_ fun _ => rfl
    unfold Ex.den
    rw [A.mT]
    exact u_isi B.gi A.hK q1 e1 e2 (Ex.ok g e m cx k X G W _ A h4).1 (star_of h2) (star_of e3) (plain_of (es := [c]) (by simp [e3]))
  | .attr o f, m, cx, k, X, G, W, x, A, h => by
    unfold Ex.chk at h
    split at h
    case h_2 => cases h
    simp only [Bool.and_eq_true, decide_eq_true_eq] at h
    obtain ⟨⟨⟨h0, rfl⟩, h2⟩, h3⟩ := h
    have B := A.cold (hot_of h0)
    refine andT (r := Ex.den m (.attr o _)) ?_ fun _ => rfl
    unfold Ex.den
    rw [A.mT]
    exact u_attr B.gf (B.room.mono (by omega)) (Ex.ok g o m cx k X G W _ A h3).1 (att_of h2)
  | .srt e, m, cx, k, X, G, W, x, A, h => by
    unfold Ex.chk at h
    split at h
    case h_2 => cases h
    simp only [Bool.and_eq_true] at h
    obtain ⟨⟨⟨⟨h0, h1⟩, h2⟩, h3⟩, h4⟩ := h
    have B := A.cold (hot_of h0)
    have q1 := bl_of (f := .builtin "sorted") A h1 (by decide +kernel) (by decide) (by decide) (.inl ⟨_, rfl⟩)
    have q2 := bl_of (f := .type "set") A h2 (by decide +kernel) (by decide) (by decide) (.inr ⟨_, rfl⟩)
    obtain rfl := bltB_eq h1
    obtain rfl := bltB_eq h2
    exact andT (u_sortSet B.calm q1 q2 (Ex.ok g e m cx k X G W _ A h4).1 rfl (star_of h3) rfl rfl) fun _ => rfl
  | .lock d e, m, cx, k, X, G, W, x, A, h => ⟨u_lock (Ex.ok g e m cx k X G W x A (by unfold Ex.chk at h; exact h)).1, fun z => by cases z⟩
  | .fn q es, m, cx, k, X, G, W, x, A, h => by
    unfold Ex.chk at h
    split at h
    case h_2 => cases h
    simp only [Bool.and_eq_true, decide_eq_true_eq] at h
    obtain ⟨⟨⟨⟨⟨h0, h1⟩, h2⟩, h3⟩, h4⟩, h5⟩ := h
    have B := A.cold (hot_of h0)
    obtain ⟨fa, e1, e2, F⟩ := B.fn _ _ h2
    have qa := Es.ok g es m cx k X G W _ A h5
    rename_i y p1 ps pos
    cases ps with
    | nil =>
      cases es with
      | nil => exact andT (u_fn0 F (B.room.mono (by omega)) B.tk (gl_of A h1) e1 e2 (okName_of h3).1) fun _ => rfl
      | cons _ _ => unfold Es.chk at h5; cases h5
      | star _ _ => unfold Es.chk at h5; cases h5
    | cons p ps =>
      have h4' := Bool.and_eq_true_iff.mp (show (nst p && ps.all nst) = true from h4)
      exact andT (u_fn F (B.room.mono (by omega)) B.tk (gl_of A h1) e1 e2 (okName_of h3).1 qa (star_of h4'.1) (plain_of h4'.2)) fun _ => rfl
  | .make c q es, m, cx, k, X, G, W, x, A, h => by
    unfold Ex.chk at h
    split at h
    case h_2 => cases h
    simp only [Bool.and_eq_true, decide_eq_true_eq] at h
    obtain ⟨⟨⟨⟨⟨⟨h0, h1⟩, h2⟩, hi⟩, h3⟩, h4⟩, h5⟩ := h
    have B := A.cold (hot_of h0)
    obtain ⟨C, e1, e2⟩ := B.cl _ _ h2
    have qa := Es.ok g es m cx k X G W _ A h5
    rename_i y p1 ps pos
    cases ps with
    | nil =>
      cases es with
      | nil => exact andT (u_make0 B.gf e2 hi (B.room.mono (by omega)) B.tk (gl_of A h1) e1 (okName_of h3).1) fun _ => rfl
      | cons _ _ => unfold Es.chk at h5; cases h5
      | star _ _ => unfold Es.chk at h5; cases h5
    | cons p ps =>
      have h4' := Bool.and_eq_true_iff.mp (show (nst p && ps.all nst) = true from h4)
      exact andT (u_make B.gf e2 hi (B.room.mono (by omega)) B.tk (gl_of A h1) e1 (okName_of h3).1 qa (star_of h4'.1) (plain_of h4'.2)) fun _ => rfl
  | .clo i es, m, cx, k, X, G, W, x, A, h => by
    unfold Ex.chk at h
    split at h
    case h_2 => cases h
    simp only [Bool.and_eq_true, decide_eq_true_eq] at h
    obtain ⟨⟨⟨⟨⟨⟨h0, h1⟩, h2⟩, h3⟩, hne⟩, h4⟩, h5⟩ := h
    have B := A.cold (hot_of h0)
    have qa := Es.ok g es m cx k X G W _ A h5
    rw [← A.N] at h1
    rename_i y p1 ps pos
    cases ps with
    | nil => cases hne
    | cons p ps =>
      have h4' := Bool.and_eq_true_iff.mp (show (nst p && ps.all nst) = true from h4)
      exact andT (u_clo B.lam (B.room.mono (by omega)) h1 (vis_of A h2) (okName_of h3).1 (okName_of h3).2 qa (star_of h4'.1) (plain_of h4'.2)) fun _ => rfl
  | .xf i f, m, cx, k, X, G, W, x, A, h => by
    unfold Ex.chk at h
    split at h
    case h_2 => cases h
    simp only [Bool.and_eq_true, decide_eq_true_eq] at h
    obtain ⟨⟨⟨⟨h0, rfl⟩, h1⟩, h2⟩, h3⟩ := h
    rw [← A.N] at h1
    exact andT (A.xf h0 _ _ _ _ (pe_var h1 (vis_of A h2) (okName_of h3).1 (okName_of h3).2) (att_of rfl)) fun _ => rfl
  | .eqP a b, m, cx, k, X, G, W, x, A, h => by
    unfold Ex.chk at h
    split at h
    case h_2 => cases h
    simp only [Bool.and_eq_true, decide_eq_true_eq] at h
    obtain ⟨⟨⟨rfl, h1⟩, h2⟩, h3⟩ := h
    have pa := (Ex.ok g a m cx k X G W _ A h2).1
    have pb := (Ex.ok g b m cx k X G W _ A h3).1
    exact ⟨u_cmp (s_eq A.hK A.un) pa pb (mark_of h1), fun _ => t_cmp (s_eq A.hK A.un) pa pb (mark_of h1)⟩
  | .isH t e, m, cx, k, X, G, W, x, A, h => by
    unfold Ex.chk at h
    split at h
    case h_2 => cases h
    simp only [Bool.and_eq_true] at h
    obtain ⟨⟨⟨h1, h2⟩, h3⟩, h4⟩ := h
    have q1 := bl_of (f := .builtin "isinstance") A h1 (by decide +kernel) (by decide) (by decide) (.inl ⟨_, rfl⟩)
    obtain rfl := bltB_eq h1
    rename_i p1 p c pos
    obtain ⟨v, e1, e2, e3⟩ : ∃ v, tgW G t v ∧ PE X c (tC v) ∧ nst c = true := tg_ok A h3
    refine andT (r := Ex.den m (.isH t e)) ?_ fun _ => rfl
    unfold Ex.den
    rw [A.mT]
    exact u_isi A.gi A.hK q1 e1 e2 (Ex.ok g e m cx k X G W _ A h4).1 (star_of h2) (star_of e3) (plain_of (es := [c]) (by simp [e3]))
  | .isx i t, m, cx, k, X, G, W, x, A, h => by
    unfold Ex.chk at h
    split at h
    case h_2 => cases h
    simp only [Bool.and_eq_true, decide_eq_true_eq] at h
    obtain ⟨⟨⟨⟨⟨h0, h1⟩, h2⟩, h3⟩, h4⟩, h5⟩ := h
    have q1 := bl_of (f := .builtin "isinstance") A h1 (by decide +kernel) (by decide) (by decide) (.inl ⟨_, rfl⟩)
    obtain rfl := bltB_eq h1
    rename_i p1 z p2 c pos
    obtain ⟨v, e1, e2, e3⟩ : ∃ v, tgW G t v ∧ PE X c (tC v) ∧ nst c = true := tgx_ok A h2
    rw [← A.N] at h3
    obtain ⟨p, P⟩ := A.hotp h0
    refine andT (r := Ex.den m (.isx i t)) ?_ fun _ => rfl
    unfold Ex.den
    rw [A.mt]
    rcases P.told with ⟨_, n, _⟩ | ⟨C, d, T⟩
    · refine ⟨fun pins s σ H Q I ⟨μ, ρ, S, R, sr, q⟩ => ?_⟩
      unfold rIsx at q
      rw [n] at q
      split at q
      · split at q <;> exact q.elim
      · exact q.elim
    · exact u_isx P.gx T P.mem q1 e1 e2 (pe_var h3 (vis_of A h4) (okName_of h5).1 (okName_of h5).2) rfl (star_of e3) (plain_of (es := [c]) (by simp [e3]))
  | .callH b e, m, cx, k, X, G, W, x, A, h => by
    unfold Ex.chk at h
    split at h
    case h_2 => cases h
    simp only [Bool.and_eq_true, Bool.or_eq_true, decide_eq_true_eq] at h
    obtain ⟨⟨⟨⟨h0, hb⟩, h1⟩, h2⟩, h3⟩ := h
    obtain ⟨p, P⟩ := A.hotp h0
    rcases hb with rfl | rfl
    · exact andT (u_call (bl_of (f := .builtin "len") A h1 (by decide +kernel) (by decide) (by decide) (.inl ⟨_, rfl⟩)) (c_len A.hK) (a_cons (Ex.ok g e m cx k X G W _ A h3).1 a_nil (star_of h2)) (star_of h2) rfl) fun _ => rfl
    · exact andT (u_call (bl_of (f := .builtin "all") A h1 (by decide +kernel) (by decide) (by decide) (.inl ⟨_, rfl⟩)) (c_allH (hK := A.hK) ⟨p, P.hot, P.mem⟩) (a_cons (Ex.ok g e m cx k X G W _ A h3).1 a_nil (star_of h2)) (star_of h2) rfl) fun _ => rfl
  | .ixP a b, m, cx, k, X, G, W, x, A, h => by
    unfold Ex.chk at h
    split at h
    case h_2 => cases h
    simp only [Bool.and_eq_true] at h
    obtain ⟨⟨h1, h2⟩, h3⟩ := h
    exact andT (u_ix (s_ix A.hK A.un) (Ex.ok g a m cx k X G W _ A h2).1 (Ex.ok g b m cx k X G W _ A h3).1 (plainIx_of h1)) fun _ => rfl
  | .lcH n own j it e, m, cx, k, X, G, W, x, A, h => by
    unfold Ex.chk at h
    split at h
    case h_2 => cases h
    simp only [Bool.and_eq_true, decide_eq_true_eq] at h
    obtain ⟨⟨⟨⟨⟨⟨⟨⟨h0, h1⟩, h2⟩, h3⟩, h4⟩, h5⟩, h6⟩, h7⟩, h8⟩ := h
    obtain ⟨p, P⟩ := A.hotp h0
    have q1 := bl_of (f := .type "range") A h1 (by decide +kernel) (by decide) (by decide) (.inr ⟨_, rfl⟩)
    obtain rfl := bltB_eq h1
    rename_i xx elt yy py pr pe pc scope pl
    have o : LcOkH X p G W elt (.Name yy py) (.Call (.Name "range" pr) [pe] [] pc) [] scope own (rRange1 (it.den m)) (gtName j) [j] none (e.den m) := ⟨P.hot, P.mem, A.nd, i_range1H q1.hg q1.hm (Ex.ok g it m cx k X G W _ A h7).1 (star_of h2), by rw [A.N, A.sc]; exact blk_of h3,
      fun s H C cl fp => by
        have B := A.blkH h0 P s H scope C cl fp
        have h5' : (cx.blk scope).N[j]? = some yy := h5
        rw [← B.N] at h5'
        rw [← B.sc] at h6
        exact g_name (pg_name B.nd h5' (.inl h6) (.inr h6)),
      fun s H C cl fp => pts_none, fun s H C cl fp => (Ex.ok g e m _ k _ G _ _ (A.blkH h0 P s H _ C cl fp) h8).1, fun _ => rfl, fun i hi => by rw [List.mem_singleton.mp hi]; exact h4⟩
    cases n with
    | true => exact andT (u_lcNH o) fun _ => rfl
    | false => exact andT (u_lcH o) fun _ => rfl
  | .fnH q es, m, cx, k, X, G, W, x, A, h => by
    unfold Ex.chk at h
    split at h
    case h_2 => cases h
    simp only [Bool.and_eq_true, decide_eq_true_eq] at h
    obtain ⟨⟨⟨⟨⟨⟨h0, h1⟩, h2⟩, h3⟩, hne⟩, h4⟩, h5⟩ := h
    obtain ⟨p, P⟩ := A.hotp h0
    obtain ⟨fa, e1, e2, F⟩ := P.fh _ _ h2
    have qa := Es.ok g es m cx k X G W _ A h5
    rename_i y p1 ps pos
    cases ps with
    | nil => cases hne
    | cons p ps =>
      have h4' := Bool.and_eq_true_iff.mp (show (nst p && ps.all nst) = true from h4)
      exact andT (u_fnH F (P.room.mono (by omega)) P.hot P.mem (gl_of A h1) e1 e2 (okName_of h3).1 qa (star_of h4'.1) (plain_of h4'.2)) fun _ => rfl
  | .fx0 q i, m, cx, k, X, G, W, x, A, h => by
    unfold Ex.chk at h
    split at h
    case h_2 => cases h
    simp only [Bool.and_eq_true, decide_eq_true_eq] at h
    obtain ⟨⟨⟨⟨⟨⟨h0, h1⟩, h2⟩, h3⟩, h5⟩, h6⟩, h7⟩ := h
    obtain ⟨p, P⟩ := A.hotp h0
    obtain ⟨fa, e1, e2, F⟩ := P.fx _ _ h2
    rw [← A.N] at h5
    rcases P.told with ⟨_, _, n⟩ | ⟨C, d, T⟩
    · refine andT (r := Ex.den m (.fx0 q i)) ⟨fun pins s σ H Q I ⟨μ, ρ, S, R, sr, z⟩ => ?_⟩ fun _ => rfl
      unfold Ex.den rFx0 at z
      rw [n] at z
      split at z
      · split at z <;> exact z.elim
      · exact z.elim
    · exact andT (u_fx0 F T (P.room.mono (by omega)) P.hot P.mem (gl_of A h1) e1 e2 (okName_of h3).1 (pe_var h5 (vis_of A h6) (okName_of h7).1 (okName_of h7).2)) fun _ => rfl
  | .fx1 q i e, m, cx, k, X, G, W, x, A, h => by
    unfold Ex.chk at h
    split at h
    case h_2 => cases h
    simp only [Bool.and_eq_true, decide_eq_true_eq] at h
    obtain ⟨⟨⟨⟨⟨⟨⟨⟨h0, h1⟩, h2⟩, h3⟩, h5⟩, h6⟩, h7⟩, h8⟩, h9⟩ := h
    obtain ⟨p, P⟩ := A.hotp h0
    obtain ⟨fa, e1, e2, F⟩ := P.fx _ _ h2
    rw [← A.N] at h5
    have pa := (Ex.ok g e m cx k X G W _ A h9).1
    rcases P.told with ⟨_, _, n⟩ | ⟨C, d, T⟩
    · refine andT (r := Ex.den m (.fx1 q i e)) ⟨fun pins s σ H Q I ⟨μ, ρ, S, R, sr, z⟩ => ?_⟩ fun _ => rfl
      unfold Ex.den rFx1 at z
      split at z
      · split at z
        · cases er : e.den m ρ S with
          | ok d S1 =>
            rw [er] at z
            have z : Fin G μ H (only (m.PX q m.c m.fs [d] S1)) Q _ := z
            rw [n] at z
            exact z.elim
          | ex c fs S1 => rw [er] at z; exact z.elim
          | no => rw [er] at z; exact z.elim
        · exact z.elim
      · exact z.elim
    · exact andT (u_fx1 F T (P.room.mono (by omega)) P.hot P.mem (gl_of A h1) e1 e2 (okName_of h3).1 (pe_var h5 (vis_of A h6) (okName_of h7).1 (okName_of h7).2) pa (star_of h8)) fun _ => rfl
  | .bm b o es, m, cx, k, X, G, W, x, A, h => by
    unfold Ex.chk at h
    split at h
    case h_2 => cases h
    simp only [Bool.and_eq_true, decide_eq_true_eq] at h
    obtain ⟨⟨⟨⟨⟨⟨⟨h0, rfl⟩, h1⟩, h2⟩, hlen⟩, h4⟩, h5⟩, h6⟩ := h
    obtain ⟨b1, b2, b3, b4⟩ := b.ok (X := X) (G := G) A.un
    have qo := (Ex.ok g o m cx k X G W _ A h5).1
    have qa := Es.ok g es m cx k X G W _ A h6
    rename_i p1 ap ps pos
    cases ps with
    | nil =>
      cases es with
      | nil => exact andT (u_bm0 b1 b2 b3 b4 qo (att_of h1) h2) fun _ => rfl
      | cons _ _ => unfold Es.chk at h6; cases h6
      | star _ _ => unfold Es.chk at h6; cases h6
    | cons p ps =>
      have h4' := Bool.and_eq_true_iff.mp (show (nst p && ps.all nst) = true from h4)
      refine andT (u_bm b1 b2 b3 b4 qo qa (att_of h1) ?_ h2 (star_of h4'.1) (plain_of h4'.2)) fun _ => rfl
      exact few_of h4 hlen
  | .meth o f es, m, cx, k, X, G, W, x, A, h => by
    unfold Ex.chk at h
    split at h
    case h_2 => cases h
    simp only [Bool.and_eq_true, decide_eq_true_eq] at h
    obtain ⟨⟨⟨⟨⟨⟨⟨h0, rfl⟩, h1⟩, h2⟩, hlen⟩, h4⟩, h5⟩, h6⟩ := h
    have B := A.cold (hot_of h0)
    have qo := (Ex.ok g o m cx k X G W _ A h5).1
    have qa := Es.ok g es m cx k X G W _ A h6
    rename_i p1 n1 ap ps pos
    refine andT (r := Ex.den m (.meth o n1 es)) ?_ fun _ => rfl
    unfold Ex.den
    rw [A.mT]
    cases ps with
    | nil =>
      cases es with
      | nil => exact u_meth0 B.gf (B.room.mono (by omega)) B.tk qo (mcall_of h1 h4 hlen h2)
      | cons _ _ => unfold Es.chk at h6; cases h6
      | star _ _ => unfold Es.chk at h6; cases h6
    | cons p ps =>
      have h4' := Bool.and_eq_true_iff.mp (show (nst p && ps.all nst) = true from h4)
      exact u_meth B.gf (B.room.mono (by omega)) B.tk qo qa (star_of h4'.1) (plain_of h4'.2) (mcall_of h1 h4 hlen h2)
  | .dict ks, m, cx, k, X, G, W, x, A, h => by
    unfold Ex.chk at h
    split at h
    case h_2 => cases h
    simp only [Bool.and_eq_true, decide_eq_true_eq] at h
    rename_i kx vx pos
    obtain ⟨q1, q2, q3, q4⟩ := Ks.ok g ks m cx k X G W kx vx A h.1
    cases ks with
    | nil =>
      unfold Ks.chk at h
      simp only [Bool.and_eq_true, List.isEmpty_iff] at h
      obtain ⟨⟨rfl, rfl⟩, _⟩ := h
      exact andT u_dict0 fun _ => rfl
    | cons a b r =>
      have h0 : kx ≠ [] := fun z => by
        subst z
        have h1 := h.1
        unfold Ks.chk at h1
        cases h1
      exact andT (u_dict (q1 pos) q2 q3 h0 h.2 (by rw [q4]; exact h.2)) fun _ => rfl
  | .fnL q i js par fr e, m, cx, k, X, G, W, x, A, h => by
    unfold Ex.chk at h
    split at h
    case h_2 => cases h
    simp only [Bool.and_eq_true, decide_eq_true_eq] at h
    obtain ⟨⟨⟨⟨⟨⟨⟨⟨⟨⟨⟨h0, h1⟩, h2⟩, h3⟩, h4⟩, h5⟩, h6⟩, h7⟩, h8⟩, h9⟩, h10⟩, h11⟩ := h
    have B := A.cold (hot_of h0)
    obtain ⟨O, fall⟩ := A.own h1
    obtain ⟨fa, e1, e2, F⟩ := B.fc _ _ h3
    obtain ⟨c, P, t1, t2, t3, t4⟩ := O.mkr
    rw [← O.qual] at t3 t4 h8
    rw [← A.N] at h9
    rw [← A.sc] at h11
    refine andT (u_fnL F (B.room.mono (by omega)) B.tk (gl_of A h2) e1 e2 (okName_of h4).1 (Ex.ok g e m cx k X G W _ A h6).1 t1 t2 t3 t4 (par_def h7) (O.lc _ _ h8) (fun y hy ey => ?_) (fun y hy => of_decide_eq_true (List.all_eq_true.mp h10 y hy)) h9 fall (star_of h5) rfl rfl) fun _ => rfl
    have z := List.all_eq_true.mp h11 y hy
    simp only [Bool.or_eq_true, Bool.not_eq_true', decide_eq_false_iff_not, decide_eq_true_eq] at z
    rcases z with (z | z) | z
    · exact absurd ey z
    · exact .inl z
    · exact .inr z
theorem Es.ok (g : Glb) : ∀ (es : Es) (m : Mm) (cx : Cs) (k : Nat) (X : Cx) (G : Gx) (W : WX) (xs : List Expr), XS g m cx k X G W → es.chk g cx xs = true → PA X xs (tA G W (es.den m))
  | .nil, m, cx, k, X, G, W, xs, A, h => by
    unfold Es.chk at h
    cases xs with
    | nil => exact a_nil
    | cons _ _ => cases h
  | .cons e r, m, cx, k, X, G, W, xs, A, h => by
    unfold Es.chk at h
    split at h
    case h_2 => cases h
    simp only [Bool.and_eq_true] at h
    obtain ⟨⟨h0, h1⟩, h2⟩ := h
    exact a_cons (Ex.ok g e m cx k X G W _ A h1).1 (Es.ok g r m cx k X G W _ A h2) (star_of h0)
  | .star e r, m, cx, k, X, G, W, xs, A, h => by
    unfold Es.chk at h
    split at h
    case h_2 => cases h
    simp only [Bool.and_eq_true] at h
    exact a_star A.hK (Ex.ok g e m cx k X G W _ A h.1).1 (Es.ok g r m cx k X G W _ A h.2) rfl
theorem Es.okB (g : Glb) : ∀ (es : Es) (m : Mm) (cx : Cs) (k : Nat) (X : Cx) (G : Gx) (W : WX) (xs : List Expr), XS g m cx k X G W → es.chk g cx xs = true → es.flat = true →
    (∀ pos, PE X (.BoolOp .And xs pos) (tI G W (es.dAnd m)) ∧ (es.tst = true → PW X (.BoolOp .And xs pos) (tT G W (es.dAnd m)))) ∧ ∀ pos, PE X (.BoolOp .Or xs pos) (tI G W (es.dOr m)) ∧ (es.tst = true → PW X (.BoolOp .Or xs pos) (tT G W (es.dOr m)))
  | .nil, m, cx, k, X, G, W, xs, A, h, hf => by cases hf
  | .star _ _, m, cx, k, X, G, W, xs, A, h, hf => by cases hf
  | .cons e .nil, m, cx, k, X, G, W, xs, A, h, hf => by
    unfold Es.chk at h
    split at h
    case h_2 => cases h
    simp only [Bool.and_eq_true] at h
    obtain ⟨⟨h0, h1⟩, h2⟩ := h
    rename_i y ys
    unfold Es.chk at h2
    cases ys with
    | cons _ _ => cases h2
    | nil =>
      obtain ⟨q1, q2⟩ := Ex.ok g e m cx k X G W y A h1
      have tt : Es.tst (.cons e .nil) = true → e.tst = true := fun z => by
        unfold Es.tst at z
        exact (Bool.and_eq_true_iff.mp z).1
      exact ⟨fun pos => ⟨u_one q1, fun z => t_and1 (q2 (tt z))⟩, fun pos => ⟨u_one q1, fun z => t_or1 (q2 (tt z))⟩⟩
  | .cons e (.star _ _), m, cx, k, X, G, W, xs, A, h, hf => by cases hf
  | .cons e (.cons e2 r), m, cx, k, X, G, W, xs, A, h, hf => by
    unfold Es.chk at h
    split at h
    case h_2 => cases h
    simp only [Bool.and_eq_true] at h
    obtain ⟨⟨h0, h1⟩, h2⟩ := h
    rename_i y ys
    obtain ⟨q1, q2⟩ := Ex.ok g e m cx k X G W y A h1
    obtain ⟨b1, b2⟩ := Es.okB g (.cons e2 r) m cx k X G W ys A h2 (by unfold Es.flat at hf; exact hf)
    have tt : Es.tst (.cons e (.cons e2 r)) = true → e.tst = true ∧ Es.tst (.cons e2 r) = true := fun z => by
      unfold Es.tst at z
      exact Bool.and_eq_true_iff.mp z
    cases ys with
    | nil => unfold Es.chk at h2; cases h2
    | cons y2 ys =>
      exact ⟨fun pos => ⟨u_and q1 (b1 pos).1, fun z => t_and (q2 (tt z).1) ((b1 pos).2 (tt z).2)⟩, fun pos => ⟨u_or q1 (b2 pos).1, fun z => t_or (q2 (tt z).1) ((b2 pos).2 (tt z).2)⟩⟩
theorem Ks.ok (g : Glb) : ∀ (ks : Ks) (m : Mm) (cx : Cs) (k : Nat) (X : Cx) (G : Gx) (W : WX) (kx : List (Option Expr)) (vx : List Expr), XS g m cx k X G W → ks.chk g cx kx vx = true →
    (∀ pos, PPs X pos kx vx (tDs G W (ks.den m))) ∧ kx.all (·.isSome) = true ∧ kx.length = vx.length ∧ (ks.den m).length = kx.length
  | .nil, m, cx, k, X, G, W, kx, vx, A, h => by
    unfold Ks.chk at h
    simp only [Bool.and_eq_true, List.isEmpty_iff] at h
    obtain ⟨rfl, rfl⟩ := h
    exact ⟨fun pos => pps_nil, rfl, rfl, rfl⟩
  | .cons a b r, m, cx, k, X, G, W, kx, vx, A, h => by
    unfold Ks.chk at h
    split at h
    case h_2 => cases h
    simp only [Bool.and_eq_true] at h
    obtain ⟨⟨h1, h2⟩, h3⟩ := h
    obtain ⟨q1, q2, q3, q4⟩ := Ks.ok g r m cx k X G W _ _ A h3
    refine ⟨fun pos => pps_cons (Ex.ok g a m cx k X G W _ A h1).1 (Ex.ok g b m cx k X G W _ A h2).1 (q1 pos), ?_, ?_, ?_⟩
    · rw [List.all_cons, q2]; rfl
    · rw [List.length_cons, List.length_cons, q3]
    · show (r.den m).length + 1 = _
      rw [q4]; rfl
theorem Eo.okP (g : Glb) : ∀ (e : Eo) (m : Mm) (cx : Cs) (k : Nat) (X : Cx) (G : Gx) (W : WX) (x : Option Expr), XS g m cx k X G W → e.chk g cx x = true → PO X x (tP G W (e.denP m))
  | .none, m, cx, k, X, G, W, x, A, h => by
    unfold Eo.chk at h
    cases x with
    | none => exact p_none
    | some _ => cases h
  | .some e, m, cx, k, X, G, W, x, A, h => by
    unfold Eo.chk at h
    cases x with
    | none => cases h
    | some y => exact p_some (Ex.ok g e m cx k X G W y A h).1
theorem Eo.okC (g : Glb) : ∀ (e : Eo) (m : Mm) (cx : Cs) (k : Nat) (X : Cx) (G : Gx) (xs : List Expr), XS g m cx k X G (fun _ _ _ _ => False) → e.chkC g cx xs = true → PTs X xs (tC0 G (e.denC m))
  | .none, m, cx, k, X, G, xs, A, h => by
    unfold Eo.chkC at h
    cases xs with
    | nil => exact pts_none
    | cons _ _ => cases h
  | .some e, m, cx, k, X, G, xs, A, h => by
    unfold Eo.chkC at h
    split at h
    case h_2 => cases h
    simp only [Bool.and_eq_true] at h
    exact pts_some ((Ex.ok g e m cx k X G _ _ A h.2).2 h.1)
theorem Iw.ok (g : Glb) : ∀ (e : Iw) (m : Mm) (cx : Cs) (k : Nat) (X : Cx) (G : Gx) (W : WX) (t x : Expr), XS g m cx k X G W → cx.hot = false → e.chk g cx t x = true → PI X t x (tIt G W (e.den m))
  | .seq e, m, cx, k, X, G, W, t, x, A, hc, h => i_seq A.hK (Ex.ok g e m cx k X G W x A (by unfold Iw.chk at h; exact h)).1
  | .keys e, m, cx, k, X, G, W, t, x, A, hc, h => i_keys (Ex.ok g e m cx k X G W x A (by unfold Iw.chk at h; exact h)).1
  | .items e, m, cx, k, X, G, W, t, x, A, hc, h => by
    unfold Iw.chk at h
    split at h
    case h_2 => cases h
    simp only [Bool.and_eq_true, decide_eq_true_eq] at h
    obtain ⟨⟨⟨⟨rfl, h1⟩, h2⟩, h3⟩, h4⟩ := h
    cases t <;> first | cases h1 | skip
    exact i_items (Ex.ok g e m cx k X G W _ A h4).1 (att_of h2) h3
  | .signs e, m, cx, k, X, G, W, t, x, A, hc, h => i_str (Ex.ok g e m cx k X G W x A (by unfold Iw.chk at h; exact h)).1
  | .range e, m, cx, k, X, G, W, t, x, A, hc, h => by
    unfold Iw.chk at h
    split at h
    case h_2 => cases h
    simp only [Bool.and_eq_true] at h
    obtain ⟨⟨h1, h2⟩, h3⟩ := h
    have q1 := bl_of (f := .type "range") A h1 (by decide +kernel) (by decide) (by decide) (.inr ⟨_, rfl⟩)
    obtain rfl := bltB_eq h1
    exact i_range1 q1.hg q1.hm (Ex.ok g e m cx k X G W _ A h3).1 (star_of h2)
  | .enum e, m, cx, k, X, G, W, t, x, A, hc, h => by
    unfold Iw.chk at h
    split at h
    case h_2 => cases h
    simp only [Bool.and_eq_true] at h
    obtain ⟨⟨⟨h1, h0⟩, h2⟩, h3⟩ := h
    have q1 := bl_of (f := .type "enumerate") A h1 (by decide +kernel) (by decide) (by decide) (.inr ⟨_, rfl⟩)
    obtain rfl := bltB_eq h1
    cases t <;> first | cases h0 | skip
    exact i_enum A.hK q1.hg q1.hm (Ex.ok g e m cx k X G W _ A h3).1 (star_of h2)
theorem Gt.ok (g : Glb) : ∀ (t : Gt) (m : Mm) (cx : Cs) (k : Nat) (X : Cx) (G : Gx) (W : WX) (x : Expr), XS g m cx k X G W → t.chk g cx x = true → PG X x (tG G t.js (t.den m))
  | .name i, m, cx, k, X, G, W, x, A, h => by
    unfold Gt.chk at h
    split at h
    case h_2 => cases h
    simp only [Bool.and_eq_true, Bool.or_eq_true, decide_eq_true_eq] at h
    obtain ⟨h1, h2⟩ := h
    rw [← A.N] at h1
    rw [← A.sc] at h2
    exact g_name (pg_name A.nd h1 (h2.imp (fun z => z) fun z => z.2) (h2.elim (fun z => .inr z) fun z => .inl (A.fnc z.1 _)))
  | .tup gs, m, cx, k, X, G, W, x, A, h => by
    unfold Gt.chk at h
    split at h
    case h_2 => cases h
    simp only [Bool.and_eq_true] at h
    obtain ⟨⟨h0, h1⟩, h2⟩ := h
    obtain ⟨z1, z2⟩ := asg_plain (env := X.env) h1
    exact g_tup A.hK (A.cold (hot_of h0)).calm (Gs.ok g gs m cx k X G W _ A h2) (z2.trans (Gs.chk_len g gs cx _ h2).symm) z1
  | .sub o i, m, cx, k, X, G, W, x, A, h => by
    unfold Gt.chk at h
    split at h
    case h_2 => cases h
    simp only [Bool.and_eq_true] at h
    obtain ⟨⟨⟨h0, h1⟩, h2⟩, h3⟩ := h
    exact g_sub (W := W) A.un (plainSet_of h1) (Ex.ok g o m cx k X G W _ A h2).1 (Ex.ok g i m cx k X G W _ A h3).1
  | .fld o f, m, cx, k, X, G, W, x, A, h => by
    unfold Gt.chk at h
    split at h
    case h_2 => cases h
    simp only [Bool.and_eq_true, decide_eq_true_eq] at h
    obtain ⟨⟨h0, rfl⟩, h2⟩ := h
    unfold Gt.den
    rw [A.mT]
    exact g_fld (A.cold (hot_of h0)).gf (Ex.ok g o m cx k X G W _ A h2).1
theorem Gs.ok (g : Glb) : ∀ (t : Gs) (m : Mm) (cx : Cs) (k : Nat) (X : Cx) (G : Gx) (W : WX) (xs : List Expr), XS g m cx k X G W → t.chk g cx xs = true → PGs X xs (tGs G t.js (t.den m))
  | .nil, m, cx, k, X, G, W, xs, A, h => by
    unfold Gs.chk at h
    cases xs with
    | nil => exact g_nil
    | cons _ _ => cases h
  | .cons t r, m, cx, k, X, G, W, xs, A, h => by
    unfold Gs.chk at h
    split at h
    case h_2 => cases h
    simp only [Bool.and_eq_true] at h
    exact g_cons (Gt.ok g t m cx k X G W _ A h.1) (Gs.ok g r m cx k X G W _ A h.2) (asg_cons (Gt.chk_nst h.1))
end
end Mt


set_option Elab.async false
set_option maxRecDepth 100000
set_option autoImplicit false
set_option linter.all false
set_option maxHeartbeats 8000000
/-! Statements: is the tree the text's, and then what it means is done. -/
namespace Mt
open PySem PySem.Spec PyProof.Rows
open L2 hiding Takes XE takes_of passAt PMk MkP ps_raise mk_of
open L2N (Takes XE takes_of passAt PMk MkP ps_raise mk_of Zn)
/-- no comprehension: its value is not swapped -/
def nlc : Expr → Bool
  | .ListComp _ _ _ _ => false
  | .SetComp _ _ _ _ => false
  | .DictComp _ _ _ _ _ => false
  | _ => true
theorem swaps_of {e : Expr} {t : Option Expr} {n : Nat} {env : Env} (h : nlc e = true) : swapsWith e t n env = pure false := by
  cases e <;> first | rfl | cases h
def isName : Expr → Bool
  | .Name _ _ => true
  | _ => false
theorem swapsT_of {e t : Expr} {n : Nat} {env : Env} (h : (nlc e || !isName t) = true) : swapsWithSole [t] e n env = pure false := by
  show swapsWith e (some t) n env = pure false
  cases hn : nlc e with
  | true => exact swaps_of hn
  | false =>
    rw [hn] at h
    cases e <;> first | exact Bool.noConfusion hn | (cases t <;> first | rfl | exact Bool.noConfusion h)
def ntt : Expr → Expr → Bool
  | .Tuple _ _ _, .Tuple _ _ _ => false
  | .List _ _, .Tuple _ _ _ => false
  | _, _ => true
theorem stores_of {t e : Expr} {env : Env} (h : ntt t e = true) : swappedStores [t] e env = pure none := by
  unfold swappedStores
  cases t <;> first | rfl | (cases e <;> first | rfl | cases h)
/-- in a function's block -/
def blkFn (sc : Scope) : Bool := (if sc.kind.isAnnotationScope then ScopeKind.function else sc.kind) == ScopeKind.function
/-- is the value of the assignment swapped with the name it goes to? -/
def swapB (sc : Scope) (value target : Expr) : Bool := match value with
  | .ListComp _ _ s _ | .SetComp _ _ s _ | .DictComp _ _ _ s _ => (match target with
    | .Name t pos => blkFn sc && sc.names.lookup t == some .local && pos.line == value.pos.line && !(s.names.any fun (n, k) => n == t && (k == .local || k == .cell))
    | _ => false)
  | _ => false
theorem swapB_eq {e t : Expr} {n : Nat} {env : Env} : swapsWithSole [t] e n env = pure (swapB env.scope e t) := by
  cases e <;> first | rfl | (cases t <;> rfl)
theorem swapB_eq1 {e t : Expr} {n : Nat} {env : Env} : swapsWith e (some t) n env = pure (swapB env.scope e t) := swapB_eq
/-- names told in one go -/
def lineOk (px py : Pos) : Bool := py.line == px.line
def isStar : Expr → Bool
  | .Starred .. => true
  | _ => false
theorem star_no (c : Expr) (h : nst c = true) : isStar c = false := by
  cases c <;> first | rfl | cases h
theorem stores2 {a b : Expr} {x y : Str} {px py kt pt k2 pt2 : _} {env : Env} (hb : blkFn env.scope = true) (hx : env.scope.names.lookup x = some .local) (hy : env.scope.names.lookup y = some .local) (hl : lineOk px py = true) (hxy : x ≠ y)
    (ha : nst a = true) (hbb : nst b = true) (hf : ([a, b].all (foldedForSure 8)) = false) (hc : ([a, b].all (constantsAlone 8)) = false) : swappedStores [.Tuple [.Name x px, .Name y py] kt pt] (.Tuple [a, b] k2 pt2) env = pure (some [x, y]) := by
  have e1 : (env.blockKind != .function) = false := by
    show (!(env.blockKind == .function)) = false
    rw [show (env.blockKind == ScopeKind.function) = true from hb]; rfl
  have e2 : ([a, b].any fun | .Starred .. => true | _ => false) = false := by
    show (isStar a || (isStar b || false)) = false
    rw [star_no a ha, star_no b hbb]; rfl
  have e3 : ([(.Name x px : Expr), .Name y py].filterMap fun
    | .Name id pos => if env.kindOf id == some .local && pos.line == px.line then some id else none
    | _ => none) = [x, y] := by
    have h1 : (env.kindOf x == some NameKind.local) = true := by
      show (env.scope.names.lookup x == some NameKind.local) = true
      rw [hx]; rfl
    have h2 : (env.kindOf y == some NameKind.local) = true := by
      show (env.scope.names.lookup y == some NameKind.local) = true
      rw [hy]; rfl
    have h3 : (py.line == px.line) = true := hl
    simp only [List.filterMap_cons, List.filterMap_nil, h1, h2, h3, beq_self_eq_true, Bool.and_self, if_true]
  have key : ∀ L : List Str, L = [x, y] → ¬ ((L.length != 2 || L.eraseDups.length != L.length) = true) := fun L e => by
    rw [e]
    have q : ([x, y] : List Str).eraseDups = [x, y] := by
      have q2 : (y == x) = false := by simpa using Ne.symm hxy
      simp [List.eraseDups_cons, q2]
    rw [q]; simp
  unfold swappedStores
  dsimp only
  refine (if_neg ?_).trans ?_
  · show ¬ ((!(true || false) || (2 != 2) || (env.blockKind != ScopeKind.function)) = true)
    rw [e1]; decide
  refine (if_neg (fun z => ?_)).trans ?_
  · exact Bool.noConfusion (e2.symm.trans z)
  refine (if_neg (key _ e3)).trans ?_
  refine (if_neg (fun z => Bool.noConfusion (hf.symm.trans z))).trans ?_
  refine (if_neg (fun z => Bool.noConfusion (hc.symm.trans z))).trans ?_
  exact congrArg (fun z => (pure (some z) : Sem (Option (List Str)))) e3
section
variable {g : Glb} {m : Mm} {cx : Cs} {k : Nat} {X : Cx} {G : Gx} {W : WX}
theorem XS.tr (A : XS g m cx k X G W) {W' : WX} {pn : List (Addr × Obj)} {xe : Value → Shared → Prop} (tk : Takes (X.tr pn xe) W') (hc : cx.hot = false) : XS g m cx k (X.tr pn xe) G W' := by
  have B := A.cold hc
  refine ⟨A.hK, A.N, A.sc, A.nd, A.mT, A.mt, A.mkk, A.kk, A.bl, A.un, fun _ => ⟨B.calm, B.room, tk, ⟨B.gf.fld, B.gf.meth, B.gf.prop, B.gf.ini⟩, ⟨B.gi.ins, B.gi.oo, B.gi.ob, B.gi.bo⟩, ⟨B.ge.eq, B.ge.nb, B.ge.no⟩, ⟨B.gx.xf, B.gx.sup, B.gx.xp, B.gx.ex, B.gx.y⟩, B.fn, B.fc, B.cl, ⟨B.lam.at_⟩, B.fh, B.fx⟩, A.fnc, fun z => ?_, fun z => ?_, fun z => ?_, fun z => ?_, ⟨A.gi.ins, A.gi.oo, A.gi.ob, A.gi.bo⟩, A.cl⟩
  · obtain ⟨O, f⟩ := A.own z
    exact ⟨⟨O.qual, O.mkr, O.lc⟩, f⟩
  · rw [hc] at z; cases z
  · rw [hc] at z; cases z
  · rw [hc] at z; cases z
theorem XS.suite (A : XS g m cx k X G W) (hc : cx.hot = false) {a C : Addr} {oe : Obj} {c : Str} {d : Option Addr} {fs : List (Str × D)} {pn : List (Addr × Obj)} (hC : G.cls c = some C) (hz : Zn (.ref C) d oe) (hf : ∃ vs, oe.data = .fields vs) :
    XS g (m.at_ c fs) { cx with hot := true, mkr := false } k (X.suite a ((a, oe) :: pn)) (gx G a d fs) W0 := by
  have B := A.cold hc
  obtain ⟨vs, hv⟩ := hf
  have T : Told (gx G a d fs) (a, oe) c C d fs := ⟨hC, hz, ⟨vs, hv⟩, fun μ H i xs x h => h⟩
  have P : HotP g (m.at_ c fs) k (X.suite a ((a, oe) :: pn)) (gx G a d fs) (a, oe) := ⟨⟨rfl, vs, hv, hz.2.2 vs hv⟩, List.mem_cons_self, .inr ⟨C, d, T⟩, ⟨B.room.dp, B.room.un⟩, ⟨B.gx.xf, B.gx.sup, B.gx.xp, B.gx.ex, B.gx.y⟩,
    fun x q h => by
      obtain ⟨fa, e1, e2, F⟩ := B.fh x q h
      exact ⟨fa, e1, e2, FnG.gx F⟩, fun x q h => by
      obtain ⟨fa, e1, e2, F⟩ := B.fx x q h
      exact ⟨fa, e1, e2, FnX.gx F⟩⟩
  refine ⟨A.hK, A.N, A.sc, A.nd, A.mT, A.mt, A.mkk, A.kk, A.bl, A.un, (fun z => nomatch (show true = false from z)), A.fnc, (fun z => nomatch (show false = true from z)), fun _ => A.sc, fun _ e i f pos he hb => ?_, fun _ => ⟨_, P⟩, ⟨A.gi.ins, A.gi.oo, A.gi.ob, A.gi.bo⟩, A.cl⟩
  show PE _ _ (tI _ _ (rXf i m.t c fs f))
  rw [A.mt]
  exact P.xf e i f pos he hb
end
end Mt


set_option Elab.async false
set_option maxRecDepth 100000
set_option autoImplicit false
set_option linter.all false
set_option maxHeartbeats 8000000
/-! Statements' trees. -/
namespace Mt
open PySem PySem.Spec PyProof.Rows L2
/-- + and -, in place, on numbers -/
def Bo.lin : Bo → Bool
  | .add => true
  | .sub => true
  | _ => false
theorem Bo.ip (o : Bo) (h : o.lin = true) {X : Cx} : PIp X o.op (ipI o.i) := by
  cases o <;> first | exact ip_add | exact ip_sub | cases h
structure Xfr (X : Cx) : Prop where
  pass : PassesOwn (model X.prog X.w) X.A X.env X.xe
  stk : X.stack = X.env :: X.outer
  frm : X.env.frame = some X.env.locals
mutual
def St.chk (g : Glb) : St → Cs → Stmt → Bool
  | .pass, _, s => (match s with
    | .Pass _ => true
    | _ => false)
  | .expr e, cx, s => (match s with
    | .Expr x _ => nlc x && e.chk g cx x
    | _ => false)
  | .ret e, cx, s => (match s with
    | .Return (some x) _ => e.chk g cx x
    | _ => false)
  | .retN, _, s => (match s with
    | .Return none _ => true
    | _ => false)
  | .ite c a b, cx, s => (match s with
    | .If t p q _ => c.tst && c.chk g cx t && a.chk g cx p && b.chk g cx q
    | _ => false)
  | .asg t e, cx, s => (match s with
    | .Assign [p] x _ => !swapB cx.sc x p && ntt p x && t.chk g cx p && e.chk g cx x
    | _ => false)
  | .setLc i n own it tg c e, cx, s => (match s with
    | .Assign [.Name y py] (.ListComp elt [⟨t, iter, ifs, 0⟩] scope pt) _ => swapB cx.sc (.ListComp elt [⟨t, iter, ifs, 0⟩] scope pt) (.Name y py) && decide (cx.N[i]? = some y) && decide (cx.sc.names.lookup y = some .local) &&
        !cx.hot && nset iter && blkB cx.N cx.sc scope own && tg.js.all (fun j => decide (j ∈ own.map (·.2))) &&
        it.chk g cx t iter && tg.chk g (cx.blk scope) t && c.chkC g (cx.blk scope) ifs && e.chk g (cx.blk scope) elt
    | _ => false)
  | .par is es, cx, s => (match s with
    | .Assign [.Tuple [.Name x px, .Name y py] _ _] (.Tuple [a, b] _ _) _ => (match is with
      | [i, j] => !cx.hot && blkFn cx.sc && decide (cx.N[i]? = some x) && decide (cx.N[j]? = some y) && decide (cx.sc.names.lookup x = some .local) && decide (cx.sc.names.lookup y = some .local) && lineOk px py && decide (x ≠ y) && decide (i ≠ j) &&
          nst a && nst b && !([a, b].all (foldedForSure 8)) && !([a, b].all (constantsAlone 8)) && es.chk g cx [a, b]
      | _ => false)
    | _ => false)
  | .aug i o e, cx, s => (match s with
    | .AugAssign (.Name y _) op x _ => decide (cx.N[i]? = some y) && decide (cx.sc.names.lookup y = some .local) && decide (op = o.op) && o.lin && e.chk g cx x
    | _ => false)
  | .augF o f p e, cx, s => (match s with
    | .AugAssign (.Attribute y f' _) op x _ => !cx.hot && decide (f' = f) && decide (op = p.op) && p.lin && o.chk g cx y && e.chk g cx x
    | _ => false)
  | .while_ c b, cx, s => (match s with
    | .While t p [] _ => !cx.hot && c.tst && c.chk g cx t && b.chk g cx p
    | _ => false)
  | .for_ it gt b, cx, s => (match s with
    | .For t x p [] _ => !cx.hot && nset x && it.chk g cx t x && gt.chk g cx t && b.chk g cx p
    | _ => false)
  | .raise1 c f e, cx, s => (match s with
    | .Raise (some (.Call (.Name y _) [p] [] _)) none _ => !cx.hot && glB cx.sc y && decide (g.cl.lookup y = some c) && decide (g.t.xf c = some f) && okName y && nst p && e.chk g cx p
    | _ => false)
  | .raise0 c, cx, s => (match s with
    | .Raise (some (.Call (.Name y _) [] [] _)) none _ => !cx.hot && glB cx.sc y && decide (g.cl.lookup y = some c) && g.t.xp c && okName y
    | _ => false)
  | .try_ b hs, cx, s => (match s with
    | .Try p hds [] [] _ => !cx.hot && b.chk g cx p && hs.chk g cx hds && !hds.isEmpty
    | _ => false)
  | .lock _ s, cx, st => s.chk g cx st
  | .bad, _, _ => true
  | _, _, _ => false
def Ss.chk (g : Glb) : Ss → Cs → List Stmt → Bool
  | .nil, _, xs => xs.isEmpty
  | .cons s r, cx, xs => (match xs with
    | x :: xs => s.chk g cx x && r.chk g cx xs
    | [] => false)
def Hs.chk (g : Glb) : Hs → Cs → List ExceptHandler → Bool
  | .nil, _, xs => xs.isEmpty
  | .cons e i b r, cx, xs => (match xs with
    | .ExceptHandler (some (.Name y _)) n (b0 :: bs) _ :: xs => glB cx.sc y && decide (g.cl.lookup y = some e) && okName y && (match i, n with
        | none, none => true
        | some j, some z => decide (cx.N[j]? = some z) && decide (cx.sc.names.lookup z = some .local)
        | _, _ => false) && b.chk g { cx with hot := true, mkr := false } (b0 :: bs) && r.chk g cx xs
    | _ => false)
end
mutual
theorem St.ok (g : Glb) : ∀ (s : St) (m : Mm) (cx : Cs) (k : Nat) (X : Cx) (G : Gx) (W : WX) (x : Stmt), XS g m cx k X G W → (cx.hot = false → Xfr X) → s.chk g cx x = true → PS X x (tS G W (s.den m))
  | .bad, m, cx, k, X, G, W, x, A, F, h => ⟨fun pins s σ H D I ⟨μ, ρ, S, R, q, f⟩ => f.elim⟩
  | .pass, m, cx, k, X, G, W, x, A, F, h => by
    unfold St.chk at h
    split at h
    case h_2 => cases h
    exact s_pass
  | .expr e, m, cx, k, X, G, W, x, A, F, h => by
    unfold St.chk at h
    split at h
    case h_2 => cases h
    simp only [Bool.and_eq_true] at h
    exact s_expr (Ex.ok g e m cx k X G W _ A h.2).1 (swaps_of h.1)
  | .ret e, m, cx, k, X, G, W, x, A, F, h => by
    unfold St.chk at h
    split at h
    case h_2 => cases h
    exact s_ret (Ex.ok g e m cx k X G W _ A h).1
  | .retN, m, cx, k, X, G, W, x, A, F, h => by
    unfold St.chk at h
    split at h
    case h_2 => cases h
    exact s_retN
  | .ite c a b, m, cx, k, X, G, W, x, A, F, h => by
    unfold St.chk at h
    split at h
    case h_2 => cases h
    simp only [Bool.and_eq_true] at h
    obtain ⟨⟨⟨h0, h1⟩, h2⟩, h3⟩ := h
    exact s_if ((Ex.ok g c m cx k X G W _ A h1).2 h0) (Ss.ok g a m cx k X G W _ A F h2) (Ss.ok g b m cx k X G W _ A F h3)
  | .asg t e, m, cx, k, X, G, W, x, A, F, h => by
    unfold St.chk at h
    split at h
    case h_2 => cases h
    simp only [Bool.and_eq_true] at h
    obtain ⟨⟨⟨h0, h1⟩, h2⟩, h3⟩ := h
    exact s_asg (Ex.ok g e m cx k X G W _ A h3).1 (Gt.ok g t m cx k X G W _ A h2) (by rw [swapB_eq, A.sc, show swapB cx.sc _ _ = false by simpa using h0]) (stores_of h1) (asg_cons (Gt.chk_nst h2))
  | .setLc i n own it tg c e, m, cx, k, X, G, W, x, A, F, h => by
    unfold St.chk at h
    split at h
    case h_2 => cases h
    simp only [Bool.and_eq_true, decide_eq_true_eq] at h
    obtain ⟨⟨⟨⟨⟨⟨⟨⟨⟨⟨hs, hi⟩, hl⟩, h0⟩, h1⟩, h2⟩, h3⟩, h4⟩, h5⟩, h6⟩, h7⟩ := h
    have hc := hot_of h0
    have B := A.cold hc
    have o : LcOk X G W _ _ _ _ _ own (it.den m) (tg.den m) tg.js (c.denC m) (e.den m) := ⟨B.calm, A.nd, Iw.ok g it m cx k X G W _ _ A hc h4, by rw [A.N, A.sc]; exact blk_of h2,
      fun s H C cl fp => Gt.ok g tg m _ k _ G _ _ (A.blk hc s H _ C cl fp) h5, fun s H C cl fp => Eo.okC g c m _ k _ G _ (A.blk hc s H _ C cl fp) h6, fun s H C cl fp => (Ex.ok g e m _ k _ G _ _ (A.blk hc s H _ C cl fp) h7).1,
      fold_of h1, fun j hj => of_decide_eq_true (List.all_eq_true.mp h3 j hj)⟩
    rw [← A.N] at hi
    rw [← A.sc] at hl hs
    cases n with
    | true => exact s_setLcN o hi hl (by rw [swapB_eq1, hs])
    | false => exact s_setLc o hi hl (by rw [swapB_eq1, hs])
  | .par is es, m, cx, k, X, G, W, x, A, F, h => by
    unfold St.chk at h
    split at h
    case h_2 => cases h
    split at h
    case h_2 => cases h
    simp only [Bool.and_eq_true, decide_eq_true_eq, Bool.not_eq_true'] at h
    obtain ⟨⟨⟨⟨⟨⟨⟨⟨⟨⟨⟨⟨⟨h0, hb⟩, hi⟩, hj⟩, hx⟩, hy⟩, hl⟩, hxy⟩, hij⟩, ha⟩, hb2⟩, hf⟩, hco⟩, he⟩ := h
    rw [← A.N] at hi hj
    rw [← A.sc] at hx hy hb
    exact s_par (A.cold h0).calm A.nd hi hj hij hx hy (Es.ok g es m cx k X G W _ A he) (stores2 hb hx hy hl hxy ha hb2 hf hco) (by rw [swapB_eq]; rfl)
  | .aug i o e, m, cx, k, X, G, W, x, A, F, h => by
    unfold St.chk at h
    split at h
    case h_2 => cases h
    simp only [Bool.and_eq_true, decide_eq_true_eq] at h
    obtain ⟨⟨⟨⟨hi, hx⟩, rfl⟩, hp⟩, he⟩ := h
    rw [← A.N] at hi
    rw [← A.sc] at hx
    exact s_augV A.nd hi (.inl hx) (Ex.ok g e m cx k X G W _ A he).1 (o.ip hp) (.inr hx)
  | .augF o f p e, m, cx, k, X, G, W, x, A, F, h => by
    unfold St.chk at h
    split at h
    case h_2 => cases h
    simp only [Bool.and_eq_true, decide_eq_true_eq] at h
    obtain ⟨⟨⟨⟨⟨h0, rfl⟩, rfl⟩, hp⟩, h1⟩, h2⟩ := h
    unfold St.den
    rw [A.mT]
    exact s_augF (A.cold (hot_of h0)).gf (Ex.ok g o m cx k X G W _ A h1).1 (Ex.ok g e m cx k X G W _ A h2).1 (p.ip hp)
  | .while_ c b, m, cx, k, X, G, W, x, A, F, h => by
    unfold St.chk at h
    split at h
    case h_2 => cases h
    simp only [Bool.and_eq_true] at h
    obtain ⟨⟨⟨h0, h1⟩, h2⟩, h3⟩ := h
    exact s_while (F (hot_of h0)).pass ((Ex.ok g c m cx k X G W _ A h2).2 h1) (Ss.ok g b m cx k X G W _ A F h3)
  | .for_ it gt b, m, cx, k, X, G, W, x, A, F, h => by
    unfold St.chk at h
    split at h
    case h_2 => cases h
    simp only [Bool.and_eq_true] at h
    obtain ⟨⟨⟨⟨h0, h1⟩, h2⟩, h3⟩, h4⟩ := h
    have hc := hot_of h0
    exact s_for (F hc).pass (A.cold hc).calm (Iw.ok g it m cx k X G W _ _ A hc h2) (Gt.ok g gt m cx k X G W _ A h3) (Ss.ok g b m cx k X G W _ A F h4) (fold_of h1)
  | .raise1 c f e, m, cx, k, X, G, W, x, A, F, h => by
    unfold St.chk at h
    split at h
    case h_2 => cases h
    simp only [Bool.and_eq_true, decide_eq_true_eq] at h
    obtain ⟨⟨⟨⟨⟨⟨h0, h1⟩, h2⟩, h3⟩, h4⟩, h5⟩, h6⟩ := h
    have B := A.cold (hot_of h0)
    obtain ⟨C, e1, e2⟩ := B.cl _ _ h2
    exact s_raise1 B.calm B.tk B.gx h3 e2 (B.room.mono (Nat.le_succ _)) (gl_of A h1) e1 (okName_of h4).1 (Ex.ok g e m cx k X G W _ A h6).1 (star_of h5) rfl
  | .raise0 c, m, cx, k, X, G, W, x, A, F, h => by
    unfold St.chk at h
    split at h
    case h_2 => cases h
    simp only [Bool.and_eq_true, decide_eq_true_eq] at h
    obtain ⟨⟨⟨⟨h0, h1⟩, h2⟩, h3⟩, h4⟩ := h
    have B := A.cold (hot_of h0)
    obtain ⟨C, e1, e2⟩ := B.cl _ _ h2
    exact s_raise0 B.calm B.tk B.gx h3 e2 (gl_of A h1) e1 (okName_of h4).1
  | .try_ b hs, m, cx, k, X, G, W, x, A, F, h => by
    unfold St.chk at h
    split at h
    case h_2 => cases h
    simp only [Bool.and_eq_true] at h
    obtain ⟨⟨⟨h0, h1⟩, h2⟩, h3⟩ := h
    have hc := hot_of h0
    have B := A.cold hc
    rename_i p hds pos
    have q := Hs.ok g hs m cx k X G W hds A hc h2
    unfold St.den
    rw [A.mt]
    cases hds with
    | nil => cases h3
    | cons h0 hds => exact s_try (F hc).stk (F hc).frm A.nd B.tk B.gx (fun W' pn xe tk ps => Ss.ok g b m cx k (X.tr pn xe) G W' p (A.tr tk hc) (fun _ => ⟨ps, (F hc).stk, (F hc).frm⟩) h1) q
  | .lock d s, m, cx, k, X, G, W, x, A, F, h => s_lock (St.ok g s m cx k X G W x A F (by unfold St.chk at h; exact h))
  | .fld _ _ _, m, cx, k, X, G, W, x, A, F, h => by cases h
theorem Ss.ok (g : Glb) : ∀ (s : Ss) (m : Mm) (cx : Cs) (k : Nat) (X : Cx) (G : Gx) (W : WX) (xs : List Stmt), XS g m cx k X G W → (cx.hot = false → Xfr X) → s.chk g cx xs = true → PSs X xs (tS G W (s.den m))
  | .nil, m, cx, k, X, G, W, xs, A, F, h => by
    unfold Ss.chk at h
    cases xs with
    | nil => exact ss_nil
    | cons _ _ => cases h
  | .cons s r, m, cx, k, X, G, W, xs, A, F, h => by
    unfold Ss.chk at h
    split at h
    case h_2 => cases h
    simp only [Bool.and_eq_true] at h
    exact ss_cons (St.ok g s m cx k X G W _ A F h.1) (Ss.ok g r m cx k X G W _ A F h.2)
theorem Hs.ok (g : Glb) : ∀ (s : Hs) (m : Mm) (cx : Cs) (k : Nat) (X : Cx) (G : Gx) (W : WX) (xs : List ExceptHandler), XS g m cx k X G W → cx.hot = false → s.chk g cx xs = true → TrOk X G g.t xs (s.den m)
  | .nil, m, cx, k, X, G, W, xs, A, hc, h => by
    unfold Hs.chk at h
    cases xs with
    | nil => exact .nil
    | cons _ _ => cases h
  | .cons e i b r, m, cx, k, X, G, W, xs, A, hc, h => by
    unfold Hs.chk at h
    split at h
    case h_2 => cases h
    simp only [Bool.and_eq_true, decide_eq_true_eq] at h
    obtain ⟨⟨⟨⟨⟨h1, h2⟩, h3⟩, h4⟩, h5⟩, h6⟩ := h
    obtain ⟨C, e1, e2⟩ := (A.cold hc).cl _ _ h2
    refine .cons (h := ⟨e, i, fun c fs => b.den (m.at_ c fs)⟩) e2 ⟨gl_of A h1, (okName_of h3).1, .inl e1⟩ ?_ (fun a oe c C d fs pn hC hz hf => Ss.ok g b (m.at_ c fs) _ k _ _ _ _ (A.suite hc hC hz hf) (fun z => nomatch (show true = false from z)) h5) (Hs.ok g r m cx k X G W _ A hc h6)
    split at h4
    · exact .inl ⟨rfl, rfl⟩
    · simp only [Bool.and_eq_true, decide_eq_true_eq] at h4
      rw [← A.N, ← A.sc] at h4
      exact .inr ⟨_, _, rfl, rfl, h4.1, h4.2⟩
    · cases h4
end
end Mt


set_option Elab.async false
set_option maxRecDepth 100000
set_option autoImplicit false
set_option linter.all false
set_option maxHeartbeats 4000000
/-! A def by its body's tree. -/
namespace Mt
open PySem PySem.Spec PyProof.Rows
open L2 hiding Takes XE takes_of passAt PMk MkP ps_raise mk_of
open L2N (Takes XE takes_of passAt PMk MkP ps_raise mk_of Zn)
theorem runOf_fin {G : Gx} {μ : Mu} {H : Hp} {r : Fs} {Q : VK} {E : XK} (f : Fin G μ H (runOf r) Q E) : FinS G μ H r { nx := fun _ H' => Q .non H', rt := Q } fun cv dx _ H' => E cv dx H' := by
  cases r with
  | next ρ S => exact fun μ' H' σ' m R s => f μ' H' .non m R (VR.of .n)
  | ret d S => exact f
  | ex c fs ρ S => exact fun μ' H' cv dx σ' m R x s => f μ' H' cv dx m R x
  | brk ρ S => exact f.elim
  | cont ρ S => exact f.elim
  | no => exact f.elim
theorem sr_start {G : Gx} {μ : Mu} {H : Hp} {ds : List D} {vs : List V} {N : List Str} (q : DRs G.K μ H ds vs) (n : Nat) (hn : n = ds.length) : SR G μ H ⟨ds.map some ++ List.replicate (N.length - n) none, none⟩ (L2.start N vs) := by
  have hl := q.length
  subst hn
  refine ⟨?_, fun i d z => ?_, fun i g vs z => by cases z⟩
  · show (ds.map some ++ List.replicate (N.length - ds.length) none).length = (L2.start N vs).length
    unfold L2.start
    rw [List.length_append, List.length_append, List.length_map, List.length_map, List.length_replicate, List.length_replicate, hl]
  · have z' : (ds.map some ++ List.replicate (N.length - ds.length) none)[i]? = some (some d) := z
    by_cases hi : i < ds.length
    · rw [List.getElem?_append_left (by rw [List.length_map]; exact hi), List.getElem?_map] at z'
      cases hd : ds[i]? with
      | none => rw [hd] at z'; cases z'
      | some d' =>
        rw [hd] at z'; cases z'
        obtain ⟨v, hv, r⟩ := q.get hd
        refine ⟨v, ?_, r⟩
        unfold L2.start
        rw [List.getElem?_append_left (by rw [List.length_map, ← hl]; exact hi), List.getElem?_map, hv] <;> rfl
    · rw [List.getElem?_append_right (by rw [List.length_map]; omega), List.getElem?_replicate] at z'
      split at z' <;> cases z'
section
variable {P : Program} {w : World} {K : PySem.W.Frag} {mg : Str → Option Value} {base : Heap} {G : Gx} {g : Glb} {m : Mm} {k : Nat} {x qual : Str} {params : Arguments} {body : List Stmt} {scope : Scope} {f : Addr} {fd : FuncData} {N ps : List Str} {df : Df}
theorem fn_tree (F : FunD K x qual params body scope [] [] f fd) (S : FnScope N ps scope) (hp : ps.length = df.np) (hN : df.N = N) {cx : Cs} (hcx : cx.hot = false) (hchk : df.b.chk g cx body = true)
    (A : ∀ (cdv : Value) (A : Around) (outer : List Env) (s : Shared) (H : Hp) (E : XK) (W : WX), Room (k + 2) (A.deeper (envOfC qual scope s.heap.objs.size f cdv)) → Takes (cxOf (L2N.CX P w) P w K mg base N qual scope f cdv A outer s H E) W → XS g m cx k (cxOf (L2N.CX P w) P w K mg base N qual scope f cdv A outer s H E) G W) :
    FnOk P w K mg base (L2N.CX P w) (k + 3) f fd ps (spF G ps.length (df.run m)) := by
  refine F.ok S (fun vs H Q E h => h.1) fun cdv A' outer s H vs Q E hr ⟨hl, μ, St, ds, R, q, fin⟩ => ?_
  have tk : Takes (cxOf (L2N.CX P w) P w K mg base N qual scope f cdv A' outer s H E) (fun cv dx _ H' => E cv dx H') := takes_of rfl rfl rfl rfl
  have X := A cdv A' outer s H E (fun cv dx _ H' => E cv dx H') hr tk
  refine ⟨tS G (fun cv dx _ H' => E cv dx H') (df.b.den m), Ss.ok g df.b m cx k _ G _ body X (fun _ => ⟨passes_of rfl, rfl, rfl⟩) hchk, ?_⟩
  have e : ds.length = df.np := by rw [q.length, hl, hp]
  unfold Df.run at fin
  rw [if_pos e, hN] at fin
  exact ⟨μ, _, St, R, sr_start q _ e.symm, runOf_fin fin⟩
theorem sr_startC {μ : Mu} {H : Hp} {d : D} {v : V} {a : Addr} {i : Nat} {cs : List D} (q : DR G.K μ H d v) (hc : G.clo μ H i cs a) : SR G μ H ⟨some d :: none :: List.replicate (N.length - 2) none, some (1, i, cs)⟩ (L2.start N [v, .ref a]) := by
  refine ⟨?_, fun j e z => ?_, fun j g vs z => ?_⟩
  · show (some d :: none :: List.replicate (N.length - 2) (none : Option D)).length = (L2.start N [v, .ref a]).length
    unfold L2.start
    simp
  · match j with
    | 0 => cases z; exact ⟨v, rfl, q⟩
    | 1 => cases z
    | j + 2 =>
      have z' : (List.replicate (N.length - 2) (none : Option D))[j]? = some (some e) := z
      rw [List.getElem?_replicate] at z'
      split at z' <;> cases z'
  · cases z
    exact ⟨a, rfl, hc⟩
theorem fn_treeC (F : FunD K x qual params body scope [] [] f fd) (S : FnScope N ps scope) (hp : ps.length = 2) (hN : df.N = N) {cx : Cs} (hcx : cx.hot = false) (hchk : df.b.chk g cx body = true)
    (A : ∀ (cdv : Value) (A : Around) (outer : List Env) (s : Shared) (H : Hp) (E : XK) (W : WX), Room (k + 2) (A.deeper (envOfC qual scope s.heap.objs.size f cdv)) → Takes (cxOf (L2N.CX P w) P w K mg base N qual scope f cdv A outer s H E) W → XS g m cx k (cxOf (L2N.CX P w) P w K mg base N qual scope f cdv A outer s H E) G W) :
    FnOk P w K mg base (L2N.CX P w) (k + 3) f fd ps (spC G (df.runC m)) := by
  refine F.ok S (fun vs H Q E ⟨v, a, e, _⟩ => by rw [e, hp]; rfl) fun cdv A' outer s H vs Q E hr ⟨v, a, ev, μ, St, d, i, cs, R, q, hc, fin⟩ => ?_
  subst ev
  have tk : Takes (cxOf (L2N.CX P w) P w K mg base N qual scope f cdv A' outer s H E) (fun cv dx _ H' => E cv dx H') := takes_of rfl rfl rfl rfl
  have X := A cdv A' outer s H E (fun cv dx _ H' => E cv dx H') hr tk
  refine ⟨tS G (fun cv dx _ H' => E cv dx H') (df.b.den m), Ss.ok g df.b m cx k _ G _ body X (fun _ => ⟨passes_of rfl, rfl, rfl⟩) hchk, ?_⟩
  unfold Df.runC at fin
  rw [hN] at fin
  exact ⟨μ, _, St, R, sr_startC q hc, runOf_fin fin⟩
theorem parB_eq {params : Arguments} {par : List Str} (h : parB params par = true) : ∃ a p, params = ⟨[], [⟨a, none, p⟩], none, [], [], none, []⟩ ∧ par = [a] := by
  unfold parB at h
  split at h
  · exact ⟨_, _, rfl, of_decide_eq_true h⟩
  · cases h
/-- the lambda's body by its tree -/
theorem lam_tree {lm : Lm} {rb : Ex} (h1 : lm.par.length = 1) (hs : NdefX.nscB (lm.par ++ lm.fr) lm.par lm.fr lm.scope = true) (hb : ∀ cl pm c ctv us, us.length = lm.par.length → bindArgs (PySem.W.kla_fn "<lambda>" lm.qual lm.params lm.body lm.scope cl pm (.ref c) ctv) ⟨us, []⟩ = pure (lm.par.zip us)) {cx : Cs} (hchk : rb.chk g cx lm.body = true)
    (A : ∀ (A : Around) (outer : List Env) (s : Shared) (H : Hp) (f : Addr) (cl : List (Str × Addr)) (c : Addr), Room (k + 2) (A.deeper (NdefX.envF (lm.nf cl c) f s.heap.objs.size)) → XS g m cx k (NdefX.ncx (L2N.CX P w) P w K mg base (lm.par ++ lm.fr) (lm.nf cl c) f A outer s H fun _ _ _ => False) G W0) :
    LmOk P w K mg base G (k + 2) lm (rb.den m) := by
  exact ⟨h1, NdefX.nscope_by hs, hb, fun A' outer s H f cl c hr => (Ex.ok g rb m cx k _ G W0 lm.body (A A' outer s H f cl c hr) hchk).1⟩
end
end Mt


set_option Elab.async false
set_option maxRecDepth 100000
set_option autoImplicit false
set_option linter.all false
set_option maxHeartbeats 4000000
/-! Facts of the written part, asked by a program: own errors with a field, functions, constants. -/
namespace Mt
open PySem PySem.W PySem.Calls PyProof.Rows PySem.HandSPX
abbrev FnV : Type := Option (Str × Str × Arguments × FuncBody × Scope × Addr × Addr)
/-- what is told of the function at a -/
def fnV (K : Frag) (a : Addr) : FnV := match K.lookup a with
  | some ⟨_, _, .func fd, _⟩ => some (fd.name, fd.qualname, fd.params, fd.body, fd.scope, fd.globals, fd.builtins)
  | _ => none
def isNone : Value → Bool
  | .none => true
  | _ => false
theorem isNone_eq {v : Value} (h : isNone v = true) : v = .none := by cases v <;> first | rfl | cases h
/-- its code object -/
def cdA (K : Frag) (a : Addr) : Addr := match K.lookup a with
  | some ⟨_, _, .func fd, _⟩ => (match fd.code with
    | .ref c => c
    | _ => 0)
  | _ => 0
/-- its code's table -/
def tbA (K : Frag) (a : Addr) : Addr := match K.lookup (cdA K a) with
  | some ⟨_, _, .fields vs, _⟩ => (match (vs[11]? : Option Value) with
    | some (.ref P) => P
    | _ => 0)
  | _ => 0
/-- a plain function without defaults -/
def fnB (K : Frag) (a : Addr) (qual : Str) : Bool := keepIn K (.ref a) && (match K.lookup a with
  | some ⟨_, _, .func fd, _⟩ => codeIn K fd.code qual && isNone fd.defaults && fd.closure.isEmpty && decide (fd.code = .ref (cdA K a))
  | _ => false)
theorem fnB_ok {K : Frag} {a : Addr} {name qual : Str} {params : Arguments} {body : List Stmt} {scope : Scope} (h : fnB K a qual = true) (e : fnV K a = some (name, qual, params, .stmts body, scope, mainGlobals, builtinsNs)) :
    ∃ fd, L2.FunD K name qual params body scope [] [] a fd ∧ fd.code = .ref (cdA K a) := by
  unfold fnB at h
  obtain ⟨hk, h⟩ := Bool.and_eq_true_iff.mp h
  unfold fnV at e
  split at e
  case h_2 => cases e
  rename_i oc od fd osl lk
  rw [lk] at h
  dsimp only at h
  simp only [Bool.and_eq_true, decide_eq_true_eq] at h
  obtain ⟨⟨⟨h1, h2⟩, h3⟩, h4⟩ := h
  have h2' := isNone_eq h2
  have h3' := List.isEmpty_iff.mp h3
  obtain ⟨n1, n2, n3, n4, n5, n6, n7, n8, n9, n10, n11, n12, n13, n14, n15⟩ := fd
  simp only [Option.some.injEq, Prod.mk.injEq] at e
  obtain ⟨e1, e2, e3, e4, e5, e6, e7⟩ := e
  dsimp only at h1 h2' h3' h4 e1 e2 e3 e4 e5 e6 e7
  subst e1 e2 e3 e4 e5 e6 e7 h2' h3'
  exact ⟨_, ⟨⟨oc, od, .none, n9, n10, n11, n12, n13, n14, osl, rfl, lk, h1, .inl ⟨rfl, rfl⟩, .inl rfl⟩, hk⟩, h4⟩
/-! ### an own error with a field -/
/-- the positions in the text of its __init__ -/
def posA (st : Stmt) (i : Nat) : Pos := match (L2.defArgs st).args[i]? with
  | some a => a.pos
  | none => ⟨0, 0, 0, 0⟩
def posB (st : Stmt) : Nat → Pos := match L2.defBody st with
  | [.Expr (.Call (.Attribute (.Call (.Name _ q0) [] [] q1) _ q2) [.Constant _ _ q3] [] q4) q5, .Assign [.Attribute (.Name _ q6) _ q7] (.Name _ q8) q9] => fun i => match i with
    | 0 => q0
    | 1 => q1
    | 2 => q2
    | 3 => q3
    | 4 => q4
    | 5 => q5
    | 6 => q6
    | 7 => q7
    | 8 => q8
    | _ => q9
  | _ => fun _ => ⟨0, 0, 0, 0⟩
def kindC (st : Stmt) : Nat := match L2.defBody st with
  | [.Expr (.Call _ [.Constant _ j _] [] _) _, _] => j
  | _ => 0
def msgC (st : Stmt) : Str := match L2.defBody st with
  | [.Expr (.Call _ [.Constant (.str m) _ _] [] _) _, _] => m
  | _ => Str.empty
def xV (fld qual : Str) (st : Stmt) : FnV := some ("__init__", qual, xA fld (posA st 0) (posA st 1), .stmts (xB fld (msgC st) (kindC st) (posB st)), xS fld, mainGlobals, builtinsNs)
def xcB1 (K : Frag) (C : Addr) : Bool := match K.lookup C with
  | some ⟨.type n, _, .cls cd, sl⟩ => decide (n = "type") && (match cd.mro, sl.toList with
    | .ref C' :: bm, [_, _, _, _, some (.builtin n), _] => decide (C' = C) && decide (n = "ValueError.__new__") && cd.hasDict && !cd.hasDel && refsVE bm && decide (alongIn K "__init__" bm = some (some (.builtin "ValueError.__init__")))
    | _, _ => false)
  | _ => false
theorem xcB1_ok {K : Frag} {C : Addr} (h : xcB1 K C = true) : ∃ nm q N bs bm sn sub ab col dd k0 k1 k2 k3 k5, K.lookup C = some (excClassObj nm q C N bs bm true sn sub ab col dd k0 k1 k2 k3 k5 "ValueError.__new__") ∧ refsVE bm = true ∧ alongIn K "__init__" bm = some (some (.builtin "ValueError.__init__")) := by
  unfold xcB1 at h
  split at h
  case h_2 => cases h
  rename_i n dd cd sl lk
  obtain ⟨hn, h⟩ := Bool.and_eq_true_iff.mp h
  split at h
  case h_2 => cases h
  rename_i C' bm k0 k1 k2 k3 nn k5 em es
  simp only [Bool.and_eq_true, decide_eq_true_eq, Bool.not_eq_true'] at h hn
  obtain ⟨⟨⟨⟨⟨rfl, rfl⟩, h3⟩, h4⟩, h5⟩, h6⟩ := h
  subst hn
  obtain ⟨nm, bs, mro, ns, q, hd, sn, sub, ab, col, del⟩ := cd
  dsimp only at em h3 h4
  subst em h3 h4
  have es' : sl = #[k0, k1, k2, k3, some (.builtin "ValueError.__new__"), k5] := by
    rw [← Array.toArray_toList (xs := sl), es]
  subst es'
  exact ⟨nm, q, ns, bs, bm, sn, sub, ab, col, dd, k0, k1, k2, k3, k5, lk, h5, h6⟩
def xcB2 (K : Frag) (file : Str) (C fI : Addr) (qual : Str) : Bool := match K.lookup fI with
  | some ⟨_, _, .func fd, _⟩ => isNone fd.defaults && isNone fd.kwdefaults && codeIn K fd.code qual && decide (fd.code = .ref (cdA K fI)) && (match fd.closure with
      | [(y, cc)] => decide (y = ("__class__" : Str)) && (match K.lookup cc with
        | some ⟨_, _, .cell (some (.ref C')), _⟩ => decide (C' = C)
        | _ => false)
      | _ => false) && (match K.lookup (cdA K fI) with
      | some ⟨_, _, .fields vs, _⟩ => (match (vs[2]? : Option Value) with
        | some (.str f _) => decide (f = file)
        | _ => false)
      | _ => false)
  | _ => false
def xcB (K : Frag) (file : Str) (C fI : Addr) (fld qual : Str) (st : Stmt) : Bool :=
  xcB1 K C && xcB2 K file C fI qual && decide (findIn K (.ref C) "__setattr__" = some (some (.builtin "object.__setattr__"))) && decide (findIn K (.ref C) fld = some none) && decide (findIn K (.ref C) "__init__" = some (some (.ref fI))) &&
  decide (typeIn K (.ref fI) = some (.type "function")) && keepIn K (.ref C) && decide (subIn K (.ref C) (.type "BaseException") = some true) && decide (typeIn K (.ref C) = some (.type "type")) && decide (nsIn K cStatics "thirdparty.any" = some none) &&
  decide (mroIn K C (.type "ValueError") = some true) && decide (mroIn K C (.ref C) = some true) && xOk fld && ((posB st 2).endLine == (posB st 4).line)
theorem xcall_of {msg : Str} {j : Nat} {p : Nat → Pos} (h : ((p 2).endLine == (p 4).line) = true) : xCall msg j p := fun env => ⟨L2.plainOf (.Call (.Name "super" (p 0)) [] [] (p 1)) env, by
  rw [arm_eval_Call]
  have hf : methodCallForm (1 + ([] : List Keyword).length) (backTo (p 4) (starEach [.Constant (.str msg) j (p 3)] env)) (backToKw (p 4) (keywordEach [] env)) = true := few_of (pos := p 4) (env := env) rfl (show 1 < 30 by decide)
  refine bind_congr fun ov => bind_congr fun _ => ?_
  exact L2.mcall_line hf h⟩
theorem xcB_ok {K : Frag} {file : Str} {C fI : Addr} {fld qual : Str} {st : Stmt} (h : xcB K file C fI fld qual st = true) (e : fnV K fI = xV fld qual st) (hb : xBind fld) : XcT K file C fI fld := by
  unfold xcB at h
  simp only [Bool.and_eq_true, decide_eq_true_eq] at h
  obtain ⟨⟨⟨⟨⟨⟨⟨⟨⟨⟨⟨⟨⟨h1, h2⟩, h3⟩, h4⟩, h5⟩, h6⟩, h7⟩, h8⟩, h9⟩, h10⟩, h11⟩, h12⟩, h13⟩, h14⟩ := h
  refine ⟨xcB1_ok h1, h3, h4, h5, h6, h7, h8, h9, h10, h11, h12, ?_, hb, h13⟩
  unfold xcB2 at h2
  unfold fnV xV at e
  split at e
  case h_2 => cases e
  rename_i oc od fd osl lk
  rw [lk] at h2
  dsimp only at h2
  simp only [Bool.and_eq_true, decide_eq_true_eq] at h2
  obtain ⟨⟨⟨⟨⟨q1, q2⟩, q3⟩, q4⟩, q5⟩, q6⟩ := h2
  have q1' := isNone_eq q1
  have q2' := isNone_eq q2
  obtain ⟨n1, n2, n3, n4, n5, n6, n7, n8, n9, n10, n11, n12, n13, n14, n15⟩ := fd
  simp only [Option.some.injEq, Prod.mk.injEq] at e
  obtain ⟨e1, e2, e3, e4, e5, e6, e7⟩ := e
  dsimp only at q1' q2' q3 q4 q5 e1 e2 e3 e4 e5 e6 e7
  split at q5
  case h_2 => cases q5
  rename_i y cc
  simp only [Bool.and_eq_true, decide_eq_true_eq] at q5
  obtain ⟨q5, q7⟩ := q5
  subst e1 e2 e3 e4 e5 e6 e7 q1' q2' q5
  split at q7
  case h_2 => cases q7
  rename_i cl cld C' csl lc
  obtain rfl := of_decide_eq_true q7
  split at q6
  case h_2 => cases q6
  rename_i ccl cdd vs ccs lcd
  split at q6
  case h_2 => cases q6
  rename_i f tf ef
  obtain rfl := of_decide_eq_true q6
  rw [q4] at q3
  exact ⟨oc, od, n10, n11, n12, cdA K fI, n14, osl, cc, _, msgC st, kindC st, posA st 0, posA st 1, posB st, by rw [lk, q4], q3, ⟨cl, cld, csl, lc⟩, ⟨ccl, cdd, vs, ccs, tf, lcd, ef⟩, xcall_of h14⟩
end Mt
namespace Mt
open PySem PySem.Spec PyProof.Rows L2
/-! ### constants -/
mutual
def kdB (K : PySem.W.Frag) : D → Value → Bool
  | .non, u => isNone u
  | .bl b, u => (match u with
    | .bool c => b == c
    | _ => false)
  | .int i, u => (match u with
    | .int j _ => decide (i = j)
    | _ => false)
  | .str x, u => (match u with
    | .str y _ => decide (x = y)
    | _ => false)
  | .tup ds, u => (match u with
    | .ref a => (match K.lookup a with
      | some ⟨.type c, _, .seq its _, _⟩ => decide (c = "tuple") && decide (its.size ≤ sizeLine) && kdsB K ds its.toList
      | _ => false)
    | _ => false)
  | _, _ => false
def kdsB (K : PySem.W.Frag) : List D → List Value → Bool
  | [], us => us.isEmpty
  | d :: ds, us => (match us with
    | u :: us => kdB K d u && kdsB K ds us
    | [] => false)
end
mutual
theorem kdB_ok {K : PySem.W.Frag} : ∀ (d : D) (u : Value), kdB K d u = true → ∃ v, RelV v u ∧ ∀ μ H, DR K μ H d v
  | .non, u, h => by
    unfold kdB at h
    obtain rfl := isNone_eq h
    exact ⟨.non, rfl, fun μ H => by rw [DR]⟩
  | .bl b, u, h => by
    unfold kdB at h
    split at h
    · obtain rfl := eq_of_beq h
      exact ⟨.bl b, rfl, fun μ H => by rw [DR]⟩
    · cases h
  | .int i, u, h => by
    unfold kdB at h
    split at h
    · obtain rfl := of_decide_eq_true h
      exact ⟨.int i, ⟨_, rfl⟩, fun μ H => by rw [DR]⟩
    · cases h
  | .str x, u, h => by
    unfold kdB at h
    split at h
    · obtain rfl := of_decide_eq_true h
      exact ⟨.str x, ⟨_, rfl⟩, fun μ H => by rw [DR]⟩
    · cases h
  | .tup ds, u, h => by
    unfold kdB at h
    split at h
    case h_2 => cases h
    rename_i a
    split at h
    case h_2 => cases h
    rename_i c od its n osl lk
    simp only [Bool.and_eq_true, decide_eq_true_eq] at h
    obtain ⟨⟨rfl, h2⟩, h3⟩ := h
    obtain ⟨xs, q1, q2⟩ := kdsB_ok ds its.toList h3
    exact ⟨.ref a, rfl, fun μ H => by
      rw [DR]
      exact ⟨a, xs, rfl, .inr ⟨_, its, n, lk, rfl, rfl, h2, q1⟩, q2 μ H⟩⟩
  | .lst ds, u, h => by unfold kdB at h; cases h
  | .loc l, u, h => by unfold kdB at h; cases h
theorem kdsB_ok {K : PySem.W.Frag} : ∀ (ds : List D) (us : List Value), kdsB K ds us = true → ∃ xs, Vals xs us ∧ ∀ μ H, DRs K μ H ds xs
  | [], us, h => by
    unfold kdsB at h
    obtain rfl := List.isEmpty_iff.mp h
    exact ⟨[], .nil, fun _ _ => .nil⟩
  | d :: ds, us, h => by
    unfold kdsB at h
    split at h
    case h_2 => cases h
    obtain ⟨h1, h2⟩ := Bool.and_eq_true_iff.mp h
    obtain ⟨v, r1, q1⟩ := kdB_ok d _ h1
    obtain ⟨xs, r2, q2⟩ := kdsB_ok ds _ h2
    exact ⟨v :: xs, .cons r1 r2, fun μ H => .cons (q1 μ H) (q2 μ H)⟩
end
end Mt


set_option Elab.async false
set_option maxRecDepth 100000
set_option autoImplicit false
set_option linter.all false
set_option maxHeartbeats 4000000
/-! A program's text as data; what it means, level by level; that it does so. -/
namespace Mt
open PySem PySem.Spec PyProof.Rows L2
structure ClsT where
  name : Str
  fld : List Str
  meth : List (Str × Str)
  prop : List (Str × Str)
  ini : Option Str
  pl : Bool
structure ErrT where
  name : Str
  fld : Option Str
  init : Stmt
  qual : Str
  sub : List (Str × Bool)
  isi : List (Tg × Bool) := []
inductive Pth where
  | glo (x : Str)
  | meth (c m : Str)
  | prop (c m : Str)
def Pth.ad (K : PySem.W.Frag) : Pth → Addr
  | .glo x => He.ga K x
  | .meth c m => He.ma K (He.ga K c) m
  | .prop c m => (match PySem.W.recIn K (He.ma K (He.ga K c) m) "property" with
    | some (.ref g :: _) => g
    | _ => 0)
structure Dx where
  key : Str
  pth : Pth
  name : Str
  qual : Str
  params : Arguments
  body : List Stmt
  scope : Scope
  ps : List Str
  N : List Str
  b : Ss
  mkr : Bool := false
  lam : Bool := false
  hot : Nat := 0
structure Lx where
  par : List Str
  fr : List Str
  e : Ex
structure Pg where
  cs : List ClsT
  errs : List ErrT
  k : List (Str × D)
  fn : List (Str × Str)
  fc : List (Str × Str)
  fh : List (Str × Str) := []
  fx : List (Str × Str) := []
  cl : List (Str × Str)
  bl : List Str
  defs : List Dx
  lams : List Lx
  n : Nat
def Pg.clsOf (p : Pg) (c : Str) : Option ClsT := p.cs.find? fun z => decide (z.name = c)
def Pg.errOf (p : Pg) (c : Str) : Option ErrT := p.errs.find? fun z => decide (z.name = c)
def Pg.get (p : Pg) (q : Str) : Option Dx := p.defs.find? fun z => decide (z.key = q)
def Pg.cn (p : Pg) (c : Str) : Bool := p.cl.any fun z => decide (z.2 = c)
def Pg.T (p : Pg) : Tab where
  fld c f := match p.clsOf c with
    | some z => decide (f ∈ z.fld)
    | none => false
  meth c m := match p.clsOf c with
    | some z => z.meth.lookup m
    | none => none
  prop c m := match p.clsOf c with
    | some z => z.prop.lookup m
    | none => none
  ini c := match p.clsOf c with
    | some z => z.ini
    | none => none
  pl c := match p.clsOf c with
    | some z => z.pl
    | none => false
def Pg.t (p : Pg) : Tx where
  xf c := match p.errOf c with
    | some z => z.fld
    | none => none
  xp c := match p.errOf c with
    | some z => z.fld.isNone
    | none => false
  ex c e := match p.errOf c with
    | some z => z.sub.lookup e
    | none => none
  y c g := match p.errOf c with
    | some z => z.isi.lookup g
    | none => none
def Pg.gl (p : Pg) (f : Nat → Lm → Bool) : Glb := ⟨p.T, p.t, p.k, p.fn, p.fc, p.fh, p.fx, p.cl, p.bl, f⟩
def lcx (lm : Lm) : Cs := ⟨lm.par ++ lm.fr, lm.scope, false, false, false, Str.empty⟩
def Pg.lc (p : Pg) (i : Nat) (lm : Lm) : Bool := match p.lams[i]? with
  | some lx => decide (lm.par = lx.par) && decide (lm.fr = lx.fr) && parB lm.params lm.par && NdefX.nscB (lm.par ++ lm.fr) lm.par lm.fr lm.scope && lx.e.chk (p.gl fun _ _ => false) (lcx lm) lm.body
  | none => false
def Pg.mm (p : Pg) (P : Pr) (PC : Str → D → Nat → List D → Sto → R D) (PX : Str → Str → List (Str × D) → Fn) (lb : Nat → Run) : Mm := ⟨p.T, p.t, P, PC, PX, lb, fun x => p.k.lookup x, Str.empty, [], p.n⟩
def Dx.df (d : Dx) : Df := ⟨d.ps.length, d.N, d.b⟩
/-- what the text means, l calls deep -/
def Pg.m (p : Pg) : Nat → Mm
  | 0 => p.mm (fun _ _ _ => .no) (fun _ _ _ _ _ => .no) (fun _ _ _ _ _ => .no) (fun _ _ _ => .no)
  | l + 1 => p.mm
      (fun q => match p.get q with
        | some d => if d.lam then (if d.hot = 1 then d.df.run (p.m l) else fun _ _ => .no) else d.df.run (p.m l)
        | none => fun _ _ => .no)
      (fun q => match p.get q with
        | some d => if d.lam then d.df.runC (p.m l) else fun _ _ _ _ => .no
        | none => fun _ _ _ _ => .no)
      (fun q c fs => match p.errOf c with
        | some _ => (match p.get q with
          | some d => if d.hot = 2 then d.df.runX (p.m l) c fs else fun _ _ => .no
          | none => fun _ _ => .no)
        | none => fun _ _ => .no)
      (fun i => match p.lams[i]? with
        | some lx => lx.e.den (p.m l)
        | none => fun _ _ => .no)
def Dx.cx (d : Dx) : Cs := ⟨d.N, d.scope, !decide (d.hot = 0), true, d.mkr, d.qual ++ ".<locals>."⟩
/-! ### the text is as told -/
def fscB (N P : List Str) (sc : Scope) : Bool := decide (sc.kind = .function) && !sc.isCoroutine && !sc.isGenerator && decide N.Nodup && decide (N.take P.length = P) && P.all (fun x => decide (sc.names.lookup x = some .local) || decide (sc.names.lookup x = some .cell)) && sc.names.all (fun y => !decide (y.2 = .free))
theorem fsc_of {N P : List Str} {sc : Scope} (h : fscB N P sc = true) : FnScope N P sc := by
  unfold fscB at h
  simp only [Bool.and_eq_true, Bool.or_eq_true, Bool.not_eq_true', decide_eq_true_eq, decide_eq_false_iff_not, List.all_eq_true] at h
  obtain ⟨⟨⟨⟨⟨⟨h1, h2⟩, h3⟩, h4⟩, h5⟩, h6⟩, h7⟩ := h
  exact ⟨h1, h2, h3, h4, h5, h6, h7⟩
def pname : Arg → Str
  | ⟨a, _, _⟩ => a
def pnote : Arg → Bool
  | ⟨_, none, _⟩ => true
  | _ => false
def parsB (a : Arguments) (ps : List Str) : Bool := match a with
  | ⟨[], as, none, [], [], none, []⟩ => as.all pnote && decide (as.map pname = ps)
  | _ => false
def Dx.txt (p : Pg) (d : Dx) : Bool := fscB d.N d.ps d.scope && d.b.chk (p.gl p.lc) d.cx d.body && ((!d.lam || !decide (d.hot = 0) || decide (d.ps.length = 2)) && (d.lam || decide (d.hot = 0)) && (!d.mkr || decide (d.hot = 0)))
/-! ### facts of the written part -/
def mB (K : PySem.W.Frag) (C : Addr) (m : Str) (f : Addr) : Bool := decide (PySem.W.findIn K (.ref C) m = some (some (.ref f))) && PySem.W.isFn K (.ref f) && PySem.W.keepIn K (.ref f)
theorem mB_ok {K : PySem.W.Frag} {C f : Addr} {m : Str} (h : mB K C m f = true) : Meth K C m f := by
  unfold mB at h
  simp only [Bool.and_eq_true, decide_eq_true_eq] at h
  exact ⟨h.1.1, h.1.2, h.2⟩
def pB (K : PySem.W.Frag) (C : Addr) (m : Str) (f : Addr) : Bool := decide (PySem.W.findIn K (.ref C) m = some (some (.ref (He.ma K C m)))) && decide (PySem.W.specialIn K (.ref (He.ma K C m)) "__get__" = some (some (.builtin "property.__get__"))) &&
  decide (PySem.W.takesIn K (.ref (He.ma K C m)) = some true) && (match PySem.W.recIn K (He.ma K C m) "property" with
    | some (.ref g :: _) => decide (g = f)
    | _ => false)
theorem pB_ok {K : PySem.W.Frag} {C f : Addr} {m : Str} (h : pB K C m f = true) : PropOf K C m (He.ma K C m) f := by
  unfold pB at h
  simp only [Bool.and_eq_true, decide_eq_true_eq] at h
  obtain ⟨⟨⟨h1, h2⟩, h3⟩, h4⟩ := h
  refine ⟨h1, h2, h3, ?_⟩
  split at h4
  · rename_i g r e
    obtain rfl := of_decide_eq_true h4
    exact ⟨r, e⟩
  · cases h4
def Pg.at_ (p : Pg) (q : Str) (ch : Dx → Bool) : Bool := match p.get q with
  | some d => ch d
  | none => false
theorem at_ok {p : Pg} {q : Str} {ch : Dx → Bool} (h : p.at_ q ch = true) : ∃ d, p.get q = some d ∧ ch d = true := by
  unfold Pg.at_ at h
  split at h
  · exact ⟨_, by assumption, h⟩
  · cases h
def ClsT.b1 (K : PySem.W.Frag) (z : ClsT) : Bool := (He.Fa.cls z.name).ok K && z.fld.all fun f => (He.Fa.noat z.name f).ok K
def ClsT.b2 (p : Pg) (K : PySem.W.Frag) (z : ClsT) : Bool := z.meth.all fun q => p.at_ q.2 fun d => !d.lam && mB K (He.ga K z.name) q.1 (d.pth.ad K)
def ClsT.b3 (p : Pg) (K : PySem.W.Frag) (z : ClsT) : Bool := z.prop.all fun q => p.at_ q.2 fun d => !d.lam && pB K (He.ga K z.name) q.1 (d.pth.ad K)
def ClsT.b4 (p : Pg) (K : PySem.W.Frag) (z : ClsT) : Bool := match z.ini with
  | none => true
  | some q => p.at_ q fun d => !d.lam && (PySem.W.makesIn K (He.ga K z.name) && decide (PySem.W.findIn K (.ref (He.ga K z.name)) "__init__" = some (some (.ref (d.pth.ad K)))) && PySem.W.isFn K (.ref (d.pth.ad K)) && PySem.W.keepIn K (.ref (He.ga K z.name)))
def ClsT.b5 (p : Pg) (K : PySem.W.Frag) (z : ClsT) : Bool := !z.pl || (decide (PySem.W.findIn K (.ref (He.ga K z.name)) "__class__" = some (some (.builtin "object.__class__"))) && decide (PySem.W.specialIn K (.builtin "object.__class__") "__get__" = some (some (.builtin "getset_descriptor.__get__"))) &&
  decide (PySem.W.takesIn K (.builtin "object.__class__") = some true) && decide (PySem.W.mroIn K (He.ga K z.name) (.type "object") = some true) && p.cs.all (fun e => !e.pl || decide (PySem.W.kitOne K (.ref (He.ga K z.name)) (.ref (He.ga K e.name)) = some (decide (z.name = e.name)))) &&
  kinds.all (fun n => decide (PySem.W.kitOne K (.ref (He.ga K z.name)) (.type n) = some false)) && tags.all (fun a => decide (PySem.W.kitOne K (.type a) (.ref (He.ga K z.name)) = some false)))
def ClsT.b6 (p : Pg) (K : PySem.W.Frag) (z : ClsT) : Bool := match z.meth.lookup ("__eq__" : Str) with
  | none => true
  | some _ => (match PySem.W.findIn K (.ref (He.ga K z.name)) "__eq__" with
    | some (some (.ref f)) => PySem.W.isFn K (.ref f)
    | _ => false) && tags.all (fun a => PySem.W.notFirst K (He.ga K z.name) (.type a)) && p.cs.all (fun e => !e.pl || PySem.W.notFirst K (He.ga K z.name) (.ref (He.ga K e.name)))
def ClsT.ok (p : Pg) (K : PySem.W.Frag) (z : ClsT) : Bool := z.b1 K && (z.b2 p K && (z.b3 p K && (z.b4 p K && (z.b5 p K && z.b6 p K))))
def xfcB (K : PySem.W.Frag) (C : Addr) : Bool := decide (PySem.W.findIn K (.ref C) "__getattribute__" = some (some (.builtin "BaseException.__getattribute__"))) && decide (PySem.W.findIn K (.ref C) "__getattr__" = some none) && decide (PySem.W.subIn K (.ref C) (.type "BaseException") = some true) && PySem.W.hasDictIn K C
theorem xfcB_ok {K : PySem.W.Frag} {C : Addr} (h : xfcB K C = true) : XfC K C := by
  unfold xfcB at h
  simp only [Bool.and_eq_true, decide_eq_true_eq] at h
  exact ⟨h.1.1.1, h.1.1.2, h.1.2, h.2⟩
def excB (K : PySem.W.Frag) (D : Addr) : Bool := decide (PySem.W.findIn K (.ref D) "__getattribute__" = some (some (.builtin "BaseException.__getattribute__"))) && (decide (PySem.W.findIn K (.ref D) "__getattr__" = some none) && (decide (PySem.W.subIn K (.ref D) (.type "BaseException") = some true) &&
  (PySem.W.hasDictIn K D && (decide (PySem.W.findIn K (.ref D) "__class__" = some (some (.builtin "object.__class__"))) && (decide (PySem.W.specialIn K (.builtin "object.__class__") "__get__" = some (some (.builtin "getset_descriptor.__get__"))) &&
  (decide (PySem.W.takesIn K (.builtin "object.__class__") = some true) && decide (PySem.W.mroIn K D (.type "object") = some true)))))))
theorem excB_ok {K : PySem.W.Frag} {D : Addr} (h : excB K D = true) : ExcC K D := by
  unfold excB at h
  simp only [Bool.and_eq_true, decide_eq_true_eq] at h
  obtain ⟨h1, h2, h3, h4, h5, h6, h7, h8⟩ := h
  exact ⟨h1, h2, h3, h4, h5, h6, h7, h8⟩
def tgVal (K : PySem.W.Frag) : Tg → Value
  | .b n => .type n
  | .own c => .ref (He.ga K c)
def ErrT.ok (K : PySem.W.Frag) (file : Str) (z : ErrT) : Bool := (match z.fld with
  | none => PySem.W.excIn K (He.ga K z.name) He.veBase "ValueError.__new__" && PySem.W.keepIn K (.ref (He.ga K z.name)) && decide (PySem.W.subIn K (.ref (He.ga K z.name)) (.type "BaseException") = some true) && decide (PySem.W.typeIn K (.ref (He.ga K z.name)) = some (.type "type"))
  | some f => xcB K file (He.ga K z.name) (He.ma K (He.ga K z.name) "__init__") f z.qual z.init && xfcB K (He.ga K z.name)) && ((z.sub.all fun e => decide (PySem.W.exmOne K (.ref (He.ga K z.name)) (.ref (He.ga K e.1)) = some e.2)) && z.isi.all fun e => excB K (He.ga K z.name) && decide (PySem.W.kitOne K (.ref (He.ga K z.name)) (tgVal K e.1) = some e.2))
def ErrT.obs (K : PySem.W.Frag) (z : ErrT) : FnV := match z.fld with
  | none => none
  | some _ => fnV K (He.ma K (He.ga K z.name) "__init__")
def ErrT.val (z : ErrT) : FnV := match z.fld with
  | none => none
  | some f => xV f z.qual z.init
def Dx.val (d : Dx) : FnV := some (d.name, d.qual, d.params, .stmts d.body, d.scope, mainGlobals, builtinsNs)
/-- tables of the code objects whose texts make lambdas -/
def Pg.tabs (p : Pg) (K : PySem.W.Frag) : List (Addr × Str) := (p.defs.filter (·.mkr)).map fun d => (tbA K (d.pth.ad K), (d.qual ++ ".<locals>.") ++ "<lambda>")
def Pg.codes (p : Pg) (K : PySem.W.Frag) : List (Addr × Addr) := (p.defs.filter (·.mkr)).map fun d => (cdA K (d.pth.ad K), tbA K (d.pth.ad K))
def gloB (K : PySem.W.Frag) (x : Str) (a : Addr) : Bool := decide (PySem.W.nsIn K mainGlobals x = some (some (.ref a)))
def Pg.ok (p : Pg) (file : Str) (K : PySem.W.Frag) : Bool :=
  p.k.all (fun q => match PySem.W.nsIn K mainGlobals q.1 with
    | some (some u) => kdB K q.2 u
    | _ => false) && (p.bl.all (fun x => decide (PySem.W.nsIn K mainGlobals x = some none)) && (p.fn.all (fun q => p.at_ q.2 fun d => !d.lam && gloB K q.1 (d.pth.ad K)) && (p.fc.all (fun q => p.at_ q.2 fun d => d.lam && decide (d.hot = 0) && gloB K q.1 (d.pth.ad K)) &&
  (p.cl.all (fun q => gloB K q.1 (He.ga K q.2)) && (p.defs.all (fun d => fnB K (d.pth.ad K) d.qual) && (p.cs.all (fun z => z.ok p K) && (p.errs.all (fun z => z.ok K file) && (decide (PySem.W.nsIn K mainGlobals "super" = some none) &&
  ((p.tabs K).all (fun a => (p.tabs K).all fun b => !decide (a.1 = b.1) || decide (a.2 = b.2)) && (p.fh.all (fun q => p.at_ q.2 fun d => decide (d.hot = 1) && gloB K q.1 (d.pth.ad K)) && (p.fx.all (fun q => p.at_ q.2 fun d => decide (d.hot = 2) && gloB K q.1 (d.pth.ad K)) && (p.errOf Str.empty).isNone)))))))))))
def Pg.obs (p : Pg) (K : PySem.W.Frag) : List FnV := p.defs.map (fun d => fnV K (d.pth.ad K)) ++ p.errs.map (fun z => z.obs K)
def Pg.val (p : Pg) : List FnV := p.defs.map Dx.val ++ p.errs.map ErrT.val
def Pg.gx (p : Pg) (K : PySem.W.Frag) : Gx where
  K := K
  T := p.tabs K
  cls c := if p.cn c then some (He.ga K c) else none
  clo μ H i vs a := ∃ lm, p.lc i lm = true ∧ LamAt K μ H lm vs a
  stay m h := by
    obtain ⟨lm, h1, h2⟩ := h
    exact ⟨lm, h1, h2.w m⟩
/-- how a lambda's one parameter is bound -/
def Bind1 (a : Str) : Prop := ∀ (qual : Str) (body : Expr) (scope : Scope) (cl : List (Str × Addr)) (pm cv ctv u : Value) (q : Pos), bindArgs (PySem.W.kla_fn "<lambda>" qual ⟨[], [⟨a, none, q⟩], none, [], [], none, []⟩ body scope cl pm cv ctv) ⟨[u], []⟩ = pure [(a, u)]
def LamBind (p : Pg) : Prop := ∀ (i : Nat) (lx : Lx), p.lams[i]? = some lx → ∀ a, lx.par = [a] → Bind1 a
/-- what the written part gives -/
structure Fx (p : Pg) (K : PySem.W.Frag) (mg : Str → Option Value) (prog : Program) : Prop where
  kk : ∀ x d, p.k.lookup x = some d → ∃ v u, mg x = some u ∧ RelV v u ∧ ∀ μ H, DR K μ H d v
  bl : ∀ x, x ∈ p.bl → mg x = none
  fn : ∀ x q, p.fn.lookup x = some q → ∃ d, p.get q = some d ∧ d.lam = false ∧ mg x = some (.ref (d.pth.ad K))
  fc : ∀ x q, p.fc.lookup x = some q → ∃ d, p.get q = some d ∧ (d.lam = true ∧ d.hot = 0) ∧ mg x = some (.ref (d.pth.ad K))
  fh : ∀ x q, p.fh.lookup x = some q → ∃ d, p.get q = some d ∧ d.hot = 1 ∧ mg x = some (.ref (d.pth.ad K))
  fx : ∀ x q, p.fx.lookup x = some q → ∃ d, p.get q = some d ∧ d.hot = 2 ∧ mg x = some (.ref (d.pth.ad K))
  er : p.errOf Str.empty = none
  cl : ∀ x c, p.cl.lookup x = some c → mg x = some (.ref (He.ga K c)) ∧ p.cn c = true
  df : ∀ q d, p.get q = some d → ∃ fd, FunD K d.name d.qual d.params d.body d.scope [] [] (d.pth.ad K) fd ∧ fd.code = .ref (cdA K (d.pth.ad K))
  cs : ∀ c z, p.clsOf c = some z → z.ok p K = true
  es : ∀ c z, p.errOf c = some z → z.ok K prog.main.file = true ∧ z.obs K = z.val
  sup : mg "super" = none ∧ (prog.main.scope.names.lookup ("super" : Str)).isSome = false
  tab : ∀ a ∈ p.tabs K, ∀ b ∈ p.tabs K, a.1 = b.1 → a.2 = b.2
  bind : ∀ q d, p.get q = some d → ∀ (kV doc pm : Value) (an : Option Addr) (cdv ct : Value) (us : List Value), us.length = d.ps.length → bindArgs (PySem.W.fnOf d.name d.qual d.params d.body d.scope .none kV doc pm an cdv ct) ⟨us, []⟩ = pure (d.ps.zip us)
  xb : ∀ f, (∃ c z, p.errOf c = some z ∧ z.fld = some f) → xBind f
  txt : ∀ q d, p.get q = some d → d.txt p = true
  lb : LamBind p
theorem lookup_mem {β : Type} : ∀ {l : List (Str × β)} {x : Str} {b : β}, l.lookup x = some b → (x, b) ∈ l
  | [], x, b, h => by cases h
  | (a, c) :: l, x, b, h => by
    rw [List.lookup_cons] at h
    cases e : x == a with
    | true =>
      rw [e] at h
      cases h
      rw [eq_of_beq e]
      exact List.mem_cons_self ..
    | false =>
      rw [e] at h
      exact List.mem_cons_of_mem _ (lookup_mem h)
theorem lookup_memT {β : Type} : ∀ {l : List (Tg × β)} {x : Tg} {b : β}, l.lookup x = some b → (x, b) ∈ l
  | [], x, b, h => by cases h
  | (a, c) :: l, x, b, h => by
    rw [List.lookup_cons] at h
    cases e : x == a with
    | true =>
      rw [e] at h
      cases h
      rw [eq_of_beq e]
      exact List.mem_cons_self ..
    | false =>
      rw [e] at h
      exact List.mem_cons_of_mem _ (lookup_memT h)
theorem clsOf_mem {p : Pg} {c : Str} {z : ClsT} (h : p.clsOf c = some z) : z ∈ p.cs ∧ z.name = c := ⟨List.mem_of_find?_eq_some h, by
  unfold Pg.clsOf at h
  have q := List.find?_some h
  simpa using q⟩
theorem errOf_mem {p : Pg} {c : Str} {z : ErrT} (h : p.errOf c = some z) : z ∈ p.errs ∧ z.name = c := ⟨List.mem_of_find?_eq_some h, by
  unfold Pg.errOf at h
  have q := List.find?_some h
  simpa using q⟩
theorem get_mem {p : Pg} {c : Str} {z : Dx} (h : p.get c = some z) : z ∈ p.defs ∧ z.key = c := ⟨List.mem_of_find?_eq_some h, by
  unfold Pg.get at h
  have q := List.find?_some h
  simpa using q⟩
theorem Fx.of {p : Pg} {K : PySem.W.Frag} {mg : Str → Option Value} {prog : Program} {h : Heap} (X : K.In h) (G : h.Ns mainGlobals mg) (ok : p.ok prog.main.file K = true) (ob : p.obs K = p.val) (hs : (prog.main.scope.names.lookup ("super" : Str)).isSome = false)
    (hb : ∀ q d, p.get q = some d → ∀ (kV doc pm : Value) (an : Option Addr) (cdv ct : Value) (us : List Value), us.length = d.ps.length → bindArgs (PySem.W.fnOf d.name d.qual d.params d.body d.scope .none kV doc pm an cdv ct) ⟨us, []⟩ = pure (d.ps.zip us))
    (hx : ∀ f, (∃ c z, p.errOf c = some z ∧ z.fld = some f) → xBind f) (ht : p.defs.all (fun d => d.txt p) = true) (hlb : LamBind p) : Fx p K mg prog := by
  unfold Pg.ok at ok
  simp only [Bool.and_eq_true] at ok
  obtain ⟨o1, o2, o3, o4, o5, o6, o7, o8, o9, o10, o11, o12, o13⟩ := ok
  have glo : ∀ {x a}, gloB K x a = true → mg x = some (.ref a) := fun e => PySem.W.mg_of X G (of_decide_eq_true e)
  obtain ⟨ob1, ob2⟩ := List.append_inj ob (by rw [List.length_map, List.length_map])
  refine ⟨fun x d e => ?_, fun x e => PySem.W.mg_none_of X G (of_decide_eq_true (List.all_eq_true.mp o2 x e)), fun x q e => ?_, fun x q e => ?_, fun x q e => ?_, fun x q e => ?_, Option.isNone_iff_eq_none.mp o13, fun x c e => ?_, fun q d e => ?_, fun c z e => List.all_eq_true.mp o7 z (clsOf_mem e).1, fun c z e => ⟨List.all_eq_true.mp o8 z (errOf_mem e).1, ?_⟩,
    ⟨PySem.W.mg_none_of X G (of_decide_eq_true o9), hs⟩, fun a ha b hb e => ?_, hb, hx, fun q d e => List.all_eq_true.mp ht d (get_mem e).1, hlb⟩
  · have q := List.all_eq_true.mp o1 _ (lookup_mem e)
    dsimp only at q
    split at q
    · rename_i u eu
      obtain ⟨v, r, k⟩ := kdB_ok d u q
      exact ⟨v, u, PySem.W.mg_of X G eu, r, k⟩
    · cases q
  · obtain ⟨d, e1, e2⟩ := at_ok (List.all_eq_true.mp o3 _ (lookup_mem e))
    simp only [Bool.and_eq_true, Bool.not_eq_true'] at e2
    exact ⟨d, e1, e2.1, glo e2.2⟩
  · obtain ⟨d, e1, e2⟩ := at_ok (List.all_eq_true.mp o4 _ (lookup_mem e))
    simp only [Bool.and_eq_true, decide_eq_true_eq] at e2
    exact ⟨d, e1, e2.1, glo e2.2⟩
  · obtain ⟨d, e1, e2⟩ := at_ok (List.all_eq_true.mp o11 _ (lookup_mem e))
    simp only [Bool.and_eq_true, decide_eq_true_eq] at e2
    exact ⟨d, e1, e2.1, glo e2.2⟩
  · obtain ⟨d, e1, e2⟩ := at_ok (List.all_eq_true.mp o12 _ (lookup_mem e))
    simp only [Bool.and_eq_true, decide_eq_true_eq] at e2
    exact ⟨d, e1, e2.1, glo e2.2⟩
  · exact ⟨glo (List.all_eq_true.mp o5 _ (lookup_mem e)), List.any_eq_true.mpr ⟨_, lookup_mem e, decide_eq_true rfl⟩⟩
  · have hd := (get_mem e).1
    have q : fnV K (d.pth.ad K) = d.val := List.map_inj_left.mp ob1 d hd
    exact fnB_ok (List.all_eq_true.mp o6 d hd) q
  · exact List.map_inj_left.mp ob2 z (errOf_mem e).1
  · have q := List.all_eq_true.mp (List.all_eq_true.mp o10 a ha) b hb
    simp only [Bool.or_eq_true, Bool.not_eq_true', decide_eq_true_eq, decide_eq_false_iff_not] at q
    exact q.elim (fun z => absurd e z) fun z => z
end Mt


set_option Elab.async false
set_option maxRecDepth 100000
set_option autoImplicit false
set_option linter.all false
set_option maxHeartbeats 4000000
/-! Level by level, the text does what it means. -/
namespace Mt
open PySem PySem.Spec PyProof.Rows
open L2 hiding Takes XE takes_of passAt PMk MkP ps_raise mk_of
open L2N (Takes XE takes_of passAt PMk MkP ps_raise mk_of Zn)
structure Lv (p : Pg) (P : Program) (w : World) (K : PySem.W.Frag) (mg : Str → Option Value) (base : Heap) (k : Nat) (m : Mm) : Prop where
  fn : ∀ q d, p.get q = some d → d.lam = false → ∃ (fd : FuncData) (ps : List Str), FnOk P w K mg base (L2N.CX P w) k (d.pth.ad K) fd ps (spF (p.gx K) ps.length (m.P q)) ∧ Binds K fd ps [] ∧ ∀ ds S, ds.length ≠ ps.length → m.P q ds S = .no
  fc : ∀ q d, p.get q = some d → d.lam = true → d.hot = 0 → ∃ (fd : FuncData) (ps : List Str), FnOk P w K mg base (L2N.CX P w) k (d.pth.ad K) fd ps (spC (p.gx K) (m.PC q)) ∧ Binds K fd ps [] ∧ ps.length = 2
  lam : ∀ i lm, p.lc i lm = true → LmOk P w K mg base (p.gx K) k lm (m.lb i)
  fh : ∀ q d, p.get q = some d → d.hot = 1 → ∃ (fd : FuncData) (ps : List Str), FnP P w K mg base k (d.pth.ad K) fd ps (fun _ => spF (p.gx K) ps.length (m.P q)) ∧ Binds K fd ps [] ∧ ∀ ds S, ds.length ≠ ps.length → m.P q ds S = .no
  fx : ∀ q d, p.get q = some d → d.hot = 2 → ∃ (fd : FuncData) (ps : List Str), FnP P w K mg base k (d.pth.ad K) fd ps (spX (p.gx K) ps.length (m.PX q)) ∧ Binds K fd ps [] ∧ ∀ c fs ds S, ds.length + 1 ≠ ps.length → m.PX q c fs ds S = .no
section
variable {p : Pg} {X : Cx} {W : WX} {k : Nat} {m : Mm} {K : PySem.W.Frag}
theorem gx_cls {c : Str} {C : Addr} (h : (p.gx K).cls c = some C) : C = He.ga K c ∧ p.cn c = true := by
  unfold Pg.gx at h
  dsimp only at h
  split at h
  · rename_i z; exact ⟨(Option.some.inj h).symm, z⟩
  · cases h
theorem cls_parts {z : ClsT} (h : z.ok p K = true) : z.b1 K = true ∧ z.b2 p K = true ∧ z.b3 p K = true ∧ z.b4 p K = true ∧ z.b5 p K = true ∧ z.b6 p K = true := by
  unfold ClsT.ok at h
  simp only [Bool.and_eq_true] at h
  exact h
theorem T_fld {c f : Str} (h : p.T.fld c f = true) : ∃ z, p.clsOf c = some z ∧ f ∈ z.fld := by
  unfold Pg.T at h
  dsimp only at h
  split at h
  · exact ⟨_, by assumption, of_decide_eq_true h⟩
  · cases h
theorem T_meth {c f q : Str} (h : p.T.meth c f = some q) : ∃ z, p.clsOf c = some z ∧ z.meth.lookup f = some q := by
  unfold Pg.T at h
  dsimp only at h
  split at h
  · exact ⟨_, by assumption, h⟩
  · cases h
theorem T_prop {c f q : Str} (h : p.T.prop c f = some q) : ∃ z, p.clsOf c = some z ∧ z.prop.lookup f = some q := by
  unfold Pg.T at h
  dsimp only at h
  split at h
  · exact ⟨_, by assumption, h⟩
  · cases h
theorem T_ini {c q : Str} (h : p.T.ini c = some q) : ∃ z, p.clsOf c = some z ∧ z.ini = some q := by
  unfold Pg.T at h
  dsimp only at h
  split at h
  · exact ⟨_, by assumption, h⟩
  · cases h
theorem T_pl {c : Str} (h : p.T.pl c = true) : ∃ z, p.clsOf c = some z ∧ z.pl = true := by
  unfold Pg.T at h
  dsimp only at h
  split at h
  · exact ⟨_, by assumption, h⟩
  · cases h
variable {mg : Str → Option Value} {prog : Program}
theorem Fx.cls (F : Fx p K mg prog) {c : Str} {z : ClsT} (h : p.clsOf c = some z) : Cls K (He.ga K c) := by
  have q := (cls_parts (F.cs c z h)).1
  unfold ClsT.b1 at q
  rw [(clsOf_mem h).2] at q
  exact He.cls_ok (Bool.and_eq_true_iff.mp q).1
theorem Lv.gf (F : Fx p X.K X.mg X.prog) (L : Lv p X.prog X.w X.K X.mg X.base k m) : GF X (p.gx X.K) p.T m.P k := by
  refine ⟨fun c C f hC h => ?_, fun c C n q hC h => ?_, fun c C n q hC h => ?_, fun c C q hC h => ?_⟩
  · obtain ⟨rfl, _⟩ := gx_cls hC
    obtain ⟨z, hz, hf⟩ := T_fld h
    refine ⟨F.cls hz, ?_⟩
    have q := (cls_parts (F.cs c z hz)).1
    unfold ClsT.b1 at q
    rw [(clsOf_mem hz).2] at q
    exact He.noat_ok (List.all_eq_true.mp (Bool.and_eq_true_iff.mp q).2 f hf)
  · obtain ⟨rfl, _⟩ := gx_cls hC
    obtain ⟨z, hz, hf⟩ := T_meth h
    refine ⟨F.cls hz, ?_⟩
    have b := (cls_parts (F.cs c z hz)).2.1
    unfold ClsT.b2 at b
    rw [(clsOf_mem hz).2] at b
    obtain ⟨d, e1, e2⟩ := at_ok (List.all_eq_true.mp b _ (lookup_mem hf))
    simp only [Bool.and_eq_true, Bool.not_eq_true'] at e2
    exact ⟨_, mB_ok e2.2, L.fn q d e1 e2.1⟩
  · obtain ⟨rfl, _⟩ := gx_cls hC
    obtain ⟨z, hz, hf⟩ := T_prop h
    refine ⟨F.cls hz, ?_⟩
    have b := (cls_parts (F.cs c z hz)).2.2.1
    unfold ClsT.b3 at b
    rw [(clsOf_mem hz).2] at b
    obtain ⟨d, e1, e2⟩ := at_ok (List.all_eq_true.mp b _ (lookup_mem hf))
    simp only [Bool.and_eq_true, Bool.not_eq_true'] at e2
    exact ⟨_, _, pB_ok e2.2, L.fn q d e1 e2.1⟩
  · obtain ⟨rfl, _⟩ := gx_cls hC
    obtain ⟨z, hz, hf⟩ := T_ini h
    have b := (cls_parts (F.cs c z hz)).2.2.2.1
    unfold ClsT.b4 at b
    rw [(clsOf_mem hz).2, hf] at b
    obtain ⟨d, e1, e2⟩ := at_ok b
    simp only [Bool.and_eq_true, Bool.not_eq_true', decide_eq_true_eq] at e2
    obtain ⟨e2, ⟨⟨q1, q2⟩, q3⟩, q4⟩ := e2
    exact ⟨_, ⟨q1, q2, q3, q4⟩, L.fn q d e1 e2⟩
theorem Fx.gi (F : Fx p X.K X.mg X.prog) : GI X (p.gx X.K) p.T.pl := by
  have b5 : ∀ {c z}, p.clsOf c = some z → z.pl = true → _ := fun {c z} hz hp => by
    have b := (cls_parts (F.cs c z hz)).2.2.2.2.1
    unfold ClsT.b5 at b
    rw [hp, (clsOf_mem hz).2] at b
    simp only [Bool.not_true, Bool.false_or, Bool.and_eq_true, decide_eq_true_eq] at b
    exact b
  refine ⟨fun c C hC hp => ?_, fun c C e E hC hE hp hq => ?_, fun c C n hC hp hn => ?_, fun a e E hE hp ha => ?_⟩
  · obtain ⟨rfl, _⟩ := gx_cls hC
    obtain ⟨z, hz, hf⟩ := T_pl hp
    obtain ⟨⟨⟨⟨⟨⟨q1, q2⟩, q3⟩, q4⟩, q5⟩, q6⟩, q7⟩ := b5 hz hf
    exact ⟨F.cls hz, q1, q2, q3, q4⟩
  · obtain ⟨rfl, _⟩ := gx_cls hC
    obtain ⟨rfl, _⟩ := gx_cls hE
    obtain ⟨z, hz, hf⟩ := T_pl hp
    obtain ⟨y, hy, hg⟩ := T_pl hq
    obtain ⟨⟨⟨⟨⟨⟨q1, q2⟩, q3⟩, q4⟩, q5⟩, q6⟩, q7⟩ := b5 hz hf
    have q := List.all_eq_true.mp q5 y (clsOf_mem hy).1
    rw [hg, (clsOf_mem hy).2] at q
    simpa using q
  · obtain ⟨rfl, _⟩ := gx_cls hC
    obtain ⟨z, hz, hf⟩ := T_pl hp
    obtain ⟨⟨⟨⟨⟨⟨q1, q2⟩, q3⟩, q4⟩, q5⟩, q6⟩, q7⟩ := b5 hz hf
    exact of_decide_eq_true (List.all_eq_true.mp q6 n hn)
  · obtain ⟨rfl, _⟩ := gx_cls hE
    obtain ⟨z, hz, hf⟩ := T_pl hp
    obtain ⟨⟨⟨⟨⟨⟨q1, q2⟩, q3⟩, q4⟩, q5⟩, q6⟩, q7⟩ := b5 hz hf
    exact of_decide_eq_true (List.all_eq_true.mp q7 a ha)
theorem Fx.ge (F : Fx p X.K X.mg X.prog) : GE X (p.gx X.K) p.T := by
  have b6 : ∀ {c z q}, p.clsOf c = some z → z.meth.lookup ("__eq__" : Str) = some q → _ := fun {c z q} hz hp => by
    have b := (cls_parts (F.cs c z hz)).2.2.2.2.2
    unfold ClsT.b6 at b
    rw [hp, (clsOf_mem hz).2] at b
    simp only [Bool.and_eq_true] at b
    exact b
  refine ⟨fun c C q hC h => ?_, fun c C q a hC h ha => ?_, fun c C q e E hC h hE hp => ?_⟩
  · obtain ⟨rfl, _⟩ := gx_cls hC
    obtain ⟨z, hz, hf⟩ := T_meth h
    obtain ⟨⟨q1, q2⟩, q3⟩ := b6 hz hf
    split at q1
    · exact ⟨_, by assumption, q1⟩
    · cases q1
  · obtain ⟨rfl, _⟩ := gx_cls hC
    obtain ⟨z, hz, hf⟩ := T_meth h
    obtain ⟨⟨q1, q2⟩, q3⟩ := b6 hz hf
    exact List.all_eq_true.mp q2 a ha
  · obtain ⟨rfl, _⟩ := gx_cls hC
    obtain ⟨rfl, _⟩ := gx_cls hE
    obtain ⟨z, hz, hf⟩ := T_meth h
    obtain ⟨y, hy, hg⟩ := T_pl hp
    obtain ⟨⟨q1, q2⟩, q3⟩ := b6 hz hf
    have q := List.all_eq_true.mp q3 y (clsOf_mem hy).1
    rw [hg, (clsOf_mem hy).2] at q
    simpa using q
theorem Fx.gx (F : Fx p X.K X.mg X.prog) : GX1 X (p.gx X.K) p.t := by
  refine ⟨fun c C f hC h => ?_, F.sup, fun c C hC h => ?_, fun c C e E b hC hE h => ?_, fun c C g b hC h => ?_⟩
  · obtain ⟨rfl, _⟩ := gx_cls hC
    unfold Pg.t at h
    dsimp only at h
    split at h
    case h_2 => cases h
    rename_i z hz
    obtain ⟨q, o⟩ := F.es c z hz
    unfold ErrT.ok at q
    unfold ErrT.obs ErrT.val at o
    rw [h, ((errOf_mem hz).2)] at q o
    simp only [Bool.and_eq_true] at q
    exact ⟨⟨_, xcB_ok q.1.1 o (F.xb f ⟨c, z, hz, h⟩)⟩, xfcB_ok q.1.2⟩
  · obtain ⟨rfl, _⟩ := gx_cls hC
    unfold Pg.t at h
    dsimp only at h
    split at h
    case h_2 => cases h
    rename_i z hz
    obtain ⟨q, o⟩ := F.es c z hz
    unfold ErrT.ok at q
    rw [Option.isNone_iff_eq_none.mp h, ((errOf_mem hz).2)] at q
    simp only [Bool.and_eq_true, decide_eq_true_eq] at q
    obtain ⟨⟨⟨⟨q1, q2⟩, q3⟩, q4⟩, _⟩ := q
    exact ⟨q1, q2, raises_own q3 q4⟩
  · obtain ⟨rfl, _⟩ := gx_cls hC
    obtain ⟨rfl, _⟩ := gx_cls hE
    unfold Pg.t at h
    dsimp only at h
    split at h
    case h_2 => cases h
    rename_i z hz
    obtain ⟨q, o⟩ := F.es c z hz
    unfold ErrT.ok at q
    rw [((errOf_mem hz).2)] at q
    exact of_decide_eq_true (List.all_eq_true.mp (Bool.and_eq_true_iff.mp (Bool.and_eq_true_iff.mp q).2).1 _ (lookup_mem h))
  · obtain ⟨rfl, _⟩ := gx_cls hC
    unfold Pg.t at h
    dsimp only at h
    split at h
    case h_2 => cases h
    rename_i z hz
    obtain ⟨q, o⟩ := F.es c z hz
    unfold ErrT.ok at q
    rw [((errOf_mem hz).2)] at q
    have q2 := List.all_eq_true.mp (Bool.and_eq_true_iff.mp (Bool.and_eq_true_iff.mp q).2).2 _ (lookup_memT h)
    obtain ⟨q3, q4⟩ := Bool.and_eq_true_iff.mp q2
    refine ⟨excB_ok q3, fun v hv => ?_⟩
    have q5 := of_decide_eq_true q4
    cases g with
    | b n => cases hv; exact q5
    | own e =>
      obtain ⟨E, hE, rfl⟩ := hv
      obtain ⟨rfl, _⟩ := gx_cls hE
      exact q5
theorem Lv.cold (F : Fx p X.K X.mg X.prog) (L : Lv p X.prog X.w X.K X.mg X.base k m) (f : Nat → Lm → Bool) (hc : X.calm = true) (hr : Room (k + 2) X.A) (tk : Takes X W) : Cold (p.gl f) m k X (p.gx X.K) W := by
  refine ⟨hc, hr, tk, L.gf F, F.gi, F.ge, F.gx, fun x q h => ?_, fun x q h => ?_, fun x c h => ?_, ⟨fun μ H g cs a ⟨lm, h1, h2⟩ => ⟨lm, h2, L.lam g lm h1⟩⟩, fun x q h => ?_, fun x q h => ?_⟩
  · obtain ⟨d, e1, e2, e3⟩ := F.fn x q h
    obtain ⟨fd, D, _⟩ := F.df q d e1
    exact ⟨_, e3, D.kp, L.fn q d e1 e2⟩
  · obtain ⟨d, e1, e2, e3⟩ := F.fc x q h
    obtain ⟨fd, D, _⟩ := F.df q d e1
    exact ⟨_, e3, D.kp, L.fc q d e1 e2.1 e2.2⟩
  · obtain ⟨e1, e2⟩ := F.cl x c h
    exact ⟨_, e1, if_pos e2⟩
  · obtain ⟨d, e1, e2, e3⟩ := F.fh x q h
    obtain ⟨fd, D, _⟩ := F.df q d e1
    exact ⟨_, e3, D.kp, L.fh q d e1 e2⟩
  · obtain ⟨d, e1, e2, e3⟩ := F.fx x q h
    obtain ⟨fd, D, _⟩ := F.df q d e1
    exact ⟨_, e3, D.kp, L.fx q d e1 e2⟩
theorem Fx.cls_at (F : Fx p X.K X.mg X.prog) : ∀ x c, p.cl.lookup x = some c → ∃ C, X.mg x = some (.ref C) ∧ (p.gx X.K).cls c = some C := fun x c h => by
  obtain ⟨e1, e2⟩ := F.cl x c h
  exact ⟨_, e1, if_pos e2⟩
theorem Pg.m_T (l : Nat) : (p.m l).T = p.T ∧ (p.m l).t = p.t ∧ (p.m l).k = fun x => p.k.lookup x := by cases l <;> exact ⟨rfl, rfl, rfl⟩
end
section
variable {P : Program} {w : World} {K : PySem.W.Frag} {mg : Str → Option Value} {base : Heap} {G : Gx} {g : Glb} {m : Mm} {k : Nat} {x qual : Str} {params : Arguments} {body : List Stmt} {scope : Scope} {f c : Addr} {fd : FuncData} {N ps : List Str} {df : Df}
theorem fun_okK {CX : CXT} {sp : Sp} (F : FunD K x qual params body scope [] [] f fd) (hc : fd.code = .ref c) (S : FnScope N ps scope) (len : ∀ vs H Q E, sp vs H Q E → vs.length = ps.length)
    (hbody : ∀ (A : Around) (outer : List Env) (s : Shared) (H : Hp) (vs : List V) (Q : VK) (E : XK), Room k (A.deeper (envOfC qual scope s.heap.objs.size f (.ref c))) → sp vs H Q E →
      ∃ t, PSs (cxOf CX P w K mg base N qual scope f (.ref c) A outer s H E) body t ∧ t { nx := fun _ H' => Q .non H', rt := Q } (start N vs) H) : FnOk P w K mg base CX (k + 1) f fd ps sp := by
  obtain ⟨oc, od, dV, kV, doc, pm, an, cdv, ct, osl, rfl, lk, hcd, _, _⟩ := F.ex
  dsimp only at hc
  subst hc
  exact fn_of lk hcd S len hbody
theorem fn_treeK (F : FunD K x qual params body scope [] [] f fd) (hc : fd.code = .ref c) (S : FnScope N ps scope) (hp : ps.length = df.np) (hN : df.N = N) {cx : Cs} (hcx : cx.hot = false) (hchk : df.b.chk g cx body = true)
    (A : ∀ (A : Around) (outer : List Env) (s : Shared) (H : Hp) (E : XK) (W : WX), Room (k + 2) (A.deeper (envOfC qual scope s.heap.objs.size f (.ref c))) → Takes (cxOf (L2N.CX P w) P w K mg base N qual scope f (.ref c) A outer s H E) W → XS g m cx k (cxOf (L2N.CX P w) P w K mg base N qual scope f (.ref c) A outer s H E) G W) :
    FnOk P w K mg base (L2N.CX P w) (k + 3) f fd ps (spF G ps.length (df.run m)) := by
  refine fun_okK F hc S (fun vs H Q E h => h.1) fun A' outer s H vs Q E hr ⟨hl, μ, St, ds, R, q, fin⟩ => ?_
  have tk : Takes (cxOf (L2N.CX P w) P w K mg base N qual scope f (.ref c) A' outer s H E) (fun cv dx _ H' => E cv dx H') := takes_of rfl rfl rfl rfl
  have X := A A' outer s H E (fun cv dx _ H' => E cv dx H') hr tk
  refine ⟨tS G (fun cv dx _ H' => E cv dx H') (df.b.den m), Ss.ok g df.b m cx k _ G _ body X (fun _ => ⟨passes_of rfl, rfl, rfl⟩) hchk, ?_⟩
  have e : ds.length = df.np := by rw [q.length, hl, hp]
  unfold Df.run at fin
  rw [if_pos e, hN] at fin
  exact ⟨μ, _, St, R, sr_start q _ e.symm, runOf_fin fin⟩
theorem fn_treeKC (F : FunD K x qual params body scope [] [] f fd) (hc : fd.code = .ref c) (S : FnScope N ps scope) (hp : ps.length = 2) (hN : df.N = N) {cx : Cs} (hcx : cx.hot = false) (hchk : df.b.chk g cx body = true)
    (A : ∀ (A : Around) (outer : List Env) (s : Shared) (H : Hp) (E : XK) (W : WX), Room (k + 2) (A.deeper (envOfC qual scope s.heap.objs.size f (.ref c))) → Takes (cxOf (L2N.CX P w) P w K mg base N qual scope f (.ref c) A outer s H E) W → XS g m cx k (cxOf (L2N.CX P w) P w K mg base N qual scope f (.ref c) A outer s H E) G W) :
    FnOk P w K mg base (L2N.CX P w) (k + 3) f fd ps (spC G (df.runC m)) := by
  refine fun_okK F hc S (fun vs H Q E ⟨v, a, e, _⟩ => by rw [e, hp]; rfl) fun A' outer s H vs Q E hr ⟨v, a, ev, μ, St, d, i, cs, R, q, hcl, fin⟩ => ?_
  subst ev
  have tk : Takes (cxOf (L2N.CX P w) P w K mg base N qual scope f (.ref c) A' outer s H E) (fun cv dx _ H' => E cv dx H') := takes_of rfl rfl rfl rfl
  have X := A A' outer s H E (fun cv dx _ H' => E cv dx H') hr tk
  refine ⟨tS G (fun cv dx _ H' => E cv dx H') (df.b.den m), Ss.ok g df.b m cx k _ G _ body X (fun _ => ⟨passes_of rfl, rfl, rfl⟩) hchk, ?_⟩
  unfold Df.runC at fin
  rw [hN] at fin
  exact ⟨μ, _, St, R, sr_startC q hcl, runOf_fin fin⟩
end
section
variable {P : Program} {w : World} {K : PySem.W.Frag} {mg : Str → Option Value} {base : Heap} {G : Gx} {g : Glb} {m : Mm} {k : Nat} {x qual : Str} {params : Arguments} {body : List Stmt} {scope : Scope} {f c : Addr} {fd : FuncData} {N ps : List Str} {df : Df}
theorem fun_okP {sp : Addr × Obj → Sp} (F : FunD K x qual params body scope [] [] f fd) (hc : fd.code = .ref c) (S : FnScope N ps scope) (len : ∀ p vs H Q E, sp p vs H Q E → vs.length = ps.length)
    (hbody : ∀ (A : Around) (outer : List Env) (s : Shared) (H : Hp) (vs : List V) (Q : VK) (E : XK) (p : Addr × Obj), L2H.Hot1 A p → L2H.RoomH k (A.deeper (envOfC qual scope s.heap.objs.size f (.ref c))) → sp p vs H Q E →
      ∃ t, PSs (cxP P w K mg base N qual scope f (.ref c) A outer s H E p) body t ∧ t { nx := fun _ H' => Q .non H', rt := Q } (start N vs) H) : FnP P w K mg base (k + 1) f fd ps sp := by
  obtain ⟨oc, od, dV, kV, doc, pm, an, cdv, ct, osl, rfl, lk, hcd, _, _⟩ := F.ex
  dsimp only at hc
  subst hc
  exact fn_ofP lk hcd S len hbody
theorem fn_treeP (F : FunD K x qual params body scope [] [] f fd) (hc : fd.code = .ref c) (S : FnScope N ps scope) (hp : ps.length = df.np) (hN : df.N = N) {cx : Cs} (hcx : cx.hot = true) (hchk : df.b.chk g cx body = true)
    (A : ∀ (A : Around) (outer : List Env) (s : Shared) (H : Hp) (E : XK) (W : WX) (p : Addr × Obj), L2H.Hot1 A p → L2H.RoomH (k + 2) (A.deeper (envOfC qual scope s.heap.objs.size f (.ref c))) → XS g m cx k (cxP P w K mg base N qual scope f (.ref c) A outer s H E p) G W) :
    FnP P w K mg base (k + 3) f fd ps (fun _ => spF G ps.length (df.run m)) := by
  refine fun_okP F hc S (fun _ vs H Q E h => h.1) fun A' outer s H vs Q E p hot hr ⟨hl, μ, St, ds, R, q, fin⟩ => ?_
  have X := A A' outer s H E (fun cv dx _ H' => E cv dx H') p hot hr
  refine ⟨tS G (fun cv dx _ H' => E cv dx H') (df.b.den m), Ss.ok g df.b m cx k _ G _ body X (fun z => by rw [hcx] at z; cases z) hchk, ?_⟩
  have e : ds.length = df.np := by rw [q.length, hl, hp]
  unfold Df.run at fin
  rw [if_pos e, hN] at fin
  exact ⟨μ, _, St, R, sr_start q _ e.symm, runOf_fin fin⟩
theorem fin_gx {a : Addr} {d : Option Addr} {fs : List (Str × D)} {μ : Mu} {H : Hp} {r : R D} {Q : VK} {E : XK} (h : Fin G μ H r Q E) : Fin (gx G a d fs) μ H r Q E := by
  cases r with
  | ok x S => exact fun μ' H' v m R q => h μ' H' v m R.ungx q
  | ex c gs S => exact fun μ' H' cv dx m R x => h μ' H' cv dx m R.ungx x
  | no => exact h
theorem sr_startX {μ : Mu} {H : Hp} {ds : List D} {ws : List V} {a : Addr} {n : Nat} (q : DRs G.K μ H ds ws) (hn : n = ds.length + 1) (hN : n ≤ N.length) (hc : G.clo μ H 0 [] a) : SR G μ H ⟨ds.map some ++ none :: List.replicate (N.length - n) none, some (ds.length, 0, [])⟩ (L2.start N (ws ++ [.ref a])) := by
  have hl := q.length
  subst hn
  have es : L2.start N (ws ++ [.ref a]) = ws.map some ++ some (V.ref a) :: List.replicate (N.length - (ds.length + 1)) none := by
    unfold L2.start
    rw [List.map_append, List.append_assoc, List.length_append, hl] <;> rfl
  rw [es]
  refine ⟨?_, fun i d z => ?_, fun i g vs z => ?_⟩
  · show (ds.map some ++ none :: List.replicate (N.length - (ds.length + 1)) none).length = _
    simp [hl]
  · have z' : (ds.map some ++ none :: List.replicate (N.length - (ds.length + 1)) none)[i]? = some (some d) := z
    by_cases hi : i < ds.length
    · rw [List.getElem?_append_left (by rw [List.length_map]; exact hi), List.getElem?_map] at z'
      cases hd : ds[i]? with
      | none => rw [hd] at z'; cases z'
      | some d' =>
        rw [hd] at z'; cases z'
        obtain ⟨v, hv, r⟩ := q.get hd
        refine ⟨v, ?_, r⟩
        rw [List.getElem?_append_left (by rw [List.length_map, ← hl]; exact hi), List.getElem?_map, hv] <;> rfl
    · rw [List.getElem?_append_right (by rw [List.length_map]; omega)] at z'
      rw [List.length_map] at z'
      cases hj : i - ds.length with
      | zero => rw [hj] at z'; cases z'
      | succ j =>
        rw [hj, List.getElem?_cons_succ, List.getElem?_replicate] at z'
        split at z' <;> cases z'
  · cases z
    refine ⟨a, ?_, hc⟩
    rw [List.getElem?_append_right (by rw [List.length_map]; omega), List.length_map, hl, Nat.sub_self] <;> rfl
theorem fn_treeX (F : FunD K x qual params body scope [] [] f fd) (hc : fd.code = .ref c) (S : FnScope N ps scope) (hp : ps.length = df.np) (hN : df.N = N) {cx : Cs} (hcx : cx.hot = true) (hchk : df.b.chk g cx body = true) {rx : Str → List (Str × D) → Fn} (hrx : ∀ e fs, rx e fs = df.runX m e fs ∨ ∀ ds S, rx e fs ds S = .no)
    (A : ∀ (A : Around) (outer : List Env) (s : Shared) (H : Hp) (E : XK) (W : WX) (p : Addr × Obj) (e : Str) (C : Addr) (d : Option Addr) (fs : List (Str × D)), L2H.Hot1 A p → L2H.RoomH (k + 2) (A.deeper (envOfC qual scope s.heap.objs.size f (.ref c))) → Told (gx G p.1 d fs) p e C d fs →
      XS g (m.at_ e fs) cx k (cxP P w K mg base N qual scope f (.ref c) A outer s H E p) (gx G p.1 d fs) W) :
    FnP P w K mg base (k + 3) f fd ps (spX G ps.length rx) := by
  refine fun_okP F hc S (fun _ vs H Q E h => h.1) fun A' outer s H vs Q E p hot hr ⟨hl, ws, μ, St, ds, e, C, d, fs, ev, h1, h2, h3, h4, R, q, fin⟩ => ?_
  rcases hrx e fs with hx | hx
  · rw [hx] at fin
    have T : Told (gx G p.1 d fs) p e C d fs := ⟨h1, h2, h3, fun μ H i vs x z => z⟩
    have X := A A' outer s H E (fun cv dx _ H' => E cv dx H') p e C d fs hot hr T
    refine ⟨tS (gx G p.1 d fs) (fun cv dx _ H' => E cv dx H') (df.b.den (m.at_ e fs)), Ss.ok g df.b (m.at_ e fs) cx k _ _ _ body X (fun z => by rw [hcx] at z; cases z) hchk, ?_⟩
    have e1 : ds.length + 1 = df.np := by
      rw [q.length, ← hp, ← hl, ev]
      simp
    unfold Df.runX at fin
    rw [if_pos e1, hN] at fin
    subst ev
    refine ⟨μ, _, St, R.gx, sr_startX (G := gx G p.1 d fs) q e1.symm ?_ ⟨rfl, h4⟩, runOf_fin (fin_gx fin)⟩
    have := congrArg List.length S.pre
    rw [List.length_take] at this
    rw [← hp]
    omega
  · rw [hx] at fin
    exact fin.elim
end
section
variable {p : Pg} {P : Program} {w : World} {K : PySem.W.Frag} {mg : Str → Option Value} {base : Heap} {k l : Nat}
theorem no_sp {vs : List V} {H : Hp} {Q : VK} {E : XK} {n : Nat} : ¬ spF (p.gx K) n (fun _ _ => Mt.R.no) vs H Q E := fun ⟨_, _, _, _, _, _, f⟩ => f
theorem no_spC {vs : List V} {H : Hp} {Q : VK} {E : XK} : ¬ spC (p.gx K) (fun _ _ _ _ => Mt.R.no) vs H Q E := fun ⟨_, _, _, _, _, _, _, _, _, _, _, f⟩ => f
theorem len2 {vs : List V} {H : Hp} {Q : VK} {E : XK} {pc} (h : spC (p.gx K) pc vs H Q E) : vs.length = 2 := by
  obtain ⟨v, a, e, _⟩ := h
  rw [e]; rfl
theorem lc_parts {i : Nat} {lm : Lm} (h : p.lc i lm = true) : ∃ lx, p.lams[i]? = some lx ∧ parB lm.params lm.par = true ∧ NdefX.nscB (lm.par ++ lm.fr) lm.par lm.fr lm.scope = true ∧ lx.e.chk (p.gl fun _ _ => false) (lcx lm) lm.body = true := by
  unfold Pg.lc at h
  split at h
  · simp only [Bool.and_eq_true] at h
    exact ⟨_, by assumption, h.1.1.2, h.1.2, h.2⟩
  · cases h
theorem lam_bind (F : Fx p K mg P) {lm : Lm} {i : Nat} (h : p.lc i lm = true) {cl : List (Str × Addr)} {pm cv ctv : Value} {us : List Value} (hl : us.length = lm.par.length) : bindArgs (PySem.W.kla_fn "<lambda>" lm.qual lm.params lm.body lm.scope cl pm cv ctv) ⟨us, []⟩ = pure (lm.par.zip us) := by
  obtain ⟨lx, h1, h2, h3, h4⟩ := lc_parts h
  have h5 : lm.par = lx.par := by
    unfold Pg.lc at h
    rw [h1] at h
    simp only [Bool.and_eq_true, decide_eq_true_eq] at h
    exact h.1.1.1.1
  obtain ⟨a, q, e1, e2⟩ := parB_eq h2
  have B := F.lb i lx h1 a (by rw [← h5, e2])
  rw [e2] at hl ⊢
  rw [e1]
  match us, hl with
  | [u], _ => exact B _ _ _ _ _ _ _ _ _
theorem Lv.zero (F : Fx p K mg P) : Lv p P w K mg base 1 (p.m 0) := by
  refine ⟨fun q d h hl => ?_, fun q d h hl hh => ?_, fun i lm h => ?_, fun q d h hh => ?_, fun q d h hh => ?_⟩
  · obtain ⟨fd, D, hc⟩ := F.df q d h
    have T := F.txt q d h
    unfold Dx.txt at T
    simp only [Bool.and_eq_true] at T
    exact ⟨fd, d.ps, fun_okK D hc (fsc_of T.1.1) (fun vs H Q E z => z.1) (fun A outer s H vs Q E _ z => (no_sp z).elim), D.bindsN (F.bind q d h), fun _ _ _ => rfl⟩
  · obtain ⟨fd, D, hc⟩ := F.df q d h
    have T := F.txt q d h
    unfold Dx.txt at T
    simp only [Bool.and_eq_true] at T
    have h2 : d.ps.length = 2 := by
      have z := T.2.1.1
      rw [hl, hh] at z
      simpa using z
    exact ⟨fd, d.ps, fun_okK D hc (fsc_of T.1.1) (fun vs H Q E z => by rw [h2]; exact len2 z) (fun A outer s H vs Q E _ z => (no_spC z).elim), D.bindsN (F.bind q d h), h2⟩
  · obtain ⟨lx, h1, h2, h3, h4⟩ := lc_parts h
    obtain ⟨a, pp, e1, e2⟩ := parB_eq h2
    exact ⟨by rw [e2]; rfl, NdefX.nscope_by h3, fun cl pm c ctv us hu => lam_bind F h hu, fun A outer s H f cl c hr => ⟨fun pins s σ H Q I ⟨μ, ρ, S, R, sr, z⟩ => z.elim⟩⟩
  · obtain ⟨fd, D, hc⟩ := F.df q d h
    have T := F.txt q d h
    unfold Dx.txt at T
    simp only [Bool.and_eq_true] at T
    exact ⟨fd, d.ps, fun_okP D hc (fsc_of T.1.1) (fun _ vs H Q E z => z.1) (fun A outer s H vs Q E p _ _ z => (no_sp z).elim), D.bindsN (F.bind q d h), fun _ _ _ => rfl⟩
  · obtain ⟨fd, D, hc⟩ := F.df q d h
    have T := F.txt q d h
    unfold Dx.txt at T
    simp only [Bool.and_eq_true] at T
    exact ⟨fd, d.ps, fun_okP D hc (fsc_of T.1.1) (fun _ vs H Q E z => z.1) (fun A outer s H vs Q E p _ _ ⟨_, _, _, _, _, _, _, _, _, _, _, _, _, _, _, _, z⟩ => z.elim), D.bindsN (F.bind q d h), fun _ _ _ _ _ => rfl⟩
theorem Fx.xs (F : Fx p K mg P) (L : Lv p P w K mg base k (p.m l)) (TB : ∀ d ∈ p.defs, d.mkr = true → LamX.TabB base mg (cdA K (d.pth.ad K)) (tbA K (d.pth.ad K))) {q : Str} {d : Dx} (h : p.get q = some d) (hh : d.hot = 0) (A : Around) (outer : List Env) (s : Shared) (H : Hp) (E : XK) (W : WX)
    (hr : Room (k + 2) (A.deeper (envOfC d.qual d.scope s.heap.objs.size (d.pth.ad K) (.ref (cdA K (d.pth.ad K)))))) (tk : Takes (cxOf (L2N.CX P w) P w K mg base d.N d.qual d.scope (d.pth.ad K) (.ref (cdA K (d.pth.ad K))) A outer s H E) W) :
    XS (p.gl p.lc) (p.m l) d.cx k (cxOf (L2N.CX P w) P w K mg base d.N d.qual d.scope (d.pth.ad K) (.ref (cdA K (d.pth.ad K))) A outer s H E) (p.gx K) W := by
  obtain ⟨e1, e2, e3⟩ := p.m_T l
  have T := F.txt q d h
  unfold Dx.txt at T
  simp only [Bool.and_eq_true] at T
  have S := fsc_of T.1.1
  refine ⟨rfl, rfl, rfl, S.nd, e1, e2, e3, F.kk, F.bl, Nat.lt_of_le_of_lt (show (A.deeper _).units + 200 ≤ _ from Nat.add_le_add_right (Nat.le_add_right _ _) 200) hr.un, fun _ => Lv.cold (X := cxOf (L2N.CX P w) P w K mg base d.N d.qual d.scope (d.pth.ad K) (.ref (cdA K (d.pth.ad K))) A outer s H E) F L p.lc rfl hr tk, fun _ _ => rfl, fun hm => ⟨⟨rfl, ?_, fun i lm hi μ H cs a z => ⟨lm, hi, z⟩⟩, fun _ => rfl⟩, (fun z => by rw [show d.cx.hot = !decide (d.hot = 0) from rfl, hh] at z; cases z), (fun z => by rw [show d.cx.hot = !decide (d.hot = 0) from rfl, hh] at z; cases z), (fun z => by rw [show d.cx.hot = !decide (d.hot = 0) from rfl, hh] at z; cases z), Fx.gi (X := cxOf (L2N.CX P w) P w K mg base d.N d.qual d.scope (d.pth.ad K) (.ref (cdA K (d.pth.ad K))) A outer s H E) F, Fx.cls_at (X := cxOf (L2N.CX P w) P w K mg base d.N d.qual d.scope (d.pth.ad K) (.ref (cdA K (d.pth.ad K))) A outer s H E) F⟩
  have hmem : (tbA K (d.pth.ad K), (d.qual ++ ".<locals>.") ++ "<lambda>") ∈ p.tabs K := List.mem_map.mpr ⟨d, List.mem_filter.mpr ⟨(get_mem h).1, hm⟩, rfl⟩
  exact ⟨_, _, TB d (get_mem h).1 hm, rfl, hmem, fun a ha e => F.tab a ha _ hmem e⟩
theorem Fx.xsl (F : Fx p K mg P) (L : Lv p P w K mg base k (p.m l)) {lm : Lm} (hs : NdefX.NScope (lm.par ++ lm.fr) lm.par lm.fr lm.scope) (A : Around) (outer : List Env) (s : Shared) (H : Hp) (f : Addr) (cl : List (Str × Addr)) (c : Addr) (hr : Room (k + 2) (A.deeper (NdefX.envF (lm.nf cl c) f s.heap.objs.size))) :
    XS (p.gl fun _ _ => false) (p.m l) (lcx lm) k (NdefX.ncx (L2N.CX P w) P w K mg base (lm.par ++ lm.fr) (lm.nf cl c) f A outer s H fun _ _ _ => False) (p.gx K) W0 := by
  obtain ⟨e1, e2, e3⟩ := p.m_T l
  exact ⟨rfl, rfl, rfl, hs.nd, e1, e2, e3, F.kk, F.bl, Nat.lt_of_le_of_lt (show (A.deeper _).units + 200 ≤ _ from Nat.add_le_add_right (Nat.le_add_right _ _) 200) hr.un, fun _ => Lv.cold (X := NdefX.ncx (L2N.CX P w) P w K mg base (lm.par ++ lm.fr) (lm.nf cl c) f A outer s H fun _ _ _ => False) F L (fun _ _ => false) rfl hr takes0N, (fun z => nomatch (show false = true from z)), (fun z => nomatch (show false = true from z)), (fun z => nomatch (show false = true from z)), (fun z => nomatch (show false = true from z)), (fun z => nomatch (show false = true from z)),
    Fx.gi (X := NdefX.ncx (L2N.CX P w) P w K mg base (lm.par ++ lm.fr) (lm.nf cl c) f A outer s H fun _ _ _ => False) F, Fx.cls_at (X := NdefX.ncx (L2N.CX P w) P w K mg base (lm.par ++ lm.fr) (lm.nf cl c) f A outer s H fun _ _ _ => False) F⟩
theorem Fx.no_xf (F : Fx p K mg P) : p.t.xf (p.m l).c = none := by
  have e : (p.m l).c = Str.empty := by cases l <;> rfl
  rw [e]
  show (match p.errOf Str.empty with
    | some z => z.fld
    | none => none) = none
  rw [F.er]
theorem Fx.no_y (F : Fx p K mg P) (t : Tg) : p.t.y (p.m l).c t = none := by
  have e : (p.m l).c = Str.empty := by cases l <;> rfl
  rw [e]
  show (match p.errOf Str.empty with
    | some z => z.isi.lookup t
    | none => none) = none
  rw [F.er]
theorem Fx.no_PX (F : Fx p K mg P) {q : Str} {ds : List D} {S : Sto} : (p.m l).PX q (p.m l).c (p.m l).fs ds S = .no := by
  have e : (p.m l).c = Str.empty := by cases l <;> rfl
  rw [e]
  cases l with
  | zero => rfl
  | succ l =>
    show (match p.errOf Str.empty with
      | some _ => (match p.get q with
        | some d => if d.hot = 2 then d.df.runX (p.m l) Str.empty _ else fun _ _ => Mt.R.no
        | none => fun _ _ => Mt.R.no)
      | none => fun _ _ => Mt.R.no) ds S = .no
    rw [F.er]
/-- m is that of the level, but for the error -/
structure Same (m m' : Mm) : Prop where
  T : m.T = m'.T
  t : m.t = m'.t
  k : m.k = m'.k
  P : m.P = m'.P
  PX : m.PX = m'.PX
theorem Fx.xsH (F : Fx p K mg P) (L : Lv p P w K mg base k (p.m l)) {q : Str} {d : Dx} (h : p.get q = some d) (hh : d.hot ≠ 0) (A : Around) (outer : List Env) (s : Shared) (H : Hp) (E : XK) (W : WX) (p' : Addr × Obj) (hot : L2H.Hot1 A p')
    (hr : L2H.RoomH (k + 2) (A.deeper (envOfC d.qual d.scope s.heap.objs.size (d.pth.ad K) (.ref (cdA K (d.pth.ad K)))))) (m : Mm) (sm : Same m (p.m l)) (G : Gx) (gK : G.K = K) (gc : G.cls = (p.gx K).cls)
    (g1 : ∀ (X : Cx) fa r, FnG X (p.gx K) k fa r → FnG X G k fa r) (g2 : ∀ (X : Cx) fa r, FnX X (p.gx K) k fa r → FnX X G k fa r)
    (td : (p.t.xf m.c = none ∧ (∀ t, p.t.y m.c t = none) ∧ ∀ q ds S, m.PX q m.c m.fs ds S = .no) ∨ ∃ C d, Told G p' m.c C d m.fs) :
    XS (p.gl p.lc) m d.cx k (cxP P w K mg base d.N d.qual d.scope (d.pth.ad K) (.ref (cdA K (d.pth.ad K))) A outer s H E p') G W := by
  obtain ⟨e1, e2, e3⟩ := p.m_T l
  have T := F.txt q d h
  unfold Dx.txt at T
  simp only [Bool.and_eq_true] at T
  have S := fsc_of T.1.1
  have hm : d.mkr = false := by
    have z := T.2.2
    simpa [hh] using z
  have chot : d.cx.hot = true := by simp [Dx.cx, hh]
  generalize hX : cxP P w K mg base d.N d.qual d.scope (d.pth.ad K) (.ref (cdA K (d.pth.ad K))) A outer s H E p' = X
  have xK : X.K = K := by subst hX; rfl
  have xm : X.mg = mg := by subst hX; rfl
  have xp : X.prog = P := by subst hX; rfl
  have xw : X.w = w := by subst hX; rfl
  have xb : X.base = base := by subst hX; rfl
  have F' : Fx p X.K X.mg X.prog := by rw [xK, xm, xp]; exact F
  have L' : Lv p X.prog X.w X.K X.mg X.base k (p.m l) := by rw [xK, xm, xp, xw, xb]; exact L
  have gc' : G.cls = (p.gx X.K).cls := by rw [xK]; exact gc
  have gi : GI X G p.T.pl := by
    have B := F'.gi
    exact ⟨by rw [gc']; exact B.ins, by rw [gc']; exact B.oo, by rw [gc']; exact B.ob, by rw [gc']; exact B.bo⟩
  have gX : GX1 X G p.t := by
    have B := F'.gx
    refine ⟨by rw [gc']; exact B.xf, B.sup, by rw [gc']; exact B.xp, by rw [gc']; exact B.ex, fun c C g b hC hy => ?_⟩
    rw [gc'] at hC
    obtain ⟨y1, y2⟩ := B.y c C g b hC hy
    refine ⟨y1, fun v hv => y2 v ?_⟩
    cases g with
    | b n => exact hv
    | own c =>
      obtain ⟨C, hC, ev⟩ := hv
      rw [gc'] at hC
      exact ⟨C, hC, ev⟩
  have hp : HotP (p.gl p.lc) m k X G p' := by
    refine ⟨by subst hX; exact hot, by subst hX; exact List.mem_singleton_self p', td, by subst hX; exact hr, gX, fun x q h => ?_, fun x q h => ?_⟩
    · obtain ⟨d, e1, e2, e3⟩ := F'.fh x q h
      obtain ⟨fd, D, _⟩ := F'.df q d e1
      rw [sm.P]
      exact ⟨_, e3, D.kp, by rw [xK]; exact g1 X _ _ (by have z := L'.fh q d e1 e2; rw [← xK]; exact z)⟩
    · obtain ⟨d, e1, e2, e3⟩ := F'.fx x q h
      obtain ⟨fd, D, _⟩ := F'.df q d e1
      rw [sm.PX]
      exact ⟨_, e3, D.kp, by rw [xK]; exact g2 X _ _ (by have z := L'.fx q d e1 e2; rw [← xK]; exact z)⟩
  refine ⟨gK.trans xK.symm, by subst hX; rfl, by subst hX; rfl, by subst hX; exact S.nd, sm.T.trans e1, sm.t.trans e2, sm.k.trans e3, fun x d e => ?_, fun x e => F'.bl x e, ?_, fun z => ?_, fun _ _ => by subst hX; rfl, fun z => ?_, fun _ => by subst hX; rfl, fun _ e i f pos he hb => ?_, fun _ => ⟨p', hp⟩, gi, fun x c e => ?_⟩
  · rw [gK, ← xK]
    exact F'.kk x d e
  · subst hX
    have z := hr.un
    exact Nat.lt_of_le_of_lt (show (A.deeper _).units + 200 ≤ _ from Nat.add_le_add_right (Nat.le_add_right _ _) 200) z
  · rw [chot] at z; cases z
  · exact absurd (show d.mkr = true from z) (by rw [hm]; simp)
  · rw [sm.t.trans e2]
    exact hp.xf e i f pos he hb
  · rw [gc']
    exact F'.cls_at x c e
theorem Lv.step (F : Fx p K mg P) (TB : ∀ d ∈ p.defs, d.mkr = true → LamX.TabB base mg (cdA K (d.pth.ad K)) (tbA K (d.pth.ad K))) (L : Lv p P w K mg base k (p.m l)) : Lv p P w K mg base (k + 3) (p.m (l + 1)) := by
  refine ⟨fun q d h hl => ?_, fun q d h hl hh => ?_, fun i lm h => ?_, fun q d h hh => ?_, fun q d h hh => ?_⟩
  · obtain ⟨fd, D, hc⟩ := F.df q d h
    have T := F.txt q d h
    unfold Dx.txt at T
    simp only [Bool.and_eq_true] at T
    have hh : d.hot = 0 := by
      have z := T.2.1.2
      rw [hl] at z
      simpa using z
    have e : (p.m (l + 1)).P q = d.df.run (p.m l) := by
      show (match p.get q with
        | some d => if d.lam then (if d.hot = 1 then d.df.run (p.m l) else fun _ _ => Mt.R.no) else d.df.run (p.m l)
        | none => fun _ _ => Mt.R.no) = _
      rw [h]
      dsimp only
      rw [if_neg (by rw [hl]; simp)]
    rw [e]
    refine ⟨fd, d.ps, fn_treeK D hc (fsc_of T.1.1) rfl rfl (by simp [Dx.cx, hh]) T.1.2 fun A outer s H E W hr tk => F.xs L TB h hh A outer s H E W hr tk, D.bindsN (F.bind q d h), fun ds S hn => if_neg hn⟩
  · obtain ⟨fd, D, hc⟩ := F.df q d h
    have T := F.txt q d h
    unfold Dx.txt at T
    simp only [Bool.and_eq_true] at T
    have h2 : d.ps.length = 2 := by
      have z := T.2.1.1
      rw [hl, hh] at z
      simpa using z
    have e : (p.m (l + 1)).PC q = d.df.runC (p.m l) := by
      show (match p.get q with
        | some d => if d.lam then d.df.runC (p.m l) else fun _ _ _ _ => Mt.R.no
        | none => fun _ _ _ _ => Mt.R.no) = _
      rw [h]
      dsimp only
      rw [if_pos hl]
    rw [e]
    exact ⟨fd, d.ps, fn_treeKC D hc (fsc_of T.1.1) h2 rfl (by simp [Dx.cx, hh]) T.1.2 fun A outer s H E W hr tk => F.xs L TB h hh A outer s H E W hr tk, D.bindsN (F.bind q d h), h2⟩
  · obtain ⟨lx, h1, h2, h3, h4⟩ := lc_parts h
    obtain ⟨a, pp, e1, e2⟩ := parB_eq h2
    have e : (p.m (l + 1)).lb i = lx.e.den (p.m l) := by
      show (match p.lams[i]? with
        | some lx => lx.e.den (p.m l)
        | none => fun _ _ => Mt.R.no) = _
      rw [h1]
    rw [e]
    have o : LmOk P w K mg base (p.gx K) (k + 2) lm (lx.e.den (p.m l)) := lam_tree (by rw [e2]; rfl) h3 (fun cl pm c ctv us hu => lam_bind F h hu) h4 fun A outer s H f cl c hr => F.xsl L (NdefX.nscope_by h3) A outer s H f cl c hr
    exact ⟨o.one, o.sc, o.bind, fun A outer s H f cl c hr => o.body A outer s H f cl c (hr.mono (Nat.le_succ _))⟩
  · obtain ⟨fd, D, hc⟩ := F.df q d h
    have T := F.txt q d h
    unfold Dx.txt at T
    simp only [Bool.and_eq_true] at T
    have hl : d.lam = true := by
      have z := T.2.1.2
      rw [hh] at z
      simpa using z
    have e : (p.m (l + 1)).P q = d.df.run (p.m l) := by
      show (match p.get q with
        | some d => if d.lam then (if d.hot = 1 then d.df.run (p.m l) else fun _ _ => Mt.R.no) else d.df.run (p.m l)
        | none => fun _ _ => Mt.R.no) = _
      rw [h]
      dsimp only
      rw [if_pos hl, if_pos hh]
    rw [e]
    exact ⟨fd, d.ps, fn_treeP D hc (fsc_of T.1.1) rfl rfl (by simp [Dx.cx, hh]) T.1.2 fun A outer s H E W p' hot hr => F.xsH L h (by omega) A outer s H E W p' hot hr (p.m l) ⟨rfl, rfl, rfl, rfl, rfl⟩ (p.gx K) rfl rfl (fun _ _ _ F => F) (fun _ _ _ F => F) (.inl ⟨F.no_xf, F.no_y, fun _ _ _ => F.no_PX⟩), D.bindsN (F.bind q d h), fun ds S hn => if_neg hn⟩
  · obtain ⟨fd, D, hc⟩ := F.df q d h
    have T := F.txt q d h
    unfold Dx.txt at T
    simp only [Bool.and_eq_true] at T
    have e : ∀ c fs, (p.m (l + 1)).PX q c fs = d.df.runX (p.m l) c fs ∨ ∀ ds S, (p.m (l + 1)).PX q c fs ds S = .no := fun c fs => by
      have e0 : (p.m (l + 1)).PX q c fs = (match p.errOf c with
        | some _ => (match p.get q with
          | some d => if d.hot = 2 then d.df.runX (p.m l) c fs else fun _ _ => Mt.R.no
          | none => fun _ _ => Mt.R.no)
        | none => fun _ _ => Mt.R.no) := rfl
      rw [e0]
      cases p.errOf c with
      | none => exact .inr fun _ _ => rfl
      | some z =>
        rw [h]
        dsimp only
        rw [if_pos hh]
        exact .inl rfl
    refine ⟨fd, d.ps, fn_treeX D hc (fsc_of T.1.1) rfl rfl (by simp [Dx.cx, hh]) T.1.2 e fun A outer s H E W p' c C d' fs hot hr Td => F.xsH L h (by omega) A outer s H E W p' hot hr ((p.m l).at_ c fs) ⟨rfl, rfl, rfl, rfl, rfl⟩ (gx (p.gx K) p'.1 d' fs) rfl rfl (fun _ _ _ F => FnG.gx F) (fun _ _ _ F => FnX.gx F) (.inr ⟨C, d', Td⟩), D.bindsN (F.bind q d h), fun c fs ds S hn => ?_⟩
    rcases e c fs with z | z
    · rw [z]
      exact if_neg hn
    · exact z ds S
theorem Lv.all (F : Fx p K mg P) (TB : ∀ d ∈ p.defs, d.mkr = true → LamX.TabB base mg (cdA K (d.pth.ad K)) (tbA K (d.pth.ad K))) : ∀ l, Lv p P w K mg base (3 * l + 1) (p.m l)
  | 0 => Lv.zero F
  | l + 1 => Lv.step F TB (Lv.all F TB l)
end
end Mt


set_option Elab.async false
set_option maxRecDepth 100000
set_option autoImplicit false
set_option linter.all false
set_option maxHeartbeats 4000000
/-! The head by a program's text as data; a law's end. -/
namespace Mt
open PySem PySem.Spec PyProof.Rows
open L2 hiding Takes XE takes_of passAt PMk MkP ps_raise mk_of
open L2N (Takes XE takes_of passAt PMk MkP ps_raise mk_of Zn)
/-- what may stand in the written part: no list, no table -/
def keepO (o : Obj) : Bool := !decide (o.cls = .type "list") && !(match o.data with
  | .fields vs => vs.isEmpty
  | _ => false)
def asM (g : Addr → Option Obj) : Nat → List Addr
  | 0 => [mainGlobals, cStatics]
  | n + 1 => He.growD g (asM g n)
def frM (n : Nat) (g : Addr → Option Obj) : PySem.W.Frag := (He.frG g (asM g n)).filter fun p => keepO p.2
theorem frag_mem : ∀ {K : PySem.W.Frag} {a : Addr} {o : Obj}, K.lookup a = some o → (a, o) ∈ K
  | [], a, o, h => by cases (show (none : Option Obj) = some o from h)
  | (b, u) :: l, a, o, h => by
    have h' : (match a == b with | true => some u | false => (show PySem.W.Frag from l).lookup a) = some o := h
    cases e : a == b with
    | true =>
      rw [e] at h'
      cases h'
      rw [eq_of_beq e]
      exact List.mem_cons_self ..
    | false =>
      rw [e] at h'
      exact List.mem_cons_of_mem _ (frag_mem h')
theorem frM_in {n : Nat} {h : Heap} : (frM n h.get?).In h := fun a o e => by
  have q := (List.mem_filter.mp (frag_mem e)).1
  unfold He.frG at q
  obtain ⟨b, _, e2⟩ := List.mem_filterMap.mp q
  cases z : h.get? b with
  | none => rw [z] at e2; cases e2
  | some u => rw [z] at e2; cases e2; exact z
theorem frM_keep {n : Nat} {h : Heap} {a : Addr} {o : Obj} (e : (frM n h.get?).lookup a = some o) : keepO o = true := (List.mem_filter.mp (frag_mem e)).2
abbrev AlM : Type := Bool × List FnV
def tbB (g : Addr → Option Obj) (K : PySem.W.Frag) (q : Addr × Addr) : Bool := PySem.W.codeHdIn K q.1 q.2 && (match g q.2 with
  | some ⟨c, none, .fields vs, sl⟩ => isNone c && vs.isEmpty && sl.isEmpty
  | _ => false)
def obsM (p : Pg) (file : Str) (g : Addr → Option Obj) (K : PySem.W.Frag) : AlM := (p.ok file K && (p.codes K).all (tbB g K), p.obs K)
structure SaysM (p : Pg) (file : Str) (h : Heap) (K : PySem.W.Frag) : Prop where
  kin : K.In h
  keep : ∀ a o, K.lookup a = some o → keepO o = true
  ok : p.ok file K = true
  ob : p.obs K = p.val
  tb : ∀ q ∈ p.codes K, PySem.W.codeHdIn K q.1 q.2 = true ∧ h.get? q.2 = some { cls := .none, data := .fields #[] }
theorem tbB_ok {g : Addr → Option Obj} {K : PySem.W.Frag} {q : Addr × Addr} (h : tbB g K q = true) : PySem.W.codeHdIn K q.1 q.2 = true ∧ g q.2 = some { cls := .none, data := .fields #[] } := by
  unfold tbB at h
  obtain ⟨h1, h2⟩ := Bool.and_eq_true_iff.mp h
  refine ⟨h1, ?_⟩
  split at h2
  · rename_i c vs sl e
    simp only [Bool.and_eq_true] at h2
    obtain ⟨⟨q1, q2⟩, q3⟩ := h2
    have e1 := isNone_eq q1
    have e2 := Array.isEmpty_iff.mp q2
    have e3 := Array.isEmpty_iff.mp q3
    subst e1 e2 e3
    exact e
  · cases h2
def hookM (n : Nat) (p : Pg) (file : Str) : PySem.W.Hook where
  α := AlM
  obs := fun s => obsM p file s.heap.get? (frM n s.heap.get?)
  val := fun _ => (true, p.val)
  says := fun _ h => ∃ K : PySem.W.Frag, SaysM p file h K
  of := fun _ s e => by
    have e1 : (p.ok file (frM n s.heap.get?) && (p.codes (frM n s.heap.get?)).all (tbB s.heap.get? (frM n s.heap.get?))) = true := congrArg (fun z : AlM => z.1) e
    have e2 : p.obs (frM n s.heap.get?) = p.val := congrArg (fun z : AlM => z.2) e
    obtain ⟨q1, q2⟩ := Bool.and_eq_true_iff.mp e1
    exact ⟨_, frM_in, fun _ _ z => frM_keep z, q1, e2, fun q hq => tbB_ok (List.all_eq_true.mp q2 q hq)⟩
  keeps := fun _ _ _ ⟨K, c⟩ k => ⟨K, PySem.W.Frag.In.keeps c.kin k, c.keep, c.ok, c.ob, fun q hq => ⟨(c.tb q hq).1, k _ _ (c.tb q hq).2⟩⟩
def obsMG (n : Nat) (p : Pg) (file : Str) (g : Addr → Option Obj) : AlM := obsM p file g (frM n g)
theorem obsMG_eq {n : Nat} {p : Pg} {file : Str} {g : Addr → Option Obj} {s : Shared} (h : ∀ a, g a = s.heap.get? a) : obsMG n p file g = (hookM n p file).obs s := by
  have e : g = s.heap.get? := funext h
  rw [e] <;> rfl
/-! ### the end -/
theorem noK_tab {K : PySem.W.Frag} {h : Heap} {P : Addr} (X : K.In h) (kp : ∀ a o, K.lookup a = some o → keepO o = true) (e : h.get? P = some { cls := .none, data := .fields #[] }) : K.lookup P = none := by
  cases z : K.lookup P with
  | none => rfl
  | some o =>
    have q := X _ _ z
    rw [e] at q
    cases q
    cases kp _ _ z
theorem drs_ints {K : PySem.W.Frag} {μ : Mu} {H : Hp} : ∀ ns : List Int, DRs K μ H (ns.map D.int) (ns.map V.int)
  | [] => .nil
  | n :: ns => .cons (by rw [DR]) (drs_ints ns)
theorem law_end {p : Pg} {l : PySem.W.OpenLaw} {w : World} {K : PySem.W.Frag} {mg : Str → Option Value} {h : Heap} {L n : Nat} {x : Str} {d : Dx} (S : SaysM p l.prog.main.file h K) (G : h.Ns mainGlobals mg) (F : Fx p K mg l.prog) (hd : p.get "law" = some d) (hl : d.lam = false) (hh : d.hot = 0) (hps : d.ps = [x])
    (law : ∀ ns : List Int, ns.length ≤ n → (∀ z ∈ ns, Builtin.Int.intBits z ≤ 1048576) → ∃ S', d.df.run (p.m L) [.lst (ns.map D.int)] [] = .ok (.bl true) S') : LamX.LawAtS l w K (L2N.CX l.prog w) (3 * L + 1 + 3) n x mg (d.pth.ad K) h := by
  obtain ⟨fd, DF, hc⟩ := F.df _ d hd
  have T := F.txt _ d hd
  unfold Dx.txt at T
  simp only [Bool.and_eq_true] at T
  refine ⟨fd, p.codes K, spF (p.gx K) d.ps.length (d.df.run (p.m L)), fun q hq => (S.tb q hq).2, fun q hq => noK_tab S.kin S.keep (S.tb q hq).2, fun q hq => PySem.W.codeHd_of_K S.kin (S.tb q hq).1, fun s u => ?_, fun H a ns hn hb hT hS => ?_, fun base KB NB TB => ?_⟩
  · have b := FunD.bindsA (ps := d.ps) DF (F.bind _ d hd) s [u] (by rw [hps]; rfl)
    rw [hps] at b
    exact b
  · have ha : Rd H a (.lst (ns.map V.int)) := by
      rcases hS with z | ⟨o, its, m, e1, e2, _⟩
      · exact z
      · have q := S.keep _ _ e1
        unfold keepO at q
        rw [e2] at q
        simp at q
    obtain ⟨S', e⟩ := law ns hn hb
    refine ⟨by rw [hps]; rfl, ⟨[], []⟩, [], [.lst (ns.map D.int)], ⟨rfl, List.nodup_nil, (fun a z => by cases z), (fun a z => by cases z), (fun i a o z => by simp at z), fun q hq => ?_, trivial⟩, .cons ?_ .nil, ?_⟩
    · obtain ⟨d', hd', e'⟩ := List.mem_map.mp hq
      have q1 := hT (cdA K (d'.pth.ad K), tbA K (d'.pth.ad K)) (List.mem_map.mpr ⟨d', hd', rfl⟩)
      rw [← e']
      exact ⟨#[], q1, by simp [TriplesOk], fun pos cv z => by simp [codeAmong] at z⟩
    · rw [DR]
      exact ⟨a, ns.map V.int, rfl, ⟨ha, fun z => z.elim (fun z => by cases z) fun z => by cases z⟩, drs_ints ns⟩
    · rw [e]
      intro μ' H' v m R q
      unfold VR at q
      rw [DR] at q
      exact q
  · have TB' : ∀ d ∈ p.defs, d.mkr = true → LamX.TabB base mg (cdA K (d.pth.ad K)) (tbA K (d.pth.ad K)) := fun d' h1 h2 => TB (_, _) (List.mem_map.mpr ⟨d', List.mem_filter.mpr ⟨h1, h2⟩, rfl⟩)
    have q := fn_treeK (P := l.prog) (w := w) (mg := mg) (base := base) (G := p.gx K) (g := p.gl p.lc) (m := p.m L) (k := 3 * L + 1) (df := d.df) DF hc (fsc_of T.1.1) rfl rfl (cx := d.cx) (by simp [Dx.cx, hh]) T.1.2 fun A outer s H E W hr tk => F.xs (Lv.all F TB' L) TB' hd hh A outer s H E W hr tk
    rw [hps] at q ⊢
    exact q
theorem cx_no {P : Program} {w : World} {H : Hp} {s : Shared} {e : Value} {s' : Shared} (h : L2N.CX P w [] H s (fun _ _ _ => False) e s') : False := by
  obtain ⟨_, _, _, _, _, _, _, _, _, _, _, _, z⟩ := h
  exact z
end Mt


set_option Elab.async false
set_option maxRecDepth 100000
set_option autoImplicit false
set_option linter.all false
set_option maxHeartbeats 4000000
/-! The end, ready to be filled in. -/
namespace Mt
open PySem PySem.Spec PyProof.Rows
open L2 hiding Takes XE takes_of passAt PMk MkP ps_raise mk_of
open L2N (Takes XE takes_of passAt PMk MkP ps_raise mk_of Zn)
def BindOk (d : Dx) : Prop := ∀ (kV doc pm : Value) (an : Option Addr) (cdv ct : Value) (us : List Value), us.length = d.ps.length → bindArgs (PySem.W.fnOf d.name d.qual d.params d.body d.scope .none kV doc pm an cdv ct) ⟨us, []⟩ = pure (d.ps.zip us)
/-- of all of a list -/
inductive Alw {α : Type} (P : α → Prop) : List α → Prop where
  | nil : Alw P []
  | cons {a : α} {l : List α} (h : P a) (t : Alw P l) : Alw P (a :: l)
theorem Alw.mem {α : Type} {P : α → Prop} : ∀ {l : List α}, Alw P l → ∀ a ∈ l, P a
  | _, .cons h t, a, z => (List.mem_cons.mp z).elim (fun e => e ▸ h) (t.mem a)
structure Txt (p : Pg) (prog : Program) : Prop where
  sup : (prog.main.scope.names.lookup ("super" : Str)).isSome = false
  bd : Alw BindOk p.defs
  xb : Alw (fun z : ErrT => ∀ f, z.fld = some f → xBind f) p.errs
  lb : Alw (fun x : Lx => ∀ a, x.par = [a] → Bind1 a) p.lams
  txt : p.defs.all (fun d => d.txt p) = true
theorem Txt.fx {p : Pg} {prog : Program} (T : Txt p prog) {K : PySem.W.Frag} {mg : Str → Option Value} {h : Heap} (S : SaysM p prog.main.file h K) (G : h.Ns mainGlobals mg) : Fx p K mg prog :=
  Fx.of S.kin G S.ok S.ob T.sup (fun q d e => T.bd.mem d (get_mem e).1) (fun f ⟨c, z, e1, e2⟩ => T.xb.mem z (errOf_mem e1).1 f e2) T.txt fun i lx e a ea => T.lb.mem lx (List.mem_of_getElem? e) a ea
theorem Txt.walk {p : Pg} {l : PySem.W.OpenLaw} (T : Txt p l.prog) {n L : Nat} {x : Str} {d : Dx} {q : Program} {loose : List Str} {XP : (Str → Option Value) → Heap → Prop} {dr : DefRec} (hn : l.most = some n) (hn2 : n ≤ sizeLine) (hdf : dr.params.defaults = []) (hr : Room (3 * L + 1 + 3) callerA) (hnm : dr.name = ("law" : Str))
    (hfn : p.fn.lookup ("law" : Str) = some "law") (hd : p.get "law" = some d) (hl : d.lam = false) (hh : d.hot = 0) (hps : d.ps = [x])
    (law : ∀ ns : List Int, ns.length ≤ n → (∀ z ∈ ns, Builtin.Int.intBits z ≤ 1048576) → ∃ S', d.df.run (p.m L) [.lst (ns.map D.int)] [] = .ok (.bl true) S') :
    PySem.W.WalkO q loose XP (fun _ h => ∃ K : PySem.W.Frag, SaysM p l.prog.main.file h K) l.row.toRowW dr [] (fun f vs => PySem.call f vs) := by
  refine LamX.walk_ofTsE (l := l) (n := n) (k := 3 * L + 1 + 3) (x := x) (CX := fun w => L2N.CX l.prog w) hn hn2 hdf hr (fun w mg fa h ⟨K, S⟩ G hmg => ?_) fun _ _ _ _ _ z => cx_no z
  have F := T.fx S G
  obtain ⟨d', e1, e2, e3⟩ := F.fn _ _ hfn
  rw [hd] at e1
  cases e1
  rw [hnm, e3] at hmg
  cases hmg
  exact ⟨K, S.kin, law_end S G F hd hl hh hps law⟩
end Mt


set_option Elab.async false
set_option maxRecDepth 100000
set_option autoImplicit false
set_option linter.all false
set_option maxHeartbeats 4000000
/-! Working out what a tree means, step by step. -/
namespace Mt
open PySem L2
section
variable {m : Mm} {ρ : En} {S S1 : Sto} {l : List (Option D)} {c : Option (Nat × Nat × List D)}
def gv : Option D → Sto → R D
  | some d, S => .ok d S
  | none, _ => .no
@[simp] theorem gv_some (d : D) : gv (some d) S = .ok d S := rfl
@[simp] theorem get_mk (i : Nat) : En.get ⟨l, c⟩ i = (l[i]?).bind id := rfl
@[simp] theorem set_mk (i : Nat) (d : D) : En.set ⟨l, none⟩ i d = ⟨l.set i (some d), none⟩ := rfl
@[simp] theorem set_mkc (i j g : Nat) (cs : List D) (d : D) : En.set ⟨l, some (j, g, cs)⟩ i d = ⟨l.set i (some d), if j = i then none else some (j, g, cs)⟩ := rfl
@[simp] theorem wipe_mk (vs : List Nat) : En.wipe ⟨l, none⟩ vs = ⟨wipeD l vs, none⟩ := rfl
@[simp] theorem wipe_mkc (j g : Nat) (cs : List D) (vs : List Nat) : En.wipe ⟨l, some (j, g, cs)⟩ vs = ⟨wipeD l vs, if j ∈ vs then none else some (j, g, cs)⟩ := rfl
@[simp] theorem wipeD_nil : wipeD l [] = l := rfl
@[simp] theorem wipeD_cons (v : Nat) (vs : List Nat) : wipeD l (v :: vs) = (wipeD l vs).set v none := rfl
@[simp] theorem e_var (i : Nat) : (Ex.var i).den m ρ S = gv (ρ.get i) S := by
  show rVar i ρ S = _
  unfold rVar
  cases ρ.get i <;> rfl
@[simp] theorem e_cst (d : D) : (Ex.cst d).den m ρ S = .ok d S := rfl
@[simp] theorem e_glob (x : Str) : (Ex.glob x).den m ρ S = gv (m.k x) S := by
  show (match m.k x with
    | some d => rK d
    | none => fun _ _ => Mt.R.no) ρ S = _
  cases m.k x <;> rfl
def kb (g : Sto → D → D → Option D) (b : Ex) (m : Mm) (ρ : En) (x : D) (S : Sto) : R D := (b.den m ρ S).bind fun y S2 => ofO S2 (g S2 x y)
def kb2 (g : Sto → D → D → Option D) (x : D) (y : D) (S : Sto) : R D := ofO S (g S x y)
@[simp] theorem kb_eq (g : Sto → D → D → Option D) (b : Ex) (x : D) : kb g b m ρ x S = (b.den m ρ S).bind (kb2 g x) := rfl
@[simp] theorem kb2_eq (g : Sto → D → D → Option D) (x y : D) : kb2 g x y S = ofO S (g S x y) := rfl
@[simp] theorem ofO_some (d : D) : ofO S (some d) = .ok d S := rfl
@[simp] theorem e_bin (o : Bo) (a b : Ex) : (Ex.bin o a b).den m ρ S = (a.den m ρ S).bind (kb o.g b m ρ) := rfl
@[simp] theorem e_cmp (o : Co) (a b : Ex) : (Ex.cmp o a b).den m ρ S = (a.den m ρ S).bind (kb o.g b m ρ) := rfl
@[simp] theorem e_ix (a b : Ex) : (Ex.ix a b).den m ρ S = (a.den m ρ S).bind (kb dIx b m ρ) := rfl
def kq (g : G2) (b : Ex) (m : Mm) (ρ : En) (x : D) (S : Sto) : R D := (b.den m ρ S).bind fun y S2 => only (g S2 x y)
def kq2 (g : G2) (x y : D) (S : Sto) : R D := only (g S x y)
@[simp] theorem kq_eq (g : G2) (b : Ex) (x : D) : kq g b m ρ x S = (b.den m ρ S).bind (kq2 g x) := rfl
@[simp] theorem kq2_eq (g : G2) (x y : D) : kq2 g x y S = only (g S x y) := rfl
@[simp] theorem only_ok {α : Type} (d : α) : only (R.ok d S) = .ok d S := rfl
@[simp] theorem e_addN (a b : Ex) : (Ex.addN a b).den m ρ S = (a.den m ρ S).bind (kq gAddN b m ρ) := rfl
@[simp] theorem e_eq (a b : Ex) : (Ex.eq a b).den m ρ S = (a.den m ρ S).bind (kq (gEq m.T m.P) b m ρ) := rfl
def kNeg (d : D) (S : Sto) : R D := match d with
  | .int i => .ok (.int (-i)) S
  | _ => .no
@[simp] theorem kNeg_int (i : Int) : kNeg (.int i) S = .ok (.int (-i)) S := rfl
@[simp] theorem e_neg (a : Ex) : (Ex.neg a).den m ρ S = (a.den m ρ S).bind kNeg := by
  show rNeg (a.den m) ρ S = _
  unfold rNeg rOp1
  cases a.den m ρ S with
  | ok d S => cases d <;> rfl
  | ex c fs S => rfl
  | no => rfl
def kch (g h : Sto → D → D → Option D) (b c : Ex) (m : Mm) (ρ : En) (x : D) (S : Sto) : R D := (b.den m ρ S).bind fun y S2 => (ofO S2 (g S2 x y)).bind fun z S3 => cond z ((c.den m ρ S3).bind fun w S4 => ofO S4 (h S4 y w)) (.ok (.bl false) S3)
def kch2 (g h : Sto → D → D → Option D) (c : Ex) (m : Mm) (ρ : En) (x y : D) (S : Sto) : R D := (ofO S (g S x y)).bind fun z S3 => cond z ((c.den m ρ S3).bind fun w S4 => ofO S4 (h S4 y w)) (.ok (.bl false) S3)
def kch3 (h : Sto → D → D → Option D) (c : Ex) (m : Mm) (ρ : En) (y : D) (z : D) (S : Sto) : R D := cond z ((c.den m ρ S).bind fun w S4 => ofO S4 (h S4 y w)) (.ok (.bl false) S)
@[simp] theorem kch_eq (g h : Sto → D → D → Option D) (b c : Ex) (x : D) : kch g h b c m ρ x S = (b.den m ρ S).bind (kch2 g h c m ρ x) := rfl
@[simp] theorem kch2_eq (g h : Sto → D → D → Option D) (c : Ex) (x y : D) : kch2 g h c m ρ x y S = (ofO S (g S x y)).bind (kch3 h c m ρ y) := rfl
@[simp] theorem kch3_t (h : Sto → D → D → Option D) (c : Ex) (y : D) : kch3 h c m ρ y (.bl true) S = (c.den m ρ S).bind (kb2 h y) := rfl
@[simp] theorem kch3_f (h : Sto → D → D → Option D) (c : Ex) (y : D) : kch3 h c m ρ y (.bl false) S = .ok (.bl false) S := rfl
@[simp] theorem e_chain (o p : Co) (a b c : Ex) : (Ex.chain o p a b c).den m ρ S = (a.den m ρ S).bind (kch o.g p.g b c m ρ) := rfl
def kAnd (r : Es) (m : Mm) (ρ : En) (d : D) (S : Sto) : R D := cond d (r.dAnd m ρ S) (.ok (.bl false) S)
@[simp] theorem kAnd_t (r : Es) : kAnd r m ρ (.bl true) S = r.dAnd m ρ S := rfl
@[simp] theorem kAnd_f (r : Es) : kAnd r m ρ (.bl false) S = .ok (.bl false) S := rfl
@[simp] theorem e_and (es : Es) : (Ex.and es).den m ρ S = es.dAnd m ρ S := rfl
@[simp] theorem dAnd1 (e : Ex) : (Es.cons e .nil).dAnd m ρ S = e.den m ρ S := rfl
@[simp] theorem dAnd2 (e f : Ex) (r : Es) : (Es.cons e (.cons f r)).dAnd m ρ S = (e.den m ρ S).bind (kAnd (.cons f r) m ρ) := rfl
def kOr (r : Es) (m : Mm) (ρ : En) (d : D) (S : Sto) : R D := cond d (.ok (.bl true) S) (r.dOr m ρ S)
@[simp] theorem kOr_t (r : Es) : kOr r m ρ (.bl true) S = .ok (.bl true) S := rfl
@[simp] theorem kOr_f (r : Es) : kOr r m ρ (.bl false) S = r.dOr m ρ S := rfl
@[simp] theorem e_or (es : Es) : (Ex.or es).den m ρ S = es.dOr m ρ S := rfl
@[simp] theorem dOr1 (e : Ex) : (Es.cons e .nil).dOr m ρ S = e.den m ρ S := rfl
@[simp] theorem dOr2 (e f : Ex) (r : Es) : (Es.cons e (.cons f r)).dOr m ρ S = (e.den m ρ S).bind (kOr (.cons f r) m ρ) := rfl
def kNot (d : D) (S : Sto) : R D := match d with
  | .bl b => .ok (.bl !b) S
  | _ => .no
@[simp] theorem kNot_bl (b : Bool) : kNot (.bl b) S = .ok (.bl !b) S := rfl
@[simp] theorem e_not (a : Ex) : (Ex.not a).den m ρ S = (a.den m ρ S).bind kNot := by
  show rNot (a.den m) ρ S = _
  unfold rNot
  cases a.den m ρ S with
  | ok d S => cases d <;> first | rfl | (rename_i b; cases b <;> rfl)
  | ex c fs S => rfl
  | no => rfl
def kIf (a b : Ex) (m : Mm) (ρ : En) (d : D) (S : Sto) : R D := cond d (a.den m ρ S) (b.den m ρ S)
@[simp] theorem kIf_t (a b : Ex) : kIf a b m ρ (.bl true) S = a.den m ρ S := rfl
@[simp] theorem kIf_f (a b : Ex) : kIf a b m ρ (.bl false) S = b.den m ρ S := rfl
@[simp] theorem e_ite (c a b : Ex) : (Ex.ite c a b).den m ρ S = (c.den m ρ S).bind (kIf a b m ρ) := rfl
def kc (r : Es) (m : Mm) (ρ : En) (d : D) (S : Sto) : R (List D) := (r.den m ρ S).bind fun ds S2 => .ok (d :: ds) S2
def kc2 (d : D) (ds : List D) (S : Sto) : R (List D) := .ok (d :: ds) S
@[simp] theorem kc_eq (r : Es) (d : D) : kc r m ρ d S = (r.den m ρ S).bind (kc2 d) := rfl
@[simp] theorem kc2_eq (d : D) (ds : List D) : kc2 d ds S = .ok (d :: ds) S := rfl
@[simp] theorem es_nil : (Es.nil).den m ρ S = .ok [] S := rfl
@[simp] theorem es_cons (e : Ex) (r : Es) : (Es.cons e r).den m ρ S = (e.den m ρ S).bind (kc r m ρ) := rfl
def kTup (ds : List D) (S : Sto) : R D := if ds.length ≤ big then .ok (.tup ds) S else .no
theorem kTup_eq {ds : List D} (h : ds.length ≤ big) : kTup ds S = .ok (.tup ds) S := if_pos h
@[simp] theorem kTup0 : kTup [] S = .ok (.tup []) S := rfl
@[simp] theorem kTup1 (a : D) : kTup [a] S = .ok (.tup [a]) S := rfl
@[simp] theorem kTup2 (a b : D) : kTup [a, b] S = .ok (.tup [a, b]) S := rfl
@[simp] theorem kTup3 (a b c : D) : kTup [a, b, c] S = .ok (.tup [a, b, c]) S := rfl
@[simp] theorem kTup4 (a b c d : D) : kTup [a, b, c, d] S = .ok (.tup [a, b, c, d]) S := rfl
@[simp] theorem e_tup (es : Es) : (Ex.tup es).den m ρ S = (es.den m ρ S).bind kTup := rfl
def kLs (ds : List D) (S : Sto) : R D := if ds.length ≤ big then .ok (.lst ds) S else .no
theorem kLs_eq {ds : List D} (h : ds.length ≤ big) : kLs ds S = .ok (.lst ds) S := if_pos h
@[simp] theorem e_lst (es : Es) : (Ex.lst false es).den m ρ S = (es.den m ρ S).bind kLs := rfl
def kLsN (ds : List D) (S : Sto) : R D := if ds.length ≤ big then .ok (.loc S.length) (S ++ [.lst ds]) else .no
@[simp] theorem e_lstN (es : Es) : (Ex.lst true es).den m ρ S = (es.den m ρ S).bind kLsN := rfl
def kCall (g : Sto → List D → Option D) (d : D) (S : Sto) : R D := ofO S (g S [d])
@[simp] theorem kCall_eq (g : Sto → List D → Option D) (d : D) : kCall g d S = ofO S (g S [d]) := rfl
theorem rCall1 (g : Sto → List D → Option D) (ra : Run) : rCall g (rCons ra rNil) ρ S = (ra ρ S).bind (kCall g) := by
  unfold rCall rCons rNil
  cases ra ρ S <;> rfl
@[simp] theorem e_call (b : Bn) (e : Ex) : (Ex.call b e).den m ρ S = (e.den m ρ S).bind (kCall b.g) := rCall1 _ _
@[simp] theorem e_sorted (e : Ex) : (Ex.sorted false e).den m ρ S = (e.den m ρ S).bind (kCall fun S ds => ((on1L dSorted) S ds).map .lst) := rCall1 _ _
@[simp] theorem e_list (e : Ex) : (Ex.list false e).den m ρ S = (e.den m ρ S).bind (kCall fun S ds => ((on1L dList) S ds).map .lst) := rCall1 _ _
def kNewO (g : Sto → List D → Option Ob) (d : D) (S : Sto) : R D := newO S (g S [d])
@[simp] theorem kNewO_eq (g : Sto → List D → Option Ob) (d : D) : kNewO g d S = newO S (g S [d]) := rfl
@[simp] theorem newO_some (o : Ob) : newO S (some o) = .ok (.loc S.length) (S ++ [o]) := rfl
theorem rCallN1 (g : Sto → List D → Option Ob) (ra : Run) : rCallN g (rCons ra rNil) ρ S = (ra ρ S).bind (kNewO g) := by
  unfold rCallN rCons rNil
  cases ra ρ S <;> rfl
@[simp] theorem e_dictOf (e : Ex) : (Ex.dictOf e).den m ρ S = (e.den m ρ S).bind (kNewO dDict) := rCallN1 _ _
@[simp] theorem e_sortedN (e : Ex) : (Ex.sorted true e).den m ρ S = (e.den m ρ S).bind (kNewO fun S ds => ((on1L dSorted) S ds).map .lst) := rCallN1 _ _
@[simp] theorem e_listN (e : Ex) : (Ex.list true e).den m ρ S = (e.den m ρ S).bind (kNewO fun S ds => ((on1L dList) S ds).map .lst) := rCallN1 _ _
def kFn (p : Fn) (ds : List D) (S : Sto) : R D := p ds S
@[simp] theorem kFn_eq (p : Fn) (ds : List D) : kFn p ds S = p ds S := rfl
@[simp] theorem e_fn (q : Str) (es : Es) : (Ex.fn q es).den m ρ S = (es.den m ρ S).bind (kFn (m.P q)) := rfl
def kMake (P : Pr) (c q : Str) (ds : List D) (S : Sto) : R D := (P q (.loc S.length :: ds) (S ++ [.ins c []])).bind fun d S2 => if d = .non then .ok (.loc S.length) S2 else .no
def kMake2 (S : Sto) (d : D) (S2 : Sto) : R D := if d = .non then .ok (.loc S.length) S2 else .no
@[simp] theorem kMake_eq (P : Pr) (c q : Str) (ds : List D) : kMake P c q ds S = (P q (.loc S.length :: ds) (S ++ [.ins c []])).bind (kMake2 S) := rfl
@[simp] theorem kMake2_eq : kMake2 S .non S1 = .ok (.loc S.length) S1 := rfl
@[simp] theorem e_make (c q : Str) (es : Es) : (Ex.make c q es).den m ρ S = (es.den m ρ S).bind (kMake m.P c q) := rfl
def kAttr (T : Tab) (P : Pr) (f : Str) (d : D) (S : Sto) : R D := match insOf S d with
  | some (c, fs) => (match T.prop c f with
    | some q => only (P q [d] S)
    | none => if T.fld c f then ofO S (ffind fs f) else .no)
  | none => .no
@[simp] theorem e_attr (o : Ex) (f : Str) : (Ex.attr o f).den m ρ S = (o.den m ρ S).bind (kAttr m.T m.P f) := rfl
theorem kAttr_fld {T : Tab} {P : Pr} {f c : Str} {fs : List (Str × D)} {d v : D} (h1 : insOf S d = some (c, fs)) (h2 : T.prop c f = none) (h3 : T.fld c f = true) (h4 : ffind fs f = some v) : kAttr T P f d S = .ok v S := by
  unfold kAttr
  rw [h1]; dsimp only; rw [h2]; dsimp only; rw [h3, h4]; rfl
theorem kAttr_prop {T : Tab} {P : Pr} {f c q : Str} {fs : List (Str × D)} {d : D} (h1 : insOf S d = some (c, fs)) (h2 : T.prop c f = some q) : kAttr T P f d S = only (P q [d] S) := by
  unfold kAttr
  rw [h1]; dsimp only; rw [h2]
def kIsi (pl : Str → Bool) (t : Tg) (d : D) (S : Sto) : R D := match tagOf S d with
  | some g => (match isAns pl g t with
    | some b => .ok (.bl b) S
    | none => .no)
  | none => .no
@[simp] theorem e_isi (t : Tg) (e : Ex) : (Ex.isi t e).den m ρ S = (e.den m ρ S).bind (kIsi m.T.pl t) := rfl
def kBm (T : Bt) (g : Mg) (es : Es) (m : Mm) (ρ : En) (d : D) (S : Sto) : R D := if T.is S d then (es.den m ρ S).bind fun ds S2 => match g S2 d ds with
  | some (r, S3) => .ok r S3
  | none => .no else .no
def kBm2 (g : Mg) (d : D) (ds : List D) (S : Sto) : R D := match g S d ds with
  | some (r, S3) => .ok r S3
  | none => .no
@[simp] theorem e_bm (b : Bm) (o : Ex) (es : Es) : (Ex.bm b o es).den m ρ S = (o.den m ρ S).bind (kBm b.t b.g es m ρ) := rfl
theorem kBm_eq {T : Bt} {g : Mg} {es : Es} {d : D} (h : T.is S d = true) : kBm T g es m ρ d S = (es.den m ρ S).bind (kBm2 g d) := if_pos h
theorem kBm2_eq {g : Mg} {d r : D} {ds : List D} (h : g S d ds = some (r, S1)) : kBm2 g d ds S = .ok r S1 := by
  unfold kBm2; rw [h]
def kMeth (T : Tab) (P : Pr) (f : Str) (es : Es) (m : Mm) (ρ : En) (d : D) (S : Sto) : R D := match insOf S d with
  | some (c, fs) => (match T.meth c f, ffind fs f with
    | some q, none => (es.den m ρ S).bind fun ds S2 => P q (d :: ds) S2
    | _, _ => .no)
  | none => .no
def kMeth2 (p : Fn) (d : D) (ds : List D) (S : Sto) : R D := p (d :: ds) S
@[simp] theorem kMeth2_eq (p : Fn) (d : D) (ds : List D) : kMeth2 p d ds S = p (d :: ds) S := rfl
@[simp] theorem e_meth (o : Ex) (f : Str) (es : Es) : (Ex.meth o f es).den m ρ S = (o.den m ρ S).bind (kMeth m.T m.P f es m ρ) := rfl
theorem kMeth_eq {T : Tab} {P : Pr} {f c q : Str} {es : Es} {fs : List (Str × D)} {d : D} (h1 : insOf S d = some (c, fs)) (h2 : T.meth c f = some q) (h3 : ffind fs f = none) : kMeth T P f es m ρ d S = (es.den m ρ S).bind (kMeth2 (P q) d) := by
  unfold kMeth
  rw [h1]; dsimp only; rw [h2, h3]; rfl
@[simp] theorem e_dict0 : (Ex.dict .nil).den m ρ S = .ok (.loc S.length) (S ++ [.dic []]) := rfl
@[simp] theorem e_dict (k v : Ex) (r : Ks) : (Ex.dict (.cons k v r)).den m ρ S = rDict ((Ks.cons k v r).den m) ρ S := rfl
def kSrt (d : D) (S : Sto) : R D := match dSortSet S d with
  | some xs => .ok (.lst xs) S
  | none => .no
@[simp] theorem e_srt (e : Ex) : (Ex.srt e).den m ρ S = (e.den m ρ S).bind kSrt := rfl
def kFnL (pc : D → Nat → List D → Sto → R D) (g : Nat) (o : Option (List D)) (d : D) (S : Sto) : R D := match o with
  | some cs => pc d g cs S
  | none => .no
@[simp] theorem kFnL_eq (pc : D → Nat → List D → Sto → R D) (g : Nat) (cs : List D) (d : D) : kFnL pc g (some cs) d S = pc d g cs S := rfl
@[simp] theorem e_fnL (q : Str) (g : Nat) (js : List Nat) (par fr : List Str) (e : Ex) : (Ex.fnL q g js par fr e).den m ρ S = (e.den m ρ S).bind (kFnL (m.PC q) g (gets ρ js)) := rfl
@[simp] theorem gets_nil : gets ρ [] = some [] := rfl
@[simp] theorem gets_cons (j : Nat) (js : List Nat) : gets ρ (j :: js) = match ρ.get j, gets ρ js with
    | some d, some ds => some (d :: ds)
    | _, _ => none := rfl
def kClo (lb : Run) (cs : List D) (ds : List D) (S : Sto) : R D := if ds.length = 1 then only (lb (enOf ds cs) S) else .no
@[simp] theorem kClo_eq (lb : Run) (cs : List D) (d : D) : kClo lb cs [d] S = only (lb ⟨some d :: cs.map some, none⟩ S) := rfl
@[simp] theorem e_clo (i g : Nat) (cs : List D) (es : Es) : (Ex.clo i es).den m ⟨l, some (i, g, cs)⟩ S = (es.den m ⟨l, some (i, g, cs)⟩ S).bind (kClo (m.lb g) cs) := by
  show rClo i m.lb (es.den m) ⟨l, some (i, g, cs)⟩ S = _
  unfold rClo
  dsimp only
  rw [if_pos rfl]; rfl
@[simp] theorem e_lock (d e : Ex) : (Ex.lock d e).den m ρ S = rLk (lkOf (d.den m)) (e.den m) ρ S := rfl
@[simp] theorem eo_none : (Eo.none).denP m ρ S = .ok none S := rfl
def kpI (d : D) (S : Sto) : R (Option Int) := match d with
  | .int i => .ok (some i) S
  | _ => .no
@[simp] theorem kpI_int (i : Int) : kpI (.int i) S = .ok (some i) S := rfl
@[simp] theorem eo_some (e : Ex) : (Eo.some e).denP m ρ S = (e.den m ρ S).bind kpI := rfl
def gCutA (S : Sto) (d : D) (lo hi : Option Int) : Option D := (dCut S d lo hi).or ((dCutL S d lo hi).map .lst)
def kCut (lo hi : Eo) (m : Mm) (ρ : En) (d : D) (S : Sto) : R D := (lo.denP m ρ S).bind fun l S2 => (hi.denP m ρ S2).bind fun h S3 => ofO S3 (gCutA S3 d l h)
def kCut2 (hi : Eo) (m : Mm) (ρ : En) (d : D) (l : Option Int) (S : Sto) : R D := (hi.denP m ρ S).bind fun h S3 => ofO S3 (gCutA S3 d l h)
def kCut3 (d : D) (l : Option Int) (h : Option Int) (S : Sto) : R D := ofO S (gCutA S d l h)
@[simp] theorem kCut_eq (lo hi : Eo) (d : D) : kCut lo hi m ρ d S = (lo.denP m ρ S).bind (kCut2 hi m ρ d) := rfl
@[simp] theorem kCut2_eq (hi : Eo) (d : D) (a : Option Int) : kCut2 hi m ρ d a S = (hi.denP m ρ S).bind (kCut3 d a) := rfl
@[simp] theorem kCut3_eq (d : D) (a b : Option Int) : kCut3 d a b S = ofO S (gCutA S d a b) := rfl
@[simp] theorem e_cut (a : Ex) (lo hi : Eo) : (Ex.cut a lo hi).den m ρ S = (a.den m ρ S).bind (kCut lo hi m ρ) := rfl
/-! walks -/
def kSeq (d : D) (S : Sto) : R (List D × Ck) := match dSeq S d with
  | some p => .ok p S
  | none => .no
@[simp] theorem w_seq (e : Ex) : (Iw.seq e).den m ρ S = (e.den m ρ S).bind kSeq := rfl
@[simp] theorem kSeq_tup (xs : List D) : kSeq (.tup xs) S = .ok (xs, .free) S := rfl
@[simp] theorem kSeq_lst (xs : List D) : kSeq (.lst xs) S = .ok (xs, .free) S := rfl
def kOver (f : Sto → D → Option (List D)) (d : D) (S : Sto) : R (List D × Ck) := match f S d with
  | some xs => .ok (xs, .free) S
  | none => .no
@[simp] theorem w_keys (e : Ex) : (Iw.keys e).den m ρ S = (e.den m ρ S).bind (kOver dKeys) := rfl
@[simp] theorem w_items (e : Ex) : (Iw.items e).den m ρ S = (e.den m ρ S).bind (kOver dItems) := rfl
@[simp] theorem w_signs (e : Ex) : (Iw.signs e).den m ρ S = (e.den m ρ S).bind (kOver dSigns) := rfl
theorem kOver_eq {f : Sto → D → Option (List D)} {d : D} {xs : List D} (h : f S d = some xs) : kOver f d S = .ok (xs, .free) S := by
  unfold kOver; rw [h]
def kRange (d : D) (S : Sto) : R (List D × Ck) := match d with
  | .int j => if -(2 ^ 62) ≤ j ∧ j < 2 ^ 62 then .ok ((List.range j.toNat).map fun i : Nat => .int i, .free) S else .no
  | _ => .no
theorem w_range_ (e : Ex) : (Iw.range e).den m ρ S = (e.den m ρ S).bind kRange ∧ True := ⟨rfl, trivial⟩
@[simp] theorem w_range (e : Ex) : (Iw.range e).den m ρ S = (e.den m ρ S).bind kRange := (w_range_ e).1
theorem kRange_nat {n : Nat} (h : n < 2 ^ 62) : kRange (.int n) S = .ok ((List.range n).map fun i : Nat => .int i, .free) S := by
  unfold kRange
  dsimp only
  rw [if_pos ⟨by omega, by omega⟩]; rfl
def kEnum (d : D) (S : Sto) : R (List D × Ck) := match dSeq S d with
  | some p => .ok ((p.1.zipIdx).map fun q => .tup [.int (q.2 : Nat), q.1], p.2) S
  | none => .no
@[simp] theorem w_enum (e : Ex) : (Iw.enum e).den m ρ S = (e.den m ρ S).bind kEnum := rfl
@[simp] theorem kEnum_tup (xs : List D) : kEnum (.tup xs) S = .ok ((xs.zipIdx).map fun q => .tup [.int (q.2 : Nat), q.1], .free) S := rfl
@[simp] theorem kEnum_lst (xs : List D) : kEnum (.lst xs) S = .ok ((xs.zipIdx).map fun q => .tup [.int (q.2 : Nat), q.1], .free) S := rfl
def kLc (own : List (Str × Nat)) (g : Tgt) (c : Option Run) (e : Run) (ρ : En) (k : List D → Sto → R D) (p : List D × Ck) (S : Sto) : R D := (only (rLcGo g c e p.2 (ρ.wipe (own.map (·.2))) p.1 [] S)).bind k
@[simp] theorem kLc_eq (own : List (Str × Nat)) (g : Tgt) (c : Option Run) (e : Run) (k : List D → Sto → R D) (xs : List D) (ck : Ck) : kLc own g c e ρ k (xs, ck) S = (only (rLcGo g c e ck (ρ.wipe (own.map (·.2))) xs [] S)).bind k := rfl
theorem rLcM_eq (ri : RunI) (g : Tgt) (rc : Option Run) (re : Run) (own : List (Str × Nat)) (k : List D → Sto → R D) : rLcM ri g rc re (own.map (·.2)) k ρ S = (ri ρ S).bind (kLc own g rc re ρ k) := by
  unfold rLcM
  cases ri ρ S <;> rfl
@[simp] theorem e_lc (own : List (Str × Nat)) (it : Iw) (tg : Gt) (c : Eo) (e : Ex) : (Ex.lc false own it tg c e).den m ρ S = (it.den m ρ S).bind (kLc own (tg.den m) (c.denC m) (e.den m) ρ kLst) := rLcM_eq _ _ _ _ _ _
@[simp] theorem e_lcN (own : List (Str × Nat)) (it : Iw) (tg : Gt) (c : Eo) (e : Ex) : (Ex.lc true own it tg c e).den m ρ S = (it.den m ρ S).bind (kLc own (tg.den m) (c.denC m) (e.den m) ρ kNew) := rLcM_eq _ _ _ _ _ _
@[simp] theorem kLst_eq (ds : List D) : kLst ds S = .ok (.lst ds) S := rfl
@[simp] theorem kNew_eq (ds : List D) : kNew ds S = .ok (.loc S.length) (S ++ [.lst ds]) := rfl
@[simp] theorem denC_none : (Eo.none).denC m = none := rfl
@[simp] theorem denC_some (e : Ex) : (Eo.some e).denC m = some (e.den m) := rfl
@[simp] theorem gt_name (i : Nat) : (Gt.name i).den m = gtName i := rfl
@[simp] theorem gtName_eq (i : Nat) (d : D) : gtName i d ρ S = some (ρ.set i d, S) := rfl
/-- a comprehension without a test whose element leaves the store -/
theorem lcGo_map {g : Tgt} {re : Run} {ck : Ck} {h : D → D} : ∀ (xs acc : List D), (∀ x ∈ xs, ∃ ρ', g x ρ S = some (ρ', S) ∧ re ρ' S = .ok (h x) S) → ck.ok S = true → acc.length + xs.length ≤ big → rLcGo g none re ck ρ xs acc S = .ok (acc ++ xs.map h) S
  | [], acc, _, hc, _ => by
    rw [rLcGo, if_pos hc, List.map_nil, List.append_nil]
  | x :: xs, acc, hx, hc, hb => by
    obtain ⟨ρ', e1, e2⟩ := hx x (List.mem_cons_self ..)
    rw [List.length_cons] at hb
    rw [rLcGo, if_pos (by rw [hc, Bool.true_and]; exact decide_eq_true (by omega)), e1]
    dsimp only
    rw [e2]
    dsimp only
    rw [lcGo_map xs (acc ++ [h x]) (fun y hy => hx y (List.mem_cons_of_mem _ hy)) hc (by rw [List.length_append]; simp; omega)]
    simp
/-- with a test -/
theorem lcGo_filter {g : Tgt} {rc re : Run} {ck : Ck} {h : D → D} {p : D → Bool} : ∀ (xs acc : List D), (∀ x ∈ xs, ∃ ρ', g x ρ S = some (ρ', S) ∧ rc ρ' S = .ok (.bl (p x)) S ∧ re ρ' S = .ok (h x) S) → ck.ok S = true → acc.length + xs.length ≤ big → rLcGo g (some rc) re ck ρ xs acc S = .ok (acc ++ (xs.filter p).map h) S
  | [], acc, _, hc, _ => by
    rw [rLcGo, if_pos hc, List.filter_nil, List.map_nil, List.append_nil]
  | x :: xs, acc, hx, hc, hb => by
    obtain ⟨ρ', e1, e2, e3⟩ := hx x (List.mem_cons_self ..)
    rw [List.length_cons] at hb
    rw [rLcGo, if_pos (by rw [hc, Bool.true_and]; exact decide_eq_true (by omega)), e1]
    dsimp only
    rw [e2]
    cases hp : p x with
    | true =>
      dsimp only
      rw [e3]
      dsimp only
      rw [lcGo_filter xs (acc ++ [h x]) (fun y hy => hx y (List.mem_cons_of_mem _ hy)) hc (by rw [List.length_append]; simp; omega)]
      simp [hp]
    | false =>
      dsimp only
      rw [lcGo_filter xs acc (fun y hy => hx y (List.mem_cons_of_mem _ hy)) hc (by omega)]
      simp [hp]
/-! statements -/
@[simp] theorem ss_nil_ : (Ss.nil).den m ρ S = .next ρ S := rfl
@[simp] theorem ss_cons_ (s : St) (r : Ss) : (Ss.cons s r).den m ρ S = andThen (s.den m ρ S) (r.den m) := rfl
@[simp] theorem then_next (k : RunS) : andThen (.next ρ S) k = k ρ S := rfl
@[simp] theorem then_ret (d : D) (k : RunS) : andThen (.ret d S) k = .ret d S := rfl
@[simp] theorem then_ex (e : Str) (fs : List (Str × D)) (k : RunS) : andThen (.ex e fs ρ S) k = .ex e fs ρ S := rfl
def kRet (d : D) (S : Sto) : Fs := .ret d S
@[simp] theorem kRet_eq (d : D) : kRet d S = .ret d S := rfl
def kExpr (ρ : En) (_ : D) (S : Sto) : Fs := .next ρ S
@[simp] theorem kExpr_eq (d : D) : kExpr ρ d S = .next ρ S := rfl
def kIte (a b : Ss) (m : Mm) (ρ : En) (d : D) (S : Sto) : Fs := condS d (a.den m ρ S) (b.den m ρ S)
@[simp] theorem kIte_t (a b : Ss) : kIte a b m ρ (.bl true) S = a.den m ρ S := rfl
@[simp] theorem kIte_f (a b : Ss) : kIte a b m ρ (.bl false) S = b.den m ρ S := rfl
def kAsg2 : Option (En × Sto) → Fs
  | some o => .next o.1 o.2
  | none => .no
@[simp] theorem kAsg2_eq (r : En) : kAsg2 (some (r, S)) = .next r S := rfl
def kAsg (g : Tgt) (ρ : En) (d : D) (S : Sto) : Fs := kAsg2 (g d ρ S)
@[simp] theorem kAsg_eq (g : Tgt) (d : D) : kAsg g ρ d S = kAsg2 (g d ρ S) := rfl
theorem rsAsg_eq (ra : Run) (g : Tgt) : rsAsg ra g ρ S = toS (ra ρ S) ρ (kAsg g ρ) := by
  unfold rsAsg
  cases ra ρ S with
  | ok d S1 =>
    show (match g d ρ S1 with
      | some o => Fs.next o.1 o.2
      | none => .no) = kAsg2 (g d ρ S1)
    cases g d ρ S1 <;> rfl
  | ex c fs S1 => rfl
  | no => rfl
@[simp] theorem s_pass_ : (St.pass).den m ρ S = .next ρ S := rfl
@[simp] theorem s_expr_ (e : Ex) : (St.expr e).den m ρ S = toS (e.den m ρ S) ρ (kExpr ρ) := rfl
@[simp] theorem s_ret_ (e : Ex) : (St.ret e).den m ρ S = toS (e.den m ρ S) ρ kRet := rfl
@[simp] theorem s_retN_ : (St.retN).den m ρ S = .ret .non S := rfl
@[simp] theorem s_ite_ (c : Ex) (a b : Ss) : (St.ite c a b).den m ρ S = toS (c.den m ρ S) ρ (kIte a b m ρ) := rfl
@[simp] theorem s_asg_ (t : Gt) (e : Ex) : (St.asg t e).den m ρ S = toS (e.den m ρ S) ρ (kAsg (t.den m) ρ) := rsAsg_eq _ _
@[simp] theorem s_setLc_ (i : Nat) (own : List (Str × Nat)) (it : Iw) (tg : Gt) (c : Eo) (e : Ex) : (St.setLc i false own it tg c e).den m ρ S = toS ((Ex.lc false own it tg c e).den m ρ S) ρ (kAsg (gtName i) ρ) := rsAsg_eq _ _
@[simp] theorem s_setLcN_ (i : Nat) (own : List (Str × Nat)) (it : Iw) (tg : Gt) (c : Eo) (e : Ex) : (St.setLc i true own it tg c e).den m ρ S = toS ((Ex.lc true own it tg c e).den m ρ S) ρ (kAsg (gtName i) ρ) := rsAsg_eq _ _
def kRaise (c f : Str) (ρ : En) (d : D) (S : Sto) : Fs := .ex c [(f, d)] ρ S
@[simp] theorem kRaise_eq (e f : Str) (d : D) : kRaise e f ρ d S = .ex e [(f, d)] ρ S := rfl
@[simp] theorem s_raise1_ (e f : Str) (a : Ex) : (St.raise1 e f a).den m ρ S = toS (a.den m ρ S) ρ (kRaise e f ρ) := rfl
@[simp] theorem s_raise0_ (e : Str) : (St.raise0 e).den m ρ S = .ex e [] ρ S := rfl
@[simp] theorem s_try_ (b : Ss) (hs : Hs) : (St.try_ b hs).den m ρ S = rsTry m.t.ex (b.den m) (hs.den m) ρ S := rfl
@[simp] theorem s_lock_ (d : Ex) (s : St) : (St.lock d s).den m ρ S = rsLk (lkOf (d.den m)) (s.den m) ρ S := rfl
def kFor (g : Tgt) (b : RunS) (ρ : En) : R (List D × Ck) → Fs
  | .ok p S1 => rsForGo g b p.2 p.1 ρ S1
  | .ex c fs S1 => .ex c fs ρ S1
  | .no => .no
@[simp] theorem kFor_ok (g : Tgt) (b : RunS) (xs : List D) (ck : Ck) : kFor g b ρ (.ok (xs, ck) S) = rsForGo g b ck xs ρ S := rfl
@[simp] theorem s_for_ (it : Iw) (g : Gt) (b : Ss) : (St.for_ it g b).den m ρ S = kFor (g.den m) (b.den m) ρ (it.den m ρ S) := by
  show rsFor _ _ _ ρ S = _
  unfold rsFor
  cases it.den m ρ S <;> rfl
def kPar (is : List Nat) (ρ : En) : R (List D) → Fs
  | .ok ds S1 => if ds.length = is.length then .next ((is.zip ds).foldl (fun r p => r.set p.1 p.2) ρ) S1 else .no
  | .ex c fs S1 => .ex c fs ρ S1
  | .no => .no
@[simp] theorem kPar2 (i j : Nat) (a b : D) : kPar [i, j] ρ (.ok [a, b] S) = .next ((ρ.set i a).set j b) S := rfl
@[simp] theorem s_par_ (is : List Nat) (es : Es) : (St.par is es).den m ρ S = kPar is ρ (es.den m ρ S) := by
  show rsPar is _ ρ S = _
  unfold rsPar
  cases es.den m ρ S <;> rfl
@[simp] theorem runOf_ret (d : D) : runOf (.ret d S) = .ok d S := rfl
@[simp] theorem runOf_next : runOf (.next ρ S) = .ok .non S := rfl
@[simp] theorem runOf_ex (e : Str) (fs : List (Str × D)) : runOf (.ex e fs ρ S) = .ex e fs S := rfl
@[simp] theorem for_nil (g : Tgt) (b : RunS) : rsForGo g b .free [] ρ S = .next ρ S := rfl
def kTurn (g : Tgt) (b : RunS) (ck : Ck) (r : List D) : Fs → Fs
  | .next ρ' S' => rsForGo g b ck r ρ' S'
  | .cont ρ' S' => rsForGo g b ck r ρ' S'
  | .brk ρ' S' => .next ρ' S'
  | f => f
@[simp] theorem kTurn_next (g : Tgt) (b : RunS) (ck : Ck) (r : List D) : kTurn g b ck r (.next ρ S) = rsForGo g b ck r ρ S := rfl
@[simp] theorem kTurn_ret (g : Tgt) (b : RunS) (ck : Ck) (r : List D) (d : D) : kTurn g b ck r (.ret d S) = .ret d S := rfl
@[simp] theorem kTurn_ex (g : Tgt) (b : RunS) (ck : Ck) (r : List D) (e : Str) (fs : List (Str × D)) : kTurn g b ck r (.ex e fs ρ S) = .ex e fs ρ S := rfl
def kTurn0 (b : RunS) : Option (En × Sto) → Fs
  | some o => b o.1 o.2
  | none => .no
@[simp] theorem kTurn0_eq (b : RunS) : kTurn0 b (some (ρ, S)) = b ρ S := rfl
theorem for_cons (g : Tgt) (b : RunS) (d : D) (r : List D) : rsForGo g b .free (d :: r) ρ S = kTurn g b .free r (kTurn0 b (g d ρ S)) := by
  rw [rsForGo, if_pos (show Ck.ok S .free = true from rfl)]
  cases g d ρ S with
  | none => rfl
  | some o =>
    show _ = kTurn g b .free r (b o.1 o.2)
    dsimp only
    cases b o.1 o.2 <;> rfl
theorem run_eq {d : Df} {ds : List D} (h : ds.length = d.np) : d.run m ds S = runOf (d.b.den m ⟨ds.map some ++ List.replicate (d.N.length - d.np) none, none⟩ S) := if_pos h
end
end Mt


set_option Elab.async false
set_option maxRecDepth 100000
set_option autoImplicit false
set_option linter.all false
set_option maxHeartbeats 4000000
/-! Plain data: what the operators give. -/
namespace Mt
open PySem L2
section
variable {S : Sto} {T : Tab} {P : Pr}
@[simp] theorem isi_non_bool (pl : Str → Bool)  : kIsi pl (.b "bool") .non S = .ok (.bl false) S := rfl
@[simp] theorem isi_non_int (pl : Str → Bool)  : kIsi pl (.b "int") .non S = .ok (.bl false) S := rfl
@[simp] theorem isi_non_str (pl : Str → Bool)  : kIsi pl (.b "str") .non S = .ok (.bl false) S := rfl
@[simp] theorem isi_non_tuple (pl : Str → Bool)  : kIsi pl (.b "tuple") .non S = .ok (.bl false) S := rfl
@[simp] theorem isi_non_list (pl : Str → Bool)  : kIsi pl (.b "list") .non S = .ok (.bl false) S := rfl
@[simp] theorem isi_non_dict (pl : Str → Bool)  : kIsi pl (.b "dict") .non S = .ok (.bl false) S := rfl
theorem isi_non_own {pl : Str → Bool} {c : Str}  (h : pl c = true) : kIsi pl (.own c) .non S = .ok (.bl false) S := by
  show (match (if pl c = true then some false else none) with
    | some b => R.ok (D.bl b) S
    | none => .no) = _
  rw [if_pos h]
@[simp] theorem isi_bl_bool (pl : Str → Bool) (b : Bool) : kIsi pl (.b "bool") (.bl b) S = .ok (.bl true) S := rfl
@[simp] theorem isi_bl_int (pl : Str → Bool) (b : Bool) : kIsi pl (.b "int") (.bl b) S = .ok (.bl true) S := rfl
@[simp] theorem isi_bl_str (pl : Str → Bool) (b : Bool) : kIsi pl (.b "str") (.bl b) S = .ok (.bl false) S := rfl
@[simp] theorem isi_bl_tuple (pl : Str → Bool) (b : Bool) : kIsi pl (.b "tuple") (.bl b) S = .ok (.bl false) S := rfl
@[simp] theorem isi_bl_list (pl : Str → Bool) (b : Bool) : kIsi pl (.b "list") (.bl b) S = .ok (.bl false) S := rfl
@[simp] theorem isi_bl_dict (pl : Str → Bool) (b : Bool) : kIsi pl (.b "dict") (.bl b) S = .ok (.bl false) S := rfl
theorem isi_bl_own {pl : Str → Bool} {c : Str} (b : Bool) (h : pl c = true) : kIsi pl (.own c) (.bl b) S = .ok (.bl false) S := by
  show (match (if pl c = true then some false else none) with
    | some b => R.ok (D.bl b) S
    | none => .no) = _
  rw [if_pos h]
@[simp] theorem isi_int_bool (pl : Str → Bool) (i : Int) : kIsi pl (.b "bool") (.int i) S = .ok (.bl false) S := rfl
@[simp] theorem isi_int_int (pl : Str → Bool) (i : Int) : kIsi pl (.b "int") (.int i) S = .ok (.bl true) S := rfl
@[simp] theorem isi_int_str (pl : Str → Bool) (i : Int) : kIsi pl (.b "str") (.int i) S = .ok (.bl false) S := rfl
@[simp] theorem isi_int_tuple (pl : Str → Bool) (i : Int) : kIsi pl (.b "tuple") (.int i) S = .ok (.bl false) S := rfl
@[simp] theorem isi_int_list (pl : Str → Bool) (i : Int) : kIsi pl (.b "list") (.int i) S = .ok (.bl false) S := rfl
@[simp] theorem isi_int_dict (pl : Str → Bool) (i : Int) : kIsi pl (.b "dict") (.int i) S = .ok (.bl false) S := rfl
theorem isi_int_own {pl : Str → Bool} {c : Str} (i : Int) (h : pl c = true) : kIsi pl (.own c) (.int i) S = .ok (.bl false) S := by
  show (match (if pl c = true then some false else none) with
    | some b => R.ok (D.bl b) S
    | none => .no) = _
  rw [if_pos h]
@[simp] theorem isi_str_bool (pl : Str → Bool) (x : Str) : kIsi pl (.b "bool") (.str x) S = .ok (.bl false) S := rfl
@[simp] theorem isi_str_int (pl : Str → Bool) (x : Str) : kIsi pl (.b "int") (.str x) S = .ok (.bl false) S := rfl
@[simp] theorem isi_str_str (pl : Str → Bool) (x : Str) : kIsi pl (.b "str") (.str x) S = .ok (.bl true) S := rfl
@[simp] theorem isi_str_tuple (pl : Str → Bool) (x : Str) : kIsi pl (.b "tuple") (.str x) S = .ok (.bl false) S := rfl
@[simp] theorem isi_str_list (pl : Str → Bool) (x : Str) : kIsi pl (.b "list") (.str x) S = .ok (.bl false) S := rfl
@[simp] theorem isi_str_dict (pl : Str → Bool) (x : Str) : kIsi pl (.b "dict") (.str x) S = .ok (.bl false) S := rfl
theorem isi_str_own {pl : Str → Bool} {c : Str} (x : Str) (h : pl c = true) : kIsi pl (.own c) (.str x) S = .ok (.bl false) S := by
  show (match (if pl c = true then some false else none) with
    | some b => R.ok (D.bl b) S
    | none => .no) = _
  rw [if_pos h]
@[simp] theorem isi_tup_bool (pl : Str → Bool) (xs : List D) : kIsi pl (.b "bool") (.tup xs) S = .ok (.bl false) S := rfl
@[simp] theorem isi_tup_int (pl : Str → Bool) (xs : List D) : kIsi pl (.b "int") (.tup xs) S = .ok (.bl false) S := rfl
@[simp] theorem isi_tup_str (pl : Str → Bool) (xs : List D) : kIsi pl (.b "str") (.tup xs) S = .ok (.bl false) S := rfl
@[simp] theorem isi_tup_tuple (pl : Str → Bool) (xs : List D) : kIsi pl (.b "tuple") (.tup xs) S = .ok (.bl true) S := rfl
@[simp] theorem isi_tup_list (pl : Str → Bool) (xs : List D) : kIsi pl (.b "list") (.tup xs) S = .ok (.bl false) S := rfl
@[simp] theorem isi_tup_dict (pl : Str → Bool) (xs : List D) : kIsi pl (.b "dict") (.tup xs) S = .ok (.bl false) S := rfl
theorem isi_tup_own {pl : Str → Bool} {c : Str} (xs : List D) (h : pl c = true) : kIsi pl (.own c) (.tup xs) S = .ok (.bl false) S := by
  show (match (if pl c = true then some false else none) with
    | some b => R.ok (D.bl b) S
    | none => .no) = _
  rw [if_pos h]
@[simp] theorem isi_lst_bool (pl : Str → Bool) (xs : List D) : kIsi pl (.b "bool") (.lst xs) S = .ok (.bl false) S := rfl
@[simp] theorem isi_lst_int (pl : Str → Bool) (xs : List D) : kIsi pl (.b "int") (.lst xs) S = .ok (.bl false) S := rfl
@[simp] theorem isi_lst_str (pl : Str → Bool) (xs : List D) : kIsi pl (.b "str") (.lst xs) S = .ok (.bl false) S := rfl
@[simp] theorem isi_lst_tuple (pl : Str → Bool) (xs : List D) : kIsi pl (.b "tuple") (.lst xs) S = .ok (.bl false) S := rfl
@[simp] theorem isi_lst_list (pl : Str → Bool) (xs : List D) : kIsi pl (.b "list") (.lst xs) S = .ok (.bl true) S := rfl
@[simp] theorem isi_lst_dict (pl : Str → Bool) (xs : List D) : kIsi pl (.b "dict") (.lst xs) S = .ok (.bl false) S := rfl
theorem isi_lst_own {pl : Str → Bool} {c : Str} (xs : List D) (h : pl c = true) : kIsi pl (.own c) (.lst xs) S = .ok (.bl false) S := by
  show (match (if pl c = true then some false else none) with
    | some b => R.ok (D.bl b) S
    | none => .no) = _
  rw [if_pos h]
theorem isi_dic_bool (pl : Str → Bool) {l : Nat} {kvs : List (D × D)} (h : S[l]? = some (.dic kvs)) : kIsi pl (.b "bool") (.loc l) S = .ok (.bl false) S := by
  unfold kIsi tagOf
  dsimp only
  rw [h]; rfl
theorem isi_dic_int (pl : Str → Bool) {l : Nat} {kvs : List (D × D)} (h : S[l]? = some (.dic kvs)) : kIsi pl (.b "int") (.loc l) S = .ok (.bl false) S := by
  unfold kIsi tagOf
  dsimp only
  rw [h]; rfl
theorem isi_dic_str (pl : Str → Bool) {l : Nat} {kvs : List (D × D)} (h : S[l]? = some (.dic kvs)) : kIsi pl (.b "str") (.loc l) S = .ok (.bl false) S := by
  unfold kIsi tagOf
  dsimp only
  rw [h]; rfl
theorem isi_dic_tuple (pl : Str → Bool) {l : Nat} {kvs : List (D × D)} (h : S[l]? = some (.dic kvs)) : kIsi pl (.b "tuple") (.loc l) S = .ok (.bl false) S := by
  unfold kIsi tagOf
  dsimp only
  rw [h]; rfl
theorem isi_dic_list (pl : Str → Bool) {l : Nat} {kvs : List (D × D)} (h : S[l]? = some (.dic kvs)) : kIsi pl (.b "list") (.loc l) S = .ok (.bl false) S := by
  unfold kIsi tagOf
  dsimp only
  rw [h]; rfl
theorem isi_dic_dict (pl : Str → Bool) {l : Nat} {kvs : List (D × D)} (h : S[l]? = some (.dic kvs)) : kIsi pl (.b "dict") (.loc l) S = .ok (.bl true) S := by
  unfold kIsi tagOf
  dsimp only
  rw [h]; rfl
theorem isi_ins {pl : Str → Bool} {c e : Str} {fs : List (Str × D)} {l : Nat} (h : S[l]? = some (.ins c fs)) (h1 : pl c = true) (h2 : pl e = true) : kIsi pl (.own e) (.loc l) S = .ok (.bl (decide (c = e))) S := by
  unfold kIsi tagOf
  dsimp only
  rw [h]
  show (match (if pl c && pl e then some (decide (c = e)) else none) with
    | some b => R.ok (D.bl b) S
    | none => .no) = _
  rw [h1, h2]; rfl
/-! ### == -/
mutual
theorem eqv_self : ∀ d : D, PyData.eqv d.py d.py = true
  | .non => by simp [D.py, PyData.eqv]
  | .bl b => by simp [D.py, PyData.eqv]
  | .int i => by simp [D.py, PyData.eqv]
  | .str x => by simp [D.py, PyData.eqv]
  | .tup xs => by rw [D.py, PyData.eqv]; exact eqvs_self xs
  | .lst xs => by rw [D.py, PyData.eqv]; exact eqvs_self xs
  | .loc l => by simp [D.py, PyData.eqv]
theorem eqvs_self : ∀ ds : List D, PyData.eqvAll (D.pys ds) (D.pys ds) = true
  | [] => by simp [D.pys, PyData.eqvAll]
  | d :: ds => by rw [D.pys, PyData.eqvAll, eqv_self d, eqvs_self ds]; rfl
end
theorem eqvs_len : ∀ (ds es : List D), ds.length ≠ es.length → PyData.eqvAll (D.pys ds) (D.pys es) = false
  | [], [], h => absurd rfl h
  | [], e :: es, _ => by simp [D.pys, PyData.eqvAll]
  | d :: ds, [], _ => by simp [D.pys, PyData.eqvAll]
  | d :: ds, e :: es, h => by rw [D.pys, D.pys, PyData.eqvAll, eqvs_len ds es (by simpa using h), Bool.and_false]
/-- how deep a value is -/
def D.dp (d : D) : Nat := d.py.depth
def D.dps (ds : List D) : Nat := PyData.depthAll (D.pys ds)
@[simp] theorem dp_non : D.dp .non = 0 := by simp [D.dp, D.py, PyData.depth]
@[simp] theorem dp_bl (b : Bool) : D.dp (.bl b) = 0 := by simp [D.dp, D.py, PyData.depth]
@[simp] theorem dp_int (i : Int) : D.dp (.int i) = 0 := by simp [D.dp, D.py, PyData.depth]
@[simp] theorem dp_str (x : Str) : D.dp (.str x) = 0 := by simp [D.dp, D.py, PyData.depth]
@[simp] theorem dp_tup (xs : List D) : D.dp (.tup xs) = D.dps xs + 1 := by simp [D.dp, D.dps, D.py, PyData.depth]
@[simp] theorem dp_lst (xs : List D) : D.dp (.lst xs) = D.dps xs + 1 := by simp [D.dp, D.dps, D.py, PyData.depth]
@[simp] theorem dps_nil : D.dps [] = 0 := by simp [D.dps, D.pys, PyData.depthAll]
@[simp] theorem dps_cons (d : D) (ds : List D) : D.dps (d :: ds) = max d.dp (D.dps ds) := by simp [D.dp, D.dps, D.pys, PyData.depthAll]
theorem dps_le {n : Nat} : ∀ ds : List D, (∀ d ∈ ds, d.dp ≤ n) → D.dps ds ≤ n
  | [], _ => by simp
  | d :: ds, h => by
    rw [dps_cons]
    have h1 := h d (List.mem_cons_self ..)
    have h2 := dps_le ds fun e he => h e (List.mem_cons_of_mem _ he)
    omega
theorem pures_iff : ∀ ds : List D, D.pures ds = true ↔ ∀ d ∈ ds, d.pure = true
  | [] => by simp [D.pures]
  | d :: ds => by rw [D.pures, Bool.and_eq_true, pures_iff ds]; simp
@[simp] theorem pure_non : D.pure .non = true := rfl
@[simp] theorem pure_bl (b : Bool) : D.pure (.bl b) = true := rfl
@[simp] theorem pure_int (i : Int) : D.pure (.int i) = true := rfl
@[simp] theorem pure_str (x : Str) : D.pure (.str x) = true := rfl
@[simp] theorem pure_tup (xs : List D) : D.pure (.tup xs) = D.pures xs := by rw [D.pure]
@[simp] theorem pure_lst (xs : List D) : D.pure (.lst xs) = D.pures xs := by rw [D.pure]
@[simp] theorem pures_nil : D.pures [] = true := rfl
@[simp] theorem pures_cons (d : D) (ds : List D) : D.pures (d :: ds) = (d.pure && D.pures ds) := by rw [D.pures]
theorem both_pure {d e : D} (h1 : d.pure = true) (h2 : e.pure = true) (h : min d.dp e.dp ≤ 60) : both S d e = some (d.py, e.py) := by
  unfold both
  rw [full_pure S h1, full_pure S h2, h1, h2]
  simp only [Bool.true_and]
  rw [if_pos (decide_eq_true (show min d.py.depth e.py.depth ≤ 60 from h))]
theorem dEq_pure {d e : D} (h1 : d.pure = true) (h2 : e.pure = true) (h : min d.dp e.dp ≤ 60) : dEq S d e = some (.bl (PyData.eqv d.py e.py)) := by
  unfold dEq; rw [both_pure h1 h2 h]; rfl
theorem dNe_pure {d e : D} (h1 : d.pure = true) (h2 : e.pure = true) (h : min d.dp e.dp ≤ 60) : dNe S d e = some (.bl (!PyData.eqv d.py e.py)) := by
  unfold dNe; rw [both_pure h1 h2 h]; rfl
theorem gEq_pure {d e : D} (h1 : d.pure = true) (h2 : e.pure = true) (h : min d.dp e.dp ≤ 60) : gEq T P S d e = .ok (.bl (PyData.eqv d.py e.py)) S := by
  have q := dEq_pure (S := S) h1 h2 h
  cases d with
  | loc l => simp [D.pure] at h1
  | _ => show ofO S (dEq S _ e) = _; rw [q]; rfl
@[simp] theorem gEq_str (a b : Str) : gEq T P S (.str a) (.str b) = .ok (.bl (decide (a = b))) S := by
  rw [gEq_pure rfl rfl (by simp)]
  simp only [D.py, PyData.eqv]; rfl
@[simp] theorem gEq_int (a b : Int) : gEq T P S (.int a) (.int b) = .ok (.bl (decide (a = b))) S := by
  rw [gEq_pure rfl rfl (by simp)]
  simp only [D.py, PyData.eqv]
  congr 2
@[simp] theorem dNe_str (a b : Str) : dNe S (.str a) (.str b) = some (.bl (!decide (a = b))) := by
  rw [dNe_pure rfl rfl (by simp)]
  simp only [D.py, PyData.eqv]; rfl
@[simp] theorem dNe_int (a b : Int) : dNe S (.int a) (.int b) = some (.bl (!decide (a = b))) := by
  rw [dNe_pure rfl rfl (by simp)]
  simp only [D.py, PyData.eqv]
  congr 3
@[simp] theorem dNe_bl (a b : Bool) : dNe S (.bl a) (.bl b) = some (.bl (!(a == b))) := by
  rw [dNe_pure rfl rfl (by simp)]
  simp only [D.py, PyData.eqv]
/-! ### in -/
@[simp] theorem dIn_strs2 (w a b : Str) : dIn S (.str w) (.tup [.str a, .str b]) = some (.bl (decide (a = w) || decide (b = w))) := by
  unfold dIn inB inSeq
  simp only [D.pures, D.pure, full, D.put, List.map, Bool.and_self, D.pys, D.py, PyData.depthAll, PyData.depth, Bool.true_and]
  simp [PyData.eqv]
  rfl
@[simp] theorem dNotIn_strs2 (w a b : Str) : dNotIn S (.str w) (.tup [.str a, .str b]) = some (.bl (!(decide (a = w) || decide (b = w)))) := by
  have q := dIn_strs2 (S := S) w a b
  unfold dIn at q
  unfold dNotIn
  cases z : inB S (.str w) (.tup [.str a, .str b]) with
  | none => rw [z] at q; cases q
  | some c => rw [z] at q; cases q; rfl
/-! ### numbers, places -/
@[simp] theorem dLe_int (a b : Int) : dLe S (.int a) (.int b) = some (.bl (decide (a ≤ b))) := rfl
@[simp] theorem dLt_int (a b : Int) : dLt S (.int a) (.int b) = some (.bl (decide (a < b))) := rfl
@[simp] theorem dGe_int (a b : Int) : dGe S (.int a) (.int b) = some (.bl (decide (b ≤ a))) := by
  show some (D.bl (decide (b ≤ a))) = _; rfl
@[simp] theorem dGt_int (a b : Int) : dGt S (.int a) (.int b) = some (.bl (decide (b < a))) := rfl
@[simp] theorem dAdd_int (a b : Int) : dAdd S (.int a) (.int b) = some (.int (a + b)) := rfl
@[simp] theorem dSub_int (a b : Int) : dSub S (.int a) (.int b) = some (.int (a - b)) := rfl
theorem dMod_int {a b : Int} (h : 0 < b) : dMod S (.int a) (.int b) = some (.int (a % b)) := by
  show (if 0 < b then some (D.int (a % b)) else none) = _; rw [if_pos h]
theorem dFdiv_int {a b : Int} (h : 0 < b) (h2 : b < 1073741824) : dFdiv S (.int a) (.int b) = some (.int (a / b)) := by
  show (if 0 < b ∧ b < 1073741824 then some (D.int (a / b)) else none) = _; rw [if_pos ⟨h, h2⟩]
theorem dMul_int {a b : Int} (h : -(2 ^ 64) < b ∧ b < 2 ^ 64) : dMul S (.int a) (.int b) = some (.int (a * b)) := by
  have q : dMulI S (.int a) (.int b) = some (.int (a * b)) := by
    show (if _ then some (D.int (a * b)) else none) = _
    rw [if_pos (by simp only [Bool.or_eq_true, Bool.and_eq_true, decide_eq_true_eq]; exact .inr h)]
  unfold dMul; rw [q]; rfl
@[simp] theorem bo_add : Bo.g .add = dAdd := rfl
@[simp] theorem bo_sub : Bo.g .sub = dSub := rfl
@[simp] theorem bo_mul : Bo.g .mul = dMul := rfl
@[simp] theorem bo_fdiv : Bo.g .fdiv = dFdiv := rfl
@[simp] theorem bo_mod : Bo.g .mod = dMod := rfl
@[simp] theorem bo_pow : Bo.g .pow = dPow := rfl
@[simp] theorem co_lt : Co.g .lt = dLt := rfl
@[simp] theorem co_le : Co.g .le = dLe := rfl
@[simp] theorem co_gt : Co.g .gt = dGt := rfl
@[simp] theorem co_ge : Co.g .ge = dGe := rfl
@[simp] theorem co_ne : Co.g .ne = dNe := rfl
@[simp] theorem co_is : Co.g .is_ = dIs := rfl
@[simp] theorem co_isNot : Co.g .isNot = dIsNot := rfl
@[simp] theorem co_in : Co.g .in_ = dIn := rfl
@[simp] theorem co_notIn : Co.g .notIn = dNotIn := rfl
@[simp] theorem bn_len : Bn.g .len = on1 dLen := rfl
@[simp] theorem bn_all : Bn.g .all_ = on1 dAll := rfl
@[simp] theorem bn_any : Bn.g .any_ = on1 dAny := rfl
@[simp] theorem bn_sum : Bn.g .sum = on1 dSum := rfl
@[simp] theorem bn_max : Bn.g .max = on1 dMax := rfl
@[simp] theorem bn_min : Bn.g .min = on1 dMin := rfl
@[simp] theorem bn_int : Bn.g .int = on1 dInt := rfl
@[simp] theorem bn_abs : Bn.g .abs = on1 dAbs := rfl
@[simp] theorem bn_str : Bn.g .str = on1 dStr := rfl
@[simp] theorem bn_tuple : Bn.g .tuple = on1 dTuple := rfl
@[simp] theorem on1_eq (g : Sto → D → Option D) (d : D) : on1 g S [d] = g S d := rfl
@[simp] theorem on1L_eq (g : Sto → D → Option (List D)) (d : D) : on1L g S [d] = g S d := rfl
@[simp] theorem dLen_tup (xs : List D) : dLen S (.tup xs) = some (.int xs.length) := rfl
@[simp] theorem dLen_lst (xs : List D) : dLen S (.lst xs) = some (.int xs.length) := rfl
@[simp] theorem dInt_int (i : Int) : dInt S (.int i) = some (.int i) := rfl
@[simp] theorem dAbs_int (i : Int) : dAbs S (.int i) = some (.int (if i < 0 then -i else i)) := rfl
@[simp] theorem dTuple_lst (xs : List D) : dTuple S (.lst xs) = some (.tup xs) := rfl
@[simp] theorem dTuple_tup (xs : List D) : dTuple S (.tup xs) = some (.tup xs) := rfl
@[simp] theorem dList_tup (xs : List D) : dList S (.tup xs) = some xs := rfl
@[simp] theorem dList_lst (xs : List D) : dList S (.lst xs) = some xs := rfl
theorem dList_dic {l : Nat} {kvs : List (D × D)} (h : S[l]? = some (.dic kvs)) : dList S (.loc l) = some (kvs.map (·.1)) := by
  unfold dList itemsOf asL locD
  dsimp only
  rw [h]; rfl
theorem ix_tup {xs : List D} {i : Int} {d : D} (h : atI xs i = some d) : dIx S (.tup xs) (.int i) = some d := h
theorem atI_nat {xs : List D} {n : Nat} (h : n < xs.length) : atI xs (n : Int) = xs[n]? := by
  unfold atI ixN
  rw [if_pos (by omega), if_pos (by omega)]
  simp
@[simp] theorem ix0 (a : D) (xs : List D) : dIx S (.tup (a :: xs)) (.int 0) = some a := by
  show atI (a :: xs) 0 = some a
  have := atI_nat (xs := a :: xs) (n := 0) (by simp)
  simpa using this
@[simp] theorem ix1 (a b : D) (xs : List D) : dIx S (.tup (a :: b :: xs)) (.int 1) = some b := by
  show atI (a :: b :: xs) 1 = some b
  have := atI_nat (xs := a :: b :: xs) (n := 1) (by simp)
  simpa using this
@[simp] theorem ix2 (a b c : D) (xs : List D) : dIx S (.tup (a :: b :: c :: xs)) (.int 2) = some c := by
  show atI (a :: b :: c :: xs) 2 = some c
  have := atI_nat (xs := a :: b :: c :: xs) (n := 2) (by simp)
  simpa using this
theorem ix_lst {xs : List D} {n : Nat} {d : D} (h : xs[n]? = some d) : dIx S (.lst xs) (.int n) = some d := by
  show atI xs n = some d
  rw [atI_nat (List.getElem?_eq_some_iff.mp h).1, h]
theorem ix_tupn {xs : List D} {n : Nat} {d : D} (h : xs[n]? = some d) : dIx S (.tup xs) (.int n) = some d := by
  show atI xs n = some d
  rw [atI_nat (List.getElem?_eq_some_iff.mp h).1, h]
theorem ix_dic {l : Nat} {kvs : List (D × D)} {k : Str} {d : D} (h : S[l]? = some (.dic kvs)) (h2 : dfind kvs (.str k) = some d) : dIx S (.loc l) (.str k) = some d := by
  unfold dIx asL asD
  dsimp only
  rw [h]
  exact h2
@[simp] theorem cut1 (a : D) (xs : List D) : gCutA S (.tup (a :: xs)) (some 1) none = some (.tup xs) := by
  unfold gCutA dCut cutD
  simp [HT.sIx]
/-! ### all, any of truths -/
theorem bools_map : ∀ bs : List Bool, bools (bs.map D.bl) = some bs
  | [] => rfl
  | b :: bs => by rw [List.map_cons, bools, bools_map bs]; rfl
theorem dAll_bl (bs : List Bool) : dAll S (.lst (bs.map D.bl)) = some (.bl (bs.all id)) := by
  show (bools (bs.map D.bl)).map _ = _
  rw [bools_map]; rfl
theorem txts_map : ∀ bs : List Str, txts (bs.map D.str) = some bs
  | [] => rfl
  | b :: bs => by rw [List.map_cons, txts, txts_map bs]; rfl
theorem dSorted_strs {bs : List Str} (h : bs.length < 64) : dSorted S (.lst (bs.map D.str)) = some ((sortS bs).map .str) := by
  show (txts (bs.map D.str)).bind _ = _
  rw [txts_map]
  show (if bs.length < 64 then some ((sortS bs).map D.str) else none) = _
  rw [if_pos h]
end
end Mt


set_option Elab.async false
set_option maxRecDepth 100000
set_option autoImplicit false
set_option linter.all false
set_option maxHeartbeats 4000000
/-! The law's own draws: a list of numbers at the store's first place. -/
namespace Mt
open PySem L2
section
variable {m : Mm} {ρ : En} {S rest : Sto} {xs tl : List D}
@[simp] theorem gt_sub_ (o i : Ex) : (Gt.sub o i).den m = gtSub (o.den m) (i.den m) := rfl
@[simp] theorem gt_tup_ (gs : Gs) : (Gt.tup gs).den m = gtTup gs.len (gs.den m) := rfl
@[simp] theorem gt_fld_ (o : Ex) (f : Str) : (Gt.fld o f).den m = gtFld m.T f (o.den m) := rfl
@[simp] theorem gs_nil_ : (Gs.nil).den m = gtNil := rfl
@[simp] theorem gs_cons_ (g : Gt) (r : Gs) : (Gs.cons g r).den m = gtCons (g.den m) (r.den m) := rfl
@[simp] theorem gs_len0 : (Gs.nil).len = 0 := rfl
@[simp] theorem gs_lenS (g : Gt) (r : Gs) : (Gs.cons g r).len = r.len + 1 := rfl
def kSub1 (rb : Run) (d : D) (ρ : En) : R D → Option (En × Sto)
  | .ok o S1 => match rb ρ S1 with
    | .ok i S2 => (setIx S2 o i d).map fun S3 => (ρ, S3)
    | _ => none
  | _ => none
def kSub2 (o d : D) (ρ : En) : R D → Option (En × Sto)
  | .ok i S2 => (setIx S2 o i d).map fun S3 => (ρ, S3)
  | _ => none
@[simp] theorem kSub1_ok (rb : Run) (d o : D) : kSub1 rb d ρ (.ok o S) = kSub2 o d ρ (rb ρ S) := by
  unfold kSub1
  dsimp only
  cases rb ρ S <;> rfl
@[simp] theorem kSub2_ok (o d i : D) : kSub2 o d ρ (.ok i S) = (setIx S o i d).map fun S3 => (ρ, S3) := rfl
@[simp] theorem gtSub_eq (ra rb : Run) (d : D) : gtSub ra rb d ρ S = kSub1 rb d ρ (ra ρ S) := by
  unfold gtSub kSub1
  cases ra ρ S <;> rfl
@[simp] theorem d0_ix (i : Int) : dIx (.lst xs :: rest) (.loc 0) (.int i) = atI xs i := rfl
@[simp] theorem at0 (a : D) : atI (a :: tl) 0 = some a := by
  have := atI_nat (xs := a :: tl) (n := 0) (by simp)
  simpa using this
@[simp] theorem at1 (a b : D) : atI (a :: b :: tl) 1 = some b := by
  have := atI_nat (xs := a :: b :: tl) (n := 1) (by simp)
  simpa using this
@[simp] theorem at2 (a b c : D) : atI (a :: b :: c :: tl) 2 = some c := by
  have := atI_nat (xs := a :: b :: c :: tl) (n := 2) (by simp)
  simpa using this
@[simp] theorem d0_len : dLen (.lst xs :: rest) (.loc 0) = some (.int xs.length) := rfl
@[simp] theorem d0_set0 (a d : D) : setIx (.lst (a :: tl) :: rest) (.loc 0) (.int 0) d = some (.lst (d :: tl) :: rest) := by
  show ((ixN (a :: tl).length 0).map fun j => (Ob.lst (a :: tl) :: rest).set 0 (.lst ((a :: tl).set j d))) = _
  have e : ixN (a :: tl).length 0 = some 0 := by
    unfold ixN; rw [if_pos (by omega), if_pos (by simp)]; rfl
  rw [e]; rfl
@[simp] theorem d0_set1 (a b d : D) : setIx (.lst (a :: b :: tl) :: rest) (.loc 0) (.int 1) d = some (.lst (a :: d :: tl) :: rest) := by
  show ((ixN (a :: b :: tl).length 1).map fun j => (Ob.lst (a :: b :: tl) :: rest).set 0 (.lst ((a :: b :: tl).set j d))) = _
  have e : ixN (a :: b :: tl).length 1 = some 1 := by
    unfold ixN; rw [if_pos (by omega), if_pos (by simp; omega)]; rfl
  rw [e]; rfl
theorem d0_pop2 (a b c : D) : kBm (Bm.pop).t (Bm.pop).g (.cons (.cst (.int 2)) .nil) m ρ (.loc 0) (.lst (a :: b :: c :: tl) :: rest) = .ok c (.lst (a :: b :: tl) :: rest) := by
  have q : gPops (.lst (a :: b :: c :: tl) :: rest) (.loc 0) [.int 2] = some (c, .lst (a :: b :: tl) :: rest) := by
    have e : seqIndex? 2 (a :: b :: c :: tl).length = some 2 := by
      have z : ixN (a :: b :: c :: tl).length 2 = some 2 := by
        unfold ixN; rw [if_pos (by omega), if_pos (by simp; omega)]; rfl
      exact (ixN_seq z).1
    show (none : Option (D × Sto)).or (if (-(2 ^ 63) : Int) ≤ 2 ∧ (2 : Int) < 2 ^ 63 then (match seqIndex? 2 (a :: b :: c :: tl).length with
      | some j => (match (a :: b :: c :: tl)[j]? with
        | some y => some (y, (Ob.lst (a :: b :: c :: tl) :: rest).set 0 (.lst ((a :: b :: c :: tl).eraseIdx j)))
        | none => none)
      | none => none) else none) = _
    rw [if_pos (by decide), e]
    rfl
  rw [kBm_eq rfl]
  simp only [es_cons, e_cst, R.bind_ok, kc_eq, es_nil, kc2_eq]
  exact kBm2_eq q
@[simp] theorem kLs_0  : kLs [] S = .ok (.lst []) S := rfl
@[simp] theorem kLs_1 (a0 : D) : kLs [a0] S = .ok (.lst [a0]) S := rfl
@[simp] theorem kLs_2 (a0 a1 : D) : kLs [a0, a1] S = .ok (.lst [a0, a1]) S := rfl
@[simp] theorem kLs_3 (a0 a1 a2 : D) : kLs [a0, a1, a2] S = .ok (.lst [a0, a1, a2]) S := rfl
@[simp] theorem kLs_4 (a0 a1 a2 a3 : D) : kLs [a0, a1, a2, a3] S = .ok (.lst [a0, a1, a2, a3]) S := rfl
@[simp] theorem kLs_5 (a0 a1 a2 a3 a4 : D) : kLs [a0, a1, a2, a3, a4] S = .ok (.lst [a0, a1, a2, a3, a4]) S := rfl
@[simp] theorem kLs_6 (a0 a1 a2 a3 a4 a5 : D) : kLs [a0, a1, a2, a3, a4, a5] S = .ok (.lst [a0, a1, a2, a3, a4, a5]) S := rfl
@[simp] theorem kLs_7 (a0 a1 a2 a3 a4 a5 a6 : D) : kLs [a0, a1, a2, a3, a4, a5, a6] S = .ok (.lst [a0, a1, a2, a3, a4, a5, a6]) S := rfl
@[simp] theorem kLs_8 (a0 a1 a2 a3 a4 a5 a6 a7 : D) : kLs [a0, a1, a2, a3, a4, a5, a6, a7] S = .ok (.lst [a0, a1, a2, a3, a4, a5, a6, a7]) S := rfl
@[simp] theorem kLs_9 (a0 a1 a2 a3 a4 a5 a6 a7 a8 : D) : kLs [a0, a1, a2, a3, a4, a5, a6, a7, a8] S = .ok (.lst [a0, a1, a2, a3, a4, a5, a6, a7, a8]) S := rfl
@[simp] theorem kLs_10 (a0 a1 a2 a3 a4 a5 a6 a7 a8 a9 : D) : kLs [a0, a1, a2, a3, a4, a5, a6, a7, a8, a9] S = .ok (.lst [a0, a1, a2, a3, a4, a5, a6, a7, a8, a9]) S := rfl
@[simp] theorem kLs_11 (a0 a1 a2 a3 a4 a5 a6 a7 a8 a9 a10 : D) : kLs [a0, a1, a2, a3, a4, a5, a6, a7, a8, a9, a10] S = .ok (.lst [a0, a1, a2, a3, a4, a5, a6, a7, a8, a9, a10]) S := rfl
@[simp] theorem kLs_12 (a0 a1 a2 a3 a4 a5 a6 a7 a8 a9 a10 a11 : D) : kLs [a0, a1, a2, a3, a4, a5, a6, a7, a8, a9, a10, a11] S = .ok (.lst [a0, a1, a2, a3, a4, a5, a6, a7, a8, a9, a10, a11]) S := rfl
@[simp] theorem gtTup2 (i j : Nat) (a b : D) : gtTup 2 (gtCons (gtName i) (gtCons (gtName j) gtNil)) (.tup [a, b]) ρ S = some ((ρ.set i a).set j b, S) := rfl
@[simp] theorem gtTup2l (i j : Nat) (a b : D) : gtTup 2 (gtCons (gtName i) (gtCons (gtName j) gtNil)) (.lst [a, b]) ρ S = some ((ρ.set i a).set j b, S) := rfl
theorem setFld_at_ {T : Tab} {c f : Str} {fs : List (Str × D)} (v : D) {pre : Sto} (h : T.fld c f = true) (hl : fs.length < 1000) : setFld T (pre ++ .ins c fs :: rest) f (.loc pre.length) v = some (pre ++ .ins c (fput f v fs) :: rest) := by
  unfold setFld
  dsimp only
  rw [List.getElem?_append_right (Nat.le_refl _), Nat.sub_self]
  dsimp only [List.getElem?_cons_zero]
  rw [if_pos (by rw [h, decide_eq_true hl]; rfl)]
  rw [List.set_append_right _ _ (Nat.le_refl _), Nat.sub_self]; rfl
def kFld (T : Tab) (f : Str) (y d : D) (ρ : En) (S : Sto) : Option (En × Sto) := (setFld T S f d y).map fun S3 => (ρ, S3)
@[simp] theorem gtFld_eq (T : Tab) (f : Str) (ra : Run) (d : D) : gtFld T f ra d ρ S = match ra ρ S with
    | .ok o S1 => kFld T f d o ρ S1
    | _ => none := rfl
theorem kFld_eq {T : Tab} {f : Str} {y d : D} {S2 : Sto} (h : setFld T S f d y = some S2) : kFld T f y d ρ S = some (ρ, S2) := by
  unfold kFld; rw [h]; rfl
/-! walks of a dict -/
theorem lk_dic {r : Run} {fk : Lk} {l : Nat} {kvs : List (D × D)} {d : D} (h1 : fk ρ S = some l) (h2 : S[l]? = some (.dic kvs)) (h3 : r ρ (S.set l (.dicL kvs)) = .ok d (S.set l (.dicL kvs))) : rLk fk r ρ S = .ok d S := by
  unfold rLk
  rw [h1]; dsimp only; rw [h2]; dsimp only; rw [h3]; dsimp only
  have hl : l < S.length := (List.getElem?_eq_some_iff.mp h2).1
  unfold unlk
  rw [if_pos (List.getElem?_set_self hl)]
  dsimp only
  rw [List.set_set]
  have e : S.set l (.dic kvs) = S := by
    apply List.ext_getElem?
    intro i
    by_cases hi : i = l
    · subst hi; rw [List.getElem?_set_self hl, h2]
    · rw [List.getElem?_set_ne (Ne.symm hi)]
  rw [e]
theorem keys_lk {l : Nat} {kvs : List (D × D)} (h2 : S[l]? = some (.dic kvs)) : dKeys (S.set l (.dicL kvs)) (.loc l) = some (kvs.map (·.1)) := by
  have hl : l < S.length := (List.getElem?_eq_some_iff.mp h2).1
  unfold dKeys lockedD
  dsimp only
  rw [List.getElem?_set_self hl]; rfl
/-! turns of a comprehension that draws -/
@[simp] theorem lc_nil (g : Tgt) (rc : Option Run) (re : Run) (acc : List D) : rLcGo g rc re .free ρ [] acc S = .ok acc S := rfl
def kl2 (g : Tgt) (rc : Option Run) (re : Run) (ρ : En) (r acc : List D) : R D → R (List D)
  | .ok y S2 => rLcGo g rc re .free ρ r (acc ++ [y]) S2
  | _ => .no
@[simp] theorem kl2_ok (g : Tgt) (rc : Option Run) (re : Run) (r acc : List D) (y : D) : kl2 g rc re ρ r acc (.ok y S) = rLcGo g rc re .free ρ r (acc ++ [y]) S := rfl
def kl0 (g : Tgt) (re : Run) (ρ : En) (r acc : List D) : Option (En × Sto) → R (List D)
  | some o => kl2 g none re ρ r acc (re o.1 o.2)
  | none => .no
@[simp] theorem kl0_some (g : Tgt) (re : Run) (r acc : List D) (ρ' : En) : kl0 g re ρ r acc (some (ρ', S)) = kl2 g none re ρ r acc (re ρ' S) := rfl
theorem lc_cons (g : Tgt) (re : Run) (d : D) (r acc : List D) (h : acc.length < 1000) : rLcGo g none re .free ρ (d :: r) acc S = kl0 g re ρ r acc (g d ρ S) := by
  rw [rLcGo, if_pos (by rw [show Ck.ok S .free = true from rfl, Bool.true_and]; exact decide_eq_true (by unfold big; omega))]
  cases g d ρ S with
  | none => rfl
  | some o =>
    dsimp only [kl0]
    cases re o.1 o.2 <;> rfl
theorem lcGo_rel {g : Tgt} {re : Run} {I : Sto → Prop} {Q : D → D → Prop} : ∀ (ds acc : List D) (S : Sto), (∀ x ∈ ds, ∀ S, I S → ∃ ρ' y S', g x ρ S = some (ρ', S) ∧ re ρ' S = .ok y S' ∧ Q x y ∧ I S') → I S → acc.length + ds.length ≤ big →
    ∃ ys S', rLcGo g none re .free ρ ds acc S = .ok (acc ++ ys) S' ∧ Paired Q ds ys ∧ I S'
  | [], acc, S, _, hI, _ => ⟨[], S, by rw [lc_nil, List.append_nil], .nil, hI⟩
  | x :: ds, acc, S, h, hI, hb => by
    obtain ⟨ρ', y, S', e1, e2, q, hI'⟩ := h x (List.mem_cons_self ..) S hI
    rw [List.length_cons] at hb
    obtain ⟨ys, S2, e3, p, hI2⟩ := lcGo_rel ds (acc ++ [y]) S' (fun z hz => h z (List.mem_cons_of_mem _ hz)) hI' (by rw [List.length_append]; simp; omega)
    refine ⟨y :: ys, S2, ?_, .cons q p, hI2⟩
    rw [rLcGo, if_pos (by rw [show Ck.ok S .free = true from rfl, Bool.true_and]; exact decide_eq_true (by omega)), e1]
    dsimp only
    rw [e2]
    dsimp only
    rw [e3, List.append_assoc]; rfl
theorem lcGo_sub {g : Tgt} {rc re : Run} {I : Sto → Prop} : ∀ (ds acc : List D) (S : Sto), (∀ x ∈ ds, ∀ S, I S → ∃ ρ' b S', g x ρ S = some (ρ', S) ∧ rc ρ' S = .ok (.bl b) S' ∧ re ρ' S' = .ok x S' ∧ I S') → I S → acc.length + ds.length ≤ big →
    ∃ ys S', rLcGo g (some rc) re .free ρ ds acc S = .ok (acc ++ ys) S' ∧ List.Sublist ys ds ∧ I S'
  | [], acc, S, _, hI, _ => ⟨[], S, by rw [lc_nil, List.append_nil], .slnil, hI⟩
  | x :: ds, acc, S, h, hI, hb => by
    obtain ⟨ρ', b, S', e1, e2, e2', hI'⟩ := h x (List.mem_cons_self ..) S hI
    rw [List.length_cons] at hb
    have h0 : (Ck.ok S .free && decide (acc.length < big)) = true := by
      rw [show Ck.ok S .free = true from rfl, Bool.true_and]; exact decide_eq_true (by omega)
    cases b with
    | true =>
      obtain ⟨ys, S2, e3, p, hI2⟩ := lcGo_sub ds (acc ++ [x]) S' (fun z hz => h z (List.mem_cons_of_mem _ hz)) hI' (by rw [List.length_append]; simp; omega)
      refine ⟨x :: ys, S2, ?_, p.cons_cons x, hI2⟩
      rw [rLcGo, if_pos h0, e1]
      dsimp only
      rw [e2]
      dsimp only
      rw [e2']
      dsimp only
      rw [e3, List.append_assoc]; rfl
    | false =>
      obtain ⟨ys, S2, e3, p, hI2⟩ := lcGo_sub ds acc S' (fun z hz => h z (List.mem_cons_of_mem _ hz)) hI' (by omega)
      refine ⟨ys, S2, ?_, p.cons x, hI2⟩
      rw [rLcGo, if_pos h0, e1]
      dsimp only
      rw [e2]
      dsimp only
      exact e3
theorem sub3 {α : Type} {a b c : α} {ys : List α} (h : List.Sublist ys [a, b, c]) : ys = [] ∨ ys = [a] ∨ ys = [b] ∨ ys = [c] ∨ ys = [a, b] ∨ ys = [a, c] ∨ ys = [b, c] ∨ ys = [a, b, c] := by
  cases h with
  | cons _ h => cases h with
    | cons _ h => cases h with
      | cons _ h => cases h; simp
      | cons_cons _ h => cases h; simp
    | cons_cons _ h => cases h with
      | cons _ h => cases h; simp
      | cons_cons _ h => cases h; simp
  | cons_cons _ h => cases h with
    | cons _ h => cases h with
      | cons _ h => cases h; simp
      | cons_cons _ h => cases h; simp
    | cons_cons _ h => cases h with
      | cons _ h => cases h; simp
      | cons_cons _ h => cases h; simp
theorem atI_mem {i : Int} (h0 : 0 ≤ i) (h1 : i < xs.length) : ∃ d, atI xs i = some d ∧ d ∈ xs := by
  have hn : i.toNat < xs.length := by omega
  have e := atI_nat hn
  rw [show ((i.toNat : Nat) : Int) = i by omega, List.getElem?_eq_getElem hn] at e
  exact ⟨_, e, List.getElem_mem hn⟩
theorem dput_new {kvs : List (D × D)} {k v : D} (h : k ∉ kvs.map (·.1)) : dput kvs k v = kvs ++ [(k, v)] := by
  unfold dput
  rw [if_neg]
  intro z
  obtain ⟨p, hp, e⟩ := List.any_eq_true.mp z
  exact h (List.mem_map.mpr ⟨p, hp, of_decide_eq_true e⟩)
def kDc (g : Tgt) (rc : Option Mt.Run) (rk rv : Mt.Run) (ρ : En) (p : List D × Ck) (S : Sto) : R D := match rDcGo g rc rk rv p.2 ρ p.1 [] S with
  | .ok kvs S2 => .ok (.loc S2.length) (S2 ++ [.dic kvs])
  | _ => .no
theorem kDc_eq {g : Tgt} {rc : Option Mt.Run} {rk rv : Mt.Run} {ρ : En} {xs : List D} {ck : Ck} {S S2 : Sto} {kvs : List (D × D)} (h : rDcGo g rc rk rv ck ρ xs [] S = .ok kvs S2) : kDc g rc rk rv ρ (xs, ck) S = .ok (.loc S2.length) (S2 ++ [.dic kvs]) := by
  unfold kDc; dsimp only; rw [h]
@[simp] theorem e_dc (own : List (Str × Nat)) (it : Iw) (tg : Gt) (c : Eo) (k v : Ex) : (Ex.dc own it tg c k v).den m ρ S = (it.den m ρ S).bind (kDc (tg.den m) (c.denC m) (k.den m) (v.den m) (ρ.wipe (own.map (·.2)))) := by
  show rDc _ _ _ _ _ _ ρ S = _
  unfold rDc
  cases it.den m ρ S with
  | ok p S1 =>
    show _ = kDc _ _ _ _ _ p S1
    unfold kDc
    first
      | (dsimp only; done)
      | (dsimp only; cases rDcGo (tg.den m) (c.denC m) (k.den m) (v.den m) p.2 (ρ.wipe (own.map (·.2))) p.1 [] S1 <;> rfl)
  | ex c fs S1 => rfl
  | no => rfl
theorem dcGo_same {g : Tgt} {rk rv : Mt.Run} {ρ : En} {S : Sto} : ∀ (suf pre : List (D × D)), (∀ p ∈ suf, ∃ ρ', g p.1 ρ S = some (ρ', S) ∧ rk ρ' S = .ok p.1 S ∧ rv ρ' S = .ok p.2 S ∧ (keyOf p.1).isSome = true) → ((pre ++ suf).map (·.1)).Nodup → pre.length + suf.length ≤ 1000 →
    rDcGo g none rk rv .free ρ (suf.map (·.1)) pre S = .ok (pre ++ suf) S
  | [], pre, _, _, _ => by rw [List.map_nil, List.append_nil]; rfl
  | p :: suf, pre, h, nd, hl => by
    obtain ⟨ρ', e1, e2, e3, e4⟩ := h p (List.mem_cons_self ..)
    rw [List.length_cons] at hl
    rw [List.map_cons, rDcGo, if_pos (by rw [show Ck.ok S .free = true from rfl, Bool.true_and]; exact decide_eq_true (by unfold big; omega)), e1]
    dsimp only
    rw [e2]
    dsimp only
    rw [e3]
    dsimp only
    rw [if_pos e4, dput_new (by
      intro z
      rw [List.map_append] at nd
      exact (List.nodup_append.mp nd).2.2 _ z _ (by rw [List.map_cons]; exact List.mem_cons_self ..) rfl)]
    have q := dcGo_same suf (pre ++ [p]) (fun x hx => h x (List.mem_cons_of_mem _ hx)) (by rw [List.append_assoc]; exact nd) (by rw [List.length_append]; simp; omega)
    rw [q, List.append_assoc]; rfl
end
end Mt


set_option Elab.async false
set_option linter.all false
set_option maxRecDepth 100000
set_option maxHeartbeats 0
namespace K14
open PySem PySem.Spec PyProof.Rows L2 Mt
def top (i : Nat) : Stmt := PySem.Challenge.pw_menutalk_k14_errors_apart.main.body.getD i (.Pass ⟨0, 0, 0, 0⟩)
def loose : List PySem.Str := (["TalkError", "InvalidTalks", "InvalidAnywhere", "InvalidDeep", "InvalidAnswers", "InvalidRow", "BadAnswer", "IsEnded", "InvalidLine", "_law_random", "_law_below", "_law_pick", "_law_equal", "_law_thrown", "_law_classes", "_law_field"] : List PySem.Str)
def t__law_random : Ss := (.cons (.asg (.name 2) (.var 1)) (.cons (.for_ (.seq (.var 0)) (.name 3) (.cons (.asg (.name 2) (.bin .mod (.call .int (.bin .add (.bin .mul (.var 2) (.cst (.int 31))) (.call .abs (.var 3)))) (.cst (.int 2147483647)))) .nil)) (.cons (.ret (.addN (.lst false (.cons (.var 2) (.cons (.cst (.int 0)) .nil))) (.lc false [(("_law_cell" : PySem.Str), 3)] (.seq (.var 0)) (.name 3) (.some (.cmp .ge (.var 3) (.bin .pow (.cst (.int 10)) (.cst (.int 18))))) (.var 3)))) .nil)))
def t__law_below : Ss := (.cons (.ite (.and (.cons (.eq (.ix (.var 0) (.cst (.int 1))) (.cst (.int 0))) (.cons (.cmp .gt (.call .len (.var 0)) (.cst (.int 2))) .nil))) (.cons (.asg (.sub (.var 0) (.cst (.int 1))) (.bm .pop (.var 0) (.cons (.cst (.int 2)) .nil))) .nil) .nil) (.cons (.ite (.cmp .gt (.ix (.var 0) (.cst (.int 1))) (.cst (.int 0))) (.cons (.asg (.name 2) (.bin .mod (.call .int (.ix (.var 0) (.cst (.int 1)))) (.var 1))) (.cons (.asg (.sub (.var 0) (.cst (.int 1))) (.bin .fdiv (.ix (.var 0) (.cst (.int 1))) (.var 1))) (.cons (.ret (.var 2)) .nil))) .nil) (.cons (.asg (.sub (.var 0) (.cst (.int 0))) (.bin .mod (.call .int (.bin .add (.bin .mul (.ix (.var 0) (.cst (.int 0))) (.cst (.int 48271))) (.cst (.int 11)))) (.cst (.int 2147483647)))) (.cons (.ret (.bin .mod (.call .int (.bin .fdiv (.ix (.var 0) (.cst (.int 0))) (.cst (.int 64)))) (.var 1))) .nil))))
def t__law_pick : Ss := (.cons (.ret (.ix (.var 1) (.fn ("_law_below" : PySem.Str) (.cons (.var 0) (.cons (.call .len (.var 1)) .nil))))) .nil)
def t__law_equal : Ss := (.cons (.ite (.cmp .is_ (.var 1) (.cst .non)) (.cons (.ret (.cmp .is_ (.var 0) (.cst .non))) .nil) .nil) (.cons (.ite (.isH (.b "bool") (.var 1)) (.cons (.ret (.and (.cons (.isH (.b "bool") (.var 0)) (.cons (.eqP (.var 0) (.var 1)) .nil)))) .nil) .nil) (.cons (.ite (.isH (.b "int") (.var 1)) (.cons (.ret (.and (.cons (.isH (.b "int") (.var 0)) (.cons (.not (.isH (.b "bool") (.var 0))) (.cons (.eqP (.var 0) (.var 1)) .nil))))) .nil) .nil) (.cons (.ite (.isH (.b "str") (.var 1)) (.cons (.ret (.and (.cons (.isH (.b "str") (.var 0)) (.cons (.eqP (.var 0) (.var 1)) .nil)))) .nil) .nil) (.cons (.ite (.isH (.b "dict") (.var 1)) (.cons .bad (.cons .bad .nil)) .nil) (.cons (.ite (.cmp .ne (.isH (.b "tuple") (.var 1)) (.isH (.b "tuple") (.var 0))) (.cons (.ret (.cst (.bl false))) .nil) .nil) (.cons (.ite (.cmp .ne (.isH (.b "list") (.var 1)) (.isH (.b "list") (.var 0))) (.cons (.ret (.cst (.bl false))) .nil) .nil) (.cons (.ite (.cmp .ne (.callH .len (.var 0)) (.callH .len (.var 1))) (.cons (.ret (.cst (.bl false))) .nil) .nil) (.cons (.ret (.callH .all_ (.lcH false [(("_law_k" : PySem.Str), 3)] 3 (.callH .len (.var 1)) (.fnH ("_law_equal" : PySem.Str) (.cons (.ixP (.var 0) (.var 3)) (.cons (.ixP (.var 1) (.var 3)) .nil)))))) .nil)))))))))
def t__law_thrown : Ss := (.cons (.ite (.eq (.var 0) (.cst (.int 0))) (.cons (.raise0 ("InvalidDeep" : PySem.Str)) .nil) .nil) (.cons (.ite (.eq (.var 0) (.cst (.int 1))) (.cons (.raise0 ("BadAnswer" : PySem.Str)) .nil) .nil) (.cons (.ite (.eq (.var 0) (.cst (.int 2))) (.cons (.raise0 ("IsEnded" : PySem.Str)) .nil) .nil) (.cons (.ite (.eq (.var 0) (.cst (.int 3))) (.cons (.raise1 ("InvalidTalks" : PySem.Str) ("name" : PySem.Str) (.var 1)) .nil) .nil) (.cons (.ite (.eq (.var 0) (.cst (.int 4))) (.cons (.raise1 ("InvalidAnywhere" : PySem.Str) ("word" : PySem.Str) (.var 1)) .nil) .nil) (.cons (.ite (.eq (.var 0) (.cst (.int 5))) (.cons (.raise1 ("InvalidAnswers" : PySem.Str) ("index" : PySem.Str) (.var 1)) .nil) .nil) (.cons (.ite (.eq (.var 0) (.cst (.int 6))) (.cons (.raise1 ("InvalidRow" : PySem.Str) ("index" : PySem.Str) (.var 1)) .nil) .nil) (.cons (.raise1 ("InvalidLine" : PySem.Str) ("line" : PySem.Str) (.var 1)) .nil))))))))
def t__law_classes : Ss := (.cons (.asg (.name 1) (.lst false (.cons (.isx 0 (.own ("InvalidDeep" : PySem.Str))) (.cons (.isx 0 (.own ("BadAnswer" : PySem.Str))) (.cons (.isx 0 (.own ("IsEnded" : PySem.Str))) (.cons (.isx 0 (.own ("InvalidTalks" : PySem.Str))) .nil)))))) (.cons (.asg (.name 1) (.bin .add (.var 1) (.lst false (.cons (.isx 0 (.own ("InvalidAnywhere" : PySem.Str))) (.cons (.isx 0 (.own ("InvalidAnswers" : PySem.Str))) (.cons (.isx 0 (.own ("InvalidRow" : PySem.Str))) .nil)))))) (.cons (.ret (.bin .add (.var 1) (.lst false (.cons (.isx 0 (.own ("InvalidLine" : PySem.Str))) .nil)))) .nil)))
def t__law_field : Ss := (.cons (.ite (.cmp .lt (.var 0) (.cst (.int 3))) (.cons (.ret (.cst .non)) .nil) .nil) (.cons (.ite (.eqP (.var 0) (.cst (.int 3))) (.cons (.ret (.xf 1 ("name" : PySem.Str))) .nil) .nil) (.cons (.ite (.eqP (.var 0) (.cst (.int 4))) (.cons (.ret (.xf 1 ("word" : PySem.Str))) .nil) .nil) (.cons (.ret (.ite (.eqP (.var 0) (.cst (.int 7))) (.xf 1 ("line" : PySem.Str)) (.xf 1 ("index" : PySem.Str)))) .nil))))
def t_law : Ss := (.cons (.asg (.name 1) (.fn ("_law_random" : PySem.Str) (.cons (.var 0) (.cons (.cst (.int 694)) .nil)))) (.cons (.for_ (.range (.cst (.int 8))) (.name 2) (.cons (.asg (.name 3) (.fn ("_law_pick" : PySem.Str) (.cons (.var 1) (.cons (.lst false (.cons (.cst (.str ("a" : PySem.Str))) (.cons (.cst (.str ("" : PySem.Str))) (.cons (.cst (.int 7)) (.cons (.cst .non) (.cons (.tup (.cons (.cst (.int 1)) .nil)) (.cons (.lst false (.cons (.cst (.int 2)) .nil)) .nil))))))) .nil)))) (.cons (.asg (.name 4) (.cst (.bl false))) (.cons (.try_ (.cons (.expr (.fn ("_law_thrown" : PySem.Str) (.cons (.var 2) (.cons (.var 3) .nil)))) .nil) (.cons ("TalkError" : PySem.Str) (some 5) (.cons (.asg (.name 4) (.and (.cons (.isx 5 (.b "ValueError")) (.cons (.eqP (.fx0 ("_law_classes" : PySem.Str) 5) (.lcH false [(("_law_other" : PySem.Str), 6)] 6 (.cst (.int 8)) (.eqP (.var 6) (.var 2)))) .nil)))) (.cons (.asg (.name 4) (.and (.cons (.var 4) (.cons (.fnH ("_law_equal" : PySem.Str) (.cons (.fx1 ("_law_field" : PySem.Str) 5 (.var 2)) (.cons (.ite (.cmp .gt (.var 2) (.cst (.int 2))) (.var 3) (.cst .non)) .nil))) .nil)))) .nil)) .nil)) (.cons (.ite (.not (.var 4)) (.cons (.ret (.cst (.bl false))) .nil) .nil) .nil))))) (.cons (.ret (.cst (.bl true))) .nil)))
def d__law_random : Dx := { key := ("_law_random" : PySem.Str), pth := .glo ("_law_random" : PySem.Str), name := ("_law_random" : PySem.Str), qual := ("_law_random" : PySem.Str), params := defArgs (top 11), body := defBody (top 11), scope := defScope (top 11), ps := [("_law_script" : PySem.Str), ("_law_salt" : PySem.Str)], N := [("_law_script" : PySem.Str), ("_law_salt" : PySem.Str), ("_law_seed" : PySem.Str), ("_law_cell" : PySem.Str)], b := t__law_random, mkr := false, lam := false, hot := 0 }
def d__law_below : Dx := { key := ("_law_below" : PySem.Str), pth := .glo ("_law_below" : PySem.Str), name := ("_law_below" : PySem.Str), qual := ("_law_below" : PySem.Str), params := defArgs (top 12), body := defBody (top 12), scope := defScope (top 12), ps := [("_law_d" : PySem.Str), ("_law_size" : PySem.Str)], N := [("_law_d" : PySem.Str), ("_law_size" : PySem.Str), ("_law_result" : PySem.Str)], b := t__law_below, mkr := false, lam := false, hot := 0 }
def d__law_pick : Dx := { key := ("_law_pick" : PySem.Str), pth := .glo ("_law_pick" : PySem.Str), name := ("_law_pick" : PySem.Str), qual := ("_law_pick" : PySem.Str), params := defArgs (top 13), body := defBody (top 13), scope := defScope (top 13), ps := [("_law_d" : PySem.Str), ("_law_items" : PySem.Str)], N := [("_law_d" : PySem.Str), ("_law_items" : PySem.Str)], b := t__law_pick, mkr := false, lam := false, hot := 0 }
def d__law_equal : Dx := { key := ("_law_equal" : PySem.Str), pth := .glo ("_law_equal" : PySem.Str), name := ("_law_equal" : PySem.Str), qual := ("_law_equal" : PySem.Str), params := defArgs (top 14), body := defBody (top 14), scope := defScope (top 14), ps := [("_law_actual" : PySem.Str), ("_law_expected" : PySem.Str)], N := [("_law_actual" : PySem.Str), ("_law_expected" : PySem.Str), ("_law_key" : PySem.Str), ("_law_k" : PySem.Str)], b := t__law_equal, mkr := false, lam := true, hot := 1 }
def d__law_thrown : Dx := { key := ("_law_thrown" : PySem.Str), pth := .glo ("_law_thrown" : PySem.Str), name := ("_law_thrown" : PySem.Str), qual := ("_law_thrown" : PySem.Str), params := defArgs (top 15), body := defBody (top 15), scope := defScope (top 15), ps := [("_law_k" : PySem.Str), ("_law_one" : PySem.Str)], N := [("_law_k" : PySem.Str), ("_law_one" : PySem.Str)], b := t__law_thrown, mkr := false, lam := false, hot := 0 }
def d__law_classes : Dx := { key := ("_law_classes" : PySem.Str), pth := .glo ("_law_classes" : PySem.Str), name := ("_law_classes" : PySem.Str), qual := ("_law_classes" : PySem.Str), params := defArgs (top 16), body := defBody (top 16), scope := defScope (top 16), ps := [("_law_e" : PySem.Str)], N := [("_law_e" : PySem.Str), ("_law_found" : PySem.Str)], b := t__law_classes, mkr := false, lam := true, hot := 2 }
def d__law_field : Dx := { key := ("_law_field" : PySem.Str), pth := .glo ("_law_field" : PySem.Str), name := ("_law_field" : PySem.Str), qual := ("_law_field" : PySem.Str), params := defArgs (top 17), body := defBody (top 17), scope := defScope (top 17), ps := [("_law_k" : PySem.Str), ("_law_e" : PySem.Str)], N := [("_law_k" : PySem.Str), ("_law_e" : PySem.Str)], b := t__law_field, mkr := false, lam := true, hot := 2 }
def d_law : Dx := { key := ("law" : PySem.Str), pth := .glo ("law" : PySem.Str), name := ("law" : PySem.Str), qual := ("law" : PySem.Str), params := defArgs (top 18), body := defBody (top 18), scope := defScope (top 18), ps := [("_law_script" : PySem.Str)], N := [("_law_script" : PySem.Str), ("_law_d" : PySem.Str), ("_law_k" : PySem.Str), ("_law_one" : PySem.Str), ("_law_good" : PySem.Str), ("_law_e" : PySem.Str), ("_law_other" : PySem.Str)], b := t_law, mkr := false, lam := false, hot := 0 }
def pg : Pg where
  cs := []
  errs := [⟨("TalkError" : PySem.Str), none, (.Pass ⟨0, 0, 0, 0⟩), ("TalkError.__init__" : PySem.Str), [(("TalkError" : PySem.Str), true)], [(.own ("BadAnswer" : PySem.Str), false), (.own ("InvalidAnswers" : PySem.Str), false), (.own ("InvalidAnywhere" : PySem.Str), false), (.own ("InvalidDeep" : PySem.Str), false), (.own ("InvalidLine" : PySem.Str), false), (.own ("InvalidRow" : PySem.Str), false), (.own ("InvalidTalks" : PySem.Str), false), (.own ("IsEnded" : PySem.Str), false), (.b "ValueError", true)]⟩, ⟨("InvalidTalks" : PySem.Str), some ("name" : PySem.Str), (inClass (top 2) 0), ("InvalidTalks.__init__" : PySem.Str), [(("TalkError" : PySem.Str), true)], [(.own ("BadAnswer" : PySem.Str), false), (.own ("InvalidAnswers" : PySem.Str), false), (.own ("InvalidAnywhere" : PySem.Str), false), (.own ("InvalidDeep" : PySem.Str), false), (.own ("InvalidLine" : PySem.Str), false), (.own ("InvalidRow" : PySem.Str), false), (.own ("InvalidTalks" : PySem.Str), true), (.own ("IsEnded" : PySem.Str), false), (.b "ValueError", true)]⟩, ⟨("InvalidAnywhere" : PySem.Str), some ("word" : PySem.Str), (inClass (top 3) 0), ("InvalidAnywhere.__init__" : PySem.Str), [(("TalkError" : PySem.Str), true)], [(.own ("BadAnswer" : PySem.Str), false), (.own ("InvalidAnswers" : PySem.Str), false), (.own ("InvalidAnywhere" : PySem.Str), true), (.own ("InvalidDeep" : PySem.Str), false), (.own ("InvalidLine" : PySem.Str), false), (.own ("InvalidRow" : PySem.Str), false), (.own ("InvalidTalks" : PySem.Str), false), (.own ("IsEnded" : PySem.Str), false), (.b "ValueError", true)]⟩, ⟨("InvalidDeep" : PySem.Str), none, (.Pass ⟨0, 0, 0, 0⟩), ("InvalidDeep.__init__" : PySem.Str), [(("TalkError" : PySem.Str), true)], [(.own ("BadAnswer" : PySem.Str), false), (.own ("InvalidAnswers" : PySem.Str), false), (.own ("InvalidAnywhere" : PySem.Str), false), (.own ("InvalidDeep" : PySem.Str), true), (.own ("InvalidLine" : PySem.Str), false), (.own ("InvalidRow" : PySem.Str), false), (.own ("InvalidTalks" : PySem.Str), false), (.own ("IsEnded" : PySem.Str), false), (.b "ValueError", true)]⟩, ⟨("InvalidAnswers" : PySem.Str), some ("index" : PySem.Str), (inClass (top 5) 0), ("InvalidAnswers.__init__" : PySem.Str), [(("TalkError" : PySem.Str), true)], [(.own ("BadAnswer" : PySem.Str), false), (.own ("InvalidAnswers" : PySem.Str), true), (.own ("InvalidAnywhere" : PySem.Str), false), (.own ("InvalidDeep" : PySem.Str), false), (.own ("InvalidLine" : PySem.Str), false), (.own ("InvalidRow" : PySem.Str), false), (.own ("InvalidTalks" : PySem.Str), false), (.own ("IsEnded" : PySem.Str), false), (.b "ValueError", true)]⟩, ⟨("InvalidRow" : PySem.Str), some ("index" : PySem.Str), (inClass (top 6) 0), ("InvalidRow.__init__" : PySem.Str), [(("TalkError" : PySem.Str), true)], [(.own ("BadAnswer" : PySem.Str), false), (.own ("InvalidAnswers" : PySem.Str), false), (.own ("InvalidAnywhere" : PySem.Str), false), (.own ("InvalidDeep" : PySem.Str), false), (.own ("InvalidLine" : PySem.Str), false), (.own ("InvalidRow" : PySem.Str), true), (.own ("InvalidTalks" : PySem.Str), false), (.own ("IsEnded" : PySem.Str), false), (.b "ValueError", true)]⟩, ⟨("BadAnswer" : PySem.Str), none, (.Pass ⟨0, 0, 0, 0⟩), ("BadAnswer.__init__" : PySem.Str), [(("TalkError" : PySem.Str), true)], [(.own ("BadAnswer" : PySem.Str), true), (.own ("InvalidAnswers" : PySem.Str), false), (.own ("InvalidAnywhere" : PySem.Str), false), (.own ("InvalidDeep" : PySem.Str), false), (.own ("InvalidLine" : PySem.Str), false), (.own ("InvalidRow" : PySem.Str), false), (.own ("InvalidTalks" : PySem.Str), false), (.own ("IsEnded" : PySem.Str), false), (.b "ValueError", true)]⟩, ⟨("IsEnded" : PySem.Str), none, (.Pass ⟨0, 0, 0, 0⟩), ("IsEnded.__init__" : PySem.Str), [(("TalkError" : PySem.Str), true)], [(.own ("BadAnswer" : PySem.Str), false), (.own ("InvalidAnswers" : PySem.Str), false), (.own ("InvalidAnywhere" : PySem.Str), false), (.own ("InvalidDeep" : PySem.Str), false), (.own ("InvalidLine" : PySem.Str), false), (.own ("InvalidRow" : PySem.Str), false), (.own ("InvalidTalks" : PySem.Str), false), (.own ("IsEnded" : PySem.Str), true), (.b "ValueError", true)]⟩, ⟨("InvalidLine" : PySem.Str), some ("line" : PySem.Str), (inClass (top 9) 0), ("InvalidLine.__init__" : PySem.Str), [(("TalkError" : PySem.Str), true)], [(.own ("BadAnswer" : PySem.Str), false), (.own ("InvalidAnswers" : PySem.Str), false), (.own ("InvalidAnywhere" : PySem.Str), false), (.own ("InvalidDeep" : PySem.Str), false), (.own ("InvalidLine" : PySem.Str), true), (.own ("InvalidRow" : PySem.Str), false), (.own ("InvalidTalks" : PySem.Str), false), (.own ("IsEnded" : PySem.Str), false), (.b "ValueError", true)]⟩]
  k := []
  fn := [(("_law_random" : PySem.Str), ("_law_random" : PySem.Str)), (("_law_below" : PySem.Str), ("_law_below" : PySem.Str)), (("_law_pick" : PySem.Str), ("_law_pick" : PySem.Str)), (("_law_thrown" : PySem.Str), ("_law_thrown" : PySem.Str)), (("law" : PySem.Str), ("law" : PySem.Str))]
  fc := []
  fh := [(("_law_equal" : PySem.Str), ("_law_equal" : PySem.Str))]
  fx := [(("_law_classes" : PySem.Str), ("_law_classes" : PySem.Str)), (("_law_field" : PySem.Str), ("_law_field" : PySem.Str))]
  cl := [(("TalkError" : PySem.Str), ("TalkError" : PySem.Str)), (("InvalidTalks" : PySem.Str), ("InvalidTalks" : PySem.Str)), (("InvalidAnywhere" : PySem.Str), ("InvalidAnywhere" : PySem.Str)), (("InvalidDeep" : PySem.Str), ("InvalidDeep" : PySem.Str)), (("InvalidAnswers" : PySem.Str), ("InvalidAnswers" : PySem.Str)), (("InvalidRow" : PySem.Str), ("InvalidRow" : PySem.Str)), (("BadAnswer" : PySem.Str), ("BadAnswer" : PySem.Str)), (("IsEnded" : PySem.Str), ("IsEnded" : PySem.Str)), (("InvalidLine" : PySem.Str), ("InvalidLine" : PySem.Str))]
  bl := [("ValueError" : PySem.Str), ("abs" : PySem.Str), ("all" : PySem.Str), ("bool" : PySem.Str), ("dict" : PySem.Str), ("int" : PySem.Str), ("isinstance" : PySem.Str), ("len" : PySem.Str), ("list" : PySem.Str), ("range" : PySem.Str), ("sorted" : PySem.Str), ("str" : PySem.Str), ("tuple" : PySem.Str)]
  defs := [d__law_random, d__law_below, d__law_pick, d__law_equal, d__law_thrown, d__law_classes, d__law_field, d_law]
  lams := []
  n := 1000
theorem m_T (l : Nat) : (pg.m l).T = pg.T := by cases l <;> rfl
theorem m_t (l : Nat) : (pg.m l).t = pg.t := by cases l <;> rfl
theorem m_n (l : Nat) : (pg.m l).n = pg.n := by cases l <;> rfl
theorem c__law_random (l : Nat) (v0 v1 : D) (S : Sto) : (pg.m (l + 1)).P ("_law_random" : PySem.Str) [v0, v1] S = runOf (t__law_random.den (pg.m l) ⟨[some v0, some v1, none, none], none⟩ S) := by kernel_rfl
theorem c__law_below (l : Nat) (v0 v1 : D) (S : Sto) : (pg.m (l + 1)).P ("_law_below" : PySem.Str) [v0, v1] S = runOf (t__law_below.den (pg.m l) ⟨[some v0, some v1, none], none⟩ S) := by kernel_rfl
theorem c__law_pick (l : Nat) (v0 v1 : D) (S : Sto) : (pg.m (l + 1)).P ("_law_pick" : PySem.Str) [v0, v1] S = runOf (t__law_pick.den (pg.m l) ⟨[some v0, some v1], none⟩ S) := by kernel_rfl
theorem c__law_equal (l : Nat) (v0 v1 : D) (S : Sto) : (pg.m (l + 1)).P ("_law_equal" : PySem.Str) [v0, v1] S = runOf (t__law_equal.den (pg.m l) ⟨[some v0, some v1, none, none], none⟩ S) := by kernel_rfl
theorem c__law_thrown (l : Nat) (v0 v1 : D) (S : Sto) : (pg.m (l + 1)).P ("_law_thrown" : PySem.Str) [v0, v1] S = runOf (t__law_thrown.den (pg.m l) ⟨[some v0, some v1], none⟩ S) := by kernel_rfl
theorem c__law_classes (l : Nat) (c : PySem.Str) (fs : List (PySem.Str × D)) (z : ErrT) (hz : pg.errOf c = some z) (S : Sto) : (pg.m (l + 1)).PX ("_law_classes" : PySem.Str) c fs [] S = runOf (t__law_classes.den ((pg.m l).at_ c fs) ⟨[none, none], some (0, 0, [])⟩ S) := by
  show (match pg.errOf c with | some _ => (match pg.get ("_law_classes" : PySem.Str) with | some d => if d.hot = 2 then d.df.runX (pg.m l) c fs else fun _ _ => Mt.R.no | none => fun _ _ => Mt.R.no) | none => fun _ _ => Mt.R.no) [] S = _
  rw [hz]
  kernel_rfl
theorem c__law_field (l : Nat) (c : PySem.Str) (fs : List (PySem.Str × D)) (z : ErrT) (hz : pg.errOf c = some z) (v0 : D) (S : Sto) : (pg.m (l + 1)).PX ("_law_field" : PySem.Str) c fs [v0] S = runOf (t__law_field.den ((pg.m l).at_ c fs) ⟨[some v0, none], some (1, 0, [])⟩ S) := by
  show (match pg.errOf c with | some _ => (match pg.get ("_law_field" : PySem.Str) with | some d => if d.hot = 2 then d.df.runX (pg.m l) c fs else fun _ _ => Mt.R.no | none => fun _ _ => Mt.R.no) | none => fun _ _ => Mt.R.no) [v0] S = _
  rw [hz]
  kernel_rfl
theorem c_law (l : Nat) (v0 : D) (S : Sto) : (pg.m (l + 1)).P ("law" : PySem.Str) [v0] S = runOf (t_law.den (pg.m l) ⟨[some v0, none, none, none, none, none, none], none⟩ S) := by kernel_rfl
end K14


set_option Elab.async false
set_option linter.all false
set_option maxRecDepth 100000
set_option maxHeartbeats 0
namespace K14
open PySem PySem.Spec PyProof.Rows L2 Mt
abbrev R : PySem.W.OpenRow := PySem.W.OpenLaw.row PySem.Challenge.rw_menutalk_k14_errors_apart
abbrev file : PySem.Str := PySem.Challenge.pw_menutalk_k14_errors_apart.main.file
abbrev hk : PySem.W.Hook := hookM 5 pg file
def ob (s : PySem.W.SharedT) : AlM := obsMG 5 pg file (HandSHeadRun.getT s)
theorem ob_eq (s : PySem.W.SharedT) : ob s = hk.obs s.abs := obsMG_eq (HandSHeadRun.getT_eq s)
theorem run (w : World) : HandSHeadRun.RunEq R (PySem.W.view R.prog [18]) hk ob 4000 loose w := by
  intro os
  kernel_rfl
theorem txt : pg.defs.all (fun d => d.txt pg) = true := by kernel_rfl
end K14


set_option Elab.async false
set_option linter.all false
set_option maxRecDepth 100000
set_option maxHeartbeats 1000000
namespace K14
open PySem PySem.Spec PyProof.Rows L2 Mt
/-- numbers drawn so far -/
abbrev G0 (g : List Int) (rest : Sto) : Sto := .lst (g.map D.int) :: rest
theorem below (l : Nat) (g : List Int) (n : Int) (rest : Sto) (hg : 2 ≤ g.length) (h0 : 0 < n) (h1 : n < 1073741824) : ∃ (r : Int) (g' : List Int), 0 ≤ r ∧ r < n ∧ 2 ≤ g'.length ∧ (pg.m (l + 1)).P "_law_below" [.loc 0, .int n] (G0 g rest) = .ok (.int r) (G0 g' rest) := by
  match g, hg with
  | a :: b :: tl, _ =>
    rw [c__law_below]
    by_cases hb : b = 0
    · subst hb
      cases tl with
      | nil =>
        refine ⟨((a * 48271 + 11) % 2147483647 / 64) % n, [(a * 48271 + 11) % 2147483647, 0], Int.emod_nonneg _ (by omega), Int.emod_lt_of_pos _ h0, by simp, ?_⟩
        simp [t__law_below, G0, dMul_int, dMod_int, dFdiv_int, h0, h1]
      | cons c tl =>
        by_cases hc : 0 < c
        · refine ⟨c % n, a :: (c / n) :: tl, Int.emod_nonneg _ (by omega), Int.emod_lt_of_pos _ h0, by simp, ?_⟩
          have e : (2 : Int) < tl.length + 1 + 1 + 1 := by omega
          simp [t__law_below, G0, d0_pop2, dMul_int, dMod_int, dFdiv_int, h0, h1, e, hc]
        · refine ⟨((a * 48271 + 11) % 2147483647 / 64) % n, (a * 48271 + 11) % 2147483647 :: c :: tl, Int.emod_nonneg _ (by omega), Int.emod_lt_of_pos _ h0, by simp, ?_⟩
          have e : (2 : Int) < tl.length + 1 + 1 + 1 := by omega
          simp [t__law_below, G0, d0_pop2, dMul_int, dMod_int, dFdiv_int, h0, h1, e, hc]
    · by_cases hc : 0 < b
      · refine ⟨b % n, a :: (b / n) :: tl, Int.emod_nonneg _ (by omega), Int.emod_lt_of_pos _ h0, by simp, ?_⟩
        simp [t__law_below, G0, dMul_int, dMod_int, dFdiv_int, h0, h1, hb, hc]
      · refine ⟨((a * 48271 + 11) % 2147483647 / 64) % n, (a * 48271 + 11) % 2147483647 :: b :: tl, Int.emod_nonneg _ (by omega), Int.emod_lt_of_pos _ h0, by simp, ?_⟩
        simp [t__law_below, G0, dMul_int, dMod_int, dFdiv_int, h0, h1, hb, hc]
theorem ten18 (S : Sto) : dPow S (.int 10) (.int 18) = some (.int 1000000000000000000) := by kernel_rfl
theorem random (l : Nat) (ns : List Int) (k : Int) (hn : ns.length ≤ 63) : ∃ g : List Int, 2 ≤ g.length ∧ (pg.m (l + 1)).P "_law_random" [.lst (ns.map D.int), .int k] [] = .ok (.loc 0) (G0 g []) := by
  have loop : ∀ (xs : List Int) (sc sa : D) (s : Int) (c : Option D), ∃ (s' : Int) (c' : Option D),
      rsForGo (gtName 3) ((Ss.cons (.asg (.name 2) (.bin .mod (.call .int (.bin .add (.bin .mul (.var 2) (.cst (.int 31))) (.call .abs (.var 3)))) (.cst (.int 2147483647)))) .nil).den (pg.m l)) .free (xs.map D.int) ⟨[some sc, some sa, some (.int s), c], none⟩ [] = .next ⟨[some sc, some sa, some (.int s'), c'], none⟩ [] := by
    intro xs
    induction xs with
    | nil => intro sc sa s c; exact ⟨s, c, rfl⟩
    | cons x xs ih =>
      intro sc sa s c
      obtain ⟨s', c', e⟩ := ih sc sa ((s * 31 + (if x < 0 then -x else x)) % 2147483647) (some (.int x))
      refine ⟨s', c', ?_⟩
      rw [List.map_cons, for_cons]
      simp [dMul_int, dMod_int]
      exact e
  obtain ⟨s', c', e⟩ := loop ns (.lst (ns.map D.int)) (.int k) k none
  have filt := lcGo_filter (ρ := ⟨[some (.lst (ns.map D.int)), some (.int k), some (.int s'), none], none⟩) (S := []) (g := gtName 3) (rc := (Ex.cmp .ge (.var 3) (.bin .pow (.cst (.int 10)) (.cst (.int 18)))).den (pg.m l)) (re := (Ex.var 3).den (pg.m l)) (ck := .free) (h := id)
    (p := fun d => match d with | .int i => decide (1000000000000000000 ≤ i) | _ => false) (ns.map D.int) [] (fun x hx => by
      obtain ⟨i, hi, rfl⟩ := List.mem_map.mp hx
      refine ⟨_, rfl, ?_, ?_⟩ <;> simp [ten18]) rfl (by rw [List.length_map]; simp [big]; omega)
  have hf : ∃ hs : List Int, ((ns.map D.int).filter (fun d => match d with | .int i => decide (1000000000000000000 ≤ i) | _ => false)).map id = hs.map D.int ∧ hs.length ≤ 63 := by
    refine ⟨ns.filter fun i => decide (1000000000000000000 ≤ i), ?_, Nat.le_trans (List.length_filter_le _ _) hn⟩
    rw [List.filter_map, List.map_map]; rfl
  obtain ⟨hs, eh, hl⟩ := hf
  rw [eh] at filt
  refine ⟨s' :: 0 :: hs, by simp, ?_⟩
  rw [c__law_random]
  simp [t__law_random, e, filt, kLs_eq, big, gAddN, dAddL, asL, G0, show 2 + hs.length ≤ 1000000 by omega]
/-- the store: numbers drawn, then what stands -/
def In (rest S : Sto) : Prop := ∃ g : List Int, 2 ≤ g.length ∧ S = G0 g rest
theorem below' (l : Nat) (n : Int) {rest S : Sto} (h0 : 0 < n) (h1 : n < 1073741824) (hI : In rest S) : ∃ (r : Int) (S' : Sto), 0 ≤ r ∧ r < n ∧ In rest S' ∧ (pg.m (l + 1)).P "_law_below" [.loc 0, .int n] S = .ok (.int r) S' := by
  obtain ⟨g, hg, rfl⟩ := hI
  obtain ⟨r, g', q1, q2, q3, q4⟩ := below l g n rest hg h0 h1
  exact ⟨r, _, q1, q2, ⟨g', q3, rfl⟩, q4⟩
theorem pick (l : Nat) (xs : List D) {rest S : Sto} (h0 : 0 < xs.length) (h1 : xs.length < 1000) (hI : In rest S) : ∃ (x : D) (S' : Sto), x ∈ xs ∧ In rest S' ∧ (pg.m (l + 2)).P "_law_pick" [.loc 0, .lst xs] S = .ok x S' := by
  obtain ⟨r, S', q1, q2, q3, q4⟩ := below' l (xs.length : Int) (by omega) (by omega) hI
  obtain ⟨d, e, hd⟩ := atI_mem (xs := xs) q1 q2
  refine ⟨d, S', hd, q3, ?_⟩
  have e' : dIx S' (.lst xs) (.int r) = some d := e
  rw [c__law_pick]
  simp [t__law_pick, q4, e']
/-- what stands behind the draw, in a turn -/
def rest_ : Ss := match t_law with
  | .cons _ (.cons (.for_ _ _ (.cons _ r)) _) => r
  | _ => .nil
def draw_ : Mt.St := match t_law with
  | .cons _ (.cons (.for_ _ _ (.cons s _)) _) => s
  | _ => .pass
def items : List D := [.str "a", .str "", .int 7, .non, .tup [.int 1], .lst [.int 2]]
theorem law_eq : t_law = .cons (.asg (.name 1) (.fn ("_law_random" : PySem.Str) (.cons (.var 0) (.cons (.cst (.int 694)) .nil)))) (.cons (.for_ (.range (.cst (.int 8))) (.name 2) (.cons draw_ rest_)) (.cons (.ret (.cst (.bl true))) .nil)) := rfl
theorem t_0_0 (sc : D) (c4 : Option D) (S : Sto) : rest_.den (pg.m 6) ⟨[some sc, some (.loc 0), some (.int 0), some (.str "a"), c4, none, none], none⟩ S = .next ⟨[some sc, some (.loc 0), some (.int 0), some (.str "a"), some (.bl true), none, none], none⟩ S := by kernel_rfl
theorem t_0_1 (sc : D) (c4 : Option D) (S : Sto) : rest_.den (pg.m 6) ⟨[some sc, some (.loc 0), some (.int 0), some (.str ""), c4, none, none], none⟩ S = .next ⟨[some sc, some (.loc 0), some (.int 0), some (.str ""), some (.bl true), none, none], none⟩ S := by kernel_rfl
theorem t_0_2 (sc : D) (c4 : Option D) (S : Sto) : rest_.den (pg.m 6) ⟨[some sc, some (.loc 0), some (.int 0), some (.int 7), c4, none, none], none⟩ S = .next ⟨[some sc, some (.loc 0), some (.int 0), some (.int 7), some (.bl true), none, none], none⟩ S := by kernel_rfl
theorem t_0_3 (sc : D) (c4 : Option D) (S : Sto) : rest_.den (pg.m 6) ⟨[some sc, some (.loc 0), some (.int 0), some .non, c4, none, none], none⟩ S = .next ⟨[some sc, some (.loc 0), some (.int 0), some .non, some (.bl true), none, none], none⟩ S := by kernel_rfl
theorem t_0_4 (sc : D) (c4 : Option D) (S : Sto) : rest_.den (pg.m 6) ⟨[some sc, some (.loc 0), some (.int 0), some (.tup [.int 1]), c4, none, none], none⟩ S = .next ⟨[some sc, some (.loc 0), some (.int 0), some (.tup [.int 1]), some (.bl true), none, none], none⟩ S := by kernel_rfl
theorem t_0_5 (sc : D) (c4 : Option D) (S : Sto) : rest_.den (pg.m 6) ⟨[some sc, some (.loc 0), some (.int 0), some (.lst [.int 2]), c4, none, none], none⟩ S = .next ⟨[some sc, some (.loc 0), some (.int 0), some (.lst [.int 2]), some (.bl true), none, none], none⟩ S := by kernel_rfl
theorem t_1_0 (sc : D) (c4 : Option D) (S : Sto) : rest_.den (pg.m 6) ⟨[some sc, some (.loc 0), some (.int 1), some (.str "a"), c4, none, none], none⟩ S = .next ⟨[some sc, some (.loc 0), some (.int 1), some (.str "a"), some (.bl true), none, none], none⟩ S := by kernel_rfl
theorem t_1_1 (sc : D) (c4 : Option D) (S : Sto) : rest_.den (pg.m 6) ⟨[some sc, some (.loc 0), some (.int 1), some (.str ""), c4, none, none], none⟩ S = .next ⟨[some sc, some (.loc 0), some (.int 1), some (.str ""), some (.bl true), none, none], none⟩ S := by kernel_rfl
theorem t_1_2 (sc : D) (c4 : Option D) (S : Sto) : rest_.den (pg.m 6) ⟨[some sc, some (.loc 0), some (.int 1), some (.int 7), c4, none, none], none⟩ S = .next ⟨[some sc, some (.loc 0), some (.int 1), some (.int 7), some (.bl true), none, none], none⟩ S := by kernel_rfl
theorem t_1_3 (sc : D) (c4 : Option D) (S : Sto) : rest_.den (pg.m 6) ⟨[some sc, some (.loc 0), some (.int 1), some .non, c4, none, none], none⟩ S = .next ⟨[some sc, some (.loc 0), some (.int 1), some .non, some (.bl true), none, none], none⟩ S := by kernel_rfl
theorem t_1_4 (sc : D) (c4 : Option D) (S : Sto) : rest_.den (pg.m 6) ⟨[some sc, some (.loc 0), some (.int 1), some (.tup [.int 1]), c4, none, none], none⟩ S = .next ⟨[some sc, some (.loc 0), some (.int 1), some (.tup [.int 1]), some (.bl true), none, none], none⟩ S := by kernel_rfl
theorem t_1_5 (sc : D) (c4 : Option D) (S : Sto) : rest_.den (pg.m 6) ⟨[some sc, some (.loc 0), some (.int 1), some (.lst [.int 2]), c4, none, none], none⟩ S = .next ⟨[some sc, some (.loc 0), some (.int 1), some (.lst [.int 2]), some (.bl true), none, none], none⟩ S := by kernel_rfl
theorem t_2_0 (sc : D) (c4 : Option D) (S : Sto) : rest_.den (pg.m 6) ⟨[some sc, some (.loc 0), some (.int 2), some (.str "a"), c4, none, none], none⟩ S = .next ⟨[some sc, some (.loc 0), some (.int 2), some (.str "a"), some (.bl true), none, none], none⟩ S := by kernel_rfl
theorem t_2_1 (sc : D) (c4 : Option D) (S : Sto) : rest_.den (pg.m 6) ⟨[some sc, some (.loc 0), some (.int 2), some (.str ""), c4, none, none], none⟩ S = .next ⟨[some sc, some (.loc 0), some (.int 2), some (.str ""), some (.bl true), none, none], none⟩ S := by kernel_rfl
theorem t_2_2 (sc : D) (c4 : Option D) (S : Sto) : rest_.den (pg.m 6) ⟨[some sc, some (.loc 0), some (.int 2), some (.int 7), c4, none, none], none⟩ S = .next ⟨[some sc, some (.loc 0), some (.int 2), some (.int 7), some (.bl true), none, none], none⟩ S := by kernel_rfl
theorem t_2_3 (sc : D) (c4 : Option D) (S : Sto) : rest_.den (pg.m 6) ⟨[some sc, some (.loc 0), some (.int 2), some .non, c4, none, none], none⟩ S = .next ⟨[some sc, some (.loc 0), some (.int 2), some .non, some (.bl true), none, none], none⟩ S := by kernel_rfl
theorem t_2_4 (sc : D) (c4 : Option D) (S : Sto) : rest_.den (pg.m 6) ⟨[some sc, some (.loc 0), some (.int 2), some (.tup [.int 1]), c4, none, none], none⟩ S = .next ⟨[some sc, some (.loc 0), some (.int 2), some (.tup [.int 1]), some (.bl true), none, none], none⟩ S := by kernel_rfl
theorem t_2_5 (sc : D) (c4 : Option D) (S : Sto) : rest_.den (pg.m 6) ⟨[some sc, some (.loc 0), some (.int 2), some (.lst [.int 2]), c4, none, none], none⟩ S = .next ⟨[some sc, some (.loc 0), some (.int 2), some (.lst [.int 2]), some (.bl true), none, none], none⟩ S := by kernel_rfl
theorem t_3_0 (sc : D) (c4 : Option D) (S : Sto) : rest_.den (pg.m 6) ⟨[some sc, some (.loc 0), some (.int 3), some (.str "a"), c4, none, none], none⟩ S = .next ⟨[some sc, some (.loc 0), some (.int 3), some (.str "a"), some (.bl true), none, none], none⟩ S := by kernel_rfl
theorem t_3_1 (sc : D) (c4 : Option D) (S : Sto) : rest_.den (pg.m 6) ⟨[some sc, some (.loc 0), some (.int 3), some (.str ""), c4, none, none], none⟩ S = .next ⟨[some sc, some (.loc 0), some (.int 3), some (.str ""), some (.bl true), none, none], none⟩ S := by kernel_rfl
theorem t_3_2 (sc : D) (c4 : Option D) (S : Sto) : rest_.den (pg.m 6) ⟨[some sc, some (.loc 0), some (.int 3), some (.int 7), c4, none, none], none⟩ S = .next ⟨[some sc, some (.loc 0), some (.int 3), some (.int 7), some (.bl true), none, none], none⟩ S := by kernel_rfl
theorem t_3_3 (sc : D) (c4 : Option D) (S : Sto) : rest_.den (pg.m 6) ⟨[some sc, some (.loc 0), some (.int 3), some .non, c4, none, none], none⟩ S = .next ⟨[some sc, some (.loc 0), some (.int 3), some .non, some (.bl true), none, none], none⟩ S := by kernel_rfl
theorem t_3_4 (sc : D) (c4 : Option D) (S : Sto) : rest_.den (pg.m 6) ⟨[some sc, some (.loc 0), some (.int 3), some (.tup [.int 1]), c4, none, none], none⟩ S = .next ⟨[some sc, some (.loc 0), some (.int 3), some (.tup [.int 1]), some (.bl true), none, none], none⟩ S := by kernel_rfl
theorem t_3_5 (sc : D) (c4 : Option D) (S : Sto) : rest_.den (pg.m 6) ⟨[some sc, some (.loc 0), some (.int 3), some (.lst [.int 2]), c4, none, none], none⟩ S = .next ⟨[some sc, some (.loc 0), some (.int 3), some (.lst [.int 2]), some (.bl true), none, none], none⟩ S := by kernel_rfl
theorem t_4_0 (sc : D) (c4 : Option D) (S : Sto) : rest_.den (pg.m 6) ⟨[some sc, some (.loc 0), some (.int 4), some (.str "a"), c4, none, none], none⟩ S = .next ⟨[some sc, some (.loc 0), some (.int 4), some (.str "a"), some (.bl true), none, none], none⟩ S := by kernel_rfl
theorem t_4_1 (sc : D) (c4 : Option D) (S : Sto) : rest_.den (pg.m 6) ⟨[some sc, some (.loc 0), some (.int 4), some (.str ""), c4, none, none], none⟩ S = .next ⟨[some sc, some (.loc 0), some (.int 4), some (.str ""), some (.bl true), none, none], none⟩ S := by kernel_rfl
theorem t_4_2 (sc : D) (c4 : Option D) (S : Sto) : rest_.den (pg.m 6) ⟨[some sc, some (.loc 0), some (.int 4), some (.int 7), c4, none, none], none⟩ S = .next ⟨[some sc, some (.loc 0), some (.int 4), some (.int 7), some (.bl true), none, none], none⟩ S := by kernel_rfl
theorem t_4_3 (sc : D) (c4 : Option D) (S : Sto) : rest_.den (pg.m 6) ⟨[some sc, some (.loc 0), some (.int 4), some .non, c4, none, none], none⟩ S = .next ⟨[some sc, some (.loc 0), some (.int 4), some .non, some (.bl true), none, none], none⟩ S := by kernel_rfl
theorem t_4_4 (sc : D) (c4 : Option D) (S : Sto) : rest_.den (pg.m 6) ⟨[some sc, some (.loc 0), some (.int 4), some (.tup [.int 1]), c4, none, none], none⟩ S = .next ⟨[some sc, some (.loc 0), some (.int 4), some (.tup [.int 1]), some (.bl true), none, none], none⟩ S := by kernel_rfl
theorem t_4_5 (sc : D) (c4 : Option D) (S : Sto) : rest_.den (pg.m 6) ⟨[some sc, some (.loc 0), some (.int 4), some (.lst [.int 2]), c4, none, none], none⟩ S = .next ⟨[some sc, some (.loc 0), some (.int 4), some (.lst [.int 2]), some (.bl true), none, none], none⟩ S := by kernel_rfl
theorem t_5_0 (sc : D) (c4 : Option D) (S : Sto) : rest_.den (pg.m 6) ⟨[some sc, some (.loc 0), some (.int 5), some (.str "a"), c4, none, none], none⟩ S = .next ⟨[some sc, some (.loc 0), some (.int 5), some (.str "a"), some (.bl true), none, none], none⟩ S := by kernel_rfl
theorem t_5_1 (sc : D) (c4 : Option D) (S : Sto) : rest_.den (pg.m 6) ⟨[some sc, some (.loc 0), some (.int 5), some (.str ""), c4, none, none], none⟩ S = .next ⟨[some sc, some (.loc 0), some (.int 5), some (.str ""), some (.bl true), none, none], none⟩ S := by kernel_rfl
theorem t_5_2 (sc : D) (c4 : Option D) (S : Sto) : rest_.den (pg.m 6) ⟨[some sc, some (.loc 0), some (.int 5), some (.int 7), c4, none, none], none⟩ S = .next ⟨[some sc, some (.loc 0), some (.int 5), some (.int 7), some (.bl true), none, none], none⟩ S := by kernel_rfl
theorem t_5_3 (sc : D) (c4 : Option D) (S : Sto) : rest_.den (pg.m 6) ⟨[some sc, some (.loc 0), some (.int 5), some .non, c4, none, none], none⟩ S = .next ⟨[some sc, some (.loc 0), some (.int 5), some .non, some (.bl true), none, none], none⟩ S := by kernel_rfl
theorem t_5_4 (sc : D) (c4 : Option D) (S : Sto) : rest_.den (pg.m 6) ⟨[some sc, some (.loc 0), some (.int 5), some (.tup [.int 1]), c4, none, none], none⟩ S = .next ⟨[some sc, some (.loc 0), some (.int 5), some (.tup [.int 1]), some (.bl true), none, none], none⟩ S := by kernel_rfl
theorem t_5_5 (sc : D) (c4 : Option D) (S : Sto) : rest_.den (pg.m 6) ⟨[some sc, some (.loc 0), some (.int 5), some (.lst [.int 2]), c4, none, none], none⟩ S = .next ⟨[some sc, some (.loc 0), some (.int 5), some (.lst [.int 2]), some (.bl true), none, none], none⟩ S := by kernel_rfl
theorem t_6_0 (sc : D) (c4 : Option D) (S : Sto) : rest_.den (pg.m 6) ⟨[some sc, some (.loc 0), some (.int 6), some (.str "a"), c4, none, none], none⟩ S = .next ⟨[some sc, some (.loc 0), some (.int 6), some (.str "a"), some (.bl true), none, none], none⟩ S := by kernel_rfl
theorem t_6_1 (sc : D) (c4 : Option D) (S : Sto) : rest_.den (pg.m 6) ⟨[some sc, some (.loc 0), some (.int 6), some (.str ""), c4, none, none], none⟩ S = .next ⟨[some sc, some (.loc 0), some (.int 6), some (.str ""), some (.bl true), none, none], none⟩ S := by kernel_rfl
theorem t_6_2 (sc : D) (c4 : Option D) (S : Sto) : rest_.den (pg.m 6) ⟨[some sc, some (.loc 0), some (.int 6), some (.int 7), c4, none, none], none⟩ S = .next ⟨[some sc, some (.loc 0), some (.int 6), some (.int 7), some (.bl true), none, none], none⟩ S := by kernel_rfl
theorem t_6_3 (sc : D) (c4 : Option D) (S : Sto) : rest_.den (pg.m 6) ⟨[some sc, some (.loc 0), some (.int 6), some .non, c4, none, none], none⟩ S = .next ⟨[some sc, some (.loc 0), some (.int 6), some .non, some (.bl true), none, none], none⟩ S := by kernel_rfl
theorem t_6_4 (sc : D) (c4 : Option D) (S : Sto) : rest_.den (pg.m 6) ⟨[some sc, some (.loc 0), some (.int 6), some (.tup [.int 1]), c4, none, none], none⟩ S = .next ⟨[some sc, some (.loc 0), some (.int 6), some (.tup [.int 1]), some (.bl true), none, none], none⟩ S := by kernel_rfl
theorem t_6_5 (sc : D) (c4 : Option D) (S : Sto) : rest_.den (pg.m 6) ⟨[some sc, some (.loc 0), some (.int 6), some (.lst [.int 2]), c4, none, none], none⟩ S = .next ⟨[some sc, some (.loc 0), some (.int 6), some (.lst [.int 2]), some (.bl true), none, none], none⟩ S := by kernel_rfl
theorem t_7_0 (sc : D) (c4 : Option D) (S : Sto) : rest_.den (pg.m 6) ⟨[some sc, some (.loc 0), some (.int 7), some (.str "a"), c4, none, none], none⟩ S = .next ⟨[some sc, some (.loc 0), some (.int 7), some (.str "a"), some (.bl true), none, none], none⟩ S := by kernel_rfl
theorem t_7_1 (sc : D) (c4 : Option D) (S : Sto) : rest_.den (pg.m 6) ⟨[some sc, some (.loc 0), some (.int 7), some (.str ""), c4, none, none], none⟩ S = .next ⟨[some sc, some (.loc 0), some (.int 7), some (.str ""), some (.bl true), none, none], none⟩ S := by kernel_rfl
theorem t_7_2 (sc : D) (c4 : Option D) (S : Sto) : rest_.den (pg.m 6) ⟨[some sc, some (.loc 0), some (.int 7), some (.int 7), c4, none, none], none⟩ S = .next ⟨[some sc, some (.loc 0), some (.int 7), some (.int 7), some (.bl true), none, none], none⟩ S := by kernel_rfl
theorem t_7_3 (sc : D) (c4 : Option D) (S : Sto) : rest_.den (pg.m 6) ⟨[some sc, some (.loc 0), some (.int 7), some .non, c4, none, none], none⟩ S = .next ⟨[some sc, some (.loc 0), some (.int 7), some .non, some (.bl true), none, none], none⟩ S := by kernel_rfl
theorem t_7_4 (sc : D) (c4 : Option D) (S : Sto) : rest_.den (pg.m 6) ⟨[some sc, some (.loc 0), some (.int 7), some (.tup [.int 1]), c4, none, none], none⟩ S = .next ⟨[some sc, some (.loc 0), some (.int 7), some (.tup [.int 1]), some (.bl true), none, none], none⟩ S := by kernel_rfl
theorem t_7_5 (sc : D) (c4 : Option D) (S : Sto) : rest_.den (pg.m 6) ⟨[some sc, some (.loc 0), some (.int 7), some (.lst [.int 2]), c4, none, none], none⟩ S = .next ⟨[some sc, some (.loc 0), some (.int 7), some (.lst [.int 2]), some (.bl true), none, none], none⟩ S := by kernel_rfl
theorem mem6 {x : D} (h : x ∈ items) : x = .str "a" ∨ x = .str "" ∨ x = .int 7 ∨ x = .non ∨ x = .tup [.int 1] ∨ x = .lst [.int 2] := by
  simpa [items] using h
theorem turn : ∀ (k : Nat), k < 8 → ∀ (x : D), x ∈ items → ∀ (sc : D) (c4 : Option D) (S : Sto), rest_.den (pg.m 6) ⟨[some sc, some (.loc 0), some (.int (k : Nat)), some x, c4, none, none], none⟩ S = .next ⟨[some sc, some (.loc 0), some (.int (k : Nat)), some x, some (.bl true), none, none], none⟩ S
  | 0, _, x, hx, sc, c4, S => by
    rcases mem6 hx with rfl | rfl | rfl | rfl | rfl | rfl
    · exact t_0_0 sc c4 S
    · exact t_0_1 sc c4 S
    · exact t_0_2 sc c4 S
    · exact t_0_3 sc c4 S
    · exact t_0_4 sc c4 S
    · exact t_0_5 sc c4 S
  | 1, _, x, hx, sc, c4, S => by
    rcases mem6 hx with rfl | rfl | rfl | rfl | rfl | rfl
    · exact t_1_0 sc c4 S
    · exact t_1_1 sc c4 S
    · exact t_1_2 sc c4 S
    · exact t_1_3 sc c4 S
    · exact t_1_4 sc c4 S
    · exact t_1_5 sc c4 S
  | 2, _, x, hx, sc, c4, S => by
    rcases mem6 hx with rfl | rfl | rfl | rfl | rfl | rfl
    · exact t_2_0 sc c4 S
    · exact t_2_1 sc c4 S
    · exact t_2_2 sc c4 S
    · exact t_2_3 sc c4 S
    · exact t_2_4 sc c4 S
    · exact t_2_5 sc c4 S
  | 3, _, x, hx, sc, c4, S => by
    rcases mem6 hx with rfl | rfl | rfl | rfl | rfl | rfl
    · exact t_3_0 sc c4 S
    · exact t_3_1 sc c4 S
    · exact t_3_2 sc c4 S
    · exact t_3_3 sc c4 S
    · exact t_3_4 sc c4 S
    · exact t_3_5 sc c4 S
  | 4, _, x, hx, sc, c4, S => by
    rcases mem6 hx with rfl | rfl | rfl | rfl | rfl | rfl
    · exact t_4_0 sc c4 S
    · exact t_4_1 sc c4 S
    · exact t_4_2 sc c4 S
    · exact t_4_3 sc c4 S
    · exact t_4_4 sc c4 S
    · exact t_4_5 sc c4 S
  | 5, _, x, hx, sc, c4, S => by
    rcases mem6 hx with rfl | rfl | rfl | rfl | rfl | rfl
    · exact t_5_0 sc c4 S
    · exact t_5_1 sc c4 S
    · exact t_5_2 sc c4 S
    · exact t_5_3 sc c4 S
    · exact t_5_4 sc c4 S
    · exact t_5_5 sc c4 S
  | 6, _, x, hx, sc, c4, S => by
    rcases mem6 hx with rfl | rfl | rfl | rfl | rfl | rfl
    · exact t_6_0 sc c4 S
    · exact t_6_1 sc c4 S
    · exact t_6_2 sc c4 S
    · exact t_6_3 sc c4 S
    · exact t_6_4 sc c4 S
    · exact t_6_5 sc c4 S
  | 7, _, x, hx, sc, c4, S => by
    rcases mem6 hx with rfl | rfl | rfl | rfl | rfl | rfl
    · exact t_7_0 sc c4 S
    · exact t_7_1 sc c4 S
    · exact t_7_2 sc c4 S
    · exact t_7_3 sc c4 S
    · exact t_7_4 sc c4 S
    · exact t_7_5 sc c4 S
  | k + 8, h, _, _, _, _, _ => absurd h (by omega)
theorem once (k : Nat) (hk : k < 8) (sc : D) (c3 c4 : Option D) {S : Sto} (hI : In [] S) : ∃ (x : D) (S' : Sto), In [] S' ∧ (Ss.cons draw_ rest_).den (pg.m 6) ⟨[some sc, some (.loc 0), some (.int (k : Nat)), c3, c4, none, none], none⟩ S =
    .next ⟨[some sc, some (.loc 0), some (.int (k : Nat)), some x, some (.bl true), none, none], none⟩ S' := by
  obtain ⟨x, S1, hx, i1, e1⟩ := pick 4 items (by simp [items]) (by simp [items]) hI
  refine ⟨x, S1, i1, ?_⟩
  have e2 : draw_.den (pg.m 6) ⟨[some sc, some (.loc 0), some (.int (k : Nat)), c3, c4, none, none], none⟩ S = .next ⟨[some sc, some (.loc 0), some (.int (k : Nat)), some x, c4, none, none], none⟩ S1 := by
    have e3 : (pg.m 6).P "_law_pick" [.loc 0, .lst [.str "a", .str "", .int 7, .non, .tup [.int 1], .lst [.int 2]]] S = .ok x S1 := e1
    simp [draw_, t_law, e3]
  rw [ss_cons_, e2, then_next]
  exact turn k hk x hx sc c4 S1
theorem loop : ∀ (ks : List Nat), (∀ k ∈ ks, k < 8) → ∀ (sc : D) (c2 c3 c4 : Option D) (S : Sto), In [] S → ∃ (c2' c3' c4' : Option D) (S' : Sto), In [] S' ∧
    rsForGo (gtName 2) ((Ss.cons draw_ rest_).den (pg.m 6)) .free (ks.map fun i : Nat => D.int i) ⟨[some sc, some (.loc 0), c2, c3, c4, none, none], none⟩ S = .next ⟨[some sc, some (.loc 0), c2', c3', c4', none, none], none⟩ S'
  | [], _, sc, c2, c3, c4, S, hI => ⟨c2, c3, c4, S, hI, rfl⟩
  | k :: ks, h, sc, c2, c3, c4, S, hI => by
    obtain ⟨x, S1, i1, e1⟩ := once k (h k (List.mem_cons_self ..)) sc c3 c4 hI
    obtain ⟨d2, d3, d4, S2, i2, e2⟩ := loop ks (fun j hj => h j (List.mem_cons_of_mem _ hj)) sc (some (.int (k : Nat))) (some x) (some (.bl true)) S1 i1
    refine ⟨d2, d3, d4, S2, i2, ?_⟩
    rw [List.map_cons, for_cons]
    show kTurn _ _ _ _ ((Ss.cons draw_ rest_).den (pg.m 6) ⟨[some sc, some (.loc 0), some (.int (k : Nat)), c3, c4, none, none], none⟩ S) = _
    rw [e1]
    exact e2
theorem law_true (ns : List Int) (hn : ns.length ≤ 63) (_ : ∀ z ∈ ns, Builtin.Int.intBits z ≤ 1048576) : ∃ S', d_law.df.run (pg.m 6) [.lst (ns.map D.int)] [] = .ok (.bl true) S' := by
  obtain ⟨g, hg, e1⟩ := random 5 ns 694 hn
  obtain ⟨d2, d3, d4, S2, i2, e2⟩ := loop (List.range 8) (fun k hk => List.mem_range.mp hk) (.lst (ns.map D.int)) none none none (G0 g []) ⟨g, hg, rfl⟩
  refine ⟨S2, ?_⟩
  rw [run_eq rfl]
  show runOf (t_law.den (pg.m 6) ⟨[some (.lst (ns.map D.int)), none, none, none, none, none, none], none⟩ []) = _
  rw [law_eq]
  have e3 : kRange (.int 8) (G0 g []) = .ok ((List.range 8).map fun i : Nat => .int i, .free) (G0 g []) := kRange_nat (n := 8) (by decide)
  rw [ss_cons_, s_asg_]
  simp only [e_fn, es_cons, es_nil, e_var, e_cst, get_mk, List.getElem?_cons_zero, Option.bind_some, id, gv_some, R.bind_ok, kc_eq, kc2_eq, kFn_eq]
  rw [show (D.int 694) = D.int (694 : Int) from rfl, e1]
  simp only [gt_name, toS_ok, kAsg_eq, gtName_eq, kAsg2_eq, then_next, ss_cons_, s_for_, w_range, e_cst, R.bind_ok, e3, kFor_ok]
  have e4 : rsForGo (gtName 2) ((Ss.cons draw_ rest_).den (pg.m 6)) .free ((List.range 8).map fun i : Nat => D.int i) (En.set ⟨[some (.lst (ns.map D.int)), none, none, none, none, none, none], none⟩ 1 (.loc 0)) (G0 g []) = _ := e2
  rw [e4]
  simp
end K14


set_option Elab.async false
set_option linter.all false
set_option maxRecDepth 100000
set_option maxHeartbeats 0
namespace K14
open PySem PySem.Spec PyProof.Rows L2 Mt
theorem bd0 : BindOk d__law_random := fun _ _ _ _ _ _ us hl => match us, hl with | [_, _], _ => rfl
theorem bd1 : BindOk d__law_below := fun _ _ _ _ _ _ us hl => match us, hl with | [_, _], _ => rfl
theorem bd2 : BindOk d__law_pick := fun _ _ _ _ _ _ us hl => match us, hl with | [_, _], _ => rfl
theorem bd3 : BindOk d__law_equal := fun _ _ _ _ _ _ us hl => match us, hl with | [_, _], _ => rfl
theorem bd4 : BindOk d__law_thrown := fun _ _ _ _ _ _ us hl => match us, hl with | [_, _], _ => rfl
theorem bd5 : BindOk d__law_classes := fun _ _ _ _ _ _ us hl => match us, hl with | [_], _ => rfl
theorem bd6 : BindOk d__law_field := fun _ _ _ _ _ _ us hl => match us, hl with | [_, _], _ => rfl
theorem bd7 : BindOk d_law := fun _ _ _ _ _ _ us hl => match us, hl with | [_], _ => rfl
theorem bd : Alw BindOk pg.defs := .cons bd0 (.cons bd1 (.cons bd2 (.cons bd3 (.cons bd4 (.cons bd5 (.cons bd6 (.cons bd7 (.nil))))))))
theorem xbd : Alw (fun z : ErrT => ∀ f, z.fld = some f → xBind f) pg.errs := .cons (fun f e => by cases e) (.cons (fun f e => by cases e; exact fun _ _ _ _ _ _ _ _ _ _ _ _ => rfl) (.cons (fun f e => by cases e; exact fun _ _ _ _ _ _ _ _ _ _ _ _ => rfl) (.cons (fun f e => by cases e) (.cons (fun f e => by cases e; exact fun _ _ _ _ _ _ _ _ _ _ _ _ => rfl) (.cons (fun f e => by cases e; exact fun _ _ _ _ _ _ _ _ _ _ _ _ => rfl) (.cons (fun f e => by cases e) (.cons (fun f e => by cases e) (.cons (fun f e => by cases e; exact fun _ _ _ _ _ _ _ _ _ _ _ _ => rfl) (.nil)))))))))
theorem lbd : Alw (fun x : Lx => ∀ a, x.par = [a] → Bind1 a) pg.lams := .nil
theorem tx : Txt pg PySem.Challenge.rw_menutalk_k14_errors_apart.prog := ⟨by kernel_rfl, bd, xbd, lbd, txt⟩
end K14
open PySem PySem.W PySem.Calls PyProof.Rows
theorem PySem.Challenge.cw_menutalk_k14_errors_apart_holds : PySem.Challenge.rw_menutalk_k14_errors_apart.Holds := by
  w_on; o_law
  refine HandSHeadRun.head_any (r := OpenLaw.row PySem.Challenge.rw_menutalk_k14_errors_apart) (q := view (OpenLaw.row PySem.Challenge.rw_menutalk_k14_errors_apart).prog [18]) (H := K14.hk) (ob := K14.ob) (M := 4000) (loose := K14.loose) (d := HandSHeadRun.topDef (OpenLaw.row PySem.Challenge.rw_menutalk_k14_errors_apart).prog 18) (kwd := []) K14.ob_eq
    (by kernel_rfl) (fun s => by kernel_rfl) K14.run (by kernel_rfl) (by kernel_rfl) (by kernel_rfl) (by rfl) (by first | assumption | decide +kernel) (by decide +kernel) ⟨rfl, rfl, rfl, rfl, rfl, by decide +kernel⟩ ?hw ?hc
  case hw => w_witness2
  case hc => exact Mt.Txt.walk (l := PySem.Challenge.rw_menutalk_k14_errors_apart) (n := 63) (L := 6) (x := "_law_script") (d := K14.d_law) K14.tx rfl (by decide) (by kernel_rfl) ⟨rfl, by decide, by decide⟩ (by kernel_rfl) (by decide +kernel) rfl rfl rfl rfl K14.law_true


