import PyProof.Rows.All
import Wide.All
import OpenK.AllK
import Wide.FinOn
import HandS.ForMost
import HandS.ForExc
import HandS.Lambda
import HandS.Deep
import HandS.FStr
import HandS.TupAny
import HandS.Style
import HandS.Walk
import HandS.Zip
import HandS.DictComp
import HandS.Flow
import HandS.SetKeys
import HandS.ListItems
import HandS.Conv
import HandS.AnyAll
import HandS.GenCall
import HandS.GenList
import PyProof.TupleOfGen
import KE.KTupSum
import HandS.More
import HandS.SortInts
import HandS.WordsExc
import HandS.TupLe
import PyProof.FactsAll.subtypes_4
import KE.GoesMore
import HandS.DeepEq
import HandS.HeadEnd
import HandS.HeadWalk
import HandS.HeadHook4
import HandS.ExcOwn
import KE.KStateDown
import HandS.Head0
import HandS.Head1
import HandS.Head2
import PySem.Challenge.RW_memorystack_k16_gaps_and_maps
set_option Elab.async false
set_option linter.all false
set_option maxRecDepth 100000
namespace Fx
open PySem L2

/-- a value as the layer tells it: tuples and lists are values; what is changed in place stands behind a number -/
inductive D where
  | non | bl (b : Bool) | int (i : Int) | str (s : Str)
  | tup (ds : List D) | lst (ds : List D) | ref (n : Nat) | lam (k : Nat) | con (ns : List Int)

/-- what is changed in place -/
inductive Ob where
  | lst (ds : List D)
  | dct (lk : Bool) (kvs : List (Key × D))
  | ins (c : Nat) (fs : List (Str × D))
abbrev HS := List Ob
abbrev LS := List (Option D)

mutual
def D.eqb : D → D → Bool
  | .non, .non => true
  | .bl a, .bl b => a == b
  | .int a, .int b => decide (a = b)
  | .str a, .str b => decide (a = b)
  | .tup a, .tup b => D.eqbs a b
  | .lst a, .lst b => D.eqbs a b
  | .ref a, .ref b => a == b
  | .lam a, .lam b => a == b
  | .con a, .con b => decide (a = b)
  | _, _ => false
def D.eqbs : List D → List D → Bool
  | [], [] => true
  | a :: r, b :: t => D.eqb a b && D.eqbs r t
  | _, _ => false
end
mutual
theorem D.eqb_iff : ∀ a b : D, D.eqb a b = true ↔ a = b
  | .non, b => by cases b <;> simp [D.eqb]
  | .bl x, b => by cases b <;> simp [D.eqb]
  | .int x, b => by cases b <;> simp [D.eqb]
  | .str x, b => by cases b <;> simp [D.eqb]
  | .ref x, b => by cases b <;> simp [D.eqb]
  | .lam x, b => by cases b <;> simp [D.eqb]
  | .con x, b => by cases b <;> simp [D.eqb]
  | .tup x, b => by cases b with
    | tup y => simp [D.eqb, D.eqbs_iff x y]
    | _ => simp [D.eqb]
  | .lst x, b => by cases b with
    | lst y => simp [D.eqb, D.eqbs_iff x y]
    | _ => simp [D.eqb]
theorem D.eqbs_iff : ∀ a b : List D, D.eqbs a b = true ↔ a = b
  | [], b => by cases b <;> simp [D.eqbs]
  | x :: r, b => by cases b with
    | nil => simp [D.eqbs]
    | cons y t => simp [D.eqbs, D.eqb_iff x y, D.eqbs_iff r t]
end
instance : DecidableEq D := fun a b => decidable_of_iff _ (D.eqb_iff a b)
instance : DecidableEq Ob := fun a b => match a, b with
  | .lst x, .lst y => if h : x = y then isTrue (congrArg _ h) else isFalse fun e => h (Ob.lst.inj e)
  | .dct k x, .dct l y => if h : k = l ∧ x = y then isTrue (by rw [h.1, h.2]) else isFalse fun e => h (Ob.dct.inj e)
  | .ins k x, .ins l y => if h : k = l ∧ x = y then isTrue (by rw [h.1, h.2]) else isFalse fun e => h (Ob.ins.inj e)
  | .lst _, .dct _ _ => isFalse (by simp)
  | .lst _, .ins _ _ => isFalse (by simp)
  | .dct _ _, .lst _ => isFalse (by simp)
  | .dct _ _, .ins _ _ => isFalse (by simp)
  | .ins _ _, .lst _ => isFalse (by simp)
  | .ins _ _, .dct _ _ => isFalse (by simp)

/-! ### results -/
inductive R (α : Type) where
  | ok (a : α) (hs : HS)
  | exc (c : Nat) (hs : HS)
  | bad
def R.bind {α β : Type} : R α → (α → HS → R β) → R β
  | .ok a h, f => f a h
  | .exc c h, _ => .exc c h
  | .bad, _ => .bad
def R.Sat {α : Type} (Q : α → HS → Prop) (E : Nat → HS → Prop) : R α → Prop
  | .ok a h => Q a h
  | .exc c h => E c h
  | .bad => False
theorem R.Sat.mono {α : Type} {Q Q' : α → HS → Prop} {E E' : Nat → HS → Prop} {r : R α} (h : r.Sat Q E) (hq : ∀ a h, Q a h → Q' a h) (he : ∀ c h, E c h → E' c h) : r.Sat Q' E' := by
  cases r with
  | ok a h1 => exact hq a h1 h
  | exc c h1 => exact he c h1 h
  | bad => exact h
theorem R.Sat.of_bind {α β : Type} {Q : β → HS → Prop} {E : Nat → HS → Prop} {r : R α} {f : α → HS → R β} (h : (r.bind f).Sat Q E) : r.Sat (fun a h1 => (f a h1).Sat Q E) E := by
  cases r with
  | ok a h1 => exact h
  | exc c h1 => exact h
  | bad => exact h
/-- a statement's end -/
inductive SR where
  | nx (ls : LS) (hs : HS)
  | rt (d : D) (hs : HS)
  | bk (ls : LS) (hs : HS)
  | ct (ls : LS) (hs : HS)
  | exc (c : Nat) (hs : HS)
  | bad
structure SK where
  nx : LS → HS → Prop
  rt : D → HS → Prop
  bk : LS → HS → Prop
  ct : LS → HS → Prop
  exc : Nat → HS → Prop
def SR.Sat (K : SK) : SR → Prop
  | .nx l h => K.nx l h
  | .rt d h => K.rt d h
  | .bk l h => K.bk l h
  | .ct l h => K.ct l h
  | .exc c h => K.exc c h
  | .bad => False
abbrev M (α : Type) := LS → HS → R α
abbrev MS := LS → HS → SR
abbrev Fn := List D → HS → R D

/-! ### what stands for what -/
/-- the fixed part: the written part, the classes by number, the tables of code objects, lambdas by number -/
structure Sta where
  K : PySem.W.Frag
  cls : Nat → Addr
  T : List (Addr × Str)
  lam : Nat → Addr → Addr → HO
  lq : Str

def TupAt (K : PySem.W.Frag) (H : Hp) (a : Addr) (vs : List V) : Prop :=
  H a = some (.tup vs) ∨ ∃ (o : Obj) (its : Array Value) (n : Nat), K.lookup a = some o ∧ o.cls = .type "tuple" ∧ o.data = .seq its n ∧ its.size ≤ sizeLine ∧ Vals vs its.toList
theorem TupAt.sq {K : PySem.W.Frag} {H : Hp} {a : Addr} {vs : List V} (h : TupAt K H a vs) : SqT K H a vs := by
  rcases h with h | h
  · exact .inl (.inl h)
  · exact .inr h

/-- the numbers' addresses; addresses that no value may be (lists that a comprehension is filling) -/
structure Ix where
  l : List Addr
  fb : List Addr
def Ix.add (ι : Ix) (a : Addr) : Ix := ⟨ι.l ++ [a], ι.fb⟩
structure Out (ι : Ix) (a : Addr) : Prop where
  l : a ∉ ι.l
  fb : a ∉ ι.fb

/-- a list of ints that is read, whatever keeps it -/
def ConAt (K : PySem.W.Frag) (ι : Ix) (H : Hp) (a : Addr) (xs : List V) : Prop := (Out ι a ∧ Rd H a (.lst xs)) ∨
  ∃ (o : Obj) (its : Array Value) (n : Nat), K.lookup a = some o ∧ o.cls = .type "list" ∧ o.dict = none ∧ o.data = .seq its n ∧ its.size ≤ sizeLine ∧ Vals xs its.toList
theorem ConAt.sq {K : PySem.W.Frag} {ι : Ix} {H : Hp} {a : Addr} {xs : List V} (h : ConAt K ι H a xs) : SqL K H a xs := h.elim (fun z => .inl z.2) .inr
inductive RelD (Γ : Sta) (ι : Ix) (H : Hp) : D → V → Prop
  | non : RelD Γ ι H .non .non
  | bl (b : Bool) : RelD Γ ι H (.bl b) (.bl b)
  | int (i : Int) : RelD Γ ι H (.int i) (.int i)
  | str (s : Str) : RelD Γ ι H (.str s) (.str s)
  | tup {ds : List D} {vs : List V} {a : Addr} (h : TupAt Γ.K H a vs) (hl : ds.length = vs.length) (r : ∀ (i : Nat) (d : D) (v : V), ds[i]? = some d → vs[i]? = some v → RelD Γ ι H d v) : RelD Γ ι H (.tup ds) (.ref a)
  | lst {ds : List D} {vs : List V} {a : Addr} (n : Out ι a) (h : H a = some (.lst vs)) (hl : ds.length = vs.length) (r : ∀ (i : Nat) (d : D) (v : V), ds[i]? = some d → vs[i]? = some v → RelD Γ ι H d v) : RelD Γ ι H (.lst ds) (.ref a)
  | ref {n : Nat} {a : Addr} (h : ι.l[n]? = some a) : RelD Γ ι H (.ref n) (.ref a)
  | con {ns : List Int} {a : Addr} (h : ConAt Γ.K ι H a (ns.map V.int)) : RelD Γ ι H (.con ns) (.ref a)
  | lam {k : Nat} {a c : Addr} (n : Out ι a) (nc : Out ι c) (h : H a = some (Γ.lam k a c)) (hc : H c = some (LamX.CodeO c Γ.lq)) (nt : ∀ ps, Γ.lam k a c ≠ .tbl ps) : RelD Γ ι H (.lam k) (.ref a)
abbrev RelDs (Γ : Sta) (ι : Ix) (H : Hp) : List D → List V → Prop := Paired (RelD Γ ι H)

theorem Paired.get {α β : Type} {F : α → β → Prop} : ∀ {l₁ : List α} {l₂ : List β}, Paired F l₁ l₂ → ∀ {i : Nat} {a : α} {b : β}, l₁[i]? = some a → l₂[i]? = some b → F a b
  | _, _, .nil, i, a, b, h, _ => by simp at h
  | _, _, .cons r t, 0, a, b, h, h' => by simp at h h'; subst h; subst h'; exact r
  | _, _, .cons r t, i + 1, a, b, h, h' => Paired.get t (i := i) (by simpa using h) (by simpa using h')
theorem Paired.of_get {α β : Type} {F : α → β → Prop} : ∀ {l₁ : List α} {l₂ : List β}, l₁.length = l₂.length → (∀ (i : Nat) (a : α) (b : β), l₁[i]? = some a → l₂[i]? = some b → F a b) → Paired F l₁ l₂
  | [], [], _, _ => .nil
  | [], _ :: _, h, _ => by simp at h
  | _ :: _, [], h, _ => by simp at h
  | a :: r, b :: t, h, f => .cons (f 0 a b rfl rfl) (Paired.of_get (by simpa using h) fun i x y hx hy => f (i + 1) x y (by simpa using hx) (by simpa using hy))
theorem Paired.left {α β : Type} {F : α → β → Prop} : ∀ {l₁ : List α} {l₂ : List β}, Paired F l₁ l₂ → ∀ {i : Nat} {a : α}, l₁[i]? = some a → ∃ b, l₂[i]? = some b ∧ F a b
  | _, _, .nil, i, a, h => by simp at h
  | _, _, .cons r t, 0, a, h => by simp at h; subst h; exact ⟨_, rfl, r⟩
  | _, _, .cons r t, i + 1, a, h => by
    obtain ⟨b, h1, h2⟩ := Paired.left t (i := i) (by simpa using h)
    exact ⟨b, by simpa using h1, h2⟩
theorem Paired.app {α β : Type} {F : α → β → Prop} : ∀ {l₁ l₃ : List α} {l₂ l₄ : List β}, Paired F l₁ l₂ → Paired F l₃ l₄ → Paired F (l₁ ++ l₃) (l₂ ++ l₄)
  | _, _, _, _, .nil, s => s
  | _, _, _, _, .cons r t, s => .cons r (Paired.app t s)
theorem Paired.imp {α β : Type} {F G : α → β → Prop} (f : ∀ a b, F a b → G a b) : ∀ {l₁ : List α} {l₂ : List β}, Paired F l₁ l₂ → Paired G l₁ l₂
  | _, _, .nil => .nil
  | _, _, .cons r t => .cons (f _ _ r) (Paired.imp f t)

theorem RelD.tup_inv {Γ : Sta} {ι : Ix} {H : Hp} {ds : List D} {v : V} (h : RelD Γ ι H (.tup ds) v) : ∃ a vs, v = .ref a ∧ TupAt Γ.K H a vs ∧ RelDs Γ ι H ds vs := by
  cases h with
  | tup h hl r => exact ⟨_, _, rfl, h, Paired.of_get hl r⟩
theorem RelD.lst_inv {Γ : Sta} {ι : Ix} {H : Hp} {ds : List D} {v : V} (h : RelD Γ ι H (.lst ds) v) : ∃ a vs, v = .ref a ∧ Out ι a ∧ H a = some (.lst vs) ∧ RelDs Γ ι H ds vs := by
  cases h with
  | lst n h hl r => exact ⟨_, _, rfl, n, h, Paired.of_get hl r⟩
theorem RelD.ref_inv {Γ : Sta} {ι : Ix} {H : Hp} {n : Nat} {v : V} (h : RelD Γ ι H (.ref n) v) : ∃ a, v = .ref a ∧ ι.l[n]? = some a := by
  cases h with
  | ref h => exact ⟨_, rfl, h⟩
theorem RelD.con_inv {Γ : Sta} {ι : Ix} {H : Hp} {ns : List Int} {v : V} (h : RelD Γ ι H (.con ns) v) : ∃ a, v = .ref a ∧ ConAt Γ.K ι H a (ns.map V.int) := by
  cases h with
  | con h => exact ⟨_, rfl, h⟩
theorem RelD.int_inv {Γ : Sta} {ι : Ix} {H : Hp} {i : Int} {v : V} (h : RelD Γ ι H (.int i) v) : v = .int i := by cases h; rfl
theorem RelD.bl_inv {Γ : Sta} {ι : Ix} {H : Hp} {i : Bool} {v : V} (h : RelD Γ ι H (.bl i) v) : v = .bl i := by cases h; rfl
theorem RelD.str_inv {Γ : Sta} {ι : Ix} {H : Hp} {i : Str} {v : V} (h : RelD Γ ι H (.str i) v) : v = .str i := by cases h; rfl
theorem RelD.non_inv {Γ : Sta} {ι : Ix} {H : Hp} {v : V} (h : RelD Γ ι H .non v) : v = .non := by cases h; rfl
theorem RelD.mkTup {Γ : Sta} {ι : Ix} {H : Hp} {ds : List D} {vs : List V} {a : Addr} (h : TupAt Γ.K H a vs) (r : RelDs Γ ι H ds vs) : RelD Γ ι H (.tup ds) (.ref a) :=
  .tup h r.length fun _ _ _ e1 e2 => Paired.get r e1 e2
theorem RelD.mkLst {Γ : Sta} {ι : Ix} {H : Hp} {ds : List D} {vs : List V} {a : Addr} (n : Out ι a) (h : H a = some (.lst vs)) (r : RelDs Γ ι H ds vs) : RelD Γ ι H (.lst ds) (.ref a) :=
  .lst n h r.length fun _ _ _ e1 e2 => Paired.get r e1 e2

def RelOb (Γ : Sta) (ι : Ix) (H : Hp) (a : Addr) : Ob → Prop
  | .lst ds => ∃ vs, H a = some (.lst vs) ∧ RelDs Γ ι H ds vs
  | .dct lk kvs => ∃ kvs', (H a = some (.dK kvs') ∧ lk = false ∨ ∃ od, H a = some (.frz od (.dK kvs')) ∧ lk = true) ∧ Paired (fun p q => p.1 = q.1 ∧ RelD Γ ι H p.2 q.2) kvs kvs'
  | .ins c fs => ∃ dx fs', H a = some (.ins (Γ.cls c) dx fs') ∧ Paired (fun p q => p.1 = q.1 ∧ RelD Γ ι H p.2 q.2) fs fs'

/-- from one heap to a later one: what is not numbered stays -/
structure Step (ι : Ix) (H : Hp) (ι' : Ix) (H' : Hp) : Prop where
  ext : ∃ e f, ι' = ⟨ι.l ++ e, f ++ ι.fb⟩ ∧ (∀ a ∈ e, H a = none) ∧ ∀ a ∈ f, H a = none
  keep : ∀ a o, H a = some o → a ∉ ι.l → (∀ ps, o ≠ .tbl ps) → H' a = some o
  non : ∀ a, H' a = none → H a = none
  frz : ∀ a o u, H a = some (.frz o u) → H' a = some (.frz o u)

/-- what a comprehension is filling -/
def PlainO : HO → Prop
  | .lst _ => True
  | .dK _ => True
  | .ins _ _ _ => True
  | .frz _ _ => True
  | _ => False
structure Rep (Γ : Sta) (ι : Ix) (hs : HS) (H : Hp) : Prop where
  len : ι.l.length = hs.length
  nd : ι.l.Nodup
  fbs : ∀ a ∈ ι.fb, a ∉ ι.l ∧ ∃ u, H a = some u ∧ PlainO u
  ob : ∀ (n : Nat) (a : Addr) (o : Ob), ι.l[n]? = some a → hs[n]? = some o → RelOb Γ ι H a o
  tabs : LamX.Tabs Γ.T H

def RelL (Γ : Sta) (ι : Ix) (H : Hp) (ls : LS) (σ : St) : Prop :=
  ls.length = σ.length ∧ ∀ (i : Nat) (d : D), ls[i]? = some (some d) → ∃ v, σ[i]? = some (some v) ∧ RelD Γ ι H d v

section
variable {Γ : Sta} {ι ι1 ι2 : Ix} {H H1 H2 : Hp} {hs : HS}
theorem Step.refl (ι : Ix) (H : Hp) : Step ι H ι H := ⟨⟨[], [], by cases ι; simp, by simp, by simp⟩, fun _ _ h _ _ => h, fun _ h => h, fun _ _ _ h => h⟩
theorem Step.mem (s : Step ι H ι1 H1) {a : Addr} (h : a ∉ ι.l) (hh : H a ≠ none) : a ∉ ι1.l := by
  obtain ⟨e, f, rfl, he, _⟩ := s.ext
  intro hm
  rcases List.mem_append.mp hm with hm | hm
  · exact h hm
  · exact hh (he a hm)
theorem Step.out (s : Step ι H ι1 H1) {a : Addr} (h : Out ι a) (hh : H a ≠ none) : Out ι1 a := ⟨s.mem h.l hh, by
  obtain ⟨e, f, rfl, he, hf⟩ := s.ext
  intro hm
  rcases List.mem_append.mp hm with hm | hm
  · exact hh (hf a hm)
  · exact h.fb hm⟩
theorem Step.trans (s : Step ι H ι1 H1) (t : Step ι1 H1 ι2 H2) : Step ι H ι2 H2 where
  ext := by
    obtain ⟨e, f, he, h1, h3⟩ := s.ext
    obtain ⟨e', f', he', h2, h4⟩ := t.ext
    refine ⟨e ++ e', f' ++ f, by rw [he', he]; simp, fun a ha => ?_, fun a ha => ?_⟩
    · rcases List.mem_append.mp ha with ha | ha
      · exact h1 a ha
      · exact s.non a (h2 a ha)
    · rcases List.mem_append.mp ha with ha | ha
      · exact s.non a (h4 a ha)
      · exact h3 a ha
  keep := fun a o h n nt => t.keep a o (s.keep a o h n nt) (s.mem n (by rw [h]; simp)) nt
  non := fun a h => s.non a (t.non a h)
  frz := fun a o u h => t.frz a o u (s.frz a o u h)
theorem Step.get (s : Step ι H ι1 H1) {n : Nat} {a : Addr} (h : ι.l[n]? = some a) : ι1.l[n]? = some a := by
  obtain ⟨e, f, rfl, _⟩ := s.ext
  have hn : n < ι.l.length := by
    rw [List.getElem?_eq_some_iff] at h
    exact h.1
  show (ι.l ++ e)[n]? = some a
  rw [List.getElem?_append_left hn]
  exact h
/-- numbered tuples are none: a tuple's address is never numbered -/
theorem TupAt.step {K : PySem.W.Frag} {a : Addr} {vs : List V} (h : TupAt K H a vs) (s : Step ι H ι1 H1) (hn : H a = some (.tup vs) → a ∉ ι.l) : TupAt K H1 a vs := by
  rcases h with h | h
  · exact .inl (s.keep a _ h (hn h) (by intro ps q; cases q))
  · exact .inr h
theorem Rep.noTup (r : Rep Γ ι hs H) {a : Addr} {vs : List V} (h : H a = some (.tup vs)) : a ∉ ι.l := by
  intro hm
  obtain ⟨n, hn, e⟩ := List.getElem_of_mem hm
  have e1 : ι.l[n]? = some a := by rw [List.getElem?_eq_getElem hn, e]
  have hn2 : n < hs.length := by rw [← r.len]; exact hn
  have q := r.ob n a _ e1 (List.getElem?_eq_getElem hn2)
  cases ho : hs[n] with
  | lst ds => rw [ho] at q; obtain ⟨_, z, _⟩ := q; rw [h] at z; cases z
  | dct lk kvs =>
    rw [ho] at q
    obtain ⟨_, z, _⟩ := q
    rcases z with ⟨z, _⟩ | ⟨_, z, _⟩
    · rw [h] at z; cases z
    · rw [h] at z; cases z
  | ins c fs => rw [ho] at q; obtain ⟨_, _, z, _⟩ := q; rw [h] at z; cases z
theorem RelD.step (hT : ∀ a vs, H a = some (.tup vs) → a ∉ ι.l) (s : Step ι H ι1 H1) {d : D} {v : V} (h : RelD Γ ι H d v) : RelD Γ ι1 H1 d v := by
  induction h with
  | non => exact .non
  | bl b => exact .bl b
  | int i => exact .int i
  | str x => exact .str x
  | tup h hl r ih => exact .tup (h.step s (hT _ _)) hl ih
  | lst n h hl r ih => exact .lst (s.out n (by rw [h]; simp)) (s.keep _ _ h n.l (by intro ps q; cases q)) hl ih
  | ref h => exact .ref (s.get h)
  | con h =>
    rcases h with ⟨n, h | ⟨o, h⟩⟩ | h
    · exact .con (.inl ⟨s.out n (by rw [h]; simp), .inl (s.keep _ _ h n.l (by intro ps q; cases q))⟩)
    · exact .con (.inl ⟨s.out n (by rw [h]; simp), .inr ⟨o, s.keep _ _ h n.l (by intro ps q; cases q)⟩⟩)
    · exact .con (.inr h)
  | lam n nc h hc nt => exact .lam (s.out n (by rw [h]; simp)) (s.out nc (by rw [hc]; simp)) (s.keep _ _ h n.l nt) (s.keep _ _ hc nc.l LamX.codeO_ne) nt
theorem RelDs.step (hT : ∀ a vs, H a = some (.tup vs) → a ∉ ι.l) (s : Step ι H ι1 H1) {ds : List D} {vs : List V} (h : RelDs Γ ι H ds vs) : RelDs Γ ι1 H1 ds vs := Paired.imp (fun _ _ r => r.step hT s) h
theorem RelL.step (hT : ∀ a vs, H a = some (.tup vs) → a ∉ ι.l) (s : Step ι H ι1 H1) {ls : LS} {σ : St} (h : RelL Γ ι H ls σ) : RelL Γ ι1 H1 ls σ :=
  ⟨h.1, fun i d e => let ⟨v, h1, h2⟩ := h.2 i d e; ⟨v, h1, h2.step hT s⟩⟩
theorem Rep.relD (r : Rep Γ ι hs H) (s : Step ι H ι1 H1) {d : D} {v : V} (h : RelD Γ ι H d v) : RelD Γ ι1 H1 d v := h.step (fun _ _ e => r.noTup e) s
theorem Rep.relDs (r : Rep Γ ι hs H) (s : Step ι H ι1 H1) {ds : List D} {vs : List V} (h : RelDs Γ ι H ds vs) : RelDs Γ ι1 H1 ds vs := RelDs.step (fun _ _ e => r.noTup e) s h
theorem Rep.relL (r : Rep Γ ι hs H) (s : Step ι H ι1 H1) {ls : LS} {σ : St} (h : RelL Γ ι H ls σ) : RelL Γ ι1 H1 ls σ := RelL.step (fun _ _ e => r.noTup e) s h

theorem Rep.at (r : Rep Γ ι hs H) {n : Nat} {a : Addr} (h : ι.l[n]? = some a) : ∃ o, hs[n]? = some o ∧ RelOb Γ ι H a o := by
  have hn : n < ι.l.length := (List.getElem?_eq_some_iff.mp h).1
  have hn2 : n < hs.length := by rw [← r.len]; exact hn
  exact ⟨hs[n], List.getElem?_eq_getElem hn2, r.ob n a _ h (List.getElem?_eq_getElem hn2)⟩
theorem RelOb.stands {o : Ob} {a : Addr} (h : RelOb Γ ι H a o) : ∃ u, H a = some u ∧ ∀ ps, u ≠ .tbl ps := by
  cases o with
  | lst ds => obtain ⟨_, z, _⟩ := h; exact ⟨_, z, by intro ps q; cases q⟩
  | dct lk kvs =>
    obtain ⟨_, z, _⟩ := h
    rcases z with ⟨z, _⟩ | ⟨_, z, _⟩
    · exact ⟨_, z, by intro ps q; cases q⟩
    · exact ⟨_, z, by intro ps q; cases q⟩
  | ins c fs => obtain ⟨_, _, z, _⟩ := h; exact ⟨_, z, by intro ps q; cases q⟩
theorem Rep.there (r : Rep Γ ι hs H) {a : Addr} (h : a ∈ ι.l) : ∃ u, H a = some u ∧ ∀ ps, u ≠ .tbl ps := by
  obtain ⟨n, hn, e⟩ := List.getElem_of_mem h
  obtain ⟨o, _, q⟩ := r.at (n := n) (a := a) (by rw [List.getElem?_eq_getElem hn, e])
  exact RelOb.stands q
theorem Rep.fresh (r : Rep Γ ι hs H) {p : Addr} (h : H p = none) : Out ι p := by
  refine ⟨fun hm => ?_, fun hm => ?_⟩
  · obtain ⟨u, e, _⟩ := r.there hm
    rw [h] at e; cases e
  · obtain ⟨_, u, e, _⟩ := r.fbs p hm
    rw [h] at e; cases e
/-- the object of a number, told anew over a later heap in which it stands as it was -/
theorem RelOb.step (hT : ∀ a vs, H a = some (.tup vs) → a ∉ ι.l) (s : Step ι H ι1 H1) {a : Addr} {o : Ob} (h : RelOb Γ ι H a o) (e : H1 a = H a) : RelOb Γ ι1 H1 a o := by
  cases o with
  | lst ds => obtain ⟨vs, z, r⟩ := h; exact ⟨vs, by rw [e]; exact z, RelDs.step hT s r⟩
  | dct lk kvs =>
    obtain ⟨kvs', z, r⟩ := h
    exact ⟨kvs', by rw [e]; exact z, Paired.imp (fun _ _ q => ⟨q.1, q.2.step hT s⟩) r⟩
  | ins c fs => obtain ⟨dx, fs', z, r⟩ := h; exact ⟨dx, fs', by rw [e]; exact z, Paired.imp (fun _ _ q => ⟨q.1, q.2.step hT s⟩) r⟩
/-- a new object that is no number -/
theorem Step.new {p : Addr} {o : HO} (h : H p = none) : Step ι H ι (upd H p o) where
  ext := ⟨[], [], by cases ι; simp, by simp, by simp⟩
  keep := fun a u e _ _ => by rw [upd_ne (ne_of_none e h)]; exact e
  non := fun a e => by
    by_cases q : a = p
    · rw [q]; exact h
    · rw [upd_ne q] at e; exact e
  frz := fun a u w e => by rw [upd_ne (ne_of_none e h)]; exact e
theorem Tabs.upd {T : List (Addr × Str)} {p : Addr} {o : HO} (t : LamX.Tabs T H) (h : H p = none) : LamX.Tabs T (upd H p o) := LamX.Tabs.ext t fun b u e => by rw [upd_ne (ne_of_none e h)]; exact e
theorem Rep.new (r : Rep Γ ι hs H) {p : Addr} {o : HO} (h : H p = none) : Rep Γ ι hs (upd H p o) where
  len := r.len
  nd := r.nd
  fbs := fun a ha => let ⟨h1, vs, e, z⟩ := r.fbs a ha; ⟨h1, vs, by rw [upd_ne (ne_of_none e h)]; exact e, z⟩
  ob := fun n a ob e1 e2 => RelOb.step (fun _ _ e => r.noTup e) (Step.new h) (r.ob n a ob e1 e2) (by
    have := (r.fresh h).l
    exact upd_ne (fun z => this (z ▸ List.mem_of_getElem? e1)))
  tabs := Tabs.upd r.tabs h
theorem Step.box {p : Addr} {o : HO} (h : H p = none) : Step ι H (ι.add p) (upd H p o) where
  ext := ⟨[p], [], rfl, fun a ha => by simp at ha; rw [ha]; exact h, by simp⟩
  keep := (Step.new (ι := ι) (o := o) h).keep
  non := (Step.new (ι := ι) (o := o) h).non
  frz := (Step.new (ι := ι) (o := o) h).frz
/-- a new object under the next number -/
theorem Rep.box (r : Rep Γ ι hs H) {p : Addr} {o : HO} {ob : Ob} (h : H p = none) (q : RelOb Γ (ι.add p) (upd H p o) p ob) : Rep Γ (ι.add p) (hs ++ [ob]) (upd H p o) where
  len := by simp [Ix.add, r.len]
  nd := List.nodup_append.mpr ⟨r.nd, by simp, fun a ha b hb => by simp at hb; rw [hb]; exact fun z => (r.fresh h).l (z ▸ ha)⟩
  fbs := fun a ha => by
    obtain ⟨h1, vs, e, z⟩ := r.fbs a ha
    refine ⟨fun hm => ?_, vs, by rw [upd_ne (ne_of_none e h)]; exact e, z⟩
    rcases List.mem_append.mp hm with hm | hm
    · exact h1 hm
    · simp at hm
      rw [hm, h] at e
      cases e
  ob := fun n a u e1 e2 => by
    have e1 : (ι.l ++ [p])[n]? = some a := e1
    by_cases hn : n < ι.l.length
    · rw [List.getElem?_append_left hn] at e1
      rw [List.getElem?_append_left (by rw [← r.len]; exact hn)] at e2
      exact RelOb.step (fun _ _ e => r.noTup e) (Step.box h) (r.ob n a u e1 e2) (upd_ne (fun z => (r.fresh h).l (z ▸ List.mem_of_getElem? e1)))
    · have e3 : n = ι.l.length := by
        have := (List.getElem?_eq_some_iff.mp e1).1
        simp at this
        omega
      subst e3
      rw [r.len] at e2
      simp at e1 e2
      subst e1; subst e2
      exact q
  tabs := Tabs.upd r.tabs h
theorem Step.write {a : Addr} {o : HO} (hm : a ∈ ι.l) (hw : ∀ od u, H a ≠ some (.frz od u)) : Step ι H ι (upd H a o) where
  ext := ⟨[], [], by cases ι; simp, by simp, by simp⟩
  keep := fun b u e n _ => by
    rw [upd_ne (fun z => n (by rw [z]; exact hm))]
    exact e
  non := fun b e => by
    by_cases q : b = a
    · rw [q, upd_same] at e; cases e
    · rw [upd_ne q] at e; exact e
  frz := fun b u w e => by rw [upd_ne (fun z => hw u w (by rw [← z]; exact e))]; exact e
/-- the object of a number is changed -/
theorem Rep.write (r : Rep Γ ι hs H) {n : Nat} {a : Addr} {o : HO} {ob : Ob} (hw : ∀ od u, H a ≠ some (.frz od u)) (hn : ι.l[n]? = some a) (q : RelOb Γ ι (upd H a o) a ob) : Rep Γ ι (hs.set n ob) (upd H a o) where
  len := by simp [r.len]
  nd := r.nd
  fbs := fun b hb => let ⟨h1, vs, e, y⟩ := r.fbs b hb; ⟨h1, vs, by rw [upd_ne (fun z => h1 (by rw [z]; exact List.mem_of_getElem? hn))]; exact e, y⟩
  ob := fun m b u e1 e2 => by
    by_cases hm : m = n
    · subst hm
      rw [hn] at e1; cases e1
      have hl : m < hs.length := by rw [← r.len]; exact (List.getElem?_eq_some_iff.mp hn).1
      rw [List.getElem?_set_self hl] at e2
      cases e2
      exact q
    · rw [List.getElem?_set_ne (Ne.symm hm)] at e2
      refine RelOb.step (fun _ _ e => r.noTup e) (Step.write (List.mem_of_getElem? hn) hw) (r.ob m b u e1 e2) (upd_ne fun z => ?_)
      subst z
      have h1 := (List.getElem?_eq_some_iff.mp e1)
      have h2 := (List.getElem?_eq_some_iff.mp hn)
      exact hm ((List.getElem_inj r.nd).mp (h1.2.trans h2.2.symm))
  tabs := fun p hp => by
    obtain ⟨ps, h1, h2, h3⟩ := r.tabs p hp
    obtain ⟨u, hu, nt⟩ := r.there (List.mem_of_getElem? hn)
    have ne : p.1 ≠ a := fun z => nt ps (by rw [z, hu] at h1; exact Option.some.inj h1)
    refine ⟨ps, by rw [upd_ne ne]; exact h1, h2, fun pos cv hc => ?_⟩
    obtain ⟨c, e1, e2⟩ := h3 pos cv hc
    refine ⟨c, e1, ?_⟩
    by_cases q2 : c = a
    · rw [q2, hu] at e2
      obtain ⟨o2, _, q3⟩ := r.at hn
      rw [Option.some.inj e2] at hu
      cases o2 with
      | lst ds => obtain ⟨_, z, _⟩ := q3; rw [hu] at z; cases z
      | dct lk kvs =>
        obtain ⟨_, z, _⟩ := q3
        rcases z with ⟨z, _⟩ | ⟨_, z, _⟩ <;> (rw [hu] at z; cases z)
      | ins c fs => obtain ⟨_, _, z, _⟩ := q3; rw [hu] at z; cases z
    · rw [upd_ne q2]; exact e2
theorem Rep.next (r : Rep Γ ι hs H) (p : Addr) : (ι.add p).l[hs.length]? = some p := by
  show (ι.l ++ [p])[hs.length]? = some p
  rw [← r.len, List.getElem?_concat_length]
/-! ### a list that is being filled at a: no value is it -/
def hide (H : Hp) (a : Addr) : Hp := fun b => if b = a then none else H b
theorem hide_same {a : Addr} : hide H a a = none := by unfold hide; rw [if_pos rfl]
theorem hide_ne {a b : Addr} (h : b ≠ a) : hide H a b = H b := by unfold hide; rw [if_neg h]
theorem upd_hide {a : Addr} {o : HO} : upd (hide H a) a o = upd H a o := by
  funext b
  by_cases h : b = a
  · rw [h, upd_same, upd_same]
  · rw [upd_ne h, upd_ne h, hide_ne h]
theorem hide_upd {a : Addr} {o : HO} : hide (upd H a o) a = hide H a := by
  funext b
  by_cases h : b = a
  · rw [h, hide_same, hide_same]
  · rw [hide_ne h, hide_ne h, upd_ne h]
theorem upd_self {a : Addr} {o : HO} (h : H a = some o) : upd H a o = H := by
  funext b
  by_cases e : b = a
  · rw [e, upd_same, h]
  · rw [upd_ne e]
abbrev Ix.ban (ι : Ix) (a : Addr) : Ix := ⟨ι.l, a :: ι.fb⟩
theorem RelD.enter {a : Addr} {o : HO} (h : H a = none) {d : D} {v : V} (r : RelD Γ ι H d v) : RelD Γ (ι.ban a) (upd H a o) d v := by
  induction r with
  | non => exact .non
  | bl b => exact .bl b
  | int i => exact .int i
  | str x => exact .str x
  | tup q hl r ih =>
    refine .tup ?_ hl ih
    rcases q with q | q
    · exact .inl (by rw [upd_ne (ne_of_none q h)]; exact q)
    · exact .inr q
  | lst n q hl r ih =>
    have ne := ne_of_none q h
    exact .lst ⟨n.l, by simp [ne, n.fb]⟩ (by rw [upd_ne ne]; exact q) hl ih
  | ref q => exact .ref q
  | con q =>
    rcases q with ⟨n, q⟩ | q
    · have ne := q.elim (fun z => ne_of_none z h) fun ⟨o', z⟩ => ne_of_none z h
      exact .con (.inl ⟨⟨n.l, by simp [ne, n.fb]⟩, by unfold Rd at q ⊢; rw [upd_ne ne]; exact q⟩)
    · exact .con (.inr q)
  | lam n nc q qc nt =>
    have ne := ne_of_none q h
    have nec := ne_of_none qc h
    exact .lam ⟨n.l, by simp [ne, n.fb]⟩ ⟨nc.l, by simp [nec, nc.fb]⟩ (by rw [upd_ne ne]; exact q) (by rw [upd_ne nec]; exact qc) nt
def Ix.unban (ι : Ix) (a : Addr) : Ix := ⟨ι.l, ι.fb.filter fun b => decide (b ≠ a)⟩
theorem Out.unban {a b : Addr} (h : Out ι b) : Out (ι.unban a) b := ⟨h.l, fun z => h.fb ((List.mem_filter.mp z).1)⟩
theorem PlainO.noTup {u : HO} (h : PlainO u) (vs : List V) : u ≠ .tup vs := by intro e; rw [e] at h; exact h
theorem PlainO.noTbl {u : HO} (h : PlainO u) (vs : Array Value) : u ≠ .tbl vs := by intro e; rw [e] at h; exact h
theorem PlainO.noCode {u : HO} (h : PlainO u) (a : Addr) (q : Str) : u ≠ LamX.CodeO a q := by intro e; rw [e] at h; exact h
theorem RelD.leave {a : Addr} {u : HO} (h : H a = some u) (hp : PlainO u) (hf : a ∈ ι.fb) {d : D} {v : V} (r : RelD Γ ι H d v) : RelD Γ (ι.unban a) (hide H a) d v := by
  induction r with
  | non => exact .non
  | bl b => exact .bl b
  | int i => exact .int i
  | str x => exact .str x
  | tup q hl r ih =>
    refine .tup ?_ hl ih
    rcases q with q | q
    · exact .inl (by rw [hide_ne (fun z => hp.noTup _ (by rw [z, h] at q; exact Option.some.inj q))]; exact q)
    · exact .inr q
  | lst n q hl r ih => exact .lst n.unban (by rw [hide_ne (fun z => n.fb (by rw [z]; exact hf))]; exact q) hl ih
  | ref q => exact .ref q
  | con q =>
    rcases q with ⟨n, q⟩ | q
    · exact .con (.inl ⟨n.unban, by unfold Rd at q ⊢; rw [hide_ne (fun z => n.fb (by rw [z]; exact hf))]; exact q⟩)
    · exact .con (.inr q)
  | lam n nc q qc nt => exact .lam n.unban nc.unban (by rw [hide_ne (fun z => n.fb (by rw [z]; exact hf))]; exact q) (by rw [hide_ne (fun z => nc.fb (by rw [z]; exact hf))]; exact qc) nt
theorem RelL.enter {a : Addr} {o : HO} (h : H a = none) {ls : LS} {σ : St} (r : RelL Γ ι H ls σ) : RelL Γ (ι.ban a) (upd H a o) ls σ := ⟨r.1, fun i d e => let ⟨v, h1, h2⟩ := r.2 i d e; ⟨v, h1, h2.enter h⟩⟩
theorem RelOb.turn {ι' : Ix} {H' : Hp} (w : ∀ d v, RelD Γ ι H d v → RelD Γ ι' H' d v) {a : Addr} (e : H' a = H a) {o : Ob} (h : RelOb Γ ι H a o) : RelOb Γ ι' H' a o := by
  cases o with
  | lst ds => obtain ⟨vs, z, r⟩ := h; exact ⟨vs, by rw [e]; exact z, Paired.imp (fun _ _ q => w _ _ q) r⟩
  | dct lk kvs => obtain ⟨kvs', z, r⟩ := h; exact ⟨kvs', by rw [e]; exact z, Paired.imp (fun _ _ q => ⟨q.1, w _ _ q.2⟩) r⟩
  | ins c fs => obtain ⟨dx, fs', z, r⟩ := h; exact ⟨dx, fs', by rw [e]; exact z, Paired.imp (fun _ _ q => ⟨q.1, w _ _ q.2⟩) r⟩
theorem Rep.enter {a : Addr} {o : HO} (ho : PlainO o) (r : Rep Γ ι hs H) (h : H a = none) : Rep Γ (ι.ban a) hs (upd H a o) where
  len := r.len
  nd := r.nd
  fbs := fun b hb => by
    rcases List.mem_cons.mp hb with e | hb
    · rw [e]; exact ⟨(r.fresh h).l, o, upd_same, ho⟩
    · obtain ⟨h1, ws, e, z⟩ := r.fbs b hb
      exact ⟨h1, ws, by rw [upd_ne (ne_of_none e h)]; exact e, z⟩
  ob := fun n b o e1 e2 => RelOb.turn (fun _ _ q => q.enter h) (upd_ne (fun z => (r.fresh h).l (by rw [← z]; exact List.mem_of_getElem? e1))) (r.ob n b o e1 e2)
  tabs := Tabs.upd r.tabs h
theorem Step.enter {a : Addr} {o : HO} (h : H a = none) : Step ι H (ι.ban a) (upd H a o) where
  ext := ⟨[], [a], by simp, by simp, by simp [h]⟩
  keep := (Step.new (ι := ι) (o := o) h).keep
  non := (Step.new (ι := ι) (o := o) h).non
  frz := (Step.new (ι := ι) (o := o) h).frz
theorem Rep.leave {a : Addr} {u : HO} (r : Rep Γ ι hs H) (h : H a = some u) (hp : PlainO u) (hf : a ∈ ι.fb) : Rep Γ (ι.unban a) hs (hide H a) where
  len := r.len
  nd := r.nd
  fbs := fun b hb => by
    have hb' : b ∈ ι.fb.filter fun b => decide (b ≠ a) := hb
    rw [List.mem_filter] at hb'
    obtain ⟨h1, ws, e, z⟩ := r.fbs b hb'.1
    exact ⟨h1, ws, by rw [hide_ne (of_decide_eq_true hb'.2)]; exact e, z⟩
  ob := fun n b o e1 e2 => RelOb.turn (fun _ _ q => q.leave h hp hf) (hide_ne (fun z => (r.fbs a hf).1 (by rw [← z]; exact List.mem_of_getElem? e1))) (r.ob n b o e1 e2)
  tabs := fun p hp' => by
    obtain ⟨ps, h1, h2, h3⟩ := r.tabs p hp'
    refine ⟨ps, by rw [hide_ne (fun z => hp.noTbl ps (by rw [z, h] at h1; exact Option.some.inj h1))]; exact h1, h2, fun pos cv hc => ?_⟩
    obtain ⟨c, e1, e2⟩ := h3 pos cv hc
    exact ⟨c, e1, by rw [hide_ne (fun z => hp.noCode _ _ (by rw [z, h] at e2; exact Option.some.inj e2))]; exact e2⟩
theorem Step.leave {a : Addr} {o : HO} (h : H a = none) (hn : a ∉ ι.fb) (s : Step (ι.ban a) (upd H a o) ι1 H1) : Step ι H (ι1.unban a) (hide H1 a) := by
  obtain ⟨e, f, rfl, he, hf⟩ := s.ext
  refine ⟨⟨e, f.filter fun b => decide (b ≠ a), ?_, fun b hb => ?_, fun b hb => ?_⟩, fun b u e1 n nt => ?_, fun b e1 => ?_, fun b u w e1 => ?_⟩
  · unfold Ix.unban
    have q : ι.fb.filter (fun b => decide (b ≠ a)) = ι.fb := List.filter_eq_self.mpr fun b hb => decide_eq_true fun z => hn (by rw [← z]; exact hb)
    have q2 : (a :: ι.fb).filter (fun b => decide (b ≠ a)) = ι.fb := by rw [List.filter_cons_of_neg (by simp), q]
    simp only [List.filter_append, q2]
  · have q := he b hb
    by_cases z : b = a
    · rw [z]; exact h
    · rw [upd_ne z] at q; exact q
  · have q := hf b (List.mem_filter.mp hb).1
    by_cases z : b = a
    · rw [z]; exact h
    · rw [upd_ne z] at q; exact q
  · have ne := ne_of_none e1 h
    rw [hide_ne ne]
    exact s.keep b u (by rw [upd_ne ne]; exact e1) n nt
  · by_cases z : b = a
    · rw [z]; exact h
    · rw [hide_ne z] at e1
      have q := s.non b e1
      rw [upd_ne z] at q
      exact q
  · have ne := ne_of_none e1 h
    rw [hide_ne ne]
    exact s.frz b u w (by rw [upd_ne ne]; exact e1)
/-- a lock is laid on a dict; it is taken off -/
theorem RelD.lock {a : Addr} {o u : HO} (h : H a = some u) (n : a ∈ ι.l) (ht : ∀ vs, u ≠ .tup vs) {d : D} {v : V} (r : RelD Γ ι H d v) : RelD Γ ι (upd H a o) d v := by
  induction r with
  | non => exact .non
  | bl b => exact .bl b
  | int i => exact .int i
  | str x => exact .str x
  | tup q hl r ih =>
    refine .tup ?_ hl ih
    rcases q with q | q
    · exact .inl (by rw [upd_ne (fun z => by rw [z, h] at q; exact ht _ (Option.some.inj q))]; exact q)
    · exact .inr q
  | lst m q hl r ih => exact .lst m (by rw [upd_ne (fun z => m.l (by rw [z]; exact n))]; exact q) hl ih
  | ref q => exact .ref q
  | con q =>
    rcases q with ⟨m, q⟩ | q
    · exact .con (.inl ⟨m, by unfold Rd at q ⊢; rw [upd_ne (fun z => m.l (by rw [z]; exact n))]; exact q⟩)
    · exact .con (.inr q)
  | lam m mc q qc nt => exact .lam m mc (by rw [upd_ne (fun z => m.l (by rw [z]; exact n))]; exact q) (by rw [upd_ne (fun z => mc.l (by rw [z]; exact n))]; exact qc) nt
theorem Rep.lock {n : Nat} {a : Addr} {o u : HO} {ob : Ob} (r : Rep Γ ι hs H) (h : H a = some u) (hn : ι.l[n]? = some a) (ht : ∀ vs, u ≠ .tup vs) (hb : ∀ ps, u ≠ .tbl ps) (he : ∀ q, u ≠ LamX.CodeO a q) (q : RelOb Γ ι (upd H a o) a ob) : Rep Γ ι (hs.set n ob) (upd H a o) where
  len := by simp [r.len]
  nd := r.nd
  fbs := fun b hb => let ⟨h1, vs, e, y⟩ := r.fbs b hb; ⟨h1, vs, by rw [upd_ne (fun z => h1 (by rw [z]; exact List.mem_of_getElem? hn))]; exact e, y⟩
  ob := fun m b w e1 e2 => by
    by_cases hm : m = n
    · subst hm
      rw [hn] at e1; cases e1
      have hl : m < hs.length := by rw [← r.len]; exact (List.getElem?_eq_some_iff.mp hn).1
      rw [List.getElem?_set_self hl] at e2
      cases e2
      exact q
    · rw [List.getElem?_set_ne (Ne.symm hm)] at e2
      refine RelOb.turn (fun _ _ x => x.lock h (List.mem_of_getElem? hn) ht) (upd_ne fun z => ?_) (r.ob m b w e1 e2)
      subst z
      exact hm ((List.getElem_inj r.nd).mp ((List.getElem?_eq_some_iff.mp e1).2.trans (List.getElem?_eq_some_iff.mp hn).2.symm))
  tabs := fun p hp => by
    obtain ⟨ps, h1, h2, h3⟩ := r.tabs p hp
    refine ⟨ps, by rw [upd_ne (fun z => hb ps (by rw [z, h] at h1; exact Option.some.inj h1))]; exact h1, h2, fun pos cv hc => ?_⟩
    obtain ⟨c, e1, e2⟩ := h3 pos cv hc
    exact ⟨c, e1, by rw [upd_ne (fun z => he p.2 (by rw [z, h] at e2; exact Option.some.inj e2))]; exact e2⟩
/-- behind a lock that is taken off -/
theorem Step.locked {a : Addr} {od : Obj} {u : HO} (h : H a = some u) (n : a ∈ ι.l) (hz : ∀ o w, u ≠ .frz o w) (s : Step ι (upd H a (.frz od u)) ι1 H1) : Step ι H ι1 (upd H1 a u) := by
  have t : Step ι H ι1 H1 := (Step.write n (by rw [h]; intro o w z; exact hz o w (Option.some.inj z))).trans s
  refine ⟨t.ext, fun b w e m nt => ?_, fun b e => ?_, fun b w x e => ?_⟩
  · rw [upd_ne (fun z => m (by rw [z]; exact n))]; exact t.keep b w e m nt
  · by_cases z : b = a
    · rw [z, upd_same] at e; cases e
    · rw [upd_ne z] at e; exact t.non b e
  · rw [upd_ne (fun z => hz w x (by rw [z, h] at e; exact Option.some.inj e))]; exact t.frz b w x e
end
end Fx

set_option Elab.async false
set_option linter.all false
set_option maxRecDepth 100000
namespace Fx
open PySem L2

/-! ### judgements -/
def PostV (Γ : Sta) (ι : Ix) (H : Hp) (Q : VK) : D → HS → Prop := fun d hs' => ∀ ι' H' v, Step ι H ι' H' → Rep Γ ι' hs' H' → RelD Γ ι' H' d v → Q v H'
def PostX (Γ : Sta) (ι : Ix) (H : Hp) (E : XK) : Nat → HS → Prop := fun c hs' => ∀ ι' H', Step ι H ι' H' → Rep Γ ι' hs' H' → E (.ref (Γ.cls c)) none H'
def PostB (Γ : Sta) (ι : Ix) (H : Hp) (Q : Bool → Hp → Prop) : Bool → HS → Prop := fun b hs' => ∀ ι' H', Step ι H ι' H' → Rep Γ ι' hs' H' → Q b H'
def PostA (Γ : Sta) (ι : Ix) (H : Hp) (Q : List V → Hp → Prop) : List D → HS → Prop := fun ds hs' => ∀ ι' H' vs, Step ι H ι' H' → Rep Γ ι' hs' H' → RelDs Γ ι' H' ds vs → Q vs H'
/-- a new list of such items, at any free place -/
def PostL (Γ : Sta) (ι : Ix) (H : Hp) (Q : VK) : List D → HS → Prop := fun ds hs' => ∀ ι' H' vs p, Step ι H ι' H' → Rep Γ ι' hs' H' → RelDs Γ ι' H' ds vs → H' p = none → Q (.ref p) (upd H' p (.lst vs))
def Here (Γ : Sta) {α : Type} (E : XK) (m : M α) (P : Ix → Hp → α → HS → Prop) (σ : St) (H : Hp) : Prop :=
  ∃ ι ls hs, Rep Γ ι hs H ∧ RelL Γ ι H ls σ ∧ (m ls hs).Sat (P ι H) (PostX Γ ι H E)
def tF (Γ : Sta) (E : XK) (m : M D) : TE := fun σ H Q => Here Γ E m (fun ι H => PostV Γ ι H Q) σ H
def tFT (Γ : Sta) (E : XK) (m : M Bool) : TT := fun σ H Q => Here Γ E m (fun ι H => PostB Γ ι H Q) σ H
def tFA (Γ : Sta) (E : XK) (m : M (List D)) : TA := fun σ H Q => Here Γ E m (fun ι H => PostA Γ ι H Q) σ H
def tFL (Γ : Sta) (E : XK) (m : M (List D)) : TE := fun σ H Q => Here Γ E m (fun ι H => PostL Γ ι H Q) σ H
abbrev FE (X : Cx) (Γ : Sta) (E : XK) (e : Expr) (m : M D) : Prop := PE X e (tF Γ E m)
abbrev FT (X : Cx) (Γ : Sta) (E : XK) (e : Expr) (m : M Bool) : Prop := PT X e (tFT Γ E m)
abbrev FW (X : Cx) (Γ : Sta) (E : XK) (e : Expr) (m : M Bool) : Prop := PW X e (tFT Γ E m)
abbrev FA (X : Cx) (Γ : Sta) (E : XK) (es : List Expr) (m : M (List D)) : Prop := PA X es (tFA Γ E m)
/-- an expression that makes a new list -/
abbrev FL (X : Cx) (Γ : Sta) (E : XK) (e : Expr) (m : M (List D)) : Prop := PE X e (tFL Γ E m)

theorem PE.weak {X : Cx} {e : Expr} {t t' : TE} (h : PE X e t) (w : ∀ σ H Q, t' σ H Q → t σ H Q) : PE X e t' := ⟨fun pins s σ H Q I q => h.run pins s σ H Q I (w _ _ _ q)⟩
theorem PE.alt {X : Cx} {e : Expr} {t t' t'' : TE} (h : PE X e t) (h' : PE X e t') (w : ∀ σ H Q, t'' σ H Q → t σ H Q ∨ t' σ H Q) : PE X e t'' := ⟨fun pins s σ H Q I q => (w _ _ _ q).elim (h.run pins s σ H Q I) (h'.run pins s σ H Q I)⟩
theorem PT.weak {X : Cx} {e : Expr} {t t' : TT} (h : PT X e t) (w : ∀ σ H Q, t' σ H Q → t σ H Q) : PT X e t' := ⟨fun pins s σ H Q I q => h.run pins s σ H Q I (w _ _ _ q)⟩
theorem PT.alt {X : Cx} {e : Expr} {t t' t'' : TT} (h : PT X e t) (h' : PT X e t') (w : ∀ σ H Q, t'' σ H Q → t σ H Q ∨ t' σ H Q) : PT X e t'' := ⟨fun pins s σ H Q I q => (w _ _ _ q).elim (h.run pins s σ H Q I) (h'.run pins s σ H Q I)⟩
theorem PW.weak {X : Cx} {e : Expr} {t t' : TT} (h : PW X e t) (w : ∀ σ H Q, t' σ H Q → t σ H Q) : PW X e t' := ⟨fun wh pins s σ H Q I q => h.run wh pins s σ H Q I (w _ _ _ q)⟩
theorem PA.weak {X : Cx} {es : List Expr} {t t' : TA} (h : PA X es t) (w : ∀ σ H Q, t' σ H Q → t σ H Q) : PA X es t' := ⟨fun pos pins s σ H Q I q => h.run pos pins s σ H Q I (w _ _ _ q)⟩
theorem PS.weak {X : Cx} {st : Stmt} {t t' : TS} (h : PS X st t) (w : ∀ D σ H, t' D σ H → t D σ H) : PS X st t' := ⟨fun pins s σ H D I q => h.run pins s σ H D I (w _ _ _ q)⟩
theorem PSs.weak {X : Cx} {st : List Stmt} {t t' : TS} (h : PSs X st t) (w : ∀ D σ H, t' D σ H → t D σ H) : PSs X st t' := ⟨fun pins s σ H D I q => h.run pins s σ H D I (w _ _ _ q)⟩

section
variable {Γ : Sta} {ι ι1 : Ix} {H H1 : Hp} {E : XK}
theorem PostV.on {Q : VK} {d : D} {h : HS} (p : PostV Γ ι H Q d h) (s : Step ι H ι1 H1) : PostV Γ ι1 H1 Q d h := fun ι' H' v st => p ι' H' v (s.trans st)
theorem PostX.on {c : Nat} {h : HS} (p : PostX Γ ι H E c h) (s : Step ι H ι1 H1) : PostX Γ ι1 H1 E c h := fun ι' H' st => p ι' H' (s.trans st)
theorem PostB.on {Q : Bool → Hp → Prop} {d : Bool} {h : HS} (p : PostB Γ ι H Q d h) (s : Step ι H ι1 H1) : PostB Γ ι1 H1 Q d h := fun ι' H' st => p ι' H' (s.trans st)
theorem PostA.on {Q : List V → Hp → Prop} {d : List D} {h : HS} (p : PostA Γ ι H Q d h) (s : Step ι H ι1 H1) : PostA Γ ι1 H1 Q d h := fun ι' H' v st => p ι' H' v (s.trans st)
theorem PostL.on {Q : VK} {d : List D} {h : HS} (p : PostL Γ ι H Q d h) (s : Step ι H ι1 H1) : PostL Γ ι1 H1 Q d h := fun ι' H' v q st => p ι' H' v q (s.trans st)
/-- a part first, then the rest at the later heap -/
theorem Here.bind {α β : Type} {m : M α} {f : α → M β} {P : Ix → Hp → β → HS → Prop} {P' : Ix → Hp → α → HS → Prop} {σ : St}
    (h : Here Γ E (fun ls hs => (m ls hs).bind fun a h1 => f a ls h1) P σ H)
    (w : ∀ ι ls hs a h1, Rep Γ ι hs H → RelL Γ ι H ls σ → (f a ls h1).Sat (P ι H) (PostX Γ ι H E) → P' ι H a h1) : Here Γ E m P' σ H := by
  obtain ⟨ι, ls, hs, rp, rl, sat⟩ := h
  exact ⟨ι, ls, hs, rp, rl, sat.of_bind.mono (fun a h1 s1 => w ι ls hs a h1 rp rl s1) fun _ _ e => e⟩
theorem bindV {β : Type} {m : M D} {f : D → M β} {P : Ix → Hp → β → HS → Prop} {σ : St} {k : VK}
    (h : Here Γ E (fun ls hs => (m ls hs).bind fun a h1 => f a ls h1) P σ H)
    (w : ∀ ι ls hs a h1, Rep Γ ι hs H → RelL Γ ι H ls σ → (f a ls h1).Sat (P ι H) (PostX Γ ι H E) → ∀ ι1 H1 x, Step ι H ι1 H1 → Rep Γ ι1 h1 H1 → RelD Γ ι1 H1 a x → k x H1) : tF Γ E m σ H k :=
  Here.bind h w
theorem bindT {β : Type} {m : M Bool} {f : Bool → M β} {P : Ix → Hp → β → HS → Prop} {σ : St} {k : Bool → Hp → Prop}
    (h : Here Γ E (fun ls hs => (m ls hs).bind fun a h1 => f a ls h1) P σ H)
    (w : ∀ ι ls hs a h1, Rep Γ ι hs H → RelL Γ ι H ls σ → (f a ls h1).Sat (P ι H) (PostX Γ ι H E) → ∀ ι1 H1, Step ι H ι1 H1 → Rep Γ ι1 h1 H1 → k a H1) : tFT Γ E m σ H k :=
  Here.bind h w
theorem bindA {β : Type} {m : M (List D)} {f : List D → M β} {P : Ix → Hp → β → HS → Prop} {σ : St} {k : List V → Hp → Prop}
    (h : Here Γ E (fun ls hs => (m ls hs).bind fun a h1 => f a ls h1) P σ H)
    (w : ∀ ι ls hs a h1, Rep Γ ι hs H → RelL Γ ι H ls σ → (f a ls h1).Sat (P ι H) (PostX Γ ι H E) → ∀ ι1 H1 vs, Step ι H ι1 H1 → Rep Γ ι1 h1 H1 → RelDs Γ ι1 H1 a vs → k vs H1) : tFA Γ E m σ H k :=
  Here.bind h w
theorem bindL {β : Type} {m : M (List D)} {f : List D → M β} {P : Ix → Hp → β → HS → Prop} {σ : St} {k : VK}
    (h : Here Γ E (fun ls hs => (m ls hs).bind fun a h1 => f a ls h1) P σ H)
    (w : ∀ ι ls hs a h1, Rep Γ ι hs H → RelL Γ ι H ls σ → (f a ls h1).Sat (P ι H) (PostX Γ ι H E) → ∀ ι1 H1 vs p, Step ι H ι1 H1 → Rep Γ ι1 h1 H1 → RelDs Γ ι1 H1 a vs → H1 p = none → k (.ref p) (upd H1 p (.lst vs))) : tFL Γ E m σ H k :=
  Here.bind h w
end

/-! ### parts of functions -/
def R.of {α : Type} (o : Option α) (h : HS) : R α := match o with
  | some a => .ok a h
  | none => .bad
theorem R.of_sat {α : Type} {o : Option α} {h : HS} {Q : α → HS → Prop} {E : Nat → HS → Prop} (s : (R.of o h).Sat Q E) : ∃ a, o = some a ∧ Q a h := by
  cases o with
  | none => exact s.elim
  | some a => exact ⟨a, rfl, s⟩
def mC (d : D) : M D := fun _ hs => .ok d hs
def mVar (i : Nat) : M D := fun ls hs => R.of ((ls[i]?).bind id) hs
def mBin (f : HS → D → D → Option D) (a b : M D) : M D := fun ls hs => (a ls hs).bind fun x h1 => (b ls h1).bind fun y h2 => R.of (f h2 x y) h2
def mUn (f : HS → D → Option D) (a : M D) : M D := fun ls hs => (a ls hs).bind fun x h1 => R.of (f h1 x) h1
def mTest (a : M D) : M Bool := fun ls hs => (a ls hs).bind fun x h1 => match x with
  | .bl b => .ok b h1
  | _ => .bad
def mIf (t : M Bool) (a b : M D) : M D := fun ls hs => (t ls hs).bind fun c h1 => if c then a ls h1 else b ls h1
def mIfL (t : M Bool) (a b : M (List D)) : M (List D) := fun ls hs => (t ls hs).bind fun c h1 => if c then a ls h1 else b ls h1
def mAnd (t u : M Bool) : M Bool := fun ls hs => (t ls hs).bind fun c h1 => if c then u ls h1 else .ok false h1
def mOr (t u : M Bool) : M Bool := fun ls hs => (t ls hs).bind fun c h1 => if c then .ok true h1 else u ls h1
def mNot (t : M Bool) : M Bool := fun ls hs => (t ls hs).bind fun c h1 => .ok (!c) h1
def mB (t : M Bool) : M D := fun ls hs => (t ls hs).bind fun c h1 => .ok (.bl c) h1
def mAndV (a b : M D) : M D := fun ls hs => (a ls hs).bind fun x h1 => match x with
  | .bl true => b ls h1
  | .bl false => .ok (.bl false) h1
  | _ => .bad
def mOrV (a b : M D) : M D := fun ls hs => (a ls hs).bind fun x h1 => match x with
  | .bl true => .ok (.bl true) h1
  | .bl false => b ls h1
  | _ => .bad
def mNotV (a : M D) : M D := fun ls hs => (a ls hs).bind fun x h1 => match x with
  | .bl b => .ok (.bl (!b)) h1
  | _ => .bad
def mNil : M (List D) := fun _ hs => .ok [] hs
def mCons (a : M D) (r : M (List D)) : M (List D) := fun ls hs => (a ls hs).bind fun x h1 => (r ls h1).bind fun xs h2 => .ok (x :: xs) h2
def mTup (a : M (List D)) : M D := fun ls hs => (a ls hs).bind fun xs h1 => if xs.length ≤ sizeLine then .ok (.tup xs) h1 else .bad
/-- the items of a display -/
def mLst (a : M (List D)) : M (List D) := fun ls hs => (a ls hs).bind fun xs h1 => if xs.length ≤ sizeLine then .ok xs h1 else .bad
/-- a new list as a value; under a number -/
def mVal (a : M (List D)) : M D := fun ls hs => (a ls hs).bind fun xs h1 => .ok (.lst xs) h1
def mBox (a : M (List D)) : M D := fun ls hs => (a ls hs).bind fun xs h1 => .ok (.ref h1.length) (h1 ++ [.lst xs])

section
variable {X : Cx} {Γ : Sta} {E : XK} {a b c : Expr} {ma mb mc : M D} {mt mu : M Bool} {ml mr : M (List D)} {pos : Pos}
theorem fe_c {e : Expr} {v : V} {d : D} (h : PE X e (tC v)) (hr : ∀ ι H, RelD Γ ι H d v) : FE X Γ E e (mC d) := PE.weak h fun σ H Q ⟨ι, ls, hs, rp, rl, sat⟩ => sat ι H v (Step.refl _ _) rp (hr _ _)
theorem fe_int {i j} : FE X Γ E (.Constant (.int i) j pos) (mC (.int i)) := fe_c pe_int fun _ _ => .int _
theorem fe_bl {i j} : FE X Γ E (.Constant (.bool i) j pos) (mC (.bl i)) := fe_c pe_bl fun _ _ => .bl _
theorem fe_non {j} : FE X Γ E (.Constant .none j pos) (mC .non) := fe_c pe_non fun _ _ => .non
theorem fe_str {i j} : FE X Γ E (.Constant (.str i) j pos) (mC (.str i)) := fe_c pe_str fun _ _ => .str _
theorem fv (i : Nat) {x : Str} {pos : Pos} (hN : X.N[i]? = some x := by rfl) (hv : Vis X.env.scope x := by first | exact Or.inl rfl | exact Or.inr (Or.inl rfl) | exact Or.inr (Or.inr rfl)) (hd : (x == ("__debug__" : Str)) = false := by decide) (hcd : (x == ("__classdict__" : Str)) = false := by decide) :
    FE X Γ E (.Name x pos) (mVar i) := PE.weak (pe_var hN hv hd hcd) fun σ H Q ⟨ι, ls, hs, rp, rl, sat⟩ => by
  obtain ⟨d, e, p⟩ := R.of_sat sat
  have e' : ls[i]? = some (some d) := by
    cases q : ls[i]? with
    | none => rw [q] at e; cases e
    | some o => rw [q] at e; exact congrArg some e
  obtain ⟨v, h1, h2⟩ := rl.2 i d e'
  exact ⟨v, h1, p ι H v (Step.refl _ _) rp h2⟩
/-- what an operation on values asks and gives -/
def OpS (Γ : Sta) (r : R2) (f : HS → D → D → Option D) : Prop := ∀ ι hs H x y dx dy d Q, Rep Γ ι hs H → RelD Γ ι H dx x → RelD Γ ι H dy y → f hs dx dy = some d →
  (∀ H' v, Step ι H ι H' → Rep Γ ι hs H' → RelD Γ ι H' d v → Q v H') → r x y H Q
def UnS (Γ : Sta) (r : V → Hp → VK → Prop) (f : HS → D → Option D) : Prop := ∀ ι hs H x dx d Q, Rep Γ ι hs H → RelD Γ ι H dx x → f hs dx = some d →
  (∀ H' v, Step ι H ι H' → Rep Γ ι hs H' → RelD Γ ι H' d v → Q v H') → r x H Q
theorem bin_t {r : R2} {f : HS → D → D → Option D} (ho : OpS Γ r f) {σ : St} {H : Hp} {Q : VK} (h : tF Γ E (mBin f ma mb) σ H Q) : tOp r (tF Γ E ma) (tF Γ E mb) σ H Q := by
  refine bindV h fun ι ls hs dx h1 rp rl s1 ι1 H1 x st1 rp1 rx => ?_
  refine ⟨ι1, ls, h1, rp1, rp.relL st1 rl, s1.of_bind.mono (fun dy h2 s2 ι2 H2 y st2 rp2 ry => ?_) fun c h e => PostX.on e st1⟩
  obtain ⟨d, e, p⟩ := R.of_sat s2
  exact ho ι2 h2 H2 x y dx dy d Q rp2 (rp1.relD st2 rx) ry e fun H3 v st3 rp3 rv => p ι2 H3 v ((st1.trans st2).trans st3) rp3 rv
theorem fe_op {op : Operator} {r : R2} {f : HS → D → D → Option D} (ho : OpR X (binaryOp op) r) (hs : OpS Γ r f) (ha : FE X Γ E a ma) (hb : FE X Γ E b mb) : FE X Γ E (.BinOp a op b pos) (mBin f ma mb) :=
  PE.weak (pe_op ho ha hb) fun _ _ _ h => bin_t hs h
theorem fe_un {op : UnaryOp} {r : V → Hp → VK → Prop} {f : HS → D → Option D} (ho : UnR X (unaryOp op) r) (hs : UnS Γ r f) (ha : FE X Γ E a ma) : FE X Γ E (.UnaryOp op a pos) (mUn f ma) :=
  PE.weak (pe_un ho ha) fun σ H Q h => bindV h fun ι ls hs' dx h1 rp rl s1 ι1 H1 x st1 rp1 rx => by
    obtain ⟨d, e, p⟩ := R.of_sat s1
    exact hs ι1 h1 H1 x dx d Q rp1 rx e fun H3 v st3 rp3 rv => p ι1 H3 v (st1.trans st3) rp3 rv
theorem fe_cmp {op : CmpOp} {r : R2} {f : HS → D → D → Option D} (ho : OpR X (compareOp op) r) (hs : OpS Γ r f) (ha : FE X Γ E a ma) (hb : FE X Γ E b mb) (hm : behindInMarks op b = false := by first | exact nobehind _ (by decide) (by decide) | rfl) : FE X Γ E (.Compare a [op] [b] pos) (mBin f ma mb) :=
  PE.weak (pe_cmpR ho ha hb hm) fun _ _ _ h => bin_t hs h
theorem test_t {t : TE} (w : ∀ σ H Q, tF Γ E ma σ H Q → t σ H Q) {σ : St} {H : Hp} {Q : Bool → Hp → Prop} (h : tFT Γ E (mTest ma) σ H Q) : tTest t σ H Q := by
  refine w σ H _ (bindV h fun ι ls hs dx h1 rp rl s1 ι1 H1 x st1 rp1 rx => ?_)
  cases dx with
  | bl b => exact ⟨b, rx.bl_inv, s1 ι1 H1 st1 rp1⟩
  | _ => exact s1.elim
theorem ft_cmp {op : CmpOp} {r : R2} {f : HS → D → D → Option D} (ho : OpR X (compareOp op) r) (hs : OpS Γ r f) (ha : FE X Γ E a ma) (hb : FE X Γ E b mb) (hm : behindInMarks op b = false := by first | exact nobehind _ (by decide) (by decide) | rfl) : FT X Γ E (.Compare a [op] [b] pos) (mTest (mBin f ma mb)) :=
  PT.weak (pt_cmpR ho ha hb hm) fun _ _ _ h => test_t (fun _ _ _ q => bin_t hs q) h
/-- a test of a bool value -/
theorem ft_val {e : Expr} (h : FE X Γ E e ma) (he : ∀ whole, isTrue e X.env whole = (do let v ← whole; standAt e.pos; holding [v] (truthy v)) := by intro _; rfl) : FT X Γ E e (mTest ma) :=
  PT.weak (pt_val h he) fun _ _ _ q => test_t (fun _ _ _ z => z) q
theorem ft_not (h : FT X Γ E a mt) : FT X Γ E (.UnaryOp .Not a pos) (mNot mt) := PT.weak (pt_not h) fun σ H Q q => bindT q fun ι ls hs b h1 rp rl s1 ι1 H1 st1 rp1 => s1 ι1 H1 st1 rp1
theorem fw_and1 (h : FT X Γ E a mt) : FW X Γ E (.BoolOp .And [a] pos) mt := pw_and1 h
theorem fw_or1 (h : FT X Γ E a mt) : FW X Γ E (.BoolOp .Or [a] pos) mt := pw_or1 h
theorem fw_and {rest : List Expr} (h : FT X Γ E a mt) (h2 : FW X Γ E (.BoolOp .And (b :: rest) pos) mu) : FW X Γ E (.BoolOp .And (a :: b :: rest) pos) (mAnd mt mu) := PW.weak (pw_and h h2) fun σ H Q q => bindT q fun ι ls hs c h1 rp rl s1 ι1 H1 st1 rp1 => by
  cases c with
  | true => exact ⟨ι1, ls, h1, rp1, rp.relL st1 rl, R.Sat.mono (show (mu ls h1).Sat _ _ from s1) (fun _ _ p => PostB.on p st1) fun _ _ p => PostX.on p st1⟩
  | false => exact s1 ι1 H1 st1 rp1
theorem fw_or {rest : List Expr} (h : FT X Γ E a mt) (h2 : FW X Γ E (.BoolOp .Or (b :: rest) pos) mu) : FW X Γ E (.BoolOp .Or (a :: b :: rest) pos) (mOr mt mu) := PW.weak (pw_or h h2) fun σ H Q q => bindT q fun ι ls hs c h1 rp rl s1 ι1 H1 st1 rp1 => by
  cases c with
  | false => exact ⟨ι1, ls, h1, rp1, rp.relL st1 rl, R.Sat.mono (show (mu ls h1).Sat _ _ from s1) (fun _ _ p => PostB.on p st1) fun _ _ p => PostX.on p st1⟩
  | true => exact s1 ι1 H1 st1 rp1
theorem fe_one {op} (h : FE X Γ E a ma) : FE X Γ E (.BoolOp op [a] pos) ma := pe_one h
theorem fe_and {rest : List Expr} (h : FE X Γ E a ma) (h2 : FE X Γ E (.BoolOp .And (b :: rest) pos) mb) : FE X Γ E (.BoolOp .And (a :: b :: rest) pos) (mAndV ma mb) := PE.weak (pe_and h h2) fun σ H Q q => bindV q fun ι ls hs d h1 rp rl s1 ι1 H1 x st1 rp1 rx => by
  cases d with
  | bl c =>
    refine ⟨c, rx.bl_inv, ?_⟩
    cases c with
    | true => exact ⟨ι1, ls, h1, rp1, rp.relL st1 rl, R.Sat.mono (show (mb ls h1).Sat _ _ from s1) (fun _ _ p => PostV.on p st1) fun _ _ p => PostX.on p st1⟩
    | false => exact s1 ι1 H1 _ st1 rp1 (.bl false)
  | _ => exact s1.elim
theorem fe_or {rest : List Expr} (h : FE X Γ E a ma) (h2 : FE X Γ E (.BoolOp .Or (b :: rest) pos) mb) : FE X Γ E (.BoolOp .Or (a :: b :: rest) pos) (mOrV ma mb) := PE.weak (pe_or h h2) fun σ H Q q => bindV q fun ι ls hs d h1 rp rl s1 ι1 H1 x st1 rp1 rx => by
  cases d with
  | bl c =>
    refine ⟨c, rx.bl_inv, ?_⟩
    cases c with
    | false => exact ⟨ι1, ls, h1, rp1, rp.relL st1 rl, R.Sat.mono (show (mb ls h1).Sat _ _ from s1) (fun _ _ p => PostV.on p st1) fun _ _ p => PostX.on p st1⟩
    | true => exact s1 ι1 H1 _ st1 rp1 (.bl true)
  | _ => exact s1.elim
theorem fe_not (h : FE X Γ E a ma) : FE X Γ E (.UnaryOp .Not a pos) (mNotV ma) := PE.weak (pe_not h) fun σ H Q q => bindV q fun ι ls hs d h1 rp rl s1 ι1 H1 x st1 rp1 rx => by
  cases d with
  | bl c => exact ⟨c, rx.bl_inv, s1 ι1 H1 _ st1 rp1 (.bl _)⟩
  | _ => exact s1.elim
theorem fe_if (ht : FT X Γ E c mt) (ha : FE X Γ E a ma) (hb : FE X Γ E b mb) : FE X Γ E (.IfExp c a b pos) (mIf mt ma mb) := PE.weak (pe_ifExp ht ha hb) fun σ H Q q => bindT q fun ι ls hs k h1 rp rl s1 ι1 H1 st1 rp1 => by
  cases k with
  | true => exact ⟨ι1, ls, h1, rp1, rp.relL st1 rl, R.Sat.mono (show (ma ls h1).Sat _ _ from s1) (fun _ _ p => PostV.on p st1) fun _ _ p => PostX.on p st1⟩
  | false => exact ⟨ι1, ls, h1, rp1, rp.relL st1 rl, R.Sat.mono (show (mb ls h1).Sat _ _ from s1) (fun _ _ p => PostV.on p st1) fun _ _ p => PostX.on p st1⟩
theorem fl_if (ht : FT X Γ E c mt) (ha : FL X Γ E a ml) (hb : FL X Γ E b mr) : FL X Γ E (.IfExp c a b pos) (mIfL mt ml mr) := PE.weak (pe_ifExp ht ha hb) fun σ H Q q => bindT q fun ι ls hs k h1 rp rl s1 ι1 H1 st1 rp1 => by
  cases k with
  | true => exact ⟨ι1, ls, h1, rp1, rp.relL st1 rl, R.Sat.mono (show (ml ls h1).Sat _ _ from s1) (fun _ _ p => PostL.on p st1) fun _ _ p => PostX.on p st1⟩
  | false => exact ⟨ι1, ls, h1, rp1, rp.relL st1 rl, R.Sat.mono (show (mr ls h1).Sat _ _ from s1) (fun _ _ p => PostL.on p st1) fun _ _ p => PostX.on p st1⟩
theorem fa_nil : FA X Γ E [] mNil := PA.weak pa_nil fun σ H Q ⟨ι, ls, hs, rp, rl, sat⟩ => sat ι H [] (Step.refl _ _) rp .nil
theorem fa_cons {es : List Expr} (ha : FE X Γ E a ma) (hr : FA X Γ E es mr) (hs : starEach (a :: es) X.env = (false, eval a X.env) :: starEach es X.env := by rfl) : FA X Γ E (a :: es) (mCons ma mr) := PA.weak (pa_cons ha hr hs) fun σ H Q q => bindV q fun ι ls hs dx h1 rp rl s1 ι1 H1 x st1 rp1 rx =>
  ⟨ι1, ls, h1, rp1, rp.relL st1 rl, s1.of_bind.mono (fun ds h2 s2 ι2 H2 vs st2 rp2 rds => s2 ι2 H2 _ (st1.trans st2) rp2 (.cons (rp1.relD st2 rx) rds)) fun _ _ p => PostX.on p st1⟩
theorem fe_tup {es : List Expr} {x1} (h : FA X Γ E es ml) : FE X Γ E (.Tuple es x1 pos) (mTup ml) := PE.weak (pe_tup h) fun σ H Q q => bindA q fun ι ls hs ds h1 rp rl s1 ι1 H1 vs st1 rp1 rds => by
  split at s1
  · rename_i hl
    refine ⟨by rw [← Paired.length rds]; exact hl, fun p hp => ?_⟩
    have st := Step.new (ι := ι1) (o := HO.tup vs) hp
    exact s1 ι1 _ _ (st1.trans st) (rp1.new hp) (RelD.mkTup (.inl upd_same) (rp1.relDs st rds))
  · exact s1.elim
theorem fl_lst {es : List Expr} (h : FA X Γ E es ml) : FL X Γ E (.List es pos) (mLst ml) := PE.weak (pe_lst h) fun σ H Q q => bindA q fun ι ls hs ds h1 rp rl s1 ι1 H1 vs st1 rp1 rds => by
  split at s1
  · rename_i hl
    exact ⟨by rw [← Paired.length rds]; exact hl, fun p hp => s1 ι1 H1 vs p st1 rp1 rds hp⟩
  · exact s1.elim
/-- the new list as a value -/
theorem fe_val (h : FL X Γ E a ml) : FE X Γ E a (mVal ml) := PE.weak h fun σ H Q q => bindL q fun ι ls hs ds h1 rp rl s1 ι1 H1 vs p st1 rp1 rds hp => by
  have st := Step.new (ι := ι1) (o := HO.lst vs) hp
  exact s1 ι1 _ _ (st1.trans st) (rp1.new hp) (RelD.mkLst (rp1.fresh hp) upd_same (rp1.relDs st rds))
/-- .. under the next number -/
theorem fe_box (h : FL X Γ E a ml) : FE X Γ E a (mBox ml) := PE.weak h fun σ H Q q => bindL q fun ι ls hs ds h1 rp rl s1 ι1 H1 vs p st1 rp1 rds hp => by
  have st := Step.box (ι := ι1) (o := HO.lst vs) hp
  refine s1 (ι1.add p) _ _ (st1.trans st) (rp1.box hp ⟨vs, upd_same, rp1.relDs st rds⟩) (.ref (rp1.next p))
end
end Fx

set_option Elab.async false
set_option linter.all false
set_option maxRecDepth 100000
namespace Fx
open PySem L2

/-! ### lists and tuples read -/
def lstAt (hs : HS) (n : Nat) : Option (List D) := match hs[n]? with
  | some (.lst ds) => some ds
  | _ => none
def dctAt (hs : HS) (n : Nat) : Option (List (Key × D)) := match hs[n]? with
  | some (.dct _ kvs) => some kvs
  | _ => none
def seqL (hs : HS) : D → Option (List D)
  | .lst ds => some ds
  | .ref n => lstAt hs n
  | _ => none
def seqT (hs : HS) : D → Option (List D)
  | .lst ds => some ds
  | .tup ds => some ds
  | .ref n => lstAt hs n
  | _ => none
def D.key : D → Option Key
  | .int i => some (.inl i)
  | .str s => some (.inr s)
  | _ => none
def lk {κ : Type} [DecidableEq κ] (kvs : List (κ × D)) (k : κ) : Option D := (kvs.find? fun kv => decide (kv.1 = k)).map (·.2)

section
variable {Γ : Sta} {ι ι1 : Ix} {H H1 : Hp} {hs : HS}
theorem lstAt_iff {n : Nat} {ds : List D} : lstAt hs n = some ds ↔ hs[n]? = some (.lst ds) := by
  unfold lstAt
  constructor
  · intro h
    cases q : hs[n]? with
    | none => rw [q] at h; cases h
    | some o => cases o <;> rw [q] at h <;> simp_all
  · intro h; rw [h]
theorem dctAt_iff {n : Nat} {kvs : List (Key × D)} : dctAt hs n = some kvs ↔ ∃ b, hs[n]? = some (.dct b kvs) := by
  unfold dctAt
  constructor
  · intro h
    cases q : hs[n]? with
    | none => rw [q] at h; cases h
    | some o => cases o <;> rw [q] at h <;> simp_all
  · rintro ⟨b, h⟩; rw [h]
theorem lstAt_rel (rp : Rep Γ ι hs H) {n : Nat} {a : Addr} {ds : List D} (h : ι.l[n]? = some a) (e : lstAt hs n = some ds) : ∃ vs, H a = some (.lst vs) ∧ RelDs Γ ι H ds vs :=
  rp.ob n a _ h (lstAt_iff.mp e)
theorem seqL_rel (rp : Rep Γ ι hs H) {d : D} {v : V} (r : RelD Γ ι H d v) {ds : List D} (h : seqL hs d = some ds) : ∃ a vs, v = .ref a ∧ H a = some (.lst vs) ∧ RelDs Γ ι H ds vs := by
  cases d with
  | lst xs =>
    cases h
    obtain ⟨a, vs, e, _, h1, h2⟩ := r.lst_inv
    exact ⟨a, vs, e, h1, h2⟩
  | ref n =>
    obtain ⟨a, e, h1⟩ := r.ref_inv
    obtain ⟨vs, h2, h3⟩ := lstAt_rel rp h1 h
    exact ⟨a, vs, e, h2, h3⟩
  | _ => cases h
theorem seqT_rel (rp : Rep Γ ι hs H) {d : D} {v : V} (r : RelD Γ ι H d v) {ds : List D} (h : seqT hs d = some ds) : ∃ a vs, v = .ref a ∧ (SqL Γ.K H a vs ∨ SqT Γ.K H a vs) ∧ RelDs Γ ι H ds vs := by
  cases d with
  | tup xs =>
    cases h
    obtain ⟨a, vs, e, h1, h2⟩ := r.tup_inv
    exact ⟨a, vs, e, .inr h1.sq, h2⟩
  | lst xs =>
    obtain ⟨a, vs, e, h1, h2⟩ := seqL_rel rp r h
    exact ⟨a, vs, e, .inl (SqL.of h1), h2⟩
  | ref n =>
    obtain ⟨a, vs, e, h1, h2⟩ := seqL_rel rp r (d := .ref n) h
    exact ⟨a, vs, e, .inl (SqL.of h1), h2⟩
  | _ => cases h
theorem key_rel {d : D} {v : V} {k : Key} (r : RelD Γ ι H d v) (h : d.key = some k) : v = kV k := by
  cases d with
  | int i => cases h; exact r.int_inv
  | str s => cases h; exact r.str_inv
  | _ => cases h
theorem lk_rel {kvs : List (Key × D)} {kvs' : List (Key × V)} (p : Paired (fun p q => p.1 = q.1 ∧ RelD Γ ι H p.2 q.2) kvs kvs') (k : Key) :
    (∀ d, lk kvs k = some d → ∃ v, valV kvs' k = some v ∧ RelD Γ ι H d v) ∧ (lk kvs k = none → valV kvs' k = none) := by
  induction p with
  | nil => exact ⟨fun d h => by simp [lk] at h, fun _ => rfl⟩
  | @cons x y r t e q ih =>
    by_cases h : x.1 = k
    · have e1 : lk (x :: r) k = some x.2 := by simp [lk, List.find?, h]
      have e2 : valV (y :: t) k = some y.2 := valV_pos (by rw [← e.1]; exact h)
      refine ⟨fun d hd => ⟨y.2, e2, ?_⟩, fun hd => ?_⟩
      · rw [e1] at hd; cases hd; exact e.2
      · rw [e1] at hd; cases hd
    · have e1 : lk (x :: r) k = lk r k := by simp [lk, List.find?, h]
      have e2 : valV (y :: t) k = valV t k := valV_neg (by rw [← e.1]; exact h)
      rw [e1, e2]
      exact ih
theorem dctAt_rel (rp : Rep Γ ι hs H) {n : Nat} {a : Addr} {kvs : List (Key × D)} (h : ι.l[n]? = some a) (e : dctAt hs n = some kvs) : ∃ kvs', Rd H a (.dK kvs') ∧ Paired (fun p q => p.1 = q.1 ∧ RelD Γ ι H p.2 q.2) kvs kvs' := by
  obtain ⟨b, e⟩ := dctAt_iff.mp e
  obtain ⟨kvs', z, r⟩ := rp.ob n a _ h e
  refine ⟨kvs', ?_, r⟩
  rcases z with ⟨z, _⟩ | ⟨od, z, _⟩
  · exact .inl z
  · exact .inr ⟨od, z⟩
theorem dget_rel (rp : Rep Γ ι hs H) {n : Nat} {a : Addr} {kvs : List (Key × D)} {k : Key} (h : ι.l[n]? = some a) (e : dctAt hs n = some kvs) :
    (∀ d, lk kvs k = some d → ∃ v, DGet H a (kV k) (some v) ∧ RelD Γ ι H d v) ∧ (lk kvs k = none → DGet H a (kV k) none) := by
  obtain ⟨kvs', h1, r⟩ := dctAt_rel rp h e
  have q := lk_rel r k
  refine ⟨fun d hd => ?_, fun hd => ?_⟩
  · obtain ⟨v, e1, e2⟩ := q.1 d hd
    exact ⟨v, .inl ⟨kvs', k, h1, rfl, e1.symm⟩, e2⟩
  · exact .inl ⟨kvs', k, h1, rfl, (q.2 hd).symm⟩
end

/-! ### data compared -/
mutual
def D.py : D → PyData
  | .non => .none
  | .bl b => .bool b
  | .int i => .int i
  | .str s => .str s
  | .tup ds => .tuple (D.pys ds)
  | .lst ds => .list (D.pys ds)
  | .ref _ => .none
  | .lam _ => .none
  | .con _ => .none
def D.pys : List D → List PyData
  | [] => []
  | d :: r => D.py d :: D.pys r
end
mutual
/-- data of such a depth at most, no number within -/
def D.pl : D → Nat → Bool
  | .non, _ => true
  | .bl _, _ => true
  | .int _, _ => true
  | .str s, _ => PyData.strOk s
  | .tup ds, k => decide (0 < k) && D.pls ds (k - 1)
  | .lst ds, k => decide (0 < k) && D.pls ds (k - 1)
  | .ref _, _ => false
  | .lam _, _ => false
  | .con _, _ => false
def D.pls : List D → Nat → Bool
  | [], _ => true
  | d :: r, k => D.pl d k && D.pls r k
end
theorem D.pls_all (k : Nat) : ∀ ds : List D, D.pls ds k = ds.all fun d => d.pl k
  | [] => rfl
  | d :: r => by simp [D.pls, D.pls_all k r]
theorem D.pys_map : ∀ ds : List D, D.pys ds = ds.map D.py
  | [] => rfl
  | d :: r => by simp [D.pys, D.pys_map r]
mutual
def resW (f : Nat → Option D) : D → Option D
  | .tup ds => (resWs f ds).map .tup
  | .lst ds => (resWs f ds).map .lst
  | .ref n => f n
  | .lam _ => none
  | .con _ => none
  | .non => some .non
  | .bl b => some (.bl b)
  | .int i => some (.int i)
  | .str s => some (.str s)
def resWs (f : Nat → Option D) : List D → Option (List D)
  | [] => some []
  | d :: r => (resW f d).bind fun x => (resWs f r).map fun xs => x :: xs
end
def resN : Nat → HS → Nat → Option D
  | 0, _, _ => none
  | k + 1, hs, n => (lstAt hs n).bind fun ds => (resWs (resN k hs) ds).map .lst
def D.res (hs : HS) (d : D) : Option D := if d.pl 8 then some d else resW (resN 3 hs) d
def deq (a b : D) : Bool := PyData.eqv a.py b.py
def eqF (hs : HS) (x y : D) : Option D := (D.res hs x).bind fun a => (D.res hs y).bind fun b => if a.pl 8 && b.pl 8 then some (.bl (deq a b)) else none
def neF (hs : HS) (x y : D) : Option D := (D.res hs x).bind fun a => (D.res hs y).bind fun b => if a.pl 8 && b.pl 8 then some (.bl (!deq a b)) else none

mutual
theorem pl_lay : ∀ (d : D) (k : Nat), d.pl k = true → d.py.canLay0 = true ∧ d.py.depth ≤ k
  | .non, k, h => by simp [D.py, PyData.canLay0, PyData.depth]
  | .bl _, k, h => by simp [D.py, PyData.canLay0, PyData.depth]
  | .int _, k, h => by simp [D.py, PyData.canLay0, PyData.depth]
  | .str s, k, h => by
    have h' : PyData.strOk s = true := by simpa [D.pl] using h
    simp [D.py, PyData.canLay0, PyData.depth, h']
  | .tup ds, k, h => by
    simp only [D.pl, Bool.and_eq_true, decide_eq_true_eq] at h
    have q := pls_lay ds (k - 1) h.2
    simp only [D.py, PyData.canLay0, PyData.depth]
    exact ⟨q.1, by omega⟩
  | .lst ds, k, h => by
    simp only [D.pl, Bool.and_eq_true, decide_eq_true_eq] at h
    have q := pls_lay ds (k - 1) h.2
    simp only [D.py, PyData.canLay0, PyData.depth]
    exact ⟨q.1, by omega⟩
  | .ref _, _, h => by simp [D.pl] at h
  | .lam _, _, h => by simp [D.pl] at h
theorem pls_lay : ∀ (ds : List D) (k : Nat), D.pls ds k = true → PyData.canLayAll0 (D.pys ds) = true ∧ PyData.depthAll (D.pys ds) ≤ k
  | [], k, h => by simp [D.pys, PyData.canLayAll0, PyData.depthAll]
  | d :: r, k, h => by
    simp only [D.pls, Bool.and_eq_true] at h
    have h1 := pl_lay d k h.1
    have h2 := pls_lay r k h.2
    simp only [D.pys, PyData.canLayAll0, PyData.depthAll, h1.1, h2.1, Bool.and_self]
    exact ⟨trivial, by omega⟩
end
theorem shaped_of {d : D} (h : d.pl 8 = true) : SeqAt.shaped d.py = true := by
  have q := pl_lay d 8 h
  simp only [SeqAt.shaped, Bool.and_eq_true, decide_eq_true_eq]
  exact ⟨q.1, by omega⟩

section
variable {Γ : Sta} {ι : Ix} {H : Hp} {hs : HS}
mutual
theorem dp_res {f : Nat → Option D} (hf : ∀ n d' a, f n = some d' → ι.l[n]? = some a → ∀ k, d'.pl k = true → Dp Γ.K H (.ref a) d'.py) :
    ∀ (d d' : D) (v : V) (k : Nat), resW f d = some d' → RelD Γ ι H d v → d'.pl k = true → Dp Γ.K H v d'.py
  | .non, d', v, k, h, r, p => by cases h; rw [r.non_inv]; exact .non
  | .bl b, d', v, k, h, r, p => by cases h; rw [r.bl_inv]; exact .bl b
  | .int b, d', v, k, h, r, p => by cases h; rw [r.int_inv]; exact .int b
  | .str b, d', v, k, h, r, p => by cases h; rw [r.str_inv]; exact .str b
  | .tup ds, d', v, k, h, r, p => by
    obtain ⟨a, vs, rfl, h1, h2⟩ := r.tup_inv
    simp only [resW, Option.map_eq_some_iff] at h
    obtain ⟨es, h3, rfl⟩ := h
    simp only [D.pl, Bool.and_eq_true] at p
    exact .tup h1.sq (dps_res hf ds es vs (k - 1) h3 h2 p.2)
  | .lst ds, d', v, k, h, r, p => by
    obtain ⟨a, vs, rfl, _, h1, h2⟩ := r.lst_inv
    simp only [resW, Option.map_eq_some_iff] at h
    obtain ⟨es, h3, rfl⟩ := h
    simp only [D.pl, Bool.and_eq_true] at p
    exact .lst (SqL.of h1) (dps_res hf ds es vs (k - 1) h3 h2 p.2)
  | .ref n, d', v, k, h, r, p => by
    obtain ⟨a, rfl, h1⟩ := r.ref_inv
    exact hf n d' a h h1 k p
  | .lam _, d', v, k, h, r, p => by cases h
theorem dps_res {f : Nat → Option D} (hf : ∀ n d' a, f n = some d' → ι.l[n]? = some a → ∀ k, d'.pl k = true → Dp Γ.K H (.ref a) d'.py) :
    ∀ (ds es : List D) (vs : List V) (k : Nat), resWs f ds = some es → RelDs Γ ι H ds vs → D.pls es k = true → DpAll Γ.K H vs (D.pys es)
  | [], es, vs, k, h, r, p => by cases h; cases r; exact .nil
  | d :: t, es, vs, k, h, r, p => by
    simp only [resWs, Option.bind_eq_some_iff, Option.map_eq_some_iff] at h
    obtain ⟨x, h1, xs, h2, rfl⟩ := h
    simp only [D.pls, Bool.and_eq_true] at p
    cases r with
    | cons q s => exact .cons (dp_res hf d x _ k h1 q p.1) (dps_res hf t xs _ k h2 s p.2)
end
theorem dp_resN (rp : Rep Γ ι hs H) : ∀ (j n : Nat) (d' : D) (a : Addr), resN j hs n = some d' → ι.l[n]? = some a → ∀ k, d'.pl k = true → Dp Γ.K H (.ref a) d'.py
  | 0, n, d', a, h, _, _, _ => by cases h
  | j + 1, n, d', a, h, hn, k, p => by
    simp only [resN, Option.bind_eq_some_iff, Option.map_eq_some_iff] at h
    obtain ⟨ds, h1, es, h2, rfl⟩ := h
    obtain ⟨vs, e1, e2⟩ := lstAt_rel rp hn h1
    simp only [D.pl, Bool.and_eq_true] at p
    exact .lst (SqL.of e1) (dps_res (dp_resN rp j) ds es vs (k - 1) h2 e2 p.2)
mutual
theorem res_pl (f : Nat → Option D) : ∀ (d : D) (k : Nat), d.pl k = true → resW f d = some d
  | .non, _, _ => rfl
  | .bl _, _, _ => rfl
  | .int _, _, _ => rfl
  | .str _, _, _ => rfl
  | .tup ds, k, h => by
    simp only [D.pl, Bool.and_eq_true] at h
    simp [resW, ress_pl f ds (k - 1) h.2]
  | .lst ds, k, h => by
    simp only [D.pl, Bool.and_eq_true] at h
    simp [resW, ress_pl f ds (k - 1) h.2]
  | .ref _, _, h => by simp [D.pl] at h
  | .lam _, _, h => by simp [D.pl] at h
theorem ress_pl (f : Nat → Option D) : ∀ (ds : List D) (k : Nat), D.pls ds k = true → resWs f ds = some ds
  | [], _, _ => rfl
  | d :: r, k, h => by
    simp only [D.pls, Bool.and_eq_true] at h
    simp [resWs, res_pl f d k h.1, ress_pl f r k h.2]
end
theorem dp_of (rp : Rep Γ ι hs H) {d d' : D} {v : V} (h : D.res hs d = some d') (r : RelD Γ ι H d v) (p : d'.pl 8 = true) : Dp Γ.K H v d'.py := by
  unfold D.res at h
  have h' : resW (resN 3 hs) d = some d' := by
    split at h
    · rename_i q
      cases h
      exact res_pl _ _ 8 q
    · exact h
  exact dp_res (dp_resN rp 3) d d' v 8 h' r p
theorem ops_eq : OpS Γ (rEqD Γ.K) eqF := fun ι hs H x y dx dy d Q rp rx ry e q => by
  simp only [eqF, Option.bind_eq_some_iff] at e
  obtain ⟨a, h1, b, h2, e⟩ := e
  split at e
  · rename_i h
    simp only [Bool.and_eq_true] at h
    cases e
    exact ⟨a.py, b.py, dp_of rp h1 rx h.1, dp_of rp h2 ry h.2, shaped_of h.1, shaped_of h.2, q H _ (Step.refl _ _) rp (.bl _)⟩
  · cases e
theorem ops_ne : OpS Γ (rNeD Γ.K) neF := fun ι hs H x y dx dy d Q rp rx ry e q => by
  simp only [neF, Option.bind_eq_some_iff] at e
  obtain ⟨a, h1, b, h2, e⟩ := e
  split at e
  · rename_i h
    simp only [Bool.and_eq_true] at h
    cases e
    exact ⟨a.py, b.py, dp_of rp h1 rx h.1, dp_of rp h2 ry h.2, shaped_of h.1, shaped_of h.2, q H _ (Step.refl _ _) rp (.bl _)⟩
  · cases e

/-! ### arithmetic -/
def intF (g : Int → Int → Option D) : HS → D → D → Option D := fun _ x y => match x, y with
  | .int i, .int j => g i j
  | _, _ => none
theorem ops_I0 {g : Int → Int → D} {g' : Int → Int → V} (hg : ∀ ι H i j, RelD Γ ι H (g i j) (g' i j)) : OpS Γ (rI0 g') (intF fun i j => some (g i j)) := fun ι hs H x y dx dy d Q rp rx ry e q => by
  cases dx <;> cases dy <;> try cases e
  rename_i i j
  exact ⟨i, j, rx.int_inv, ry.int_inv, q H _ (Step.refl _ _) rp (hg _ _ _ _)⟩
theorem ops_I {C : Int → Int → Prop} [∀ i j, Decidable (C i j)] {g : Int → Int → D} {g' : Int → Int → V} (hg : ∀ ι H i j, RelD Γ ι H (g i j) (g' i j)) : OpS Γ (rI C g') (intF fun i j => if C i j then some (g i j) else none) := fun ι hs H x y dx dy d Q rp rx ry e q => by
  cases dx <;> cases dy <;> try cases e
  rename_i i j
  simp only [intF] at e
  split at e
  · rename_i h
    cases e
    exact ⟨i, j, rx.int_inv, ry.int_inv, h, q H _ (Step.refl _ _) rp (hg _ _ _ _)⟩
  · cases e
instance : ∀ i j, Decidable (CMul i j) := fun i j => inferInstanceAs (Decidable (_ ∨ _))
instance : ∀ i j, Decidable (CDiv i j) := fun i j => inferInstanceAs (Decidable (_ ∧ _))
instance : ∀ i j, Decidable (CPow i j) := fun i j => inferInstanceAs (Decidable (_ ∧ _ ∧ _))
def subF := intF fun i j => some (.int (i - j))
def divF := intF fun i j => if CDiv i j then some (.int (i / j)) else none
def modF := intF fun i j => if 0 < j then some (.int (i % j)) else none
def powF := intF fun i j => if CPow i j then some (.int (i ^ j.toNat)) else none
def ltF := intF fun i j => some (.bl (decide (i < j)))
def leF := intF fun i j => some (.bl (decide (i ≤ j)))
def gtF := intF fun i j => some (.bl (decide (j < i)))
def geF := intF fun i j => some (.bl (decide (j ≤ i)))
theorem ops_sub : OpS Γ (rI0 fun i j => .int (i - j)) subF := ops_I0 fun _ _ _ _ => .int _
theorem ops_div : OpS Γ (rI CDiv fun i j => .int (i / j)) divF := ops_I fun _ _ _ _ => .int _
theorem ops_mod : OpS Γ (rI (fun _ j => 0 < j) fun i j => .int (i % j)) modF := ops_I (C := fun _ j => 0 < j) fun _ _ _ _ => .int _
theorem ops_pow : OpS Γ (rI CPow fun i j => .int (i ^ j.toNat)) powF := ops_I fun _ _ _ _ => .int _
theorem ops_lt : OpS Γ (rI0 fun i j => .bl (decide (i < j))) ltF := ops_I0 fun _ _ _ _ => .bl _
theorem ops_le : OpS Γ (rI0 fun i j => .bl (decide (i ≤ j))) leF := ops_I0 fun _ _ _ _ => .bl _
theorem ops_gt : OpS Γ (rI0 fun i j => .bl (decide (j < i))) gtF := ops_I0 fun _ _ _ _ => .bl _
theorem ops_ge : OpS Γ (rI0 fun i j => .bl (decide (j ≤ i))) geF := ops_I0 fun _ _ _ _ => .bl _
def negF : HS → D → Option D := fun _ x => match x with
  | .int i => some (.int (-i))
  | _ => none
theorem uns_neg : UnS Γ (rU fun i => .int (-i)) negF := fun ι hs H x dx d Q rp rx e q => by
  cases dx <;> try cases e
  exact ⟨_, rx.int_inv, q H _ (Step.refl _ _) rp (.int _)⟩
/-- a + b: numbers, texts, tuples, lists -/
def addF : HS → D → D → Option D := fun hs x y => match x, y with
  | .int i, .int j => some (.int (i + j))
  | .str i, .str j => if i.length + j.length ≤ sizeLine then some (.str (i ++ j)) else none
  | .tup i, .tup j => if i ≠ [] ∧ i.length + j.length ≤ sizeLine then some (.tup (i ++ j)) else none
  | x, y => (seqL hs x).bind fun i => (seqL hs y).bind fun j => if i.length + j.length ≤ sizeLine then some (.lst (i ++ j)) else none
abbrev rAddStr : R2 := fun x y H Q => ∃ i j, x = .str i ∧ y = .str j ∧ i.length + j.length ≤ sizeLine ∧ Q (.str (i ++ j)) H
abbrev rAddAll (K : PySem.W.Frag) : R2 := fun x y H Q => rI0 (fun i j => .int (i + j)) x y H Q ∨ (rAddStr x y H Q ∨ (rCatT K x y H Q ∨ rCat x y H Q))
theorem op_addAll {X : Cx} : OpR X (binaryOp .Add) (rAddAll X.K) := op_add.or (op_add_str.or (op_catT.or op_cat))
theorem ops_cat {ι : Ix} {hs : HS} {H : Hp} {x y : V} {dx dy : D} {i j : List D} {Q : VK} (rp : Rep Γ ι hs H) (rx : RelD Γ ι H dx x) (ry : RelD Γ ι H dy y) (h1 : seqL hs dx = some i) (h2 : seqL hs dy = some j) (hl : i.length + j.length ≤ sizeLine)
    (q : ∀ p vs, RelDs Γ ι H (i ++ j) vs → H p = none → Q (.ref p) (upd H p (.lst vs))) : rCat x y H Q := by
  obtain ⟨a, vs, rfl, e1, r1⟩ := seqL_rel rp rx h1
  obtain ⟨b, ws, rfl, e2, r2⟩ := seqL_rel rp ry h2
  exact ⟨a, b, vs, ws, rfl, rfl, e1, e2, by rw [← Paired.length r1, ← Paired.length r2]; exact hl, fun p hp => q p _ (Paired.app r1 r2) hp⟩
theorem ops_add : OpS Γ (rAddAll Γ.K) addF := fun ι hs H x y dx dy d Q rp rx ry e q => by
  have lists : ∀ {dx dy : D}, RelD Γ ι H dx x → RelD Γ ι H dy y → ((seqL hs dx).bind fun i => (seqL hs dy).bind fun j => if i.length + j.length ≤ sizeLine then some (D.lst (i ++ j)) else none) = some d → rAddAll Γ.K x y H Q := fun {dx dy} rx ry e => by
    simp only [Option.bind_eq_some_iff] at e
    obtain ⟨i, h1, j, h2, e⟩ := e
    split at e
    · rename_i hl
      cases e
      refine .inr (.inr (.inr (ops_cat rp rx ry h1 h2 hl fun p vs rv hp => ?_)))
      have st := Step.new (ι := ι) (o := HO.lst vs) hp
      exact q _ _ st (rp.new hp) (RelD.mkLst (rp.fresh hp) upd_same (rp.relDs st rv))
    · cases e
  unfold addF at e
  split at e
  · cases e; exact .inl ⟨_, _, rx.int_inv, ry.int_inv, q H _ (Step.refl _ _) rp (.int _)⟩
  · split at e
    · cases e; rename_i h; exact .inr (.inl ⟨_, _, rx.str_inv, ry.str_inv, h, q H _ (Step.refl _ _) rp (.str _)⟩)
    · cases e
  · split at e
    · cases e
      rename_i i j h
      obtain ⟨a, vs, rfl, e1, r1⟩ := rx.tup_inv
      obtain ⟨b, ws, rfl, e2, r2⟩ := ry.tup_inv
      refine .inr (.inr (.inl ⟨a, b, vs, ws, rfl, rfl, e1.sq, e2.sq, fun z => ?_, by rw [← Paired.length r1, ← Paired.length r2]; exact h.2, fun z => ?_, fun _ p hp => ?_⟩))
      · subst z
        have := Paired.length r1
        exact h.1 (List.length_eq_zero_iff.mp (by simpa using this))
      · subst z
        cases r2
        rw [List.append_nil] at q
        exact q H _ (Step.refl _ _) rp rx
      · have st := Step.new (ι := ι) (o := HO.tup (vs ++ ws)) hp
        exact q _ _ st (rp.new hp) (RelD.mkTup (.inl upd_same) (rp.relDs st (Paired.app r1 r2)))
    · cases e
  · exact lists rx ry e
/-- a * b: numbers, a list by a number -/
def mulF : HS → D → D → Option D := fun hs x y => match x, y with
  | .int i, .int j => if CMul i j then some (.int (i * j)) else none
  | x, .int k => (seqL hs x).bind fun i => if -(2 ^ 63) ≤ k ∧ k < 2 ^ 63 ∧ i.length * k.toNat ≤ sizeLine then some (.lst (List.replicate k.toNat i).flatten) else none
  | _, _ => none
abbrev rMulAll : R2 := fun x y H Q => rI CMul (fun i j => .int (i * j)) x y H Q ∨ rRep x y H Q
theorem op_mulAll {X : Cx} : OpR X (binaryOp .Mult) rMulAll := op_mul.or op_rep
theorem rep_rel {ds : List D} {vs : List V} (r : RelDs Γ ι H ds vs) : ∀ n : Nat, RelDs Γ ι H (List.replicate n ds).flatten (List.replicate n vs).flatten
  | 0 => .nil
  | n + 1 => by
    simp only [List.replicate_succ, List.flatten_cons]
    exact Paired.app r (rep_rel r n)
theorem ops_mul : OpS Γ rMulAll mulF := fun ι hs H x y dx dy d Q rp rx ry e q => by
  unfold mulF at e
  split at e
  · split at e
    · rename_i h; cases e; exact .inl ⟨_, _, rx.int_inv, ry.int_inv, h, q H _ (Step.refl _ _) rp (.int _)⟩
    · cases e
  · simp only [Option.bind_eq_some_iff] at e
    obtain ⟨i, h1, e⟩ := e
    split at e
    · rename_i h
      cases e
      obtain ⟨a, vs, rfl, e1, r1⟩ := seqL_rel rp rx h1
      refine .inr ⟨a, _, vs, rfl, ry.int_inv, e1, h.1, h.2.1, by rw [← Paired.length r1]; exact h.2.2, fun p hp => ?_⟩
      have st := fun o => Step.new (ι := ι) (o := o) hp
      exact q _ _ (st _) (rp.new hp) (RelD.mkLst (rp.fresh hp) upd_same (rp.relDs (st _) (rep_rel r1 _)))
    · cases e
  · cases e

/-! ### is None -/
def isNF : HS → D → D → Option D := fun _ x y => match y with
  | .non => some (.bl (decide (x = .non)))
  | _ => none
def notNF : HS → D → D → Option D := fun _ x y => match y with
  | .non => some (.bl (!decide (x = .non)))
  | _ => none
theorem non_dec {d : D} {v : V} (r : RelD Γ ι H d v) : decide (v = V.non) = decide (d = D.non) := by
  cases r <;> simp
theorem ops_isN : OpS Γ (fun x y H Q => y = .non ∧ Q (.bl (decide (x = .non))) H) isNF := fun ι hs H x y dx dy d Q rp rx ry e q => by
  cases dy <;> try cases e
  exact ⟨ry.non_inv, by rw [non_dec rx]; exact q H _ (Step.refl _ _) rp (.bl _)⟩
theorem ops_notN : OpS Γ (fun x y H Q => y = .non ∧ Q (.bl (!decide (x = .non))) H) notNF := fun ι hs H x y dx dy d Q rp rx ry e q => by
  cases dy <;> try cases e
  exact ⟨ry.non_inv, by rw [non_dec rx]; exact q H _ (Step.refl _ _) rp (.bl _)⟩
end
end Fx

set_option Elab.async false
set_option linter.all false
set_option maxRecDepth 100000
namespace Fx
open PySem L2
section
variable {X : Cx} {Γ : Sta} {E : XK} {a b c : Expr} {ma mb mc : M D} {mt mu : M Bool} {ml mr : M (List D)} {pos : Pos}

/-! ### two rules for one expression -/
def orF (f g : HS → D → D → Option D) : HS → D → D → Option D := fun h x y => (f h x y).or (g h x y)
theorem here_or {f g : HS → D → D → Option D} {P : Ix → Hp → D → HS → Prop} {σ : St} {H : Hp} (h : Here Γ E (mBin (orF f g) ma mb) P σ H) : Here Γ E (mBin f ma mb) P σ H ∨ Here Γ E (mBin g ma mb) P σ H := by
  obtain ⟨ι, ls, hs, rp, rl, sat⟩ := h
  cases ea : ma ls hs with
  | bad => simp only [mBin, ea, R.bind] at sat; exact sat.elim
  | exc k h1 => exact .inl ⟨ι, ls, hs, rp, rl, by simp only [mBin, ea, R.bind] at sat ⊢; exact sat⟩
  | ok x h1 =>
    cases eb : mb ls h1 with
    | bad => simp only [mBin, ea, eb, R.bind] at sat; exact sat.elim
    | exc k h2 => exact .inl ⟨ι, ls, hs, rp, rl, by simp only [mBin, ea, eb, R.bind] at sat ⊢; exact sat⟩
    | ok y h2 =>
      cases ef : f h2 x y with
      | some d => exact .inl ⟨ι, ls, hs, rp, rl, by simp only [mBin, ea, eb, R.bind, orF, ef, Option.or] at sat ⊢; exact sat⟩
      | none => exact .inr ⟨ι, ls, hs, rp, rl, by simp only [mBin, ea, eb, R.bind, orF, ef, Option.or] at sat ⊢; exact sat⟩
theorem fe_or2 {e : Expr} {f g : HS → D → D → Option D} {r r' : R2} (h : PE X e (tOp r (tF Γ E ma) (tF Γ E mb))) (h' : PE X e (tOp r' (tF Γ E ma) (tF Γ E mb))) (hf : OpS Γ r f) (hg : OpS Γ r' g) : FE X Γ E e (mBin (orF f g) ma mb) :=
  PE.alt h h' fun σ H Q q => (here_or q).imp (bin_t hf) (bin_t hg)
theorem OpS.or {r r' : R2} {f g : HS → D → D → Option D} (h : OpS Γ r f) (h' : OpS Γ r' g) : OpS Γ (fun x y H Q => r x y H Q ∨ r' x y H Q) (orF f g) := fun ι hs H x y dx dy d Q rp rx ry e q => by
  unfold orF at e
  cases ef : f hs dx dy with
  | some d' => rw [ef] at e; exact .inl (h ι hs H x y dx dy d Q rp rx ry (by rw [ef]; exact e) q)
  | none => rw [ef] at e; exact .inr (h' ι hs H x y dx dy d Q rp rx ry e q)

/-! ### subscripts -/
def ixSeq : HS → D → D → Option D := fun hs x y => match y with
  | .int i => match x with
    | .str z => if z.length ≤ sizeLine then (atI z.cps.toList i).map fun c => .str ⟨#[c]⟩ else none
    | x => (seqT hs x).bind fun ds => atI ds i
  | _ => none
def ixDct : HS → D → D → Option D := fun hs x y => match x with
  | .ref n => (dctAt hs n).bind fun kvs => y.key.bind fun k => lk kvs k
  | _ => none
theorem atI_rel {ι : Ix} {H : Hp} {ds : List D} {vs : List V} (r : RelDs Γ ι H ds vs) {i : Int} {d : D} (h : atI ds i = some d) : ∃ v, atI vs i = some v ∧ RelD Γ ι H d v := by
  unfold atI at h ⊢
  rw [← Paired.length r]
  simp only [Option.bind_eq_some_iff] at h ⊢
  obtain ⟨j, h1, h2⟩ := h
  obtain ⟨v, h3, h4⟩ := Paired.left r h2
  exact ⟨v, ⟨j, h1, h3⟩, h4⟩
theorem ops_ixSeq : OpS Γ (rIx Γ.K) ixSeq := fun ι hs H x y dx dy d Q rp rx ry e q => by
  unfold ixSeq at e
  split at e
  · rename_i i
    split at e
    · split at e
      · rename_i z hl
        simp only [Option.map_eq_some_iff] at e
        obtain ⟨c, h1, rfl⟩ := e
        exact .inr (.inr ⟨z, i, c, rx.str_inv, ry.int_inv, hl, h1, q H _ (Step.refl _ _) rp (.str _)⟩)
      · cases e
    · simp only [Option.bind_eq_some_iff] at e
      obtain ⟨ds, h1, h2⟩ := e
      obtain ⟨a, vs, rfl, hh, r⟩ := seqT_rel rp rx h1
      obtain ⟨v, h3, h4⟩ := atI_rel r h2
      rcases hh with hh | hh
      · exact .inl ⟨a, vs, i, v, rfl, ry.int_inv, hh, h3, q H _ (Step.refl _ _) rp h4⟩
      · exact .inr (.inl ⟨a, vs, i, v, rfl, ry.int_inv, hh, h3, q H _ (Step.refl _ _) rp h4⟩)
  · cases e
abbrev rDGet : R2 := fun x y H Q => ∃ a v, x = .ref a ∧ DGet H a y (some v) ∧ Q v H
theorem ops_ixDct : OpS Γ rDGet ixDct := fun ι hs H x y dx dy d Q rp rx ry e q => by
  unfold ixDct at e
  split at e
  · simp only [Option.bind_eq_some_iff] at e
    obtain ⟨kvs, h1, k, h2, h3⟩ := e
    obtain ⟨a, rfl, h4⟩ := rx.ref_inv
    obtain ⟨v, h5, h6⟩ := (dget_rel rp h4 h1).1 d h3
    rw [key_rel ry h2]
    exact ⟨a, v, rfl, h5, q H _ (Step.refl _ _) rp h6⟩
  · cases e
def ixF := orF ixSeq ixDct
theorem fe_ix {k : Nat} (hr : Room k X.A) (ha : FE X Γ E a ma) (hb : FE X Γ E b mb) (hK : X.K = Γ.K := by rfl) (hs : PlainIx b := by exact fun _ _ => rfl) : FE X Γ E (.Subscript a b pos) (mBin ixF ma mb) :=
  fe_or2 (pe_ix (r := rIx Γ.K) (by rw [← hK]; exact ix_seq) ha hb hs) (pe_dget (hu_of hr) ha hb hs) ops_ixSeq ops_ixDct

/-! ### in, not in -/
def flatD : D → Bool
  | .non => true
  | .bl _ => true
  | .int _ => true
  | .str _ => true
  | _ => false
theorem flat_rel {ι : Ix} {H : Hp} {d : D} {v : V} (r : RelD Γ ι H d v) : flatV v = flatD d := by cases r <;> rfl
theorem flats_rel {ι : Ix} {H : Hp} {ds : List D} {vs : List V} (r : RelDs Γ ι H ds vs) : vs.all flatV = ds.all flatD := by
  induction r with
  | nil => rfl
  | cons q _ ih => simp [flat_rel q, ih]
theorem eqV_rel {ι : Ix} {H : Hp} {d e : D} {v w : V} (r : RelD Γ ι H d v) (s : RelD Γ ι H e w) (h1 : flatD d = true) (h2 : flatD e = true) : eqV v w = deq d e := by
  cases d <;> cases e <;> first | (cases h1; done) | (cases h2; done) | (cases r; cases s; simp [eqV, deq, D.py, PyData.eqv])
theorem inV_rel {ι : Ix} {H : Hp} {d : D} {v : V} {ds : List D} {vs : List V} (r : RelD Γ ι H d v) (s : RelDs Γ ι H ds vs) (h1 : flatD d = true) (h2 : ds.all flatD = true) : inV v vs = ds.any fun z => deq z d := by
  unfold inV
  induction s with
  | nil => rfl
  | cons q _ ih =>
    simp only [List.all_cons, Bool.and_eq_true] at h2
    simp only [List.any_cons, eqV_rel q r h2.1 h1, ih h2.2]
def ng (neg b : Bool) : Bool := if neg then !b else b
def inFlat (neg : Bool) : HS → D → D → Option D := fun hs x y => (seqT hs y).bind fun ds => if flatD x && ds.all flatD then some (.bl (ng neg (ds.any fun z => deq z x))) else none
def inDeep (neg : Bool) : HS → D → D → Option D := fun hs x y => match y with
  | .lst ds => if x.pl 8 && (D.lst ds).pl 8 then some (.bl (ng neg (ds.any fun z => deq z x))) else none
  | _ => none
def inDct (neg : Bool) : HS → D → D → Option D := fun hs x y => match y with
  | .ref n => (dctAt hs n).bind fun kvs => x.key.map fun k => .bl (ng neg (lk kvs k).isSome)
  | _ => none
def inStr (neg : Bool) : HS → D → D → Option D := fun hs x y => match x, y with
  | .str i, .str j => some (.bl (ng neg (!(Builtin.Str.occurrences j i 0 j.length 1).isEmpty)))
  | _, _ => none
abbrev rDIn (neg : Bool) : R2 := fun x y H Q => ∃ a o, y = .ref a ∧ DGet H a x o ∧ Q (.bl (ng neg o.isSome)) H
abbrev rInS (neg : Bool) : R2 := fun x y H Q => ∃ i j, x = .str i ∧ y = .str j ∧ Q (.bl (ng neg (!(Builtin.Str.occurrences j i 0 j.length 1).isEmpty))) H
abbrev rInDD (K : PySem.W.Frag) (neg : Bool) : R2 := fun x y H Q => ∃ d ds, Dp K H x d ∧ Dp K H y (.list ds) ∧ SeqAt.shaped d = true ∧ SeqAt.shaped (.list ds) = true ∧ Q (.bl (ng neg (ds.any fun z => PyData.eqv z d))) H
theorem op_din (hu : X.A.units + 1 < cLine) : OpR X (compareOp .In) (rDIn false) := fun pins s σ H x y v u Q I rx ry ⟨a, o, e, g, q⟩ => by
  subst e
  obtain rfl : u = Value.ref a := ry
  exact d_in hu I g rx fun s3 I3 => ⟨.bl o.isSome, H, I3, rfl, q⟩
theorem op_dnotin (hu : X.A.units + 1 < cLine) : OpR X (compareOp .NotIn) (rDIn true) := fun pins s σ H x y v u Q I rx ry ⟨a, o, e, g, q⟩ => by
  subst e
  obtain rfl : u = Value.ref a := ry
  exact d_notIn hu I g rx fun s3 I3 => ⟨.bl (!o.isSome), H, I3, rfl, q⟩
abbrev rInAll (K : PySem.W.Frag) (neg : Bool) : R2 := fun x y H Q => rIn K neg x y H Q ∨ (rInDD K neg x y H Q ∨ (rDIn neg x y H Q ∨ rInS neg x y H Q))
def inF (neg : Bool) := orF (inFlat neg) (orF (inDeep neg) (orF (inDct neg) (inStr neg)))
theorem op_inAll {k : Nat} (hr : Room k X.A) : OpR X (compareOp .In) (rInAll X.K false) := op_in_seq.or ((op_inD (by have := hr.un; omega)).or ((op_din (hu_of hr)).or op_in_str))
theorem op_notinAll {k : Nat} (hr : Room k X.A) : OpR X (compareOp .NotIn) (rInAll X.K true) := op_notIn_seq.or ((op_notInD (by have := hr.un; omega)).or ((op_dnotin (hu_of hr)).or op_notin_str))
theorem any_py (x : D) : ∀ ds : List D, (D.pys ds).any (fun z => PyData.eqv z x.py) = ds.any fun z => deq z x
  | [] => rfl
  | d :: r => by simp only [D.pys, List.any_cons, any_py x r]; rfl
theorem ops_in (neg : Bool) : OpS Γ (rInAll Γ.K neg) (inF neg) := by
  refine OpS.or ?_ (OpS.or ?_ (OpS.or ?_ ?_))
  · intro ι hs H x y dx dy d Q rp rx ry e q
    simp only [inFlat, Option.bind_eq_some_iff] at e
    obtain ⟨ds, h1, e⟩ := e
    split at e
    · rename_i h
      cases e
      simp only [Bool.and_eq_true] at h
      obtain ⟨a, vs, rfl, hh, r⟩ := seqT_rel rp ry h1
      refine ⟨a, vs, rfl, hh, by rw [flat_rel rx]; exact h.1, by rw [flats_rel r]; exact h.2, ?_⟩
      rw [inV_rel rx r h.1 h.2]
      exact q H _ (Step.refl _ _) rp (.bl _)
    · cases e
  · intro ι hs H x y dx dy d Q rp rx ry e q
    unfold inDeep at e
    split at e
    · rename_i ds
      split at e
      · rename_i h
        cases e
        simp only [Bool.and_eq_true] at h
        have h2 := shaped_of h.2
        have d2 : Dp Γ.K H y (.list (D.pys ds)) := dp_of rp (d := .lst ds) (d' := .lst ds) (by unfold D.res; rw [if_pos h.2]) ry h.2
        refine ⟨dx.py, D.pys ds, dp_of rp (d := dx) (d' := dx) (by unfold D.res; rw [if_pos h.1]) rx h.1, d2, shaped_of h.1, h2, ?_⟩
        rw [any_py]
        exact q H _ (Step.refl _ _) rp (.bl _)
      · cases e
    · cases e
  · intro ι hs H x y dx dy d Q rp rx ry e q
    unfold inDct at e
    split at e
    · simp only [Option.bind_eq_some_iff, Option.map_eq_some_iff] at e
      obtain ⟨kvs, h1, k, h2, rfl⟩ := e
      obtain ⟨a, rfl, h4⟩ := ry.ref_inv
      have g := dget_rel (k := k) rp h4 h1
      rw [key_rel rx h2]
      cases hk : lk kvs k with
      | none => exact ⟨a, none, rfl, g.2 hk, by rw [hk] at q; exact q H _ (Step.refl _ _) rp (.bl _)⟩
      | some d => obtain ⟨v, h5, _⟩ := g.1 d hk; exact ⟨a, some v, rfl, h5, by rw [hk] at q; exact q H _ (Step.refl _ _) rp (.bl _)⟩
    · cases e
  · intro ι hs H x y dx dy d Q rp rx ry e q
    unfold inStr at e
    split at e
    · cases e; exact ⟨_, _, rx.str_inv, ry.str_inv, q H _ (Step.refl _ _) rp (.bl _)⟩
    · cases e

/-! ### slices -/
def cutD (xs : List D) (lo hi : Option Int) : List D := (xs.drop (HT.sIx xs.length 0 lo)).take (HT.sIx xs.length xs.length hi - HT.sIx xs.length 0 lo)
theorem cut_rel {ι : Ix} {H : Hp} : ∀ {ds : List D} {vs : List V}, RelDs Γ ι H ds vs → ∀ lo hi, RelDs Γ ι H (cutD ds lo hi) (cutV vs lo hi) := fun {ds vs} r lo hi => by
  unfold cutD cutV
  rw [← Paired.length r]
  have take : ∀ {ds : List D} {vs : List V} (n : Nat), RelDs Γ ι H ds vs → RelDs Γ ι H (ds.take n) (vs.take n) := by
    intro ds vs n r
    induction r generalizing n with
    | nil => simp; exact .nil
    | cons q _ ih => cases n with
      | zero => exact .nil
      | succ n => exact .cons q (ih n)
  have drop : ∀ {ds : List D} {vs : List V} (n : Nat), RelDs Γ ι H ds vs → RelDs Γ ι H (ds.drop n) (vs.drop n) := by
    intro ds vs n r
    induction r generalizing n with
    | nil => simp; exact .nil
    | cons q t ih => cases n with
      | zero => exact .cons q t
      | succ n => exact ih n
  exact take _ (drop _ r)
def tFO (Γ : Sta) (E : XK) (m : M (Option Int)) : TO := fun σ H Q => Here Γ E m (fun ι H o hs' => ∀ ι' H', Step ι H ι' H' → Rep Γ ι' hs' H' → Q o H') σ H
abbrev FO (X : Cx) (Γ : Sta) (E : XK) (e : Option Expr) (m : M (Option Int)) : Prop := PO X e (tFO Γ E m)
def mNoPart : M (Option Int) := fun _ hs => .ok none hs
def mPart (a : M D) : M (Option Int) := fun ls hs => (a ls hs).bind fun x h1 => match x with
  | .int i => .ok (some i) h1
  | _ => .bad
theorem PO.weak {e : Option Expr} {t t' : TO} (h : PO X e t) (w : ∀ σ H Q, t' σ H Q → t σ H Q) : PO X e t' := ⟨fun pins s σ H Q I q => h.run pins s σ H Q I (w _ _ _ q)⟩
theorem fo_none : FO X Γ E none mNoPart := PO.weak po_none fun σ H Q ⟨ι, ls, hs, rp, rl, sat⟩ => sat ι H (Step.refl _ _) rp
theorem fo_some (ha : FE X Γ E a ma) : FO X Γ E (some a) (mPart ma) := PO.weak (po_some ha) fun σ H Q q => bindV q fun ι ls hs d h1 rp rl s1 ι1 H1 x st1 rp1 rx => by
  cases d with
  | int i => exact ⟨i, rx.int_inv, s1 ι1 H1 st1 rp1⟩
  | _ => exact s1.elim
def mSl (f : HS → D → Option Int → Option Int → Option D) (a : M D) (l h : M (Option Int)) : M D := fun ls hs => (a ls hs).bind fun x h1 => (l ls h1).bind fun lo h2 => (h ls h2).bind fun hi h3 => R.of (f h3 x lo hi) h3
def slF : HS → D → Option Int → Option Int → Option D := fun hs x lo hi => match x with
  | .str z => if z.length ≤ sizeLine then some (.str (cutS z lo hi)) else none
  | .tup ds => some (.tup (cutD ds lo hi))
  | .con ns => some (.lst (cutD (ns.map D.int) lo hi))
  | x => (seqL hs x).map fun ds => .lst (cutD ds lo hi)
abbrev rSlAll (K : PySem.W.Frag) : V → Option Int → Option Int → Hp → VK → Prop := fun x lo hi H Q => rSlL K x lo hi H Q ∨ (rSlA K x lo hi H Q ∨ rSlS x lo hi H Q)
theorem SlR.or {r r' : V → Option Int → Option Int → Hp → VK → Prop} (h : SlR X r) (h' : SlR X r') : SlR X (fun x lo hi H Q => r x lo hi H Q ∨ r' x lo hi H Q) := by
  intro pins s σ H x v lo hi
  intros
  rename_i q
  first
    | (rcases q with q | q
       · exact h _ _ _ _ _ _ _ _ _ _ _ _ (by assumption) (by assumption) (by assumption) (by assumption) (by assumption) q
       · exact h' _ _ _ _ _ _ _ _ _ _ _ _ (by assumption) (by assumption) (by assumption) (by assumption) (by assumption) q)
end
end Fx

set_option Elab.async false
set_option linter.all false
set_option maxRecDepth 100000
namespace Fx
open PySem L2
section
variable {X : Cx} {Γ : Sta} {E : XK} {a b c : Expr} {ma mb mc : M D} {mt mu : M Bool} {ml mr : M (List D)} {pos : Pos}

theorem con_rel {ι : Ix} {H : Hp} : ∀ ns : List Int, RelDs Γ ι H (ns.map D.int) (ns.map V.int)
  | [] => .nil
  | _ :: r => .cons (.int _) (con_rel r)
theorem ops_slice {ι : Ix} {hs : HS} {H : Hp} {x : V} {dx d : D} {lo hi : Option Int} {Q : VK} (rp : Rep Γ ι hs H) (rx : RelD Γ ι H dx x) (e : slF hs dx lo hi = some d)
    (q : ∀ H' v, Step ι H ι H' → Rep Γ ι hs H' → RelD Γ ι H' d v → Q v H') : rSlAll Γ.K x lo hi H Q := by
  unfold slF at e
  split at e
  · split at e
    · cases e; rename_i h; exact .inr (.inr ⟨_, rx.str_inv, h, q H _ (Step.refl _ _) rp (.str _)⟩)
    · cases e
  · rename_i ds
    cases e
    obtain ⟨a, vs, rfl, h1, r⟩ := rx.tup_inv
    have hl := Paired.length r
    refine .inr (.inl ⟨a, vs, rfl, h1.sq, fun hw => ?_, fun _ p hp => ?_⟩)
    · have e : cutD ds lo hi = ds := by
        unfold cutD
        rw [hl, hw.1, hw.2, ← hl]
        simp
      exact q H _ (Step.refl _ _) rp (by rw [e]; exact rx)
    · have st := Step.new (ι := ι) (o := HO.tup (cutV vs lo hi)) hp
      exact q _ _ st (rp.new hp) (RelD.mkTup (.inl upd_same) (rp.relDs st (cut_rel r _ _)))
  · rename_i ns
    cases e
    obtain ⟨a, rfl, h2⟩ := rx.con_inv
    refine .inl ⟨a, _, rfl, h2.sq, fun p hp => ?_⟩
    have st := Step.new (ι := ι) (o := HO.lst (cutV (ns.map V.int) lo hi)) hp
    have r : RelDs Γ ι H (ns.map D.int) (ns.map V.int) := con_rel ns
    exact q _ _ st (rp.new hp) (RelD.mkLst (rp.fresh hp) upd_same (rp.relDs st (cut_rel r _ _)))
  · simp only [Option.map_eq_some_iff] at e
    obtain ⟨ds, h1, rfl⟩ := e
    obtain ⟨a, vs, rfl, h2, r⟩ := seqL_rel rp rx h1
    refine .inl ⟨a, vs, rfl, SqL.of h2, fun p hp => ?_⟩
    have st := Step.new (ι := ι) (o := HO.lst (cutV vs lo hi)) hp
    exact q _ _ st (rp.new hp) (RelD.mkLst (rp.fresh hp) upd_same (rp.relDs st (cut_rel r _ _)))
theorem fe_slice {lo hi : Option Expr} {mlo mhi : M (Option Int)} {p2 : Pos} (ha : FE X Γ E a ma) (hl : FO X Γ E lo mlo) (hh : FO X Γ E hi mhi) (hK : X.K = Γ.K := by rfl) : FE X Γ E (.Subscript a (.Slice lo hi none p2) pos) (mSl slF ma mlo mhi) :=
  PE.weak (pe_slice (r := rSlAll Γ.K) (by rw [← hK]; exact sl_list.or (sl_tupA.or sl_str)) ha hl hh) fun σ H Q q => bindV q fun ι ls hs dx h1 rp rl s1 ι1 H1 x st1 rp1 rx => by
    refine ⟨ι1, ls, h1, rp1, rp.relL st1 rl, s1.of_bind.mono (fun lo h2 s2 ι2 H2 st2 rp2 => ?_) fun _ _ e => PostX.on e st1⟩
    refine ⟨ι2, ls, h2, rp2, rp.relL (st1.trans st2) rl, s2.of_bind.mono (fun hi h3 s3 ι3 H3 st3 rp3 => ?_) fun _ _ e => PostX.on e (st1.trans st2)⟩
    obtain ⟨d, e, p⟩ := R.of_sat s3
    exact ops_slice rp3 (rp1.relD (st2.trans st3) rx) e fun H' v st rp' rv => p ι3 H' v (((st1.trans st2).trans st3).trans st) rp' rv

theorem tF_mono {m : M D} {σ : St} {H : Hp} {k k' : VK} (h : tF Γ E m σ H k) (w : ∀ v H, k v H → k' v H) : tF Γ E m σ H k' := by
  obtain ⟨ι, ls, hs, rp, rl, sat⟩ := h
  exact ⟨ι, ls, hs, rp, rl, sat.mono (fun _ _ p ι' H' v a b c => w _ _ (p ι' H' v a b c)) fun _ _ e => e⟩
/-! ### attributes -/
def insAt (hs : HS) (n : Nat) : Option (Nat × List (Str × D)) := match hs[n]? with
  | some (.ins c fs) => some (c, fs)
  | _ => none
theorem insAt_iff {hs : HS} {n c : Nat} {fs : List (Str × D)} : insAt hs n = some (c, fs) ↔ hs[n]? = some (.ins c fs) := by
  unfold insAt
  constructor
  · intro h
    cases q : hs[n]? with
    | none => rw [q] at h; cases h
    | some o => cases o <;> rw [q] at h <;> simp_all
  · intro h; rw [h]
def attrF (cs : List Nat) (f : Str) : HS → D → Option D := fun hs x => match x with
  | .ref n => (insAt hs n).bind fun p => if p.1 ∈ cs then p.2.lookup f else none
  | _ => none
theorem look_rel {ι : Ix} {H : Hp} {fs : List (Str × D)} {fs' : List (Str × V)} (r : Paired (fun p q => p.1 = q.1 ∧ RelD Γ ι H p.2 q.2) fs fs') (f : Str) :
    (∀ d, fs.lookup f = some d → ∃ v, fs'.lookup f = some v ∧ RelD Γ ι H d v) ∧ (fs.lookup f = none → fs'.lookup f = none) := by
  induction r with
  | nil => exact ⟨fun d h => by simp at h, fun _ => rfl⟩
  | @cons x y r t e _ ih =>
    obtain ⟨xk, xd⟩ := x
    obtain ⟨yk, yv⟩ := y
    obtain ⟨e1, e2⟩ := e
    simp only at e1 e2
    subst e1
    rw [List.lookup_cons, List.lookup_cons]
    cases hq : f == xk with
    | true => exact ⟨fun d h => ⟨yv, rfl, by cases h; exact e2⟩, fun h => by cases h⟩
    | false => exact ih
structure AttrOk (Γ : Sta) (c : Nat) (f : Str) : Prop where
  cl : Cls Γ.K (Γ.cls c)
  na : NoAttr Γ.K (Γ.cls c) f
theorem fe_attr {cs : List Nat} {f : Str} (ha : FE X Γ E a ma) (hc : ∀ c ∈ cs, AttrOk Γ c f) (hb : attributeBase a f X.env (eval a X.env) = eval a X.env := by rfl) (hK : X.K = Γ.K := by rfl) : FE X Γ E (.Attribute a f pos) (mUn (attrF cs f) ma) :=
  PE.weak (pe_fld ha hb) fun σ H Q q => bindV q fun ι ls hs dx h1 rp rl s1 ι1 H1 x st1 rp1 rx => by
    obtain ⟨d, e, p⟩ := R.of_sat s1
    unfold attrF at e
    split at e
    · simp only [Option.bind_eq_some_iff] at e
      obtain ⟨⟨c, fs⟩, h2, e⟩ := e
      split at e
      · rename_i hcs
        obtain ⟨a, rfl, h3⟩ := rx.ref_inv
        obtain ⟨dx, fs', h4, r⟩ := rp1.ob _ a _ h3 (insAt_iff.mp h2)
        obtain ⟨v, h5, h6⟩ := (look_rel r f).1 d e
        have k := hc c hcs
        rw [hK]
        exact ⟨a, _, dx, fs', v, rfl, h4, k.cl, k.na, h5, p ι1 H1 v st1 rp1 h6⟩
      · cases e
    · cases e

/-! ### calls -/
/-- the promise of a def: it does what F does -/
def spF (Γ : Sta) (n : Nat) (F : Fn) : Sp := fun vs H Q E => ∃ ι ds hs, Rep Γ ι hs H ∧ RelDs Γ ι H ds vs ∧ ds.length = n ∧ (F ds hs).Sat (PostV Γ ι H Q) (PostX Γ ι H E)
theorem spF_len {n : Nat} {F : Fn} {ps : List Str} (h : ps.length = n) : ∀ vs H Q E, spF Γ n F vs H Q E → vs.length = ps.length := fun vs H Q E ⟨ι, ds, hs, rp, r, e, _⟩ => by rw [h, ← e, Paired.length r]
/-- the def at f does what F does; dds: its defaults, as used here -/
structure GFun (P : Program) (w : World) (K : PySem.W.Frag) (mg : Str → Option Value) (base : Heap) (Γ : Sta) (f : Addr) (k n : Nat) (dds : List D) (F : Fn) : Prop where
  ex : ∃ (fd : FuncData) (ps : List Str) (ds : List Value) (dvs : List V), ps.length = n + dds.length ∧ FnOk P w K mg base (L2.CX P w) k f fd ps (spF Γ (n + dds.length) F) ∧ Binds K fd ps ds ∧ Vals dvs ds ∧ ∀ ι H, RelDs Γ ι H dds dvs
def mCall (n : Nat) (dds : List D) (F : Fn) (as : M (List D)) : M D := fun ls hs => (as ls hs).bind fun ds h1 => if ds.length = n then F (ds ++ dds) h1 else .bad
theorem call_sp {n : Nat} {dds : List D} {dvs : List V} {F : Fn} {as : M (List D)} (hd : ∀ ι H, RelDs Γ ι H dds dvs) {σ : St} {H : Hp} {Q : VK} (q : tF Γ E (mCall n dds F as) σ H Q) :
    tFA Γ E as σ H fun vs H1 => spF Γ (n + dds.length) F (vs ++ dvs) H1 Q E := bindA q fun ι ls hs ds h1 rp rl s1 ι1 H1 vs st1 rp1 rds => by
  split at s1
  · rename_i hl
    exact ⟨ι1, ds ++ dds, h1, rp1, Paired.app rds (hd _ _), by simp [hl], R.Sat.mono s1 (fun _ _ p => PostV.on p st1) fun _ _ p => PostX.on p st1⟩
  · exact s1.elim
variable {f : Addr} {k n : Nat} {dds : List D} {F : Fn} {x m : Str} {p apos : Pos} {e o : Expr} {es : List Expr}
theorem fe_call (G : GFun X.prog X.w X.K X.mg X.base Γ f k n dds F) (hr : Room k X.A) (hg : Gl X x) (hm : X.mg x = some (.ref f)) (hk : PySem.W.keepIn X.K (.ref f) = true) (tk : Passes (L2.CX X.prog X.w) X E) (ha : FA X Γ E (e :: es) ml)
    (hdb : (x == ("__debug__" : Str)) = false := by decide) (he : starEach (e :: es) X.env = (false, eval e X.env) :: starEach es X.env := by rfl) (hpl : (backTo pos (starEach es X.env)).any (·.1) = false := by rfl) : FE X Γ E (.Call (.Name x p) (e :: es) [] pos) (mCall n dds F ml) := by
  obtain ⟨fd, ps, ds, dvs, _, hF, hb, hd, hr'⟩ := G.ex
  exact PE.weak (pe_call hF hr hg hm hk hb hd tk ha hdb he hpl) fun σ H Q q => call_sp hr' q
theorem fe_call0 (G : GFun X.prog X.w X.K X.mg X.base Γ f k 0 dds F) (hr : Room k X.A) (hg : Gl X x) (hm : X.mg x = some (.ref f)) (hk : PySem.W.keepIn X.K (.ref f) = true) (tk : Passes (L2.CX X.prog X.w) X E) (hdb : (x == ("__debug__" : Str)) = false := by decide) :
    FE X Γ E (.Call (.Name x p) [] [] pos) (mCall 0 dds F mNil) := by
  obtain ⟨fd, ps, ds, dvs, _, hF, hb, hd, hr'⟩ := G.ex
  refine PE.weak (pe_call0 hF hr hg hm hk hb hd tk hdb) fun σ H Q q => ?_
  obtain ⟨ι, ls, hs, rp, rl, sat⟩ := call_sp hr' q
  exact sat ι H [] (Step.refl _ _) rp .nil
/-- o.m(..), o of the class c -/
def mMeth (c : Nat) (m : Str) (n : Nat) (dds : List D) (F : Fn) (o : M D) (as : M (List D)) : M D := fun ls hs => (o ls hs).bind fun x h1 => match x with
  | .ref j => match insAt h1 j with
    | some (c', fs) => if c' = c ∧ fs.lookup m = none then (as ls h1).bind fun ds h2 => if ds.length = n then F (x :: (ds ++ dds)) h2 else .bad else .bad
    | none => .bad
  | _ => .bad
theorem meth_sp {c : Nat} {dvs : List V} {mo : M D} {as : M (List D)} (hd : ∀ ι H, RelDs Γ ι H dds dvs) {σ : St} {H : Hp} {Q : VK} (q : tF Γ E (mMeth c m n dds F mo as) σ H Q) :
    tMeth (Γ.cls c) m (spF Γ (n + 1 + dds.length) F) dvs E (tF Γ E mo) (tFA Γ E as) σ H Q := bindV q fun ι ls hs d h1 rp rl s1 ι1 H1 x st1 rp1 rx => by
  split at s1
  · rename_i j
    split at s1
    · rename_i c' fs hi
      split at s1
      · rename_i hc
        obtain ⟨rfl, hl⟩ := hc
        obtain ⟨a, rfl, h3⟩ := rx.ref_inv
        obtain ⟨dx, fs', h4, r⟩ := rp1.ob _ a _ h3 (insAt_iff.mp hi)
        refine ⟨a, dx, fs', rfl, h4, (look_rel r m).2 hl, ι1, ls, h1, rp1, rp.relL st1 rl, s1.of_bind.mono (fun ds h2 s2 ι2 H2 vs st2 rp2 rds => ?_) fun _ _ p => PostX.on p st1⟩
        split at s2
        · rename_i hn
          exact ⟨ι2, .ref j :: (ds ++ dds), h2, rp2, .cons (rp1.relD st2 rx) (Paired.app rds (hd _ _)), by simp [hn]; omega, R.Sat.mono s2 (fun _ _ p => PostV.on p (st1.trans st2)) fun _ _ p => PostX.on p (st1.trans st2)⟩
        · exact s2.elim
      · exact s1.elim
    · exact s1.elim
  · exact s1.elim
structure MethOk (Γ : Sta) (c : Nat) (m : Str) (f : Addr) : Prop where
  cl : Cls Γ.K (Γ.cls c)
  me : Meth Γ.K (Γ.cls c) m f
theorem fe_meth {c : Nat} {pl : Sem Bool} (ho : FE X Γ E o mb) (M : MethOk Γ c m f) (G : GFun X.prog X.w X.K X.mg X.base Γ f k (n + 1) dds F) (hr : Room k X.A) (tk : Passes (L2.CX X.prog X.w) X E) (ha : FA X Γ E (e :: es) ml) (hK : X.K = Γ.K := by rfl)
    (hst : starEach (e :: es) X.env = (false, eval e X.env) :: starEach es X.env := by rfl) (hpl : (backTo pos (starEach es X.env)).any (·.1) = false := by rfl)
    (ht : eval (.Call (.Attribute o m apos) (e :: es) [] pos) X.env = (do
      let ov ← eval o X.env
      standAt apos.atName
      let (f, first) ← holding [ov] (getMethod ov m pl)
      callWith pos f first (backTo pos (starEach (e :: es) X.env)) (backToKw pos (keywordEach [] X.env))) := by rfl) : FE X Γ E (.Call (.Attribute o m apos) (e :: es) [] pos) (mMeth c m n dds F mb ml) := by
  obtain ⟨fd, ps, ds, dvs, _, hF, hb, hd, hr'⟩ := G.ex
  exact PE.weak (pe_meth ho (by rw [hK]; exact M.cl) (by rw [hK]; exact M.me) hF hr hb hd tk ha hst hpl ht) fun σ H Q q => meth_sp hr' q
theorem fe_meth0 {c : Nat} {pl : Sem Bool} (ho : FE X Γ E o mb) (M : MethOk Γ c m f) (G : GFun X.prog X.w X.K X.mg X.base Γ f k (0 + 1) dds F) (hr : Room k X.A) (tk : Passes (L2.CX X.prog X.w) X E) (hK : X.K = Γ.K := by rfl)
    (ht : eval (.Call (.Attribute o m apos) [] [] pos) X.env = (do
      let ov ← eval o X.env
      standAt apos.atName
      let (f, first) ← holding [ov] (getMethod ov m pl)
      callWith pos f first (backTo pos (starEach [] X.env)) (backToKw pos (keywordEach [] X.env))) := by rfl) : FE X Γ E (.Call (.Attribute o m apos) [] [] pos) (mMeth c m 0 dds F mb mNil) := by
  obtain ⟨fd, ps, ds, dvs, _, hF, hb, hd, hr'⟩ := G.ex
  refine PE.weak (pe_meth0 ho (by rw [hK]; exact M.cl) (by rw [hK]; exact M.me) hF hr hb hd tk ht) fun σ H Q q => ?_
  refine tF_mono (meth_sp hr' q) fun v H1 h => ?_
  obtain ⟨a, dx, fs, h1, h2, h3, ι, ls, hs, rp, rl, sat⟩ := h
  exact ⟨a, dx, fs, h1, h2, h3, sat ι H1 [] (Step.refl _ _) rp .nil⟩

/-! ### an own class called -/
/-- C(..): a new instance, then its __init__ -/
def mMake (c n : Nat) (dds : List D) (F : Fn) (as : M (List D)) : M D := fun ls hs => (as ls hs).bind fun ds h1 => if ds.length = n then
  (F (.ref h1.length :: (ds ++ dds)) (h1 ++ [.ins c []])).bind fun d h2 => if d = .non then .ok (.ref h1.length) h2 else .bad
  else .bad
theorem make_sp {c : Nat} {dvs : List V} {as : M (List D)} (hd : ∀ ι H, RelDs Γ ι H dds dvs) {σ : St} {H : Hp} {Q : VK} (q : tF Γ E (mMake c n dds F as) σ H Q) :
    tMake (Γ.cls c) (spF Γ (n + 1 + dds.length) F) dvs E (tFA Γ E as) σ H Q := bindA q fun ι ls hs ds h1 rp rl s1 ι1 H1 vs st1 rp1 rds => by
  split at s1
  · rename_i hn
    intro x dx hx hdx ne
    have stA := Step.new (ι := ι1) (o := HO.own x) hdx
    have rpA := rp1.new (o := HO.own x) hdx
    have hx' : upd H1 dx (.own x) x = none := by rw [upd_ne ne.symm]; exact hx
    have stB := Step.box (ι := ι1) (o := HO.ins (Γ.cls c) dx []) hx'
    have rpB := rpA.box (ob := .ins c []) hx' ⟨dx, [], upd_same, .nil⟩
    have stAB := stA.trans stB
    have get : (ι1.add x).l[h1.length]? = some x := rp1.next x
    refine ⟨ι1.add x, .ref h1.length :: (ds ++ dds), h1 ++ [.ins c []], rpB, .cons (.ref get) (Paired.app (rp1.relDs stAB rds) (hd _ _)), by simp [hn]; omega, ?_⟩
    refine s1.of_bind.mono (fun d h2 s2 ι2 H2 v st2 rp2 rv => ?_) fun _ _ p => PostX.on p (st1.trans stAB)
    split at s2
    · rename_i e
      subst e
      exact ⟨rv.non_inv, s2 ι2 H2 _ ((st1.trans stAB).trans st2) rp2 (.ref (st2.get get))⟩
    · exact s2.elim
  · exact s1.elim
theorem fe_make {c f : Nat} {fi : Addr} (Mk' : Mk Γ.K (Γ.cls c) fi) (G : GFun X.prog X.w X.K X.mg X.base Γ fi k (n + 1) dds F) (hr : Room (k + 1) X.A) (hg : Gl X x) (hm : X.mg x = some (.ref (Γ.cls c))) (tk : Passes (L2.CX X.prog X.w) X E) (ha : FA X Γ E (e :: es) ml) (hK : X.K = Γ.K := by rfl)
    (hdb : (x == ("__debug__" : Str)) = false := by decide) (he : starEach (e :: es) X.env = (false, eval e X.env) :: starEach es X.env := by rfl) (hpl : (backTo pos (starEach es X.env)).any (·.1) = false := by rfl) : FE X Γ E (.Call (.Name x p) (e :: es) [] pos) (mMake c n dds F ml) := by
  obtain ⟨fd, ps, ds, dvs, _, hF, hb, hd, hr'⟩ := G.ex
  exact PE.weak (pe_make (by rw [hK]; exact Mk') hF hr hg hm hb hd tk ha hdb he hpl) fun σ H Q q => make_sp hr' q
theorem fe_make0 {c : Nat} {fi : Addr} (Mk' : Mk Γ.K (Γ.cls c) fi) (G : GFun X.prog X.w X.K X.mg X.base Γ fi k (0 + 1) dds F) (hr : Room (k + 1) X.A) (hg : Gl X x) (hm : X.mg x = some (.ref (Γ.cls c))) (tk : Passes (L2.CX X.prog X.w) X E) (hK : X.K = Γ.K := by rfl)
    (hdb : (x == ("__debug__" : Str)) = false := by decide) : FE X Γ E (.Call (.Name x p) [] [] pos) (mMake c 0 dds F mNil) := by
  obtain ⟨fd, ps, ds, dvs, _, hF, hb, hd, hr'⟩ := G.ex
  refine PE.weak (pe_make0 (by rw [hK]; exact Mk') hF hr hg hm hb hd tk hdb) fun σ H Q q => ?_
  obtain ⟨ι, ls, hs, rp, rl, sat⟩ := make_sp hr' q
  exact sat ι H [] (Step.refl _ _) rp .nil

/-! ### built-ins by name, by class; methods of built-in types -/
def CallS (Γ : Sta) (r : List V → Hp → VK → Prop) (f : HS → List D → Option D) : Prop := ∀ ι hs H xs ds d Q, Rep Γ ι hs H → RelDs Γ ι H ds xs → f hs ds = some d →
  (∀ H' v, Step ι H ι H' → Rep Γ ι hs H' → RelD Γ ι H' d v → Q v H') → r xs H Q
/-- .. that makes a new list -/
def CallSL (Γ : Sta) (r : List V → Hp → VK → Prop) (f : HS → List D → Option (List D)) : Prop := ∀ ι hs H xs ds d Q, Rep Γ ι hs H → RelDs Γ ι H ds xs → f hs ds = some d →
  (∀ vs p, RelDs Γ ι H d vs → H p = none → Q (.ref p) (upd H p (.lst vs))) → r xs H Q
def mCB (f : HS → List D → Option D) (as : M (List D)) : M D := fun ls hs => (as ls hs).bind fun ds h1 => R.of (f h1 ds) h1
def mCBL (f : HS → List D → Option (List D)) (as : M (List D)) : M (List D) := fun ls hs => (as ls hs).bind fun ds h1 => R.of (f h1 ds) h1
theorem cb_t {r : List V → Hp → VK → Prop} {f : HS → List D → Option D} (hs : CallS Γ r f) {σ : St} {H : Hp} {Q : VK} (q : tF Γ E (mCB f ml) σ H Q) : tCB r (tFA Γ E ml) σ H Q := bindA q fun ι ls hs' ds h1 rp rl s1 ι1 H1 vs st1 rp1 rds => by
  obtain ⟨d, e, p⟩ := R.of_sat s1
  exact hs ι1 h1 H1 vs ds d Q rp1 rds e fun H' v st rp' rv => p ι1 H' v (st1.trans st) rp' rv
theorem cbl_t {r : List V → Hp → VK → Prop} {f : HS → List D → Option (List D)} (hs : CallSL Γ r f) {σ : St} {H : Hp} {Q : VK} (q : tFL Γ E (mCBL f ml) σ H Q) : tCB r (tFA Γ E ml) σ H Q := bindA q fun ι ls hs' ds h1 rp rl s1 ι1 H1 vs st1 rp1 rds => by
  obtain ⟨d, e, p⟩ := R.of_sat s1
  exact hs ι1 h1 H1 vs ds d Q rp1 rds e fun ws q rw hq => p ι1 H1 ws q st1 rp1 rw hq
variable {id T : String}
theorem fe_callB {r : List V → Hp → VK → Prop} {f : HS → List D → Option D} (hc : CallR X (.builtin id) r) (hs : CallS Γ r f) (hg : Gl X x) (hm : X.mg x = none) (hv : bootBuiltins x = some (.builtin id)) (ha : FA X Γ E (e :: es) ml) (hn : x ≠ "__name__" := by decide) (hdb : (x == ("__debug__" : Str)) = false := by decide) (he : starEach (e :: es) X.env = (false, eval e X.env) :: starEach es X.env := by rfl) (hpl : (backTo pos (starEach es X.env)).any (·.1) = false := by rfl) :
    FE X Γ E (.Call (.Name x p) (e :: es) [] pos) (mCB f ml) := PE.weak (pe_callB hc hg hm hv ha hn hdb he hpl) fun _ _ _ q => cb_t hs q
theorem fe_callTy {r : List V → Hp → VK → Prop} {f : HS → List D → Option D} (hc : CallR X (.type T) r) (hs : CallS Γ r f) (hg : Gl X x) (hm : X.mg x = none) (hv : bootBuiltins x = some (.type T)) (ha : FA X Γ E (e :: es) ml) (hn : x ≠ "__name__" := by decide) (hdb : (x == ("__debug__" : Str)) = false := by decide) (he : starEach (e :: es) X.env = (false, eval e X.env) :: starEach es X.env := by rfl) (hpl : (backTo pos (starEach es X.env)).any (·.1) = false := by rfl) :
    FE X Γ E (.Call (.Name x p) (e :: es) [] pos) (mCB f ml) := PE.weak (pe_callTy hc hg hm hv ha hn hdb he hpl) fun _ _ _ q => cb_t hs q
theorem fl_callB {r : List V → Hp → VK → Prop} {f : HS → List D → Option (List D)} (hc : CallR X (.builtin id) r) (hs : CallSL Γ r f) (hg : Gl X x) (hm : X.mg x = none) (hv : bootBuiltins x = some (.builtin id)) (ha : FA X Γ E (e :: es) ml) (hn : x ≠ "__name__" := by decide) (hdb : (x == ("__debug__" : Str)) = false := by decide) (he : starEach (e :: es) X.env = (false, eval e X.env) :: starEach es X.env := by rfl) (hpl : (backTo pos (starEach es X.env)).any (·.1) = false := by rfl) :
    FL X Γ E (.Call (.Name x p) (e :: es) [] pos) (mCBL f ml) := PE.weak (pe_callB hc hg hm hv ha hn hdb he hpl) fun _ _ _ q => cbl_t hs q
theorem fl_callTy {r : List V → Hp → VK → Prop} {f : HS → List D → Option (List D)} (hc : CallR X (.type T) r) (hs : CallSL Γ r f) (hg : Gl X x) (hm : X.mg x = none) (hv : bootBuiltins x = some (.type T)) (ha : FA X Γ E (e :: es) ml) (hn : x ≠ "__name__" := by decide) (hdb : (x == ("__debug__" : Str)) = false := by decide) (he : starEach (e :: es) X.env = (false, eval e X.env) :: starEach es X.env := by rfl) (hpl : (backTo pos (starEach es X.env)).any (·.1) = false := by rfl) :
    FL X Γ E (.Call (.Name x p) (e :: es) [] pos) (mCBL f ml) := PE.weak (pe_callTy hc hg hm hv ha hn hdb he hpl) fun _ _ _ q => cbl_t hs q
end
end Fx

set_option Elab.async false
set_option linter.all false
set_option maxRecDepth 100000
namespace Fx
open PySem L2

/-! ### statements -/
def KS (Γ : Sta) (ι : Ix) (H : Hp) (D : Ends) (E : XK) : SK where
  nx := fun ls hs => ∀ ι' H' σ', Step ι H ι' H' → Rep Γ ι' hs H' → RelL Γ ι' H' ls σ' → D.nx σ' H'
  rt := fun d hs => ∀ ι' H' v, Step ι H ι' H' → Rep Γ ι' hs H' → RelD Γ ι' H' d v → D.rt v H'
  bk := fun ls hs => ∀ ι' H' σ', Step ι H ι' H' → Rep Γ ι' hs H' → RelL Γ ι' H' ls σ' → D.bk σ' H'
  ct := fun ls hs => ∀ ι' H' σ', Step ι H ι' H' → Rep Γ ι' hs H' → RelL Γ ι' H' ls σ' → D.ct σ' H'
  exc := PostX Γ ι H E
def tSt (Γ : Sta) (E : XK) (m : MS) : TS := fun D σ H => ∃ ι ls hs, Rep Γ ι hs H ∧ RelL Γ ι H ls σ ∧ (m ls hs).Sat (KS Γ ι H D E)
abbrev FS (X : Cx) (Γ : Sta) (E : XK) (st : Stmt) (m : MS) : Prop := PS X st (tSt Γ E m)
abbrev FSs (X : Cx) (Γ : Sta) (E : XK) (st : List Stmt) (m : MS) : Prop := PSs X st (tSt Γ E m)
def R.toS {α : Type} (r : R α) (f : α → HS → SR) : SR := match r with
  | .ok a h => f a h
  | .exc c h => .exc c h
  | .bad => .bad
theorem R.toS_sat {α : Type} {r : R α} {f : α → HS → SR} {K : SK} (h : (r.toS f).Sat K) : r.Sat (fun a h1 => (f a h1).Sat K) K.exc := by
  cases r with
  | ok a h1 => exact h
  | exc c h1 => exact h
  | bad => exact h
def mSkip : MS := fun ls hs => .nx ls hs
def mSeq (a b : MS) : MS := fun ls hs => match a ls hs with
  | .nx l h => b l h
  | r => r
def mExpr (m : M D) : MS := fun ls hs => (m ls hs).toS fun _ h => .nx ls h
def mSet (i : Nat) (m : M D) : MS := fun ls hs => (m ls hs).toS fun d h => .nx (ls.set i (some d)) h
def mRet (m : M D) : MS := fun ls hs => (m ls hs).toS fun d h => .rt d h
def mRetN : MS := fun _ hs => .rt .non hs
def mIfS (t : M Bool) (a b : MS) : MS := fun ls hs => (t ls hs).toS fun c h => if c then a ls h else b ls h
def mBrk : MS := fun ls hs => .bk ls hs
def mCnt : MS := fun ls hs => .ct ls hs
def mRaise (c : Nat) : MS := fun _ hs => .exc c hs
def mBadS : MS := fun _ _ => .bad
/-- a target: which slots get what -/
abbrev MG := D → Option (List (Nat × D))
def putL (ls : LS) (ps : List (Nat × D)) : LS := ps.foldl (fun l p => l.set p.1 (some p.2)) ls
def putS (σ : St) (ps : List (Nat × V)) : St := ps.foldl (fun l p => l.set p.1 (some p.2)) σ
def mgName (i : Nat) : MG := fun d => some [(i, d)]
def mgGo : List MG → List D → Option (List (Nat × D))
  | [], [] => some []
  | g :: gs, d :: ds => (g d).bind fun p => (mgGo gs ds).map fun q => p ++ q
  | _, _ => none
def mgTup (gs : List MG) : MG := fun d => match d with
  | .tup ds => mgGo gs ds
  | _ => none
def mAsg (g : MG) (m : M D) : MS := fun ls hs => (m ls hs).toS fun d h => match g d with
  | some ps => .nx (putL ls ps) h
  | none => .bad
def mPar2 (i j : Nat) (as : M (List D)) : MS := fun ls hs => (as ls hs).toS fun ds h => match ds with
  | [a, b] => .nx ((ls.set i (some a)).set j (some b)) h
  | _ => .bad
def mPar3 (i j k : Nat) (as : M (List D)) : MS := fun ls hs => (as ls hs).toS fun ds h => match ds with
  | [a, b, c] => .nx (((ls.set i (some a)).set j (some b)).set k (some c)) h
  | _ => .bad
/-- walks -/
def guardOk (g : Option Nat) (hs0 hs : HS) : Bool := match g with
  | none => true
  | some n => decide (hs[n]? = hs0[n]?)
def forD (tg : MG) (body : MS) (g : Option Nat) (hs0 : HS) : List D → LS → HS → SR
  | [], ls, hs => if guardOk g hs0 hs then .nx ls hs else .bad
  | d :: r, ls, hs => if guardOk g hs0 hs then match tg d with
    | none => .bad
    | some ps => match body (putL ls ps) hs with
      | .nx l h => forD tg body g hs0 r l h
      | .ct l h => forD tg body g hs0 r l h
      | .bk l h => .nx l h
      | x => x
    else .bad
def mFor (it : M (List D × Option Nat)) (tg : MG) (body : MS) : MS := fun ls hs => (it ls hs).toS fun p h => forD tg body p.2 h p.1 ls h
def whD (t : M Bool) (body : MS) : Nat → LS → HS → SR
  | 0, _, _ => .bad
  | n + 1, ls, hs => (t ls hs).toS fun c h => if c then match body ls h with
      | .nx l h => whD t body n l h
      | .ct l h => whD t body n l h
      | .bk l h => .nx l h
      | x => x
    else .nx ls h
def mWhile (n : Nat) (t : M Bool) (body : MS) : MS := whD t body n

section
variable {Γ : Sta} {ι ι1 ι2 : Ix} {H H1 : Hp} {E : XK} {D' : Ends}
theorem KS.on {r : SR} (s : r.Sat (KS Γ ι H D' E)) (st : Step ι H ι1 H1) : r.Sat (KS Γ ι1 H1 D' E) := by
  cases r with
  | nx l h => exact fun ι' H' σ' a b c => s ι' H' σ' (st.trans a) b c
  | rt d h => exact fun ι' H' σ' a b c => s ι' H' σ' (st.trans a) b c
  | bk l h => exact fun ι' H' σ' a b c => s ι' H' σ' (st.trans a) b c
  | ct l h => exact fun ι' H' σ' a b c => s ι' H' σ' (st.trans a) b c
  | exc c h => exact PostX.on s st
  | bad => exact s
theorem RelL.set {ls : LS} {σ : St} (r : RelL Γ ι H ls σ) (i : Nat) {d : D} {v : V} (h : RelD Γ ι H d v) : RelL Γ ι H (ls.set i (some d)) (σ.set i (some v)) := by
  refine ⟨by simp [r.1], fun j e he => ?_⟩
  by_cases hj : i = j
  · subst hj
    have hl : i < ls.length := by
      have := (List.getElem?_eq_some_iff.mp he).1
      simpa using this
    rw [List.getElem?_set_self hl] at he
    cases he
    exact ⟨v, by rw [List.getElem?_set_self (by rw [← r.1]; exact hl)], h⟩
  · rw [List.getElem?_set_ne hj] at he
    rw [List.getElem?_set_ne hj]
    exact r.2 j e he
theorem RelL.forget {ls : LS} {σ : St} (r : RelL Γ ι H ls σ) (i : Nat) : RelL Γ ι H (ls.set i none) (σ.set i none) := by
  refine ⟨by simp [r.1], fun j e he => ?_⟩
  by_cases hj : i = j
  · subst hj
    have hl : i < ls.length := by
      have := (List.getElem?_eq_some_iff.mp he).1
      simpa using this
    rw [List.getElem?_set_self hl] at he
    cases he
  · rw [List.getElem?_set_ne hj] at he
    rw [List.getElem?_set_ne hj]
    exact r.2 j e he
end

section
variable {X : Cx} {Γ : Sta} {E : XK} {a b c e : Expr} {ma mb : M D} {mt : M Bool} {ml : M (List D)} {s : Stmt} {ss sa sb : List Stmt} {m m' : MS} {pos : Pos}
/-- a value first -/
theorem sV {D' : Ends} {σ : St} {H : Hp} {f : D → LS → HS → SR} {k : VK} (h : tSt Γ E (fun ls hs => (ma ls hs).toS fun d h => f d ls h) D' σ H)
    (w : ∀ ι ls hs d h1, Rep Γ ι hs H → RelL Γ ι H ls σ → (f d ls h1).Sat (KS Γ ι H D' E) → ∀ ι1 H1 x, Step ι H ι1 H1 → Rep Γ ι1 h1 H1 → RelD Γ ι1 H1 d x → k x H1) : tF Γ E ma σ H k := by
  obtain ⟨ι, ls, hs, rp, rl, sat⟩ := h
  exact ⟨ι, ls, hs, rp, rl, (R.toS_sat sat).mono (fun d h1 q => w ι ls hs d h1 rp rl q) fun _ _ q => q⟩
theorem sA {D' : Ends} {σ : St} {H : Hp} {f : List D → LS → HS → SR} {k : List V → Hp → Prop} (h : tSt Γ E (fun ls hs => (ml ls hs).toS fun d h => f d ls h) D' σ H)
    (w : ∀ ι ls hs d h1, Rep Γ ι hs H → RelL Γ ι H ls σ → (f d ls h1).Sat (KS Γ ι H D' E) → ∀ ι1 H1 x, Step ι H ι1 H1 → Rep Γ ι1 h1 H1 → RelDs Γ ι1 H1 d x → k x H1) : tFA Γ E ml σ H k := by
  obtain ⟨ι, ls, hs, rp, rl, sat⟩ := h
  exact ⟨ι, ls, hs, rp, rl, (R.toS_sat sat).mono (fun d h1 q => w ι ls hs d h1 rp rl q) fun _ _ q => q⟩
theorem sT {D' : Ends} {σ : St} {H : Hp} {f : Bool → LS → HS → SR} {k : Bool → Hp → Prop} (h : tSt Γ E (fun ls hs => (mt ls hs).toS fun d h => f d ls h) D' σ H)
    (w : ∀ ι ls hs d h1, Rep Γ ι hs H → RelL Γ ι H ls σ → (f d ls h1).Sat (KS Γ ι H D' E) → ∀ ι1 H1, Step ι H ι1 H1 → Rep Γ ι1 h1 H1 → k d H1) : tFT Γ E mt σ H k := by
  obtain ⟨ι, ls, hs, rp, rl, sat⟩ := h
  exact ⟨ι, ls, hs, rp, rl, (R.toS_sat sat).mono (fun d h1 q => w ι ls hs d h1 rp rl q) fun _ _ q => q⟩
theorem fss_nil : FSs X Γ E [] mSkip := PSs.weak pss_nil fun D' σ H ⟨ι, ls, hs, rp, rl, sat⟩ => sat ι H σ (Step.refl _ _) rp rl
theorem fss_cons (h1 : FS X Γ E s m) (h2 : FSs X Γ E ss m') : FSs X Γ E (s :: ss) (mSeq m m') := PSs.weak (pss_cons h1 h2) fun D' σ H ⟨ι, ls, hs, rp, rl, sat⟩ => by
  refine ⟨ι, ls, hs, rp, rl, ?_⟩
  unfold mSeq at sat
  cases q : m ls hs with
  | nx l h =>
    rw [q] at sat
    intro ι' H' σ' st rp' rl'
    exact ⟨ι', l, h, rp', rl', KS.on sat st⟩
  | rt d h => rw [q] at sat; exact sat
  | bk l h => rw [q] at sat; exact sat
  | ct l h => rw [q] at sat; exact sat
  | exc k h => rw [q] at sat; exact sat
  | bad => rw [q] at sat; exact sat
theorem fss_one (h1 : FS X Γ E s m) : FSs X Γ E [s] m := pss_one h1
theorem fs_pass : FS X Γ E (.Pass pos) mSkip := PS.weak ps_pass fun D' σ H ⟨ι, ls, hs, rp, rl, sat⟩ => sat ι H σ (Step.refl _ _) rp rl
theorem fs_break : FS X Γ E (.Break pos) mBrk := PS.weak ps_break fun D' σ H ⟨ι, ls, hs, rp, rl, sat⟩ => sat ι H σ (Step.refl _ _) rp rl
theorem fs_continue : FS X Γ E (.Continue pos) mCnt := PS.weak ps_continue fun D' σ H ⟨ι, ls, hs, rp, rl, sat⟩ => sat ι H σ (Step.refl _ _) rp rl
theorem fs_expr (he : FE X Γ E e ma) (hs : swapsWith e none pos.line X.env = pure false := by rfl) : FS X Γ E (.Expr e pos) (mExpr ma) := PS.weak (ps_expr he hs) fun D' σ H q => sV q fun ι ls hs d h1 rp rl s1 ι1 H1 x st1 rp1 rx => s1 ι1 H1 σ st1 rp1 (rp.relL st1 rl)
theorem fs_set {i : Nat} {x : Str} {pos' : Pos} (hN : X.N.Nodup) (hi : X.N[i]? = some x) (hx : Loc X.env.scope x) (he : FE X Γ E e ma) (hs : swapsWith e (some (.Name x pos')) pos.line X.env = pure false := by rfl) (hf : X.fn x = true ∨ X.env.scope.names.lookup x = some .local := by first | exact .inl rfl | exact .inr rfl | assumption) :
    FS X Γ E (.Assign [.Name x pos'] e pos) (mSet i ma) := PS.weak (ps_set hN hi hx he hs hf) fun D' σ H q => sV q fun ι ls hs d h1 rp rl s1 ι1 H1 x st1 rp1 rx => s1 ι1 H1 _ st1 rp1 ((rp.relL st1 rl).set i rx)
theorem fs_ret (he : FE X Γ E e ma) : FS X Γ E (.Return (some e) pos) (mRet ma) := PS.weak (ps_ret he) fun D' σ H q => sV q fun ι ls hs d h1 rp rl s1 ι1 H1 x st1 rp1 rx => s1 ι1 H1 x st1 rp1 rx
theorem fs_retN : FS X Γ E (.Return none pos) mRetN := PS.weak ps_retN fun D' σ H ⟨ι, ls, hs, rp, rl, sat⟩ => sat ι H _ (Step.refl _ _) rp .non
theorem fs_if (ht : FT X Γ E c mt) (ha : FSs X Γ E sa m) (hb : FSs X Γ E sb m') : FS X Γ E (.If c sa sb pos) (mIfS mt m m') := PS.weak (ps_if ht ha hb) fun D' σ H q => sT q fun ι ls hs d h1 rp rl s1 ι1 H1 st1 rp1 => by
  cases d with
  | true => exact ⟨ι1, ls, h1, rp1, rp.relL st1 rl, KS.on (show (m ls h1).Sat _ from s1) st1⟩
  | false => exact ⟨ι1, ls, h1, rp1, rp.relL st1 rl, KS.on (show (m' ls h1).Sat _ from s1) st1⟩
/-! targets -/
theorem RelL.putAll {ι : Ix} {H : Hp} : ∀ {ps : List (Nat × D)} {ws : List (Nat × V)} {ls : LS} {σ : St}, RelL Γ ι H ls σ → Paired (fun p q => p.1 = q.1 ∧ RelD Γ ι H p.2 q.2) ps ws → RelL Γ ι H (putL ls ps) (putS σ ws)
  | _, _, _, _, rl, .nil => rl
  | p :: ps, q :: ws, ls, σ, rl, .cons e t => by
    have h := RelL.set rl p.1 e.2
    rw [e.1] at h
    show RelL Γ ι H (putL (ls.set p.1 (some p.2)) ps) (putS (σ.set q.1 (some q.2)) ws)
    rw [e.1]
    exact RelL.putAll h t
def tGt (Γ : Sta) (g : MG) : TG := fun v σ H Q => ∃ ι hs d ps, Rep Γ ι hs H ∧ RelD Γ ι H d v ∧ g d = some ps ∧ ∀ ws, Paired (fun p q => p.1 = q.1 ∧ RelD Γ ι H p.2 q.2) ps ws → Q (putS σ ws) H
def tGts (Γ : Sta) (gs : List MG) : TGs := fun vs σ H Q => ∃ ι hs ds ps, Rep Γ ι hs H ∧ RelDs Γ ι H ds vs ∧ mgGo gs ds = some ps ∧ ∀ ws, Paired (fun p q => p.1 = q.1 ∧ RelD Γ ι H p.2 q.2) ps ws → Q (putS σ ws) H
abbrev FG (X : Cx) (Γ : Sta) (tg : Expr) (g : MG) : Prop := PG X tg (tGt Γ g)
abbrev FGs (X : Cx) (Γ : Sta) (tg : List Expr) (g : List MG) : Prop := PGs X tg (tGts Γ g)
theorem PG.weak {tg : Expr} {t t' : TG} (h : PG X tg t) (w : ∀ v σ H Q, t' v σ H Q → t v σ H Q) : PG X tg t' := ⟨fun pins s σ H v u Q I r q => h.run pins s σ H v u Q I r (w _ _ _ _ q)⟩
theorem PGs.weak {tg : List Expr} {t t' : TGs} (h : PGs X tg t) (w : ∀ v σ H Q, t' v σ H Q → t v σ H Q) : PGs X tg t' := ⟨fun pins s σ H v u Q I r q => h.run pins s σ H v u Q I r (w _ _ _ _ q)⟩
theorem fg_name {i : Nat} {x : Str} (hN : X.N.Nodup) (hi : X.N[i]? = some x) (hx : Loc X.env.scope x) (hf : X.fn x = true ∨ X.env.scope.names.lookup x = some .local := by first | exact .inl rfl | exact .inr rfl | assumption) : FG X Γ (.Name x pos) (mgName i) :=
  PG.weak (pg_name hN hi hx hf) fun v σ H Q ⟨ι, hs, d, ps, rp, rd, e, q⟩ => by
    cases e
    exact q [(i, v)] (.cons ⟨rfl, rd⟩ .nil)
theorem fgs_nil : FGs X Γ [] [] := PGs.weak pgs_nil fun v σ H Q ⟨ι, hs, ds, ps, rp, rd, e, q⟩ => by
  cases rd with
  | nil =>
    cases e
    exact ⟨rfl, q [] .nil⟩
  | cons _ _ => cases e
theorem fgs_cons {tg : Expr} {tgs : List Expr} {g : MG} {gs : List MG} (h1 : FG X Γ tg g) (h2 : FGs X Γ tgs gs) (hs : (assignEach (tg :: tgs) X.env).map (·.2) = assign tg X.env :: (assignEach tgs X.env).map (·.2) := by rfl) : FGs X Γ (tg :: tgs) (g :: gs) :=
  PGs.weak (pgs_cons h1 h2 hs) fun v σ H Q ⟨ι, hs, ds, ps, rp, rd, e, q⟩ => by
    cases rd with
    | nil => cases e
    | cons r t =>
      simp only [mgGo, Option.bind_eq_some_iff, Option.map_eq_some_iff] at e
      obtain ⟨p, e1, p2, e2, rfl⟩ := e
      refine ⟨_, _, rfl, ι, hs, _, p, rp, r, e1, fun ws hw => ⟨ι, hs, _, p2, rp, t, e2, fun ws2 hw2 => ?_⟩⟩
      have h := q (ws ++ ws2) (Paired.app hw hw2)
      unfold putS at h ⊢
      rw [List.foldl_append] at h
      exact h
theorem fg_tup {tgs : List Expr} {gs : List MG} {n k : Nat} (hc : X.calm = true) (h : FGs X Γ tgs gs) (hK : X.K = Γ.K := by rfl) (hn : (assignEach tgs X.env).length = n := by rfl) (hl : gs.length = n := by rfl) (hst : (assignEach tgs X.env).findIdx? (·.1) = none := by rfl) : FG X Γ (.Tuple tgs k pos) (mgTup gs) :=
  PG.weak (pg_tup hc h hn hst) fun v σ H Q ⟨ι, hs, d, ps, rp, rd, e, q⟩ => by
    have len : ∀ {gs : List MG} {ds : List D} {ps : List (Nat × D)}, mgGo gs ds = some ps → ds.length = gs.length := by
      intro gs
      induction gs with
      | nil => intro ds ps h; cases ds with
        | nil => rfl
        | cons _ _ => cases h
      | cons g gs ih => intro ds ps h; cases ds with
        | nil => cases h
        | cons d ds =>
          simp only [mgGo, Option.bind_eq_some_iff, Option.map_eq_some_iff] at h
          obtain ⟨l, _, _, h, _⟩ := h
          simp [ih h]
    cases d with
    | tup ds =>
      obtain ⟨a, vs, rfl, h1, h2⟩ := rd.tup_inv
      have e' : mgGo gs ds = some ps := e
      exact ⟨a, vs, rfl, by rw [hK]; exact h1.sq, by rw [← Paired.length h2, len e', hl], ι, hs, ds, ps, rp, h2, e', q⟩
    | _ => cases e
theorem fs_asg {tg : Expr} {g : MG} (he : FE X Γ E e ma) (hg : FG X Γ tg g) (hs : swapsWithSole [tg] e pos.line X.env = pure false := by rfl) (hw : swappedStores [tg] e X.env = pure none := by rfl)
    (h1 : (assignEach [tg] X.env).map (·.2) = [assign tg X.env] := by rfl) : FS X Γ E (.Assign [tg] e pos) (mAsg g ma) := PS.weak (ps_asg he hg hs hw h1) fun D' σ H q => sV q fun ι ls hs d h1 rp rl s1 ι1 H1 x st1 rp1 rx => by
  cases eg : g d with
  | none => rw [eg] at s1; exact s1.elim
  | some ps =>
    rw [eg] at s1
    exact ⟨ι1, h1, d, ps, rp1, rx, eg, fun ws hw => s1 ι1 H1 _ st1 rp1 (RelL.putAll (rp.relL st1 rl) hw)⟩
theorem fs_par2 {i j : Nat} {x y : Str} {px py pt : Pos} {kt k2 pt2} (hc : X.calm = true) (hN : X.N.Nodup) (hi : X.N[i]? = some x) (hj : X.N[j]? = some y) (hij : i ≠ j)
    (hx : X.env.scope.names.lookup x = some .local) (hy : X.env.scope.names.lookup y = some .local) (ha : FA X Γ E [a, b] ml)
    (hw : swappedStores [.Tuple [.Name x px, .Name y py] kt pt] (.Tuple [a, b] k2 pt2) X.env = pure (some [x, y]) := by rfl)
    (hs : swapsWithSole [.Tuple [.Name x px, .Name y py] kt pt] (.Tuple [a, b] k2 pt2) pos.line X.env = pure false := by rfl) : FS X Γ E (.Assign [.Tuple [.Name x px, .Name y py] kt pt] (.Tuple [a, b] k2 pt2) pos) (mPar2 i j ml) :=
  PS.weak (ps_par hc hN hi hj hij hx hy ha hw hs) fun D' σ H q => sA q fun ι ls hs d h1 rp rl s1 ι1 H1 vs st1 rp1 rds => by
    split at s1
    · cases rds with
      | cons r1 t => cases t with
        | cons r2 t => cases t; exact ⟨_, _, rfl, s1 ι1 H1 _ st1 rp1 (((rp.relL st1 rl).set i r1).set j r2)⟩
    · exact s1.elim
theorem fs_par3 {i j l : Nat} {x y z : Str} {c : Expr} {px py pz pt : Pos} {kt k2 pt2} (hc : X.calm = true) (hN : X.N.Nodup) (hi : X.N[i]? = some x) (hj : X.N[j]? = some y) (hl : X.N[l]? = some z) (hij : i ≠ j) (hil : i ≠ l) (hjl : j ≠ l)
    (hx : X.env.scope.names.lookup x = some .local) (hy : X.env.scope.names.lookup y = some .local) (hz : X.env.scope.names.lookup z = some .local) (ha : FA X Γ E [a, b, c] ml)
    (hw : swappedStores [.Tuple [.Name x px, .Name y py, .Name z pz] kt pt] (.Tuple [a, b, c] k2 pt2) X.env = pure (some [x, y, z]) := by rfl)
    (hs : swapsWithSole [.Tuple [.Name x px, .Name y py, .Name z pz] kt pt] (.Tuple [a, b, c] k2 pt2) pos.line X.env = pure false := by rfl) : FS X Γ E (.Assign [.Tuple [.Name x px, .Name y py, .Name z pz] kt pt] (.Tuple [a, b, c] k2 pt2) pos) (mPar3 i j l ml) :=
  PS.weak (ps_par3 hc hN hi hj hl hij hil hjl hx hy hz ha hw hs) fun D' σ H q => sA q fun ι ls hs d h1 rp rl s1 ι1 H1 vs st1 rp1 rds => by
    split at s1
    · cases rds with
      | cons r1 t => cases t with
        | cons r2 t => cases t with
          | cons r3 t => cases t; exact ⟨_, _, _, rfl, s1 ι1 H1 _ st1 rp1 ((((rp.relL st1 rl).set i r1).set j r2).set l r3)⟩
    · exact s1.elim

/-! loops -/
def WalkD (Γ : Sta) (J : It) (ι0 : Ix) (H0 : Hp) (hs0 : HS) (ds : List D) (g : Option Nat) : Prop := ∀ ι H hs, Step ι0 H0 ι H → Rep Γ ι hs H → guardOk g hs0 hs = true →
  (∀ (i : Nat) (d : D), ds[i]? = some d → J.go i H ∧ ∀ x H', J.yld i H x H' → Step ι H ι H' ∧ Rep Γ ι hs H' ∧ RelD Γ ι H' d x) ∧ J.stop ds.length H
def PostI (Γ : Sta) (ι : Ix) (H : Hp) (Rr : It → Hp → Prop) : List D × Option Nat → HS → Prop := fun p hs' => ∀ ι' H' J, Step ι H ι' H' → Rep Γ ι' hs' H' → WalkD Γ J ι' H' hs' p.1 p.2 → Rr J H'
def tI (Γ : Sta) (E : XK) (m : M (List D × Option Nat)) : TI := fun σ H Rr => Here Γ E m (fun ι H => PostI Γ ι H Rr) σ H
abbrev FI (X : Cx) (Γ : Sta) (E : XK) (tg iter : Expr) (m : M (List D × Option Nat)) : Prop := PI X tg iter (tI Γ E m)
theorem for_sat {tg : MG} {g : Option Nat} {ι1 : Ix} {H1 : Hp} {hs0 : HS} {J : It} {ds : List D} {D' : Ends} (wk : WalkD Γ J ι1 H1 hs0 ds g) {ls : LS} {hs : HS} {σ : St} (rp1 : Rep Γ ι1 hs H1) (rl : RelL Γ ι1 H1 ls σ)
    (sat : (forD tg m g hs0 ds ls hs).Sat (KS Γ ι1 H1 D' E)) :
    ∃ W : Nat → Nat → St → Hp → Prop, (∃ m, W 0 m σ H1) ∧ ∀ i n σ H, W i n σ H →
      (J.stop i H ∧ D'.nx σ H) ∨ (J.go i H ∧ ∃ N : St → Hp → Prop, (∀ σ' H', N σ' H' → ∃ m', m' < n ∧ W (i + 1) m' σ' H') ∧ ∀ x H', J.yld i H x H' → tGt Γ tg x σ H' fun σ2 H2 => tSt Γ E m { D' with nx := N, ct := N, bk := D'.nx } σ2 H2) := by
  refine ⟨fun i n σ H => n = ds.length - i ∧ i ≤ ds.length ∧ ∃ ι ls hs, Step ι1 H1 ι H ∧ Rep Γ ι hs H ∧ RelL Γ ι H ls σ ∧ (forD tg m g hs0 (ds.drop i) ls hs).Sat (KS Γ ι1 H1 D' E), ⟨_, rfl, Nat.zero_le _, ι1, ls, hs, Step.refl _ _, rp1, rl, sat⟩, ?_⟩
  rintro i n σ H ⟨rfl, hi, ι, ls, hs, st, rp, rl, sat⟩
  by_cases hlt : i < ds.length
  · have hd : ds.drop i = ds[i] :: ds.drop (i + 1) := List.drop_eq_getElem_cons hlt
    rw [hd] at sat
    unfold forD at sat
    split at sat
    · rename_i hg
      obtain ⟨w1, _⟩ := wk ι H hs st rp hg
      obtain ⟨go, yl⟩ := w1 i ds[i] (List.getElem?_eq_getElem hlt)
      refine .inr ⟨go, fun σ' H' => i + 1 ≤ ds.length ∧ ∃ ι ls hs, Step ι1 H1 ι H' ∧ Rep Γ ι hs H' ∧ RelL Γ ι H' ls σ' ∧ (forD tg m g hs0 (ds.drop (i + 1)) ls hs).Sat (KS Γ ι1 H1 D' E), fun σ' H' q => ⟨ds.length - (i + 1), by omega, rfl, q.1, q.2⟩, fun x H' y => ?_⟩
      obtain ⟨st2, rp2, rd⟩ := yl x H' y
      cases eg : tg ds[i] with
      | none => rw [eg] at sat; exact sat.elim
      | some ps =>
        rw [eg] at sat
        simp only at sat
        refine ⟨ι, hs, ds[i], ps, rp2, rd, eg, fun ws hw => ⟨ι, putL ls ps, hs, rp2, RelL.putAll (rp.relL st2 rl) hw, ?_⟩⟩
        have stA := st.trans st2
        cases eb : m (putL ls ps) hs with
        | nx l h => rw [eb] at sat; exact fun ι' H' σ' a b c => ⟨hlt, ι', l, h, stA.trans a, b, c, sat⟩
        | ct l h => rw [eb] at sat; exact fun ι' H' σ' a b c => ⟨hlt, ι', l, h, stA.trans a, b, c, sat⟩
        | bk l h => rw [eb] at sat; exact fun ι' H' σ' a b c => sat ι' H' σ' (stA.trans a) b c
        | rt d h => rw [eb] at sat; exact fun ι' H' σ' a b c => sat ι' H' σ' (stA.trans a) b c
        | exc c h => rw [eb] at sat; exact PostX.on sat stA
        | bad => rw [eb] at sat; exact sat.elim
    · exact sat.elim
  · have e : i = ds.length := by omega
    subst e
    rw [List.drop_length] at sat
    unfold forD at sat
    split at sat
    · rename_i hg
      exact .inl ⟨(wk ι H hs st rp hg).2, sat ι H σ st rp rl⟩
    · exact sat.elim
theorem fs_for {iter tg : Expr} {body : List Stmt} {mi : M (List D × Option Nat)} {g : MG} (hp : PassesOwn (model X.prog X.w) X.A X.env X.xe) (hc : X.calm = true) (hi : FI X Γ E tg iter mi) (hg : FG X Γ tg g) (hb : FSs X Γ E body m)
    (hs : ∀ x, foldedSetIterable iter X.env x = pure x := by intro _; rfl) : FS X Γ E (.For tg iter body [] pos) (mFor mi g m) := PS.weak (ps_for hp hc hi hg hb hs) fun D' σ H q => by
  obtain ⟨ι, ls, hs, rp, rl, sat⟩ := q
  refine ⟨ι, ls, hs, rp, rl, (R.toS_sat sat).mono (fun p h1 s1 ι1 H1 J st1 rp1 wk => ?_) fun _ _ e => e⟩
  exact for_sat wk rp1 (rp.relL st1 rl) (KS.on s1 st1)
theorem fs_while {n : Nat} {body : List Stmt} (hp : PassesOwn (model X.prog X.w) X.A X.env X.xe) (ht : FT X Γ E c mt) (hb : FSs X Γ E body m) : FS X Γ E (.While c body [] pos) (mWhile n mt m) := PS.weak (ps_while hp ht hb) fun D' σ H q => by
  obtain ⟨ι0, ls, hs, rp, rl, sat⟩ := q
  refine ⟨fun k σ' H' => ∃ ι ls hs, Step ι0 H ι H' ∧ Rep Γ ι hs H' ∧ RelL Γ ι H' ls σ' ∧ (whD mt m k ls hs).Sat (KS Γ ι0 H D' E), ⟨n, ι0, ls, hs, Step.refl _ _, rp, rl, sat⟩, ?_⟩
  rintro k σ' H' ⟨ι, ls, hs, st, rp, rl, sat⟩
  cases k with
  | zero => exact sat.elim
  | succ k =>
    unfold whD at sat
    refine ⟨ι, ls, hs, rp, rl, (R.toS_sat sat).mono (fun b h1 s1 ι1 H1 st1 rp1 => ?_) fun _ _ e => PostX.on e st⟩
    cases b with
    | false => exact s1 ι1 H1 σ' (st.trans st1) rp1 (rp.relL st1 rl)
    | true =>
      simp only [if_true] at s1 ⊢
      refine ⟨fun σ2 H2 => ∃ ι ls hs, Step ι0 H ι H2 ∧ Rep Γ ι hs H2 ∧ RelL Γ ι H2 ls σ2 ∧ (whD mt m k ls hs).Sat (KS Γ ι0 H D' E), fun σ2 H2 q => ⟨k, Nat.lt_succ_self _, q⟩, ι1, ls, h1, rp1, rp.relL st1 rl, ?_⟩
      have stA := st.trans st1
      cases eb : m ls h1 with
      | nx l h => rw [eb] at s1; exact fun ι' H' σ' a b c => ⟨ι', l, h, stA.trans a, b, c, s1⟩
      | ct l h => rw [eb] at s1; exact fun ι' H' σ' a b c => ⟨ι', l, h, stA.trans a, b, c, s1⟩
      | bk l h => rw [eb] at s1; exact fun ι' H' σ' a b c => s1 ι' H' σ' (stA.trans a) b c
      | rt d h => rw [eb] at s1; exact fun ι' H' σ' a b c => s1 ι' H' σ' (stA.trans a) b c
      | exc c h => rw [eb] at s1; exact PostX.on s1 stA
      | bad => rw [eb] at s1; exact s1.elim
end
end Fx

set_option Elab.async false
set_option linter.all false
set_option maxRecDepth 100000
namespace Fx
open PySem L2

/-! ### walks -/
abbrev MI := M (List D × Option Nat)
def chD (s : Str) : List D := s.cps.toList.map fun c => .str ⟨#[c]⟩
def itF (hs : HS) : D → Option (List D × Option Nat)
  | .lst ds => some (ds, none)
  | .tup ds => some (ds, none)
  | .ref n => (lstAt hs n).map fun ds => (ds, some n)
  | .str s => some (chD s, none)
  | _ => none
def mIt (m : M D) : MI := fun ls hs => (m ls hs).bind fun d h => R.of (itF h d) h
def rngD (lo : Int) (n : Nat) : List D := (List.range n).map fun (i : Nat) => D.int (lo + i)
def rngCD (lo c : Int) (n : Nat) : List D := (List.range n).map fun (i : Nat) => D.int (lo + (i : Int) * c)
def big62 (i : Int) : Prop := -(2 ^ 62) ≤ i ∧ i < 2 ^ 62
instance (i : Int) : Decidable (big62 i) := inferInstanceAs (Decidable (_ ∧ _))
def mRng1 (as : M (List D)) : MI := fun ls hs => (as ls hs).bind fun ds h => match ds with
  | [.int j] => if big62 j then .ok (rngD 0 j.toNat, none) h else .bad
  | _ => .bad
def mRng2 (as : M (List D)) : MI := fun ls hs => (as ls hs).bind fun ds h => match ds with
  | [.int i, .int j] => if big62 i ∧ big62 j then .ok (rngD i (j - i).toNat, none) h else .bad
  | _ => .bad
def mRng3 (as : M (List D)) : MI := fun ls hs => (as ls hs).bind fun ds h => match ds with
  | [.int i, .int j, .int c] => if 0 < c ∧ c.natAbs < 1073741824 ∧ Builtin.Range.small i j c = true then .ok (rngCD i c (Builtin.Range.rangeSize i j c).toNat, none) h else .bad
  | _ => .bad
def enumD (ds : List D) : List D := ds.zipIdx.map fun p => .tup [.int (p.2 : Nat), p.1]
def zipD (xs ys : List D) : List D := (xs.zip ys).map fun p => .tup [p.1, p.2]
/-- enumerate, zip over value lists alone, or one number -/
def seqI (hs : HS) : D → Option (List D × Option Nat)
  | .lst ds => some (ds, none)
  | .ref n => (lstAt hs n).map fun ds => (ds, some n)
  | _ => none
def mEnum (as : M (List D)) : MI := fun ls hs => (as ls hs).bind fun ds h => match ds with
  | [d] => R.of ((seqI h d).map fun p => (enumD p.1, p.2)) h
  | _ => .bad
def mZip (as : M (List D)) : MI := fun ls hs => (as ls hs).bind fun ds h => match ds with
  | [.lst a, .lst b] => .ok (zipD a b, none) h
  | [.tup a, .tup b] => .ok (zipD a b, none) h
  | [.ref n, .lst b] => R.of ((lstAt h n).map fun a => (zipD a b, some n)) h
  | _ => .bad
def Key.d : Key → D
  | .inl i => .int i
  | .inr s => .str s
def lckAt (hs : HS) (n : Nat) : Option (List (Key × D)) := match hs[n]? with
  | some (.dct true kvs) => some kvs
  | _ => none
def dI (f : Key × D → D) (m : M D) : MI := fun ls hs => (m ls hs).bind fun d h => match d with
  | .ref n => R.of ((lckAt h n).map fun kvs => (kvs.map f, some n)) h
  | _ => .bad
def mKeys := dI fun p => Key.d p.1
def mValues := dI fun p => p.2
def mItems := dI fun p => .tup [Key.d p.1, p.2]

section
variable {Γ : Sta} {ι ι0 ι1 : Ix} {H H0 H1 : Hp} {hs hs0 : HS}
theorem guard_eq {g : Option Nat} (h : guardOk g hs0 hs = true) {n : Nat} (e : g = some n) : hs[n]? = hs0[n]? := by
  subst e
  exact of_decide_eq_true h
/-- at a list, as a value or behind a number -/
theorem seqI_rel (rp : Rep Γ ι hs H) {d : D} {v : V} (r : RelD Γ ι H d v) {p : List D × Option Nat} (h : seqI hs d = some p) : ∃ a vs, v = .ref a ∧ H a = some (.lst vs) ∧ RelDs Γ ι H p.1 vs ∧
    ∀ ι' H' hs', Step ι H ι' H' → Rep Γ ι' hs' H' → guardOk p.2 hs hs' = true → ∃ ws, H' a = some (.lst ws) ∧ RelDs Γ ι' H' p.1 ws := by
  cases d with
  | lst ds =>
    cases h
    obtain ⟨a, vs, rfl, n, h1, h2⟩ := r.lst_inv
    exact ⟨a, vs, rfl, h1, h2, fun ι' H' hs' st rp' _ => ⟨vs, st.keep a _ h1 n.l (by intro ps q; cases q), rp.relDs st h2⟩⟩
  | ref n =>
    simp only [seqI, Option.map_eq_some_iff] at h
    obtain ⟨ds, h1, rfl⟩ := h
    obtain ⟨a, rfl, h2⟩ := r.ref_inv
    obtain ⟨vs, h3, h4⟩ := lstAt_rel rp h2 h1
    refine ⟨a, vs, rfl, h3, h4, fun ι' H' hs' st rp' g => ?_⟩
    have e := guard_eq g rfl
    rw [lstAt_iff.mp h1] at e
    exact lstAt_rel rp' (st.get h2) (lstAt_iff.mpr e)
  | _ => cases h
theorem walk_lst {K : PySem.W.Frag} {a : Addr} {ds : List D} {g : Option Nat} (w : ∀ ι' H' hs', Step ι0 H0 ι' H' → Rep Γ ι' hs' H' → guardOk g hs0 hs' = true → ∃ ws, H' a = some (.lst ws) ∧ RelDs Γ ι' H' ds ws)
    (J : It) (hJ : J = Itl K a) : WalkD Γ J ι0 H0 hs0 ds g := by
  subst hJ
  intro ι H hs st rp g
  obtain ⟨ws, h1, h2⟩ := w ι H hs st rp g
  refine ⟨fun i d e => ?_, ⟨ws, SqL.of h1, by rw [← Paired.length h2]; exact Nat.le_refl _⟩⟩
  obtain ⟨x, h3, h4⟩ := Paired.left h2 e
  refine ⟨⟨ws, x, SqL.of h1, h3⟩, fun y H' yl => ?_⟩
  obtain ⟨rfl, q⟩ := yl
  have := q ws (SqL.of h1)
  rw [h3] at this
  cases this
  exact ⟨Step.refl _ _, rp, h4⟩
theorem walk_tupD {K : PySem.W.Frag} {a : Addr} {vs : List V} {ds : List D} (h : TupAt K H0 a vs) (hn : H0 a = some (.tup vs) → a ∉ ι0.l) (hT : ∀ a vs, H0 a = some (.tup vs) → a ∉ ι0.l) (r : RelDs Γ ι0 H0 ds vs) : WalkD Γ (Itt K a) ι0 H0 hs0 ds none := by
  intro ι H hs st rp _
  have h1 := (h.step st hn).sq
  have h2 := RelDs.step hT st r
  refine ⟨fun i d e => ?_, ⟨vs, h1, by rw [← Paired.length h2]; exact Nat.le_refl _⟩⟩
  obtain ⟨x, h3, h4⟩ := Paired.left h2 e
  refine ⟨⟨vs, x, h1, h3⟩, fun y H' yl => ?_⟩
  obtain ⟨rfl, q⟩ := yl
  have := q vs h1
  rw [h3] at this
  cases this
  exact ⟨Step.refl _ _, rp, h4⟩
theorem walk_strD {s : Str} : WalkD Γ (Its s) ι0 H0 hs0 (chD s) none := by
  intro ι H hs st rp _
  refine ⟨fun i d e => ?_, by simp [chD, Its]⟩
  unfold chD at e
  rw [List.getElem?_map] at e
  simp only [Option.map_eq_some_iff] at e
  obtain ⟨c, h1, rfl⟩ := e
  have h2 : s.cps[i]? = some c := by rw [← Array.getElem?_toList]; exact h1
  refine ⟨(Array.getElem?_eq_some_iff.mp h2).1, fun y H' yl => ?_⟩
  obtain ⟨rfl, c', h3, rfl⟩ := yl
  rw [h2] at h3
  cases h3
  exact ⟨Step.refl _ _, rp, .str _⟩
theorem walk_rngD {lo : Int} {n : Nat} : WalkD Γ (Itr lo n) ι0 H0 hs0 (rngD lo n) none := by
  intro ι H hs st rp _
  refine ⟨fun i d e => ?_, by simp [rngD, Itr]⟩
  unfold rngD at e
  rw [List.getElem?_map] at e
  simp only [Option.map_eq_some_iff] at e
  obtain ⟨c, h1, rfl⟩ := e
  have h2 := (List.getElem?_eq_some_iff.mp h1)
  obtain ⟨h3, h4⟩ := h2
  rw [List.getElem_range] at h4
  subst h4
  refine ⟨(by simpa using h3 : i < n), fun y H' yl => ?_⟩
  obtain ⟨rfl, rfl⟩ := yl
  exact ⟨Step.refl _ _, rp, .int _⟩
theorem walk_rngCD {lo c : Int} {n : Nat} : WalkD Γ (Itc lo c n) ι0 H0 hs0 (rngCD lo c n) none := by
  intro ι H hs st rp _
  refine ⟨fun i d e => ?_, by simp [rngCD, Itc]⟩
  unfold rngCD at e
  rw [List.getElem?_map] at e
  simp only [Option.map_eq_some_iff] at e
  obtain ⟨k, h1, rfl⟩ := e
  obtain ⟨h3, h4⟩ := (List.getElem?_eq_some_iff.mp h1)
  rw [List.getElem_range] at h4
  subst h4
  refine ⟨(by simpa using h3 : i < n), fun y H' yl => ?_⟩
  obtain ⟨rfl, rfl⟩ := yl
  exact ⟨Step.refl _ _, rp, .int _⟩
theorem newTup (rp : Rep Γ ι hs H) {T : Addr} (hT : H T = none) {ds : List D} {vs : List V} (r : RelDs Γ ι H ds vs) : Step ι H ι (upd H T (.tup vs)) ∧ Rep Γ ι hs (upd H T (.tup vs)) ∧ RelD Γ ι (upd H T (.tup vs)) (.tup ds) (.ref T) :=
  ⟨Step.new hT, rp.new hT, RelD.mkTup (.inl upd_same) (rp.relDs (Step.new hT) r)⟩
theorem walk_enumD {K : PySem.W.Frag} {a : Addr} {ds : List D} {g : Option Nat} (w : ∀ ι' H' hs', Step ι0 H0 ι' H' → Rep Γ ι' hs' H' → guardOk g hs0 hs' = true → ∃ ws, H' a = some (.lst ws) ∧ RelDs Γ ι' H' ds ws) : WalkD Γ (Ite K a) ι0 H0 hs0 (enumD ds) g := by
  intro ι H hs st rp g
  obtain ⟨ws, h1, h2⟩ := w ι H hs st rp g
  refine ⟨fun i d e => ?_, ⟨ws, SqL.of h1, by rw [← Paired.length h2]; simp [enumD]⟩⟩
  unfold enumD at e
  rw [List.getElem?_map, List.getElem?_zipIdx] at e
  simp only [Option.map_map, Option.map_eq_some_iff] at e
  obtain ⟨d', h3, rfl⟩ := e
  obtain ⟨x, h4, h5⟩ := Paired.left h2 h3
  refine ⟨⟨ws, x, SqL.of h1, h4⟩, fun y H' yl => ?_⟩
  obtain ⟨T, x', rfl, hT, rfl, q⟩ := yl
  have := q ws (SqL.of h1)
  rw [h4] at this
  cases this
  have hi : (0 + i : Nat) = i := Nat.zero_add i
  show Step ι H ι _ ∧ Rep Γ ι hs _ ∧ RelD Γ ι _ (.tup [.int ((0 + i : Nat) : Int), d']) _
  rw [hi]
  exact newTup rp hT (.cons (.int _) (.cons h5 .nil))
theorem zip_at {xs ys : List D} {i : Nat} {d : D} (e : (zipD xs ys)[i]? = some d) : ∃ x y, xs[i]? = some x ∧ ys[i]? = some y ∧ d = .tup [x, y] := by
  unfold zipD at e
  rw [List.getElem?_map] at e
  simp only [Option.map_eq_some_iff] at e
  obtain ⟨⟨x, y⟩, h1, rfl⟩ := e
  rw [List.getElem?_zip_eq_some] at h1
  exact ⟨x, y, h1.1, h1.2, rfl⟩
theorem walk_zipD {K : PySem.W.Frag} {a b : Addr} {xs ys : List D} {g : Option Nat} (w : ∀ ι' H' hs', Step ι0 H0 ι' H' → Rep Γ ι' hs' H' → guardOk g hs0 hs' = true → (∃ ws, H' a = some (.lst ws) ∧ RelDs Γ ι' H' xs ws) ∧ ∃ ws, H' b = some (.lst ws) ∧ RelDs Γ ι' H' ys ws) : WalkD Γ (Itz K a b) ι0 H0 hs0 (zipD xs ys) g := by
  intro ι H hs st rp g
  obtain ⟨⟨us, h1, h2⟩, ⟨ws, h3, h4⟩⟩ := w ι H hs st rp g
  refine ⟨fun i d e => ?_, ⟨us, ws, SqL.of h1, SqL.of h3, by rw [← Paired.length h2, ← Paired.length h4]; simp [zipD]; omega⟩⟩
  obtain ⟨x, y, e1, e2, rfl⟩ := zip_at e
  obtain ⟨u, h5, h6⟩ := Paired.left h2 e1
  obtain ⟨w, h7, h8⟩ := Paired.left h4 e2
  refine ⟨⟨us, ws, u, w, SqL.of h1, SqL.of h3, h5, h7⟩, fun z H' yl => ?_⟩
  obtain ⟨T, u', w', rfl, hT, rfl, q1, q2⟩ := yl
  have e3 := q1 us (SqL.of h1)
  have e4 := q2 ws (SqL.of h3)
  rw [h5] at e3; cases e3
  rw [h7] at e4; cases e4
  exact newTup rp hT (.cons h6 (.cons h8 .nil))
theorem walk_zipTD {K : PySem.W.Frag} {a b : Addr} {xs ys : List D} {us ws : List V} (hT : ∀ a vs, H0 a = some (.tup vs) → a ∉ ι0.l) (h1 : TupAt K H0 a us) (h2 : RelDs Γ ι0 H0 xs us) (h3 : TupAt K H0 b ws) (h4 : RelDs Γ ι0 H0 ys ws) : WalkD Γ (RZ.ItzT K a b) ι0 H0 hs0 (zipD xs ys) none := by
  intro ι H hs st rp g
  have h1 := (h1.step st (hT _ _)).sq
  have h3 := (h3.step st (hT _ _)).sq
  have h2 := RelDs.step hT st h2
  have h4 := RelDs.step hT st h4
  refine ⟨fun i d e => ?_, ⟨us, ws, h1, h3, by rw [← Paired.length h2, ← Paired.length h4]; simp [zipD]; omega⟩⟩
  obtain ⟨x, y, e1, e2, rfl⟩ := zip_at e
  obtain ⟨u, h5, h6⟩ := Paired.left h2 e1
  obtain ⟨w, h7, h8⟩ := Paired.left h4 e2
  refine ⟨⟨us, ws, u, w, h1, h3, h5, h7⟩, fun z H' yl => ?_⟩
  obtain ⟨T, u', w', rfl, hT', rfl, q1, q2⟩ := yl
  have e3 := q1 us h1
  have e4 := q2 ws h3
  rw [h5] at e3; cases e3
  rw [h7] at e4; cases e4
  exact newTup rp hT' (.cons h6 (.cons h8 .nil))
theorem key_d (k : Key) : RelD Γ ι H (Key.d k) (kV k) := by
  cases k with
  | inl i => exact .int i
  | inr s => exact .str s
/-- a locked dict -/
theorem lck_rel (rp : Rep Γ ι hs H) {n : Nat} {a : Addr} (hn : ι.l[n]? = some a) {kvs : List (Key × D)} (h : lckAt hs n = some kvs) : ∃ od kvs', H a = some (.frz od (.dK kvs')) ∧ Paired (fun p q => p.1 = q.1 ∧ RelD Γ ι H p.2 q.2) kvs kvs' := by
  unfold lckAt at h
  cases q : hs[n]? with
  | none => rw [q] at h; cases h
  | some o =>
    rw [q] at h
    cases o with
    | dct b ks =>
      cases b with
      | true =>
        cases h
        obtain ⟨kvs', z, r⟩ := rp.ob n a _ hn q
        rcases z with ⟨_, z⟩ | ⟨od, z, _⟩
        · cases z
        · exact ⟨od, kvs', z, r⟩
      | false => cases h
    | lst _ => cases h
    | ins _ _ => cases h
theorem walk_dct (rp0 : Rep Γ ι0 hs0 H0) {n : Nat} {a : Addr} {od : Obj} {kvs : List (Key × D)} {kvs' : List (Key × V)} (h : H0 a = some (.frz od (.dK kvs'))) (r : Paired (fun p q => p.1 = q.1 ∧ RelD Γ ι0 H0 p.2 q.2) kvs kvs') {f : Key × D → D} {J : It}
    (hgo : ∀ i H, H a = some (.frz od (.dK kvs')) → i < kvs'.length → J.go i H) (hst : ∀ H, H a = some (.frz od (.dK kvs')) → J.stop kvs'.length H)
    (hy : ∀ (ι : Ix) (H : Hp) (hs : HS) (i : Nat) (p : Key × D) (q : Key × V) x H', Rep Γ ι hs H → kvs[i]? = some p → kvs'[i]? = some q → p.1 = q.1 → RelD Γ ι H p.2 q.2 → J.yld i H x H' → Step ι H ι H' ∧ Rep Γ ι hs H' ∧ RelD Γ ι H' (f p) x) : WalkD Γ J ι0 H0 hs0 (kvs.map f) (some n) := by
  intro ι H hs st rp _
  have h1 := st.frz a od _ h
  refine ⟨fun i d e => ?_, by rw [List.length_map, Paired.length r]; exact hst H h1⟩
  rw [List.getElem?_map] at e
  simp only [Option.map_eq_some_iff] at e
  obtain ⟨p, e1, rfl⟩ := e
  obtain ⟨q, e2, e3⟩ := Paired.left r e1
  exact ⟨hgo i H h1 (List.getElem?_eq_some_iff.mp e2).1, fun x H' yl => hy ι H hs i p q x H' rp e1 e2 e3.1 (rp0.relD st e3.2) yl⟩
end
section
variable {X : Cx} {Γ : Sta} {E : XK} {a b c e tg : Expr} {ma mb : M D} {mt : M Bool} {ml : M (List D)} {pos : Pos}
theorem PI.weak {tg iter : Expr} {t t' : TI} (h : PI X tg iter t) (w : ∀ σ H R, t' σ H R → t σ H R) : PI X tg iter t' := ⟨fun pins s σ H R I q => h.run pins s σ H R I (w _ _ _ q)⟩
theorem PI.alt {tg iter : Expr} {t t' t'' : TI} (h : PI X tg iter t) (h' : PI X tg iter t') (w : ∀ σ H R, t'' σ H R → t σ H R ∨ t' σ H R) : PI X tg iter t'' := ⟨fun pins s σ H R I q => (w _ _ _ q).elim (h.run pins s σ H R I) (h'.run pins s σ H R I)⟩
/-- what a part gives is known ahead -/
theorem pick {m : M D} {f : D → HS → R (List D × Option Nat)} {σ : St} {H : Hp} {Rr : It → Hp → Prop} (q : tI Γ E (fun ls hs => (m ls hs).bind f) σ H Rr) (p : D → HS → Bool) :
    (tI Γ E (fun ls hs => (m ls hs).bind fun d h => if p d h = true then f d h else .bad) σ H Rr) ∨ tI Γ E (fun ls hs => (m ls hs).bind fun d h => if p d h = true then .bad else f d h) σ H Rr := by
  obtain ⟨ι, ls, hs, rp, rl, sat⟩ := q
  dsimp only at sat
  cases e : m ls hs with
  | bad => rw [e] at sat; exact sat.elim
  | exc k h => exact .inl ⟨ι, ls, hs, rp, rl, by dsimp only; rw [e] at sat ⊢; exact sat⟩
  | ok d h =>
    by_cases hp : p d h = true
    · exact .inl ⟨ι, ls, hs, rp, rl, by dsimp only; rw [e] at sat ⊢; simp only [R.bind, hp, if_true] at sat ⊢; exact sat⟩
    · exact .inr ⟨ι, ls, hs, rp, rl, by dsimp only; rw [e] at sat ⊢; simp only [R.bind, hp, if_false] at sat ⊢; exact sat⟩
def isTupD : D → HS → Bool := fun d _ => match d with
  | .tup _ => true
  | _ => false
def isStrD : D → HS → Bool := fun d _ => match d with
  | .str _ => true
  | _ => false
theorem fi_seq (ha : FE X Γ E a ma) (hK : X.K = Γ.K := by rfl) : FI X Γ E tg a (mIt ma) := by
  refine PI.alt (pi_tup ha) (PI.alt (pi_str ha) (pi_list ha) (t'' := tI Γ E fun ls hs => (ma ls hs).bind fun d h => if isTupD d h = true then .bad else R.of (itF h d) h) fun σ H Rr q => (pick q isStrD).imp (fun q => ?_) fun q => ?_) fun σ H Rr q => (pick q isTupD).imp (fun q => ?_) fun q => q
  · exact bindV q fun ι ls hs d h1 rp rl s1 ι1 H1 x st1 rp1 rx => by
      cases d with
      | str s => exact ⟨s, rx.str_inv, s1 ι1 H1 _ st1 rp1 walk_strD⟩
      | _ => exact s1.elim
  · refine bindV q fun ι ls hs d h1 rp rl s1 ι1 H1 x st1 rp1 rx => ?_
    have key : ∀ p, seqI h1 d = some p → PostI Γ ι H Rr p h1 → ∃ a, x = .ref a ∧ (∃ xs, SqL X.K H1 a xs) ∧ Rr (Itl X.K a) H1 := fun p hp po => by
      obtain ⟨a, vs, rfl, e1, r1, w⟩ := seqI_rel rp1 rx hp
      exact ⟨a, rfl, ⟨vs, SqL.of e1⟩, po ι1 H1 _ st1 rp1 (walk_lst w _ rfl)⟩
    cases d with
    | lst ds => exact key _ rfl s1
    | ref n =>
      have s2 : (R.of ((lstAt h1 n).map fun ds => (ds, some n)) h1).Sat (PostI Γ ι H Rr) (PostX Γ ι H E) := s1
      obtain ⟨p, e1, po⟩ := R.of_sat s2
      exact key p e1 po
    | str s => exact s1.elim
    | tup _ => exact s1.elim
    | _ => exact s1.elim
  · exact bindV q fun ι ls hs d h1 rp rl s1 ι1 H1 x st1 rp1 rx => by
      cases d with
      | tup ds =>
        obtain ⟨a, vs, rfl, e1, r1⟩ := rx.tup_inv
        have e2 : TupAt X.K H1 a vs := by rw [hK]; exact e1
        exact ⟨a, rfl, ⟨vs, e2.sq⟩, s1 ι1 H1 _ st1 rp1 (walk_tupD e2 (rp1.noTup) (fun _ _ z => rp1.noTup z) r1)⟩
      | _ => exact s1.elim
theorem fi_range1 {p : Pos} (hg : Gl X "range") (hm : X.mg "range" = none) (ha : FA X Γ E [a] ml) (hs : starEach [a] X.env = [(false, eval a X.env)] := by rfl) : FI X Γ E tg (.Call (.Name "range" p) [a] [] pos) (mRng1 ml) :=
  PI.weak (pi_range1 hg hm ha hs) fun σ H Rr q => bindA q fun ι ls hs ds h1 rp rl s1 ι1 H1 vs st1 rp1 rds => by
    split at s1
    · split at s1
      · rename_i h
        cases rds with
        | cons r t =>
          cases t
          cases r
          exact ⟨_, rfl, h.1, h.2, s1 ι1 H1 _ st1 rp1 walk_rngD⟩
      · exact s1.elim
    · exact s1.elim
theorem fi_range2 {p : Pos} (hg : Gl X "range") (hm : X.mg "range" = none) (ha : FA X Γ E [a, b] ml) (hs : starEach [a, b] X.env = [(false, eval a X.env), (false, eval b X.env)] := by rfl) (hs2 : starEach [b] X.env = [(false, eval b X.env)] := by rfl) : FI X Γ E tg (.Call (.Name "range" p) [a, b] [] pos) (mRng2 ml) :=
  PI.weak (pi_range2 hg hm ha hs hs2) fun σ H Rr q => bindA q fun ι ls hs ds h1 rp rl s1 ι1 H1 vs st1 rp1 rds => by
    split at s1
    · split at s1
      · rename_i h
        cases rds with
        | cons r t =>
          cases t with
          | cons r2 t =>
            cases t
            cases r
            cases r2
            exact ⟨_, _, rfl, ⟨h.1.1, h.1.2, h.2.1, h.2.2⟩, s1 ι1 H1 _ st1 rp1 walk_rngD⟩
      · exact s1.elim
    · exact s1.elim
theorem fi_range3 {p : Pos} (hg : Gl X "range") (hm : X.mg "range" = none) (ha : FA X Γ E [a, b, c] ml) (hs : starEach [a, b, c] X.env = (false, eval a X.env) :: starEach [b, c] X.env := by rfl) (hpl : (backTo pos (starEach [b, c] X.env)).any (·.1) = false := by rfl) : FI X Γ E tg (.Call (.Name "range" p) [a, b, c] [] pos) (mRng3 ml) :=
  PI.weak (pi_range3 hg hm ha hs hpl) fun σ H Rr q => bindA q fun ι ls hs ds h1 rp rl s1 ι1 H1 vs st1 rp1 rds => by
    split at s1
    · split at s1
      · rename_i i j c h
        cases rds with
        | cons r t =>
          cases t with
          | cons r2 t =>
            cases t with
            | cons r3 t =>
              cases t
              cases r
              cases r2
              cases r3
              have e : Builtin.Range.rangeSize i j c = ((Builtin.Range.rangeSize i j c).toNat : Int) := by
                rw [Int.toNat_of_nonneg]
                unfold Builtin.Range.rangeSize
                rw [if_pos h.1]
                split
                · rename_i hlt
                  have := Int.ediv_nonneg (a := j - i - 1) (b := c) (by omega) (by omega)
                  omega
                · exact Int.le_refl _
              exact ⟨i, j, c, _, rfl, ⟨by have := h.1; omega, h.2.1, h.2.2, e⟩, s1 ι1 H1 _ st1 rp1 walk_rngCD⟩
      · exact s1.elim
    · exact s1.elim
theorem fi_enum {p tpos : Pos} {elts : List Expr} {kk : Nat} (hg : Gl X "enumerate") (hm : X.mg "enumerate" = none) (ha : FA X Γ E [a] ml) (hs : starEach [a] X.env = [(false, eval a X.env)] := by rfl) : FI X Γ E (.Tuple elts kk tpos) (.Call (.Name "enumerate" p) [a] [] pos) (mEnum ml) :=
  PI.weak (pi_enum hg hm ha hs) fun σ H Rr q => bindA q fun ι ls hs ds h1 rp rl s1 ι1 H1 vs st1 rp1 rds => by
    split at s1
    · cases rds with
      | cons r t =>
        cases t
        obtain ⟨p, e1, po⟩ := R.of_sat s1
        simp only [Option.map_eq_some_iff] at e1
        obtain ⟨p', e1, rfl⟩ := e1
        obtain ⟨a, vs, rfl, e2, r1, w⟩ := seqI_rel rp1 r e1
        exact ⟨a, vs, rfl, SqL.of e2, po ι1 H1 _ st1 rp1 (walk_enumD w)⟩
    · exact s1.elim
theorem fi_zip {p tpos : Pos} {elts : List Expr} {kk : Nat} (hg : Gl X "zip") (hm : X.mg "zip" = none) (ha : FA X Γ E [a, b] ml) (hK : X.K = Γ.K := by rfl)
    (hs : starEach [a, b] X.env = (false, eval a X.env) :: starEach [b] X.env := by rfl) (hpl : (backTo pos (starEach [b] X.env)).any (·.1) = false := by rfl) : FI X Γ E (.Tuple elts kk tpos) (.Call (.Name "zip" p) [a, b] [] pos) (mZip ml) :=
  PI.weak (RZ.pi_zipA hg hm ha hs hpl) fun σ H Rr q => bindA q fun ι ls hs ds h1 rp rl s1 ι1 H1 vs st1 rp1 rds => by
    have stay : ∀ {as : List D} {x : V}, RelD Γ ι1 H1 (.lst as) x → ∃ a vs, x = .ref a ∧ H1 a = some (.lst vs) ∧ ∀ ι' H' hs', Step ι1 H1 ι' H' → Rep Γ ι' hs' H' → ∃ ws, H' a = some (.lst ws) ∧ RelDs Γ ι' H' as ws := fun {as x} r => by
      obtain ⟨a, vs, rfl, e2, r1, w⟩ := seqI_rel rp1 (d := .lst as) r rfl
      exact ⟨a, vs, rfl, e2, fun ι' H' hs' st rp' => w ι' H' hs' st rp' rfl⟩
    split at s1
    · cases rds with
      | cons r t => cases t with
        | cons r2 t =>
          cases t
          obtain ⟨a, vs, rfl, e1, w1⟩ := stay r
          obtain ⟨b, ws, rfl, e2, w2⟩ := stay r2
          exact ⟨a, b, vs, ws, rfl, .inl ⟨SqL.of e1, SqL.of e2, s1 ι1 H1 _ st1 rp1 (walk_zipD fun ι' H' hs' st rp' _ => ⟨w1 ι' H' hs' st rp', w2 ι' H' hs' st rp'⟩)⟩⟩
    · cases rds with
      | cons r t => cases t with
        | cons r2 t =>
          cases t
          obtain ⟨a, vs, rfl, e1, w1⟩ := r.tup_inv
          obtain ⟨b, ws, rfl, e2, w2⟩ := r2.tup_inv
          rw [hK]
          exact ⟨a, b, vs, ws, rfl, .inr ⟨e1.sq, e2.sq, s1 ι1 H1 _ st1 rp1 (walk_zipTD (fun _ _ z => rp1.noTup z) e1 w1 e2 w2)⟩⟩
    · cases rds with
      | cons r t => cases t with
        | cons r2 t =>
          cases t
          obtain ⟨p, e1, po⟩ := R.of_sat s1
          simp only [Option.map_eq_some_iff] at e1
          obtain ⟨as, e1, rfl⟩ := e1
          obtain ⟨a, vs, rfl, e2, r1, w⟩ := seqI_rel rp1 r (show seqI h1 (.ref _) = _ by simp only [seqI, e1]; rfl)
          obtain ⟨b, ws, rfl, e3, w2⟩ := stay r2
          exact ⟨a, b, vs, ws, rfl, .inl ⟨SqL.of e2, SqL.of e3, po ι1 H1 _ st1 rp1 (walk_zipD fun ι' H' hs' st rp' g => ⟨w ι' H' hs' st rp' g, w2 ι' H' hs' st rp'⟩)⟩⟩
    · exact s1.elim
theorem fi_keys (ha : FE X Γ E a ma) : FI X Γ E tg a (mKeys ma) := PI.weak (pi_keys ha) fun σ H Rr q => bindV q fun ι ls hs d h1 rp rl s1 ι1 H1 x st1 rp1 rx => by
  cases d with
  | ref n =>
    obtain ⟨p, e1, po⟩ := R.of_sat s1
    simp only [Option.map_eq_some_iff] at e1
    obtain ⟨kvs, e1, rfl⟩ := e1
    obtain ⟨a, rfl, hn⟩ := rx.ref_inv
    obtain ⟨od, kvs', h2, r⟩ := lck_rel rp1 hn e1
    refine ⟨a, od, rfl, .inl ⟨kvs', h2, po ι1 H1 _ st1 rp1 (walk_dct rp1 h2 r (fun i H h l => ⟨h, l⟩) (fun H h => ⟨h, Nat.le_refl _⟩) fun ι H hs i p q x H' rp e1 e2 ek rd yl => ?_)⟩⟩
    obtain ⟨rfl, k, v, e3, rfl⟩ := yl
    rw [e2] at e3; cases e3
    exact ⟨Step.refl _ _, rp, by rw [ek]; exact key_d k⟩
  | _ => exact s1.elim
theorem fi_values {apos cpos : Pos} (ha : FE X Γ E a ma) (hbase : attributeBase a "values" X.env (eval a X.env) = eval a X.env := by rfl) (hline : (apos.endLine == cpos.line) = true := by rfl) : FI X Γ E tg (.Call (.Attribute a "values" apos) [] [] cpos) (mValues ma) := PI.weak (pi_values ha hbase hline) fun σ H Rr q => bindV q fun ι ls hs d h1 rp rl s1 ι1 H1 x st1 rp1 rx => by
  cases d with
  | ref n =>
    obtain ⟨p, e1, po⟩ := R.of_sat s1
    simp only [Option.map_eq_some_iff] at e1
    obtain ⟨kvs, e1, rfl⟩ := e1
    obtain ⟨a, rfl, hn⟩ := rx.ref_inv
    obtain ⟨od, kvs', h2, r⟩ := lck_rel rp1 hn e1
    refine ⟨a, od, kvs', rfl, h2, po ι1 H1 _ st1 rp1 (walk_dct rp1 h2 r (fun i H h l => ⟨h, l⟩) (fun H h => ⟨h, Nat.le_refl _⟩) fun ι H hs i p q x H' rp e1 e2 ek rd yl => ?_)⟩
    obtain ⟨rfl, k, e3⟩ := yl
    rw [e2] at e3; cases e3
    exact ⟨Step.refl _ _, rp, rd⟩
  | _ => exact s1.elim
theorem fi_items {apos cpos tpos : Pos} {elts : List Expr} {kk : Nat} (ha : FE X Γ E a ma) (hbase : attributeBase a "items" X.env (eval a X.env) = eval a X.env := by rfl) (hline : (apos.endLine == cpos.line) = true := by rfl) : FI X Γ E (.Tuple elts kk tpos) (.Call (.Attribute a "items" apos) [] [] cpos) (mItems ma) := PI.weak (pi_items ha hbase hline) fun σ H Rr q => bindV q fun ι ls hs d h1 rp rl s1 ι1 H1 x st1 rp1 rx => by
  cases d with
  | ref n =>
    obtain ⟨p, e1, po⟩ := R.of_sat s1
    simp only [Option.map_eq_some_iff] at e1
    obtain ⟨kvs, e1, rfl⟩ := e1
    obtain ⟨a, rfl, hn⟩ := rx.ref_inv
    obtain ⟨od, kvs', h2, r⟩ := lck_rel rp1 hn e1
    refine ⟨a, od, kvs', rfl, h2, po ι1 H1 _ st1 rp1 (walk_dct rp1 h2 r (fun i H h l => ⟨h, l⟩) (fun H h => ⟨h, Nat.le_refl _⟩) fun ι H hs i p q x H' rp e1 e2 ek rd yl => ?_)⟩
    obtain ⟨T, k, v, e3, rfl, hT, rfl⟩ := yl
    rw [e2] at e3; cases e3
    have e4 : p.1 = k := ek
    rw [e4]
    exact newTup rp hT (.cons (key_d k) (.cons rd .nil))
  | _ => exact s1.elim
end
end Fx

set_option Elab.async false
set_option linter.all false
set_option maxRecDepth 100000
namespace Fx
open PySem L2

/-! ### comprehensions -/
def R.nox {α : Type} : R α → R α
  | .exc _ _ => .bad
  | r => r
def wipeL (ls : LS) : List Nat → LS
  | [] => ls
  | v :: vs => (wipeL ls vs).set v none
def mYes : M Bool := fun _ hs => .ok true hs
/-- the turns of a list comprehension -/
def lcD (own : List Nat) (tg : MG) (t : M Bool) (e : M D) (g : Option Nat) (hs0 : HS) (ls : LS) : List D → List D → HS → R (List D)
  | [], acc, hs => if guardOk g hs0 hs then .ok acc hs else .bad
  | d :: r, acc, hs => if guardOk g hs0 hs then match tg d with
    | none => .bad
    | some ps => if ps.all fun p => decide (p.1 ∈ own) then (t (putL ls ps) hs).nox.bind fun c h1 => if c then (e (putL ls ps) h1).nox.bind fun y h2 =>
        if acc.length < sizeLine then lcD own tg t e g hs0 ls r (acc ++ [y]) h2 else .bad
      else lcD own tg t e g hs0 ls r acc h1 else .bad
    else .bad
def mLc (own : List Nat) (it : MI) (tg : MG) (t : M Bool) (e : M D) : M (List D) := fun ls hs => (it ls hs).bind fun p h => lcD own tg t e p.2 h (wipeL ls own) p.1 [] h
/-- the turns of a dict comprehension -/
def putD (kvs : List (Key × D)) (k : Key) (d : D) : List (Key × D) := if (lk kvs k).isSome then kvs.map fun p => if p.1 = k then (p.1, d) else p else kvs ++ [(k, d)]
def dcD (own : List Nat) (tg : MG) (t : M Bool) (ek ev : M D) (g : Option Nat) (hs0 : HS) (ls : LS) : List D → List (Key × D) → HS → R (List (Key × D))
  | [], acc, hs => if guardOk g hs0 hs then .ok acc hs else .bad
  | d :: r, acc, hs => if guardOk g hs0 hs then match tg d with
    | none => .bad
    | some ps => if ps.all fun p => decide (p.1 ∈ own) then (t (putL ls ps) hs).nox.bind fun c h1 => if c then (ek (putL ls ps) h1).nox.bind fun y h2 => (ev (putL ls ps) h2).nox.bind fun z h3 =>
        match y.key with
        | some k => if acc.length < sizeLine then dcD own tg t ek ev g hs0 ls r (putD acc k z) h3 else .bad
        | none => .bad
      else dcD own tg t ek ev g hs0 ls r acc h1 else .bad
    else .bad
def mDc (own : List Nat) (it : MI) (tg : MG) (t : M Bool) (ek ev : M D) : M D := fun ls hs => (it ls hs).bind fun p h => (dcD own tg t ek ev p.2 h (wipeL ls own) p.1 [] h).bind fun kvs h1 => .ok (.ref h1.length) (h1 ++ [.dct false kvs])

section
variable {Γ : Sta} {ι : Ix} {H : Hp}
theorem wipe_get (σ : St) (j : Nat) : ∀ vs : List Nat, (wipe σ vs)[j]? = if j ∈ vs then (σ[j]?).map fun _ => none else σ[j]?
  | [] => by simp [wipe]
  | v :: vs => by
    unfold wipe
    by_cases h : v = j
    · subst h
      rw [List.getElem?_set]
      simp only [if_true, List.mem_cons, true_or]
      by_cases hl : v < (wipe σ vs).length
      · rw [if_pos hl]
        rw [wipe_length] at hl
        rw [List.getElem?_eq_getElem hl]
        rfl
      · rw [if_neg hl]
        rw [wipe_length] at hl
        rw [List.getElem?_eq_none (by omega)]
        rfl
    · rw [List.getElem?_set_ne h, wipe_get σ j vs]
      have : (j ∈ v :: vs) = (j ∈ vs) := by simp [Ne.symm h]
      simp only [this]
theorem wipeL_get (σ : LS) (j : Nat) : ∀ vs : List Nat, (wipeL σ vs)[j]? = if j ∈ vs then (σ[j]?).map fun _ => none else σ[j]?
  | [] => by simp [wipeL]
  | v :: vs => by
    have hlen : ∀ vs, (wipeL σ vs).length = σ.length := by
      intro vs
      induction vs with
      | nil => rfl
      | cons v vs ih => unfold wipeL; rw [List.length_set, ih]
    unfold wipeL
    by_cases h : v = j
    · subst h
      rw [List.getElem?_set]
      simp only [if_true, List.mem_cons, true_or]
      by_cases hl : v < (wipeL σ vs).length
      · rw [if_pos hl]
        rw [hlen] at hl
        rw [List.getElem?_eq_getElem hl]
        rfl
      · rw [if_neg hl]
        rw [hlen] at hl
        rw [List.getElem?_eq_none (by omega)]
        rfl
    · rw [List.getElem?_set_ne h, wipeL_get σ j vs]
      have : (j ∈ v :: vs) = (j ∈ vs) := by simp [Ne.symm h]
      simp only [this]
theorem wipeL_length (σ : LS) : ∀ vs : List Nat, (wipeL σ vs).length = σ.length
  | [] => rfl
  | v :: vs => by unfold wipeL; rw [List.length_set, wipeL_length σ vs]
theorem RelL.wipe {ls : LS} {σ : St} (r : RelL Γ ι H ls σ) (vs : List Nat) : RelL Γ ι H (wipeL ls vs) (L2.wipe σ vs) := by
  refine ⟨by rw [wipeL_length, wipe_length]; exact r.1, fun i d e => ?_⟩
  rw [wipeL_get] at e
  rw [wipe_get]
  split at e
  · cases hq : ls[i]? with
    | none => rw [hq] at e; cases e
    | some o => rw [hq] at e; cases e
  · rename_i h
    rw [if_neg h]
    exact r.2 i d e
theorem wipe_set (σ : St) (vs : List Nat) {i : Nat} (h : i ∈ vs) (x : Option V) : wipe (σ.set i x) vs = wipe σ vs := by
  apply List.ext_getElem?
  intro j
  rw [wipe_get, wipe_get]
  by_cases hj : j ∈ vs
  · rw [if_pos hj, if_pos hj, List.getElem?_set]
    split
    · rename_i e
      subst e
      split
      · rename_i hl; rw [List.getElem?_eq_getElem hl]; rfl
      · rename_i hl; rw [List.getElem?_eq_none (by omega)]
    · rfl
  · rw [if_neg hj, if_neg hj, List.getElem?_set_ne (fun e => hj (by rw [← e]; exact h))]
theorem wipe_wipe (σ : St) (vs : List Nat) : wipe (wipe σ vs) vs = wipe σ vs := by
  apply List.ext_getElem?
  intro j
  rw [wipe_get, wipe_get]
  by_cases hj : j ∈ vs
  · simp only [if_pos hj]
    cases σ[j]? <;> rfl
  · simp only [if_neg hj]
theorem wipe_put (vs : List Nat) : ∀ (ws : List (Nat × V)) (σ : St), (∀ p ∈ ws, p.1 ∈ vs) → wipe (putS σ ws) vs = wipe σ vs
  | [], σ, _ => rfl
  | p :: ws, σ, h => by
    show wipe (putS (σ.set p.1 (some p.2)) ws) vs = _
    rw [wipe_put vs ws _ fun q hq => h q (List.mem_cons_of_mem _ hq), wipe_set σ vs (h p (List.mem_cons_self ..))]
theorem paired_ix {ps : List (Nat × D)} {ws : List (Nat × V)} (h : Paired (fun p q => p.1 = q.1 ∧ RelD Γ ι H p.2 q.2) ps ws) {own : List Nat} (ho : ∀ p ∈ ps, p.1 ∈ own) : ∀ q ∈ ws, q.1 ∈ own := by
  induction h with
  | nil => intro q hq; cases hq
  | @cons p q r t e _ ih =>
    intro x hx
    rcases List.mem_cons.mp hx with rfl | hx
    · rw [← e.1]; exact ho _ (List.mem_cons_self ..)
    · exact ih (fun y hy => ho y (List.mem_cons_of_mem _ hy)) x hx
theorem R.nox_sat {α : Type} {r : R α} {Q : α → HS → Prop} {E E' : Nat → HS → Prop} (h : r.nox.Sat Q E) : r.Sat Q E' := by
  cases r with
  | ok a h1 => exact h
  | exc c h1 => exact h.elim
  | bad => exact h.elim
end
abbrev FTs (X : Cx) (Γ : Sta) (E : XK) (es : List Expr) (m : M Bool) : Prop := PTs X es (tFT Γ E m)
section
variable {X : Cx} {Γ : Sta} {E : XK} {a b c e tg : Expr} {ma mb : M D} {mt : M Bool} {ml : M (List D)} {pos : Pos}
theorem PTs.weak {es : List Expr} {t t' : TT} (h : PTs X es t) (w : ∀ σ H Q, t' σ H Q → t σ H Q) : PTs X es t' := ⟨fun pins s σ H Q I q => h.run pins s σ H Q I (w _ _ _ q)⟩
theorem fts_nil : FTs X Γ E [] mYes := PTs.weak pts_nil fun σ H Q ⟨ι, ls, hs, rp, rl, sat⟩ => sat ι H (Step.refl _ _) rp
theorem fts_one (h : FT X Γ E c mt) : FTs X Γ E [c] mt := pts_one h
theorem hide_none {H : Hp} {a : Addr} (h : H a = none) : hide H a = H := by
  funext b
  by_cases e : b = a
  · rw [e, hide_same, h]
  · rw [hide_ne e]
theorem lc_sat {own : List Nat} {g : MG} {me : M D} {gd : Option Nat} {ι1 : Ix} {H1 : Hp} {hs0 : HS} {J : It} {ds : List D} {Q : VK} (wk : WalkD Γ J ι1 H1 hs0 ds gd) {ls : LS} {hs : HS} {σ : St} {E : XK} (rp1 : Rep Γ ι1 hs H1) (rl : RelL Γ ι1 H1 ls σ)
    (sat : (lcD own g mt me gd hs0 (wipeL ls own) ds [] hs).Sat (PostL Γ ι1 H1 Q) (PostX Γ ι1 H1 E)) (D' : Addr) (hD : H1 D' = none) :
    ∃ W : Nat → Nat → Hp → Prop, (∃ m, W 0 m (upd H1 D' (.lst []))) ∧ ∀ i m H, W i m H →
      (J.stop i H ∧ Q (.ref D') H) ∨ (J.go i H ∧ ∃ Nx : Hp → Prop, (∀ H', Nx H' → ∃ m', m' < m ∧ W (i + 1) m' H') ∧ ∀ x H', J.yld i H x H' → tGt Γ g x (wipe σ own) H' fun σ2 H2 => wipe σ2 own = wipe σ own ∧ tFT Γ E0 mt σ2 H2 fun b H3 =>
        if b = true then tF Γ E0 me σ2 H3 fun y H4 => ∃ acc, H4 D' = some (.lst acc) ∧ acc.length < sizeLine ∧ Nx (upd H4 D' (.lst (acc ++ [y]))) else Nx H3) := by
  have rlw := RelL.wipe rl own
  refine ⟨fun i m H => m = ds.length - i ∧ i ≤ ds.length ∧ ∃ κ hs acc vacc, H D' = some (.lst vacc) ∧ Step ι1 H1 κ (hide H D') ∧ Rep Γ κ hs (hide H D') ∧ RelDs Γ κ (hide H D') acc vacc ∧ (lcD own g mt me gd hs0 (wipeL ls own) (ds.drop i) acc hs).Sat (PostL Γ ι1 H1 Q) (PostX Γ ι1 H1 E),
    ⟨_, rfl, Nat.zero_le _, ι1, hs, [], [], upd_same, by rw [hide_upd, hide_none hD]; exact Step.refl _ _, by rw [hide_upd, hide_none hD]; exact rp1, .nil, sat⟩, ?_⟩
  rintro i m H ⟨rfl, hi, κ, hs, acc, vacc, hacc, st, rp, racc, sat⟩
  have eH : upd (hide H D') D' (.lst vacc) = H := by rw [upd_hide, upd_self hacc]
  have rpB : Rep Γ (κ.ban D') hs H := by
    have := Rep.enter (o := HO.lst vacc) trivial rp hide_same
    rw [eH] at this
    exact this
  have stB : Step κ (hide H D') (κ.ban D') H := by
    have := Step.enter (ι := κ) (H := hide H D') (o := HO.lst vacc) hide_same
    rw [eH] at this
    exact this
  by_cases hlt : i < ds.length
  · have hd : ds.drop i = ds[i] :: ds.drop (i + 1) := List.drop_eq_getElem_cons hlt
    rw [hd] at sat
    unfold lcD at sat
    split at sat
    · rename_i hg
      obtain ⟨w1, _⟩ := wk (κ.ban D') H hs (st.trans stB) rpB hg
      obtain ⟨go, yl⟩ := w1 i ds[i] (List.getElem?_eq_getElem hlt)
      refine .inr ⟨go, fun H' => i + 1 ≤ ds.length ∧ ∃ κ hs acc vacc, H' D' = some (.lst vacc) ∧ Step ι1 H1 κ (hide H' D') ∧ Rep Γ κ hs (hide H' D') ∧ RelDs Γ κ (hide H' D') acc vacc ∧ (lcD own g mt me gd hs0 (wipeL ls own) (ds.drop (i + 1)) acc hs).Sat (PostL Γ ι1 H1 Q) (PostX Γ ι1 H1 E),
        fun H' q => ⟨ds.length - (i + 1), by omega, rfl, q.1, q.2⟩, fun x H' y => ?_⟩
      obtain ⟨st2, rp2, rd⟩ := yl x H' y
      cases eg : g ds[i] with
      | none => rw [eg] at sat; exact sat.elim
      | some ps =>
        rw [eg] at sat
        simp only at sat
        split at sat
        · rename_i hps
          have hps' : ∀ p ∈ ps, p.1 ∈ own := by simpa using hps
          refine ⟨κ.ban D', hs, ds[i], ps, rp2, rd, eg, fun ws hw => ⟨?_, ?_⟩⟩
          · rw [wipe_put own ws _ (paired_ix hw hps'), wipe_wipe]
          · have stA := (st.trans stB).trans st2
            have rl2 : RelL Γ (κ.ban D') H' (putL (wipeL ls own) ps) (putS (wipe σ own) ws) := RelL.putAll (rp1.relL stA rlw) hw
            have accAt : ∀ {κ3 : Ix} {H3 : Hp}, Step (κ.ban D') H κ3 H3 → H3 D' = some (.lst vacc) := fun s3 => s3.keep D' _ hacc (rp.fresh hide_same).l (by intro ps q; cases q)
            -- behind a part of the turn, back to the view without the list
            have back : ∀ {κ3 : Ix} {H3 : Hp} {h3 : HS}, Step (κ.ban D') H κ3 H3 → Rep Γ κ3 h3 H3 → D' ∈ κ3.fb ∧ Step κ (hide H D') (κ3.unban D') (hide H3 D') ∧ Rep Γ (κ3.unban D') h3 (hide H3 D') := fun {κ3 H3 h3} s3 r3 => by
              have hf : D' ∈ κ3.fb := by
                obtain ⟨e, f, he, _, _⟩ := s3.ext
                rw [he]
                exact List.mem_append_right _ (List.mem_cons_self ..)
              refine ⟨hf, ?_, r3.leave (accAt s3) trivial hf⟩
              rw [← eH] at s3
              exact Step.leave hide_same (rp.fresh hide_same).fb s3
            refine ⟨κ.ban D', putL (wipeL ls own) ps, hs, rp2, rl2, R.nox_sat (E' := PostX Γ (κ.ban D') H' E0) (sat.of_bind.mono (fun c h1 s1 ι3 H3 st3 rp3 => ?_) fun _ _ e => e)⟩
            cases c with
            | false =>
              obtain ⟨hf, sb, rb⟩ := back (st2.trans st3) rp3
              exact ⟨hlt, ι3.unban D', h1, acc, vacc, accAt (st2.trans st3), st.trans sb, rb, rp.relDs sb racc, s1⟩
            | true =>
              simp only [if_true] at s1 ⊢
              refine ⟨ι3, putL (wipeL ls own) ps, h1, rp3, rp2.relL st3 rl2, R.nox_sat (E' := PostX Γ ι3 H3 E0) (s1.of_bind.mono (fun y h2 s2 ι4 H4 v st4 rp4 ry => ?_) fun _ _ e => e)⟩
              split at s2
              · rename_i hz
                have s34 := (st2.trans st3).trans st4
                obtain ⟨hf, sb, rb⟩ := back s34 rp4
                refine ⟨vacc, accAt s34, by rw [← Paired.length racc]; exact hz, hlt, ι4.unban D', h2, acc ++ [y], vacc ++ [v], upd_same, ?_, ?_, ?_, s2⟩
                · rw [hide_upd]; exact st.trans sb
                · rw [hide_upd]; exact rb
                · rw [hide_upd]; exact Paired.app (rp.relDs sb racc) (.cons (ry.leave (accAt s34) trivial hf) .nil)
              · exact s2.elim
        · exact sat.elim
    · exact sat.elim
  · have e : i = ds.length := by omega
    subst e
    rw [List.drop_length] at sat
    unfold lcD at sat
    split at sat
    · rename_i hg
      refine .inl ⟨(wk (κ.ban D') H hs (st.trans stB) rpB hg).2, ?_⟩
      have q := sat κ (hide H D') vacc D' st rp racc hide_same
      rw [eH] at q
      exact q
    · exact sat.elim
theorem fl_lc {elt iter : Expr} {ifs : List Expr} {scope : Scope} {own : List (Str × Nat)} {mi : MI} {g : MG} {me : M D} (hc : X.calm = true) (hN : X.N.Nodup) (hi : FI X Γ E tg iter mi) (ok : BlkOk X.N X.env.scope scope own)
    (hg : ∀ (s : Shared) (H : Hp) (C : Addr) (cl : List (Str × Addr)) (fp : List Addr), FG (X.blk s H scope (compEnvC scope cl C X.env) fp) Γ tg g)
    (ht : ∀ (s : Shared) (H : Hp) (C : Addr) (cl : List (Str × Addr)) (fp : List Addr), FTs (X.blk s H scope (compEnvC scope cl C X.env) fp) Γ E0 ifs mt)
    (he : ∀ (s : Shared) (H : Hp) (C : Addr) (cl : List (Str × Addr)) (fp : List Addr), FE (X.blk s H scope (compEnvC scope cl C X.env) fp) Γ E0 elt me)
    (hs : ∀ x, foldedSetIterable iter X.env x = pure x := by intro _; rfl) : FL X Γ E (.ListComp elt [⟨tg, iter, ifs, 0⟩] scope pos) (mLc (own.map (·.2)) mi g mt me) :=
  PE.weak (pe_lc hc hN hi ok hg ht he hs) fun σ H Q q => by
    obtain ⟨ι, ls, hs, rp, rl, sat⟩ := q
    refine ⟨ι, ls, hs, rp, rl, sat.of_bind.mono (fun p h1 s1 ι1 H1 J st1 rp1 wk D' hD => ?_) fun _ _ e => e⟩
    exact lc_sat wk rp1 (rp.relL st1 rl) (s1.mono (fun _ _ p => PostL.on p st1) fun _ _ p => PostX.on p st1) D' hD
/-- y = [..], y a plain local -/
theorem fs_setLc {i : Nat} {y : Str} {py : Pos} {elt iter : Expr} {ifs : List Expr} {scope : Scope} {own : List (Str × Nat)} {spos : Pos} {mi : MI} {g : MG} {me : M D} (hc : X.calm = true) (hN : X.N.Nodup) (hy : X.N[i]? = some y) (hyl : X.env.scope.names.lookup y = some .local)
    (hsw : swapsWith (.ListComp elt [⟨tg, iter, ifs, 0⟩] scope pos) (some (.Name y py)) spos.line X.env = pure true) (hi : FI X Γ E tg iter mi) (ok : BlkOk X.N X.env.scope scope own)
    (hg : ∀ (s : Shared) (H : Hp) (C : Addr) (cl : List (Str × Addr)) (fp : List Addr), FG (X.blk s H scope (compEnvC scope cl C X.env) fp) Γ tg g)
    (ht : ∀ (s : Shared) (H : Hp) (C : Addr) (cl : List (Str × Addr)) (fp : List Addr), FTs (X.blk s H scope (compEnvC scope cl C X.env) fp) Γ E0 ifs mt)
    (he : ∀ (s : Shared) (H : Hp) (C : Addr) (cl : List (Str × Addr)) (fp : List Addr), FE (X.blk s H scope (compEnvC scope cl C X.env) fp) Γ E0 elt me)
    (hs : ∀ x, foldedSetIterable iter X.env x = pure x := by intro _; rfl) : FS X Γ E (.Assign [.Name y py] (.ListComp elt [⟨tg, iter, ifs, 0⟩] scope pos) spos) (mSet i (mVal (mLc (own.map (·.2)) mi g mt me))) :=
  PS.weak (ps_setLc hc hN hy hyl hsw hi ok hg ht he hs) fun D' σ H q => by
    obtain ⟨ι, ls, hs, rp, rl, sat⟩ := q
    refine ⟨ι, ls, hs, rp, rl, ?_⟩
    have s2 := R.toS_sat sat
    refine s2.of_bind.of_bind.mono (fun p h1 s1 ι1 H1 J st1 rp1 wk D'' hD => ?_) fun _ _ e => e
    refine lc_sat (Q := fun v H' => D'.nx (σ.set i (some v)) H') wk rp1 (rp.relL st1 rl) (s1.mono (fun ds h2 p ι2 H2 vs pp st2 rp2 rv hp => ?_) fun _ _ p => PostX.on p st1) D'' hD
    have st := Step.new (ι := ι2) (o := HO.lst vs) hp
    have sA := (st1.trans st2).trans st
    exact p ι2 _ _ sA (rp2.new hp) ((rp.relL sA rl).set i (RelD.mkLst (rp2.fresh hp) upd_same (rp2.relDs st rv)))
end
end Fx

set_option Elab.async false
set_option linter.all false
set_option maxRecDepth 100000
namespace Fx
open PySem L2

def dropD (kvs : List (Key × D)) (k : Key) : List (Key × D) := kvs.filter fun p => decide (p.1 ≠ k)
def putFD (f : Str) (v : D) : List (Str × D) → List (Str × D)
  | [] => [(f, v)]
  | (g, x) :: r => if g = f then (g, v) :: r else (g, x) :: putFD f v r
def opnAt (hs : HS) (n : Nat) : Option (List (Key × D)) := match hs[n]? with
  | some (.dct false kvs) => some kvs
  | _ => none
section
variable {Γ : Sta} {ι ι1 : Ix} {H H1 : Hp} {hs : HS}
abbrev PK' (Γ : Sta) (ι : Ix) (H : Hp) {κ : Type} : List (κ × D) → List (κ × V) → Prop := Paired (fun p q => p.1 = q.1 ∧ RelD Γ ι H p.2 q.2)
theorem put_rel {kvs : List (Key × D)} {kvs' : List (Key × V)} (r : PK' Γ ι H kvs kvs') {k : Key} {d : D} {v : V} (h : RelD Γ ι H d v) : PK' Γ ι H (putD kvs k d) (putK kvs' k v) := by
  unfold putD putK
  have e : (lk kvs k).isSome = (kvs'.any fun kv => decide (kv.1 = k)) := by
    rw [valV_any]
    have q := lk_rel r k
    cases hq : lk kvs k with
    | none => rw [q.2 hq]; rfl
    | some d => obtain ⟨v, e1, _⟩ := q.1 d hq; rw [e1]; rfl
  rw [e]
  split
  · rename_i hh
    clear e hh
    induction r with
    | nil => exact .nil
    | @cons p q _ _ e _ ih =>
      simp only [List.map_cons]
      refine .cons ?_ ih
      rw [e.1]
      split
      · exact ⟨rfl, h⟩
      · exact ⟨e.1, e.2⟩
  · exact Paired.app r (.cons ⟨rfl, h⟩ .nil)
theorem drop_rel {kvs : List (Key × D)} {kvs' : List (Key × V)} (r : PK' Γ ι H kvs kvs') (k : Key) : PK' Γ ι H (dropD kvs k) (dropK kvs' k) := by
  unfold dropD dropK
  induction r with
  | nil => exact .nil
  | @cons p q _ _ e _ ih =>
    rw [List.filter_cons, List.filter_cons, e.1]
    split
    · exact .cons e ih
    · exact ih
theorem putF_rel {fs : List (Str × D)} {fs' : List (Str × V)} (r : PK' Γ ι H fs fs') {f : Str} {d : D} {v : V} (h : RelD Γ ι H d v) : PK' Γ ι H (putFD f d fs) (putF f v fs') := by
  induction r with
  | nil => exact .cons ⟨rfl, h⟩ .nil
  | @cons p q _ _ e t ih =>
    obtain ⟨pk, pd⟩ := p
    obtain ⟨qk, qv⟩ := q
    obtain ⟨e1, e2⟩ := e
    simp only at e1 e2
    subst e1
    unfold putFD putF
    split
    · exact .cons ⟨rfl, h⟩ t
    · exact .cons ⟨rfl, e2⟩ ih
theorem pk_step {κ : Type} (rp : Rep Γ ι hs H) (st : Step ι H ι1 H1) {kvs : List (κ × D)} {kvs' : List (κ × V)} (r : PK' Γ ι H kvs kvs') : PK' Γ ι1 H1 kvs kvs' := Paired.imp (fun _ _ q => ⟨q.1, rp.relD st q.2⟩) r
theorem opn_rel (rp : Rep Γ ι hs H) {n : Nat} {a : Addr} (hn : ι.l[n]? = some a) {kvs : List (Key × D)} (h : opnAt hs n = some kvs) : ∃ kvs', H a = some (.dK kvs') ∧ PK' Γ ι H kvs kvs' := by
  unfold opnAt at h
  cases q : hs[n]? with
  | none => rw [q] at h; cases h
  | some o =>
    rw [q] at h
    cases o with
    | dct b ks =>
      cases b with
      | false =>
        cases h
        obtain ⟨kvs', z, r⟩ := rp.ob n a _ hn q
        rcases z with ⟨z, _⟩ | ⟨_, _, z⟩
        · exact ⟨kvs', z, r⟩
        · cases z
      | true => cases h
    | lst _ => cases h
    | ins _ _ => cases h
/-- a dict, a list, an instance behind a number is changed -/
theorem wr_dct (rp : Rep Γ ι hs H) {n : Nat} {a : Addr} (hn : ι.l[n]? = some a) {k0 : List (Key × V)} (h0 : H a = some (.dK k0)) {kvs : List (Key × D)} {kvs' : List (Key × V)} (r : PK' Γ ι H kvs kvs') :
    Step ι H ι (upd H a (.dK kvs')) ∧ Rep Γ ι (hs.set n (.dct false kvs)) (upd H a (.dK kvs')) := by
  have hw : ∀ od u, H a ≠ some (.frz od u) := fun od u z => by rw [h0] at z; cases z
  have st := Step.write (ι := ι) (o := HO.dK kvs') (List.mem_of_getElem? hn) hw
  exact ⟨st, rp.write hw hn ⟨kvs', .inl ⟨upd_same, rfl⟩, pk_step rp st r⟩⟩
theorem wr_lst (rp : Rep Γ ι hs H) {n : Nat} {a : Addr} (hn : ι.l[n]? = some a) {k0 : List V} (h0 : H a = some (.lst k0)) {ds : List D} {vs : List V} (r : RelDs Γ ι H ds vs) :
    Step ι H ι (upd H a (.lst vs)) ∧ Rep Γ ι (hs.set n (.lst ds)) (upd H a (.lst vs)) := by
  have hw : ∀ od u, H a ≠ some (.frz od u) := fun od u z => by rw [h0] at z; cases z
  have st := Step.write (ι := ι) (o := HO.lst vs) (List.mem_of_getElem? hn) hw
  exact ⟨st, rp.write hw hn ⟨vs, upd_same, rp.relDs st r⟩⟩
theorem wr_ins (rp : Rep Γ ι hs H) {n : Nat} {a dx C : Addr} (hn : ι.l[n]? = some a) {k0 : List (Str × V)} (h0 : H a = some (.ins C dx k0)) {c : Nat} (hC : C = Γ.cls c) {fs : List (Str × D)} {fs' : List (Str × V)} (r : PK' Γ ι H fs fs') :
    Step ι H ι (upd H a (.ins C dx fs')) ∧ Rep Γ ι (hs.set n (.ins c fs)) (upd H a (.ins C dx fs')) := by
  have hw : ∀ od u, H a ≠ some (.frz od u) := fun od u z => by rw [h0] at z; cases z
  have st := Step.write (ι := ι) (o := HO.ins C dx fs') (List.mem_of_getElem? hn) hw
  subst hC
  exact ⟨st, rp.write hw hn ⟨dx, fs', upd_same, pk_step rp st r⟩⟩
end
/-! ### stores -/
def toS {α : Type} (o : Option α) (f : α → SR) : SR := match o with
  | some a => f a
  | none => .bad
theorem toS_sat {α : Type} {o : Option α} {f : α → SR} {K : SK} (h : (toS o f).Sat K) : ∃ a, o = some a ∧ (f a).Sat K := by
  cases o with
  | none => exact h.elim
  | some a => exact ⟨a, rfl, h⟩
def setAttrF (cs : List Nat) (f : Str) (hs : HS) (o v : D) : Option HS := match o with
  | .ref n => (insAt hs n).bind fun p => if p.1 ∈ cs ∧ p.2.length < 1000 then some (hs.set n (.ins p.1 (putFD f v p.2))) else none
  | _ => none
def mSetAttr (cs : List Nat) (f : Str) (mo mv : M D) : MS := fun ls hs => (mv ls hs).toS fun v h1 => (mo ls h1).toS fun o h2 => toS (setAttrF cs f h2 o v) fun h3 => .nx ls h3
/-- a op= b, by values -/
abbrev IF := HS → D → D → Option (D × HS)
def pureI (f : HS → D → D → Option D) : IF := fun hs x y => (f hs x y).map fun z => (z, hs)
def iaddF : IF := fun hs x y => match x, y with
  | .int i, .int j => some (.int (i + j), hs)
  | .str i, .str j => if i.length + j.length ≤ sizeLine then some (.str (i ++ j), hs) else none
  | .ref n, y => (lstAt hs n).bind fun xs => (seqL hs y).bind fun ys => if xs.length + ys.length ≤ sizeLine then some (.ref n, hs.set n (.lst (xs ++ ys))) else none
  | _, _ => none
def InS (Γ : Sta) (r : R2) (f : IF) : Prop := ∀ ι hs H x y dx dy d hs' Q, Rep Γ ι hs H → RelD Γ ι H dx x → RelD Γ ι H dy y → f hs dx dy = some (d, hs') →
  (∀ ι' H' v, Step ι H ι' H' → Rep Γ ι' hs' H' → RelD Γ ι' H' d v → Q v H') → r x y H Q
def mAug (i : Nat) (f : IF) (m : M D) : MS := fun ls hs => toS ((ls[i]?).bind id) fun dx => (m ls hs).toS fun dy h => toS (f h dx dy) fun p => .nx (ls.set i (some p.1)) p.2
def attrC (cs : List Nat) (f : Str) : HS → D → Option (Nat × D) := fun hs x => match x with
  | .ref n => (insAt hs n).bind fun p => if p.1 ∈ cs then (p.2.lookup f).map fun d => (p.1, d) else none
  | _ => none
def mAugAttr (cs : List Nat) (a : Str) (f : IF) (mo m : M D) : MS := fun ls hs => (mo ls hs).toS fun o h1 => toS (attrC cs a h1 o) fun q => (m ls h1).toS fun dy h2 => toS (f h2 q.2 dy) fun p => toS (setAttrF [q.1] a p.2 o p.1) fun h3 => .nx ls h3
abbrev SF := HS → D → D → D → Option HS
def setLF : SF := fun hs o i v => match o, i with
  | .ref n, .int k => (lstAt hs n).bind fun ds => (ixN ds.length k).map fun j => hs.set n (.lst (ds.set j v))
  | _, _ => none
def setDF : SF := fun hs o i v => match o with
  | .ref n => (opnAt hs n).bind fun kvs => i.key.bind fun k => if kvs.length < sizeLine then some (hs.set n (.dct false (putD kvs k v))) else none
  | _ => none
def orS (f g : SF) : SF := fun hs o i v => (f hs o i v).or (g hs o i v)
def mSetSub (f : SF) (mo mi mv : M D) : MS := fun ls hs => (mv ls hs).toS fun v h1 => (mo ls h1).toS fun o h2 => (mi ls h2).toS fun i h3 => toS (f h3 o i v) fun h4 => .nx ls h4
def mAugSub (rd : HS → D → D → Option D) (f : IF) (st : SF) (mo mi mv : M D) : MS := fun ls hs => (mo ls hs).toS fun o h1 => (mi ls h1).toS fun i h2 => toS (rd h2 o i) fun x => (mv ls h2).toS fun y h3 => toS (f h3 x y) fun p => toS (st p.2 o i p.1) fun h4 => .nx ls h4
def delDF (hs : HS) (o i : D) : Option HS := match o with
  | .ref n => (opnAt hs n).bind fun kvs => i.key.bind fun k => if (lk kvs k).isSome then some (hs.set n (.dct false (dropD kvs k))) else none
  | _ => none
def mDel (mo mi : M D) : MS := fun ls hs => (mo ls hs).toS fun o h1 => (mi ls h1).toS fun i h2 => toS (delDF h2 o i) fun h3 => .nx ls h3
section
variable {Γ : Sta} {ι : Ix} {H : Hp} {hs : HS}
theorem ins_pure {r : R2} {f : HS → D → D → Option D} (h : OpS Γ r f) : InS Γ r (pureI f) := fun ι hs H x y dx dy d hs' Q rp rx ry e q => by
  simp only [pureI, Option.map_eq_some_iff] at e
  obtain ⟨z, e1, e2⟩ := e
  cases e2
  exact h ι hs H x y dx dy d Q rp rx ry e1 fun H' v st rp' rv => q ι H' v st rp' rv
abbrev rIaddAll : R2 := fun x y H Q => rI0 (fun i j => .int (i + j)) x y H Q ∨ (rAddStr x y H Q ∨ rExt2 x y H Q)
theorem op_iaddAll {X : Cx} : OpR X (inplaceOp .Add) rIaddAll := iop_add.or (iop_add_str.or iop_ext)
theorem ins_add : InS Γ rIaddAll iaddF := fun ι hs H x y dx dy d hs' Q rp rx ry e q => by
  unfold iaddF at e
  split at e
  · cases e; exact .inl ⟨_, _, rx.int_inv, ry.int_inv, q ι H _ (Step.refl _ _) rp (.int _)⟩
  · split at e
    · cases e; rename_i h; exact .inr (.inl ⟨_, _, rx.str_inv, ry.str_inv, h, q ι H _ (Step.refl _ _) rp (.str _)⟩)
    · cases e
  · simp only [Option.bind_eq_some_iff] at e
    obtain ⟨xs, h1, ys, h2, e⟩ := e
    split at e
    · rename_i hl
      cases e
      obtain ⟨a, rfl, hn⟩ := rx.ref_inv
      obtain ⟨vs, e1, r1⟩ := lstAt_rel rp hn h1
      obtain ⟨b, ws, rfl, e2, r2⟩ := seqL_rel rp ry h2
      obtain ⟨st, rp'⟩ := wr_lst rp hn e1 (Paired.app r1 r2)
      exact .inr (.inr ⟨a, b, vs, ws, rfl, rfl, e1, e2, by rw [← Paired.length r1, ← Paired.length r2]; exact hl, q ι _ _ st rp' (.ref hn)⟩)
    · cases e
  · cases e
theorem setAttr_ok (rp : Rep Γ ι hs H) {cs : List Nat} {f : Str} {o v : D} {x y : V} (rx : RelD Γ ι H o x) (ry : RelD Γ ι H v y) (hc : ∀ c ∈ cs, AttrOk Γ c f) {hs' : HS} (e : setAttrF cs f hs o v = some hs') :
    ∃ a C dx fs, x = .ref a ∧ H a = some (.ins C dx fs) ∧ Cls Γ.K C ∧ NoAttr Γ.K C f ∧ fs.length < 1000 ∧ Step ι H ι (upd H a (.ins C dx (putF f y fs))) ∧ Rep Γ ι hs' (upd H a (.ins C dx (putF f y fs))) := by
  unfold setAttrF at e
  split at e
  · simp only [Option.bind_eq_some_iff] at e
    obtain ⟨⟨c, fs⟩, h1, e⟩ := e
    split at e
    · rename_i h
      cases e
      obtain ⟨a, rfl, hn⟩ := rx.ref_inv
      obtain ⟨dx, fs', h2, r⟩ := rp.ob _ a _ hn (insAt_iff.mp h1)
      obtain ⟨st, rp'⟩ := wr_ins rp hn h2 (c := c) rfl (putF_rel r ry)
      exact ⟨a, _, dx, fs', rfl, h2, (hc c h.1).cl, (hc c h.1).na, by rw [← Paired.length r]; exact h.2, st, rp'⟩
    · cases e
  · cases e
end
section
variable {X : Cx} {Γ : Sta} {E : XK} {a b c e o i : Expr} {ma mb mo mi mv : M D} {mt : M Bool} {ml : M (List D)} {pos pos' tpos : Pos} {m : MS} {s : Stmt}
theorem fs_attr {cs : List Nat} {f : Str} (ho : FE X Γ E o mo) (hv : FE X Γ E e mv) (hc : ∀ c ∈ cs, AttrOk Γ c f) (hK : X.K = Γ.K := by rfl) (hs : swapsWith e (some (.Attribute o f pos')) pos.line X.env = pure false := by rfl) : FS X Γ E (.Assign [.Attribute o f pos'] e pos) (mSetAttr cs f mo mv) :=
  PS.weak (ps_fld ho hv hs) fun D' σ H q => sV q fun ι ls hs v h1 rp rl s1 ι1 H1 y st1 rp1 ry => by
    refine ⟨ι1, ls, h1, rp1, rp.relL st1 rl, (R.toS_sat s1).mono (fun o' h2 s2 ι2 H2 x st2 rp2 rx => ?_) fun _ _ p => PostX.on p st1⟩
    obtain ⟨h3, e1, s3⟩ := toS_sat s2
    obtain ⟨a, C, dx, fs, rfl, h4, c1, c2, hl, st, rp'⟩ := setAttr_ok rp2 rx (rp1.relD st2 ry) hc e1
    have sA := (st1.trans st2).trans st
    rw [hK]
    exact ⟨a, C, dx, fs, rfl, h4, c1, c2, hl, s3 ι2 _ σ sA rp' (rp.relL sA rl)⟩
theorem fs_augAttr {cs : List Nat} {f : Str} {op : Operator} {r : R2} {g : IF} (hop : OpR X (inplaceOp op) r) (hg : InS Γ r g) (ho : FE X Γ E o mo) (hv : FE X Γ E e mv) (hc : ∀ c ∈ cs, AttrOk Γ c f) (hK : X.K = Γ.K := by rfl) : FS X Γ E (.AugAssign (.Attribute o f tpos) op e pos) (mAugAttr cs f g mo mv) :=
  PS.weak (ps_fldaug ho hv (rd := r) fun pins s σ H x y u v Q I rx ry q => hop pins s σ H x y u v Q I rx ry q) fun D' σ H q => sV q fun ι ls hs o' h1 rp rl s1 ι1 H1 x st1 rp1 rx => by
    obtain ⟨⟨c, dx'⟩, e1, s2⟩ := toS_sat s1
    unfold attrC at e1
    split at e1
    · rename_i n
      simp only [Option.bind_eq_some_iff] at e1
      obtain ⟨⟨c1, fs⟩, h2, e1⟩ := e1
      split at e1
      · rename_i hcs
        simp only [Option.map_eq_some_iff] at e1
        obtain ⟨d1, e1, e1'⟩ := e1
        cases e1'
        obtain ⟨a, rfl, h3⟩ := rx.ref_inv
        obtain ⟨dx, fs', h4, rf⟩ := rp1.ob _ a _ h3 (insAt_iff.mp h2)
        obtain ⟨v0, h5, h6⟩ := (look_rel rf f).1 dx' e1
        have k := hc c hcs
        rw [hK]
        refine ⟨a, _, dx, fs', v0, rfl, h4, k.cl, k.na, h5, ι1, ls, h1, rp1, rp.relL st1 rl, (R.toS_sat s2).mono (fun dy h7 s3 ι2 H2 y st2 rp2 ry => ?_) fun _ _ p => PostX.on p st1⟩
        obtain ⟨⟨z, h8⟩, e2, s4⟩ := toS_sat s3
        refine hg ι2 h7 H2 v0 y dx' dy z h8 _ rp2 (rp1.relD st2 h6) ry e2 fun ι3 H3 zv st3 rp3 rz => ?_
        obtain ⟨h9, e3, s5⟩ := toS_sat s4
        have e3' := e3
        unfold setAttrF at e3'
        simp only [Option.bind_eq_some_iff] at e3'
        obtain ⟨⟨c2, fs2⟩, h10, e3'⟩ := e3'
        split at e3'
        · rename_i h11
          have hcc : c2 = c := by simpa using h11.1
          subst hcc
          cases e3'
          obtain ⟨dx3, fs3, h12, r3⟩ := rp3.ob n a _ ((st2.trans st3).get h3) (insAt_iff.mp h10)
          obtain ⟨st, rp'⟩ := wr_ins rp3 ((st2.trans st3).get h3) h12 (c := c2) rfl (putF_rel r3 (f := f) rz)
          have sA := ((st1.trans st2).trans st3).trans st
          exact ⟨dx3, fs3, h12, by rw [← Paired.length r3]; exact h11.2, s5 ι3 _ σ sA rp' (rp.relL sA rl)⟩
        · cases e3'
      · cases e1
    · cases e1
theorem fs_aug {j : Nat} {x : Str} {op : Operator} {r : R2} {g : IF} (hop : OpR X (inplaceOp op) r) (hg : InS Γ r g) (hN : X.N.Nodup) (hi : X.N[j]? = some x) (hx : Loc X.env.scope x) (he : FE X Γ E e mv) (hf : X.fn x = true ∨ X.env.scope.names.lookup x = some .local := by first | exact .inl rfl | exact .inr rfl | assumption) :
    FS X Γ E (.AugAssign (.Name x pos') op e pos) (mAug j g mv) := PS.weak (ps_aug hN hi hx he (ti := r) (fun pins s σ H x y v u Q I rx ry q => hop pins s σ H x y v u Q I rx ry q) hf) fun D' σ H ⟨ι, ls, hs, rp, rl, sat⟩ => by
  obtain ⟨dx, e1, s1⟩ := toS_sat sat
  have e' : ls[j]? = some (some dx) := by
    cases q : ls[j]? with
    | none => rw [q] at e1; cases e1
    | some o => rw [q] at e1; exact congrArg some e1
  obtain ⟨v, h1, h2⟩ := rl.2 j dx e'
  refine ⟨v, h1, ι, ls, hs, rp, rl, (R.toS_sat s1).mono (fun dy h3 s2 ι1 H1 y st1 rp1 ry => ?_) fun _ _ p => p⟩
  obtain ⟨⟨z, h4⟩, e2, s3⟩ := toS_sat s2
  exact hg ι1 h3 H1 v y dx dy z h4 _ rp1 (rp.relD st1 h2) ry e2 fun ι2 H2 zv st2 rp2 rz => s3 ι2 H2 _ (st1.trans st2) rp2 ((rp.relL (st1.trans st2) rl).set j rz)
end
end Fx

set_option Elab.async false
set_option linter.all false
set_option maxRecDepth 100000
namespace Fx
open PySem L2
section
variable {X : Cx} {Γ : Sta} {E : XK} {a b c e o i : Expr} {ma mb mo mi mv : M D} {mt : M Bool} {ml : M (List D)} {pos pos' tpos : Pos} {m : MS} {s : Stmt}

/-! ### o[i] = v -/
def SetS (Γ : Sta) (r : TSet) (f : SF) : Prop := ∀ ι hs H (x y z : V) dx dy dz hs' (Q : Hp → Prop), Rep Γ ι hs H → RelD Γ ι H dx x → RelD Γ ι H dy y → RelD Γ ι H dz z → f hs dx dy dz = some hs' →
  (∀ H', Step ι H ι H' → Rep Γ ι hs' H' → Q H') → r x y z H Q
theorem sets_l : SetS Γ rSetL setLF := fun ι hs H x y z dx dy dz hs' Q rp rx ry rz e q => by
  unfold setLF at e
  split at e
  · simp only [Option.bind_eq_some_iff, Option.map_eq_some_iff] at e
    obtain ⟨ds, h1, j, h2, rfl⟩ := e
    obtain ⟨a, rfl, hn⟩ := rx.ref_inv
    obtain ⟨vs, e1, r1⟩ := lstAt_rel rp hn h1
    have set : RelDs Γ ι H (ds.set j dz) (vs.set j z) := by
      clear h1 e1 h2 q
      induction r1 generalizing j with
      | nil => exact .nil
      | cons q1 t ih => cases j with
        | zero => exact .cons rz t
        | succ j => exact .cons q1 (ih j)
    obtain ⟨st, rp'⟩ := wr_lst rp hn e1 set
    exact ⟨a, vs, _, j, rfl, ry.int_inv, e1, by rw [← Paired.length r1]; exact h2, q _ st rp'⟩
  · cases e
abbrev rSetD : TSet := fun x y z H Q => ∃ a H', x = .ref a ∧ DPut H a y z H' ∧ Q H'
theorem set_dct (hu : X.A.units + 1 < cLine) : PSet X rSetD := fun pins s σ H o i v ov iv u Q I ro ri rv h => by
  obtain ⟨a, H', rfl, hp, q⟩ := h
  obtain rfl : ov = Value.ref a := ro
  exact d_setItem hu I hp ri rv fun s' I' => ⟨H', I', q⟩
theorem sets_d : SetS Γ rSetD setDF := fun ι hs H x y z dx dy dz hs' Q rp rx ry rz e q => by
  unfold setDF at e
  split at e
  · simp only [Option.bind_eq_some_iff] at e
    obtain ⟨kvs, h1, k, h2, e⟩ := e
    split at e
    · rename_i hl
      cases e
      obtain ⟨a, rfl, hn⟩ := rx.ref_inv
      obtain ⟨kvs', e1, r1⟩ := opn_rel rp hn h1
      obtain ⟨st, rp'⟩ := wr_dct rp hn e1 (put_rel r1 (k := k) rz)
      rw [key_rel ry h2]
      exact ⟨a, _, rfl, DPut.k e1 (by rw [← Paired.length r1]; exact hl), q _ st rp'⟩
    · cases e
  · cases e
theorem PSet.or {r r' : TSet} (h : PSet X r) (h' : PSet X r') : PSet X (fun x y z H Q => r x y z H Q ∨ r' x y z H Q) := fun pins s σ H o i v ov iv u Q I ro ri rv q => q.elim (h pins s σ H o i v ov iv u Q I ro ri rv) (h' pins s σ H o i v ov iv u Q I ro ri rv)
theorem SetS.or {r r' : TSet} {f g : SF} (h : SetS Γ r f) (h' : SetS Γ r' g) : SetS Γ (fun x y z H Q => r x y z H Q ∨ r' x y z H Q) (orS f g) := fun ι hs H x y z dx dy dz hs' Q rp rx ry rz e q => by
  unfold orS at e
  cases ef : f hs dx dy dz with
  | some d' => rw [ef] at e; exact .inl (h ι hs H x y z dx dy dz hs' Q rp rx ry rz (by rw [ef]; exact e) q)
  | none => rw [ef] at e; exact .inr (h' ι hs H x y z dx dy dz hs' Q rp rx ry rz e q)
def setF := orS setLF setDF
abbrev rSetA : TSet := fun x y z H Q => rSetL x y z H Q ∨ rSetD x y z H Q
theorem sets_all : SetS Γ rSetA setF := sets_l.or sets_d
theorem fs_setSub {k : Nat} (hr : Room k X.A) (ho : FE X Γ E o mo) (hi : FE X Γ E i mi) (hv : FE X Γ E e mv)
    (ha : ∀ v, assign (.Subscript o i pos') X.env v = (do
      let ov ← holding [v] (eval o X.env)
      let iv ← holding [v, ov] (eval i X.env)
      standAt pos'
      holding [v, ov, iv] (setItem ov iv v)
      release [v, ov, iv] []) := by intro _; rfl)
    (hs : swapsWithSole [.Subscript o i pos'] e pos.line X.env = pure false := by rfl) (hw : swappedStores [.Subscript o i pos'] e X.env = pure none := by rfl)
    (h1 : (assignEach [.Subscript o i pos'] X.env).map (·.2) = [assign (.Subscript o i pos') X.env] := by rfl) : FS X Γ E (.Assign [.Subscript o i pos'] e pos) (mSetSub setF mo mi mv) :=
  PS.weak (ps_asg hv (pg_sub ho hi (PSet.or set_list (set_dct (hu_of hr))) ha) hs hw h1) fun D' σ H q => sV q fun ι ls hs v h1 rp rl s1 ι1 H1 z st1 rp1 rz => by
    refine ⟨ι1, ls, h1, rp1, rp.relL st1 rl, (R.toS_sat s1).mono (fun o' h2 s2 ι2 H2 x st2 rp2 rx => ?_) fun _ _ p => PostX.on p st1⟩
    refine ⟨ι2, ls, h2, rp2, rp.relL (st1.trans st2) rl, (R.toS_sat s2).mono (fun i' h3 s3 ι3 H3 y st3 rp3 ry => ?_) fun _ _ p => PostX.on p (st1.trans st2)⟩
    obtain ⟨h4, e1, s4⟩ := toS_sat s3
    refine sets_all ι3 h3 H3 x y z o' i' v h4 _ rp3 (rp2.relD st3 rx) ry (rp1.relD (st2.trans st3) rz) e1 fun H4 st4 rp4 => ?_
    have sA := ((st1.trans st2).trans st3).trans st4
    exact s4 ι3 H4 σ sA rp4 (rp.relL sA rl)
/-! ### o[i] op= v -/
end
end Fx

set_option Elab.async false
set_option linter.all false
set_option maxRecDepth 100000
set_option maxHeartbeats 1000000
namespace Fx
open PySem PySem.Spec PyProof.Rows L2

/-! ### generator expressions -/
/-- what it hands out, each with the heap behind it; the heap at the end (none: a turn fails) -/
def gxGo (own : List Nat) (g : MG) (t : M Bool) (e : M D) (gd : Option Nat) (hs1 : HS) (ls : LS) : List D → HS → List (D × HS) × Option HS
  | [], hs => if guardOk gd hs1 hs then ([], some hs) else ([], none)
  | d :: r, hs => if guardOk gd hs1 hs then match g d with
    | none => ([], none)
    | some ps => if ps.all fun p => decide (p.1 ∈ own) then match t (putL ls ps) hs with
        | .ok true h1 => match e (putL ls ps) h1 with
          | .ok y h2 => ((y, h2) :: (gxGo own g t e gd hs1 ls r h2).1, (gxGo own g t e gd hs1 ls r h2).2)
          | _ => ([], none)
        | .ok false h1 => gxGo own g t e gd hs1 ls r h1
        | _ => ([], none)
      else ([], none)
    else ([], none)
/-- the context of its block -/
def gxCx (X : Cx) (A : Around) (s : Shared) (H : Hp) (env : Env) (fp : List Addr) (N : List Str) : Cx where
  prog := X.prog
  w := X.w
  K := X.K
  mg := X.mg
  base := X.base
  A := A.deeper env
  N := N
  s_0 := s
  H_0 := H
  env := env
  outer := X.stack
  stack := env :: X.stack
  ex := fp
  fn := fun _ => false
  calm := true
  pn := []
  xe := fun _ _ => False
/-- while it sleeps its consumer may change the object at S -/
structure SleptG (S gA : Addr) (gO o' : Obj) (s s' : Shared) : Prop where
  os : s'.os = s.os
  bare : AllBare s'.gens
  keep : ∀ b o, b ≠ S → s.heap.get? b = some o → s'.heap.get? b = some o
  own : s'.heap.get? S = some o'
  gen : s'.heap.get? gA = some gO
/-- the consumer's object, by how many it got -/
abbrev OKT := Nat → Ix → Hp → Obj → Prop
def GIx (X : Cx) (Γ : Sta) (ι1 : Ix) (H1 : Hp) (S gA : Addr) (gO : Obj) (OK : OKT) (fp : List Addr) (lsW : LS) (j : Nat) (hs : HS) (ι : Ix) (H : Hp) (σ : L2.St) (o : Obj) (s : Shared) : Prop :=
  Step ι1 H1 ι H ∧ Rep Γ ι hs H ∧ RelL Γ ι H lsW σ ∧ OK j ι H o ∧ Inv X [(S, o), (gA, gO)] σ H s ∧ ∀ b ∈ fp, H b = none
def YGx (X : Cx) (Γ : Sta) (ι1 : Ix) (H1 : Hp) (S gA : Addr) (gO : Obj) (OK : OKT) (fp : List Addr) (lsW : LS) (outs : List (D × HS)) (fin : Option HS) : Protocol := fun m s₀ v s kap =>
  ∃ j d h ι H σ o z, m + j = outs.length ∧ outs[j]? = some (d, h) ∧ GIx X Γ ι1 H1 S gA gO OK fp lsW j h ι H σ o s ∧ RelD Γ ι H d z ∧ RelV z v ∧
    ∀ s' o', SleptG S gA gO o' s s' → OK (j + 1) ι H o' → (∀ x, o'.data ≠ .cell x) → (j + 1 < outs.length ∨ fin.isSome = true) → kap (.send .none) s'
def RGx (X : Cx) (Γ : Sta) (ι1 : Ix) (H1 : Hp) (S gA : Addr) (gO : Obj) (OK : OKT) (fp : List Addr) (lsW : LS) (outs : List (D × HS)) (fin : Option HS) : GenEnd := fun n s₀ r s =>
  ((r = .ok (.ret .none) ∨ r = .ok .next) ∧ (n = 1 ∧ ∃ h ι H σ o, fin = some h ∧ GIx X Γ ι1 H1 S gA gO OK fp lsW outs.length h ι H σ o s)) ∨ ∃ e, r = .error e ∧ False
section
variable {X : Cx} {Γ : Sta} {ι1 : Ix} {H1 : Hp} {S gA : Addr} {gO : Obj} {OK : OKT} {fp : List Addr} {lsW : LS} {outs : List (D × HS)} {fin : Option HS}
theorem RelL.keepOwn {ι : Ix} {H : Hp} {own : List Nat} {ls : LS} {σ : L2.St} (r : RelL Γ ι H (wipeL ls own) σ) {ws : List (Nat × V)} (h : ∀ p ∈ ws, p.1 ∈ own) : RelL Γ ι H (wipeL ls own) (putS σ ws) := by
  have hl : ∀ (ws : List (Nat × V)) (σ : L2.St), (putS σ ws).length = σ.length := by
    intro ws
    induction ws with
    | nil => intro σ; rfl
    | cons p ws ih => intro σ; show (putS (σ.set p.1 (some p.2)) ws).length = _; rw [ih]; simp
  refine ⟨by rw [hl]; exact r.1, fun i d e => ?_⟩
  obtain ⟨v, h1, h2⟩ := r.2 i d e
  refine ⟨v, ?_, h2⟩
  have hi : i ∉ own := fun hm => by
    rw [wipeL_get, if_pos hm] at e
    cases hq : ls[i]? with
    | none => rw [hq] at e; cases e
    | some o => rw [hq] at e; cases e
  clear r e h2
  induction ws generalizing σ with
  | nil => exact h1
  | cons p ws ih =>
    show (putS (σ.set p.1 (some p.2)) ws)[i]? = _
    refine ih (fun q hq => h q (List.mem_cons_of_mem _ hq)) ?_
    rw [List.getElem?_set_ne (fun z => hi (by rw [← z]; exact h p (List.mem_cons_self ..)))]
    exact h1
/-- woken again -/
theorem GIx.woken {j j' : Nat} {hs : HS} {ι : Ix} {H : Hp} {σ : L2.St} {o o' : Obj} {s s' : Shared} (hp : X.pn = []) (hS : (S ∈ X.ex ∨ X.s_0.heap.objs.size ≤ S) ∧ S ≠ X.env.locals ∧ ∀ x c, X.env.cells.lookup x = some c → c ≠ S)
    (h : GIx X Γ ι1 H1 S gA gO OK fp lsW j hs ι H σ o s) (z : SleptG S gA gO o' s s') (ho : OK j' ι H o') (hd : ∀ x, o'.data ≠ .cell x) : GIx X Γ ι1 H1 S gA gO OK fp lsW j' hs ι H σ o' s' := by
  obtain ⟨st, rp, rl, ok, I, fr⟩ := h
  obtain ⟨eS, hS0, hSL, hSf, _⟩ := I.pin (S, o) (List.mem_append_right _ List.mem_cons_self)
  obtain ⟨eg, hg0, hgL, hgf, hgd⟩ := I.pin (gA, gO) (List.mem_append_right _ (List.mem_cons_of_mem _ List.mem_cons_self))
  have I0 : Inv X [] σ H s := I.pins_of fun p hp => by cases hp
  have nt : ∀ b u, H b = some u → b ≠ S := fun b u q hb => by rw [hb] at q; rw [show H S = none from hS0] at q; cases q
  obtain ⟨z1, z2, z3, z4, z5⟩ := z
  obtain ⟨hh, g, d, t, os⟩ := s'
  have e : os = s.os := z1
  subst e
  have nc : ∀ b, b ∉ [S] → b ≠ S := fun b hb e => hb (by rw [e]; exact List.mem_singleton.mpr rfl)
  have J : Inv X [] σ H { s with heap := hh, gens := g, drawn := d, toks := t } := by
    refine I0.step (g' := g) (t' := t) (d' := d) (ch := [S]) (fun b hb => ?_)
      (fun b ob _ _ hc q _ => z3 b ob (nc b hc) q) (fun b ob _ _ hc q _ => ⟨ob.slots, z3 b ob (nc b hc) q⟩) (fun _ _ _ _ n => n) (fun b ob hc q => ⟨ob, z3 b ob (nc b hc) q⟩)
      (fun _ _ q => q) (fun _ _ _ q => q) (fun b ps q => ⟨#[], by rw [q]; simp⟩) (fun m hm => ?_) (fun b u q => ?_) z2
    · rw [List.mem_singleton.mp hb]
      exact ⟨hS.1, hS.2.1, hS.2.2, fun p h => by rw [hp] at h; cases h⟩
    · obtain ⟨ob, es, ep, ho, r⟩ := hm
      exact ⟨ob, es, ep, z3 _ ob (Ne.symm hSL) ho, r⟩
    · refine (I0.hok b u q).stay (fun c v hc y => z3 c v ?_ y) (fun _ y => y) fun _ _ y => y
      rcases hc with y | y
      · rw [y]; exact nt b u q
      · exact nt c _ y
  refine ⟨st, rp, rl, ho, J.pins_of fun p hp => ?_, fr⟩
  rcases List.mem_cons.mp hp with hp | hp
  · rw [hp]
    exact ⟨z4, hS0, hSL, hSf, hd⟩
  · rw [List.mem_singleton.mp hp]
    exact ⟨z5, hg0, hgL, hgf, hgd⟩
end
section
variable {X : Cx} {Γ : Sta} {ι1 : Ix} {H1 : Hp} {S gA it : Addr} {gO : Obj} {OK : OKT} {fp : List Addr} {outs : List (D × HS)} {fin : Option HS} {target iter elt : Expr} {ifs : List Expr} {scope : Scope} {gpos : Pos} {J : It} {tn : Nat → Heap → Prop}
  {g : MG} {mt : M Bool} {me : M D} {own : List Nat} {ls : LS} {ds : List D} {gd : Option Nat} {hs1 : HS} {A : Around}
theorem seg_gx (hpn : X.pn = []) (hc : X.calm = true) (hxe : X.xe = fun _ _ => False) (hco : X.env.scope.isCoroutine = false) (T : Turn X.prog X.w X.K target J fp it tn) (wk : WalkD Γ J ι1 H1 hs1 ds gd)
    (hg : FG X Γ target g) (ht : FTs X Γ E0 ifs mt) (he : FE X Γ E0 elt me) (hA : A.over (.compLoop (.GeneratorExp elt [⟨target, iter, ifs, 0⟩] scope gpos) 0 (.ref it) .none X.env) [] = X.A)
    (hS : (S ∈ X.ex ∨ X.s_0.heap.objs.size ≤ S) ∧ S ≠ X.env.locals ∧ ∀ x c, X.env.cells.lookup x = some c → c ≠ S)
    (hfp : ∀ b ∈ fp, b ≠ X.env.locals ∧ b ∉ X.fs ∧ (b ∈ X.ex ∨ X.s_0.heap.objs.size ≤ b) ∧ (∀ x c, X.env.cells.lookup x = some c → c ≠ b) ∧ S ≠ b ∧ gA ≠ b) (hok : ∀ j ι H ι' H' o, Step ι1 H1 ι H → Step ι H ι' H' → (∀ a vs, H a = some (.tup vs) → a ∉ ι.l) → OK j ι H o → OK j ι' H' o) :
    ∀ (k i j : Nat) (hs : HS) (s₀ s : Shared) (n : Nat) (ι : Ix) (H : Hp) (σ : L2.St) (o : Obj), ds.length - i = k → i ≤ ds.length → j ≤ outs.length → gxGo own g mt me gd hs1 (wipeL ls own) (ds.drop i) hs = (outs.drop j, fin) → n + j = outs.length + 1 → (j < outs.length ∨ fin.isSome = true) →
      GIx X Γ ι1 H1 S gA gO OK fp (wipeL ls own) j hs ι H σ o s → tn i s.heap →
      Seg (model X.prog X.w) A (RGx X Γ ι1 H1 S gA gO OK fp (wipeL ls own) outs fin) (YGx X Γ ι1 H1 S gA gO OK fp (wipeL ls own) outs fin) n s₀ (.compLoop (.GeneratorExp elt [⟨target, iter, ifs, 0⟩] scope gpos) 0 (.ref it) .none X.env)
        ((model X.prog X.w).den (.compLoop (.GeneratorExp elt [⟨target, iter, ifs, 0⟩] scope gpos) 0 (.ref it) .none X.env)) [] s := by
  have stat : ∀ {o : Obj} {H' : Hp}, (∀ b ∈ fp, H' b = none) → ∀ b ∈ fp, FpOk X [(S, o), (gA, gO)] H' b := fun {o H'} hn b hb => by
    obtain ⟨a1, a2, a3, a4, a5, a6⟩ := hfp b hb
    refine ⟨hn b hb, a1, a2, a3, a4, fun p hp => ?_⟩
    rw [hpn] at hp
    rcases List.mem_cons.mp hp with hp | hp
    · rw [hp]; exact a5
    · rw [List.mem_singleton.mp hp]; exact a6
  intro k
  induction k with
  | zero =>
    intro i j hs s₀ s n ι H σ o hk hi hj hgo hn hfin hG hst
    have hin : i = ds.length := by omega
    subst hin
    rw [List.drop_length] at hgo
    unfold gxGo at hgo
    show Seg _ A _ _ _ s₀ _ ((compTurn (.GeneratorExp elt [⟨target, iter, ifs, 0⟩] scope gpos) 0 (.ref it) .none X.env).onRaise (leaving X.env)) [] s
    rw [compTurn_gen, Sem.onRaise_eq_wrap]
    refine seg_bind_wrap (wpAny_standAt ?_)
    obtain ⟨st, rp, rl, ok, I, fr⟩ := hG
    split at hgo
    · rename_i hgd
      injection hgo with e1 e2
      have hjl : j = outs.length := by
        have := congrArg List.length e1
        simp at this
        omega
      subst hjl
      refine seg_bind_wrap ?_
      rw [hA]
      refine wpAny_mono (T.done X rfl rfl rfl hc _ _ s σ H _ I (stat fr) hst ((wk ι H hs st rp hgd).2)) (fun r s1 ⟨hr, I1⟩ => ?_) fun _ _ e => e
      subst hr
      exact seg_end (.ok .next) (.inl ⟨.inr rfl, by omega, hs, ι, H, σ, o, e2.symm, st, rp, rl, ok, I1, fr⟩)
    · injection hgo with e1 e2
      exfalso
      have hjl : j = outs.length := by
        have := congrArg List.length e1
        simp at this
        omega
      rw [← e2] at hfin
      rcases hfin with q | q
      · omega
      · cases q
  | succ k ih =>
    intro i j hs s₀ s n ι H σ o hk hi hj hgo hn hfin hG hst
    have hlt : i < ds.length := by omega
    have hd : ds.drop i = ds[i] :: ds.drop (i + 1) := List.drop_eq_getElem_cons hlt
    have nofail : (outs.drop j, fin) = (([], none) : List (D × HS) × Option HS) → False := fun e => by
      injection e with e1 e2
      have hjl : j = outs.length := by
        have := congrArg List.length e1
        simp at this
        omega
      rw [e2] at hfin
      rcases hfin with q | q
      · omega
      · cases q
    rw [hd] at hgo
    unfold gxGo at hgo
    split at hgo
    case isFalse => exact (nofail hgo.symm).elim
    rename_i hgd
    obtain ⟨st, rp, rl, ok, I, fr⟩ := hG
    obtain ⟨w1, _⟩ := wk ι H hs st rp hgd
    obtain ⟨go, yl⟩ := w1 i ds[i] (List.getElem?_eq_getElem hlt)
    cases eg : g ds[i] with
    | none => rw [eg] at hgo; exact (nofail hgo.symm).elim
    | some ps =>
    rw [eg] at hgo
    simp only at hgo
    split at hgo
    case isFalse => exact (nofail hgo.symm).elim
    rename_i hps
    have hps' : ∀ p ∈ ps, p.1 ∈ own := by simpa using hps
    show Seg _ A _ _ _ s₀ _ ((compTurn (.GeneratorExp elt [⟨target, iter, ifs, 0⟩] scope gpos) 0 (.ref it) .none X.env).onRaise (leaving X.env)) [] s
    rw [compTurn_gen, Sem.onRaise_eq_wrap]
    refine seg_bind_wrap (wpAny_standAt ?_)
    refine seg_bind_wrap ?_
    rw [hA]
    refine wpAny_mono (T.item X rfl rfl rfl hc i _ s σ H _ I (stat fr) hst go) (fun r s1 ⟨u, hr, h4⟩ => ?_) fun _ _ e => e
    subst hr
    dsimp only
    refine seg_bind_wrap ?_
    rw [hA]
    refine wpAny_mono h4 (fun _ s2 ⟨x, H2, I2, r2, y2, st2, fr2⟩ => ?_) fun _ _ e => e
    obtain ⟨sp2, rp2, rd2⟩ := yl x H2 y2
    have I2' := I2.pinned (stat fr2) (T.obj _ _ st2)
    have unp : ∀ {σ7 : L2.St} {H7 : Hp} {s7 : Shared}, Inv X ([(S, o), (gA, gO)] ++ pinsAt fp s2.heap) σ7 H7 s7 → Inv X [(S, o), (gA, gO)] σ7 H7 s7 ∧ tn (i + 1) s7.heap ∧ ∀ b ∈ fp, H7 b = none := fun {σ7 H7 s7} I7 => by
      refine ⟨I7.unpinned, T.keep _ _ _ st2 fun b hb o e => (I7.pin (b, o) (List.mem_append_right _ (List.mem_append_right _ (mem_pinsAt hb e)))).1, fun b hb => ?_⟩
      obtain ⟨o, e, d⟩ := T.obj _ _ st2 b hb
      exact (I7.pin (b, o) (List.mem_append_right _ (List.mem_append_right _ (mem_pinsAt hb e)))).2.1
    refine seg_bind_wrap ?_
    rw [hA]
    refine wpAny_mono (hg.run _ s2 σ H2 x u (fun σ' H' => H' = H2 ∧ ∃ ws, Paired (fun p q => p.1 = q.1 ∧ RelD Γ ι H2 p.2 q.2) ps ws ∧ σ' = putS σ ws) I2' r2 ⟨ι, hs, ds[i], ps, rp2, rd2, eg, fun ws hw => ⟨rfl, ws, hw, rfl⟩⟩) (fun _ s3 ⟨σ3, H3, I3, e3, ws, hw, eσ⟩ => ?_) fun x s' e => by rw [hxe] at e; exact e.elim
    subst e3 eσ
    have rl3 : RelL Γ ι H3 (wipeL ls own) σ := rp.relL sp2 rl
    have rl3p : RelL Γ ι H3 (putL (wipeL ls own) ps) (putS σ ws) := RelL.putAll rl3 hw
    have rl3k : RelL Γ ι H3 (wipeL ls own) (putS σ ws) := RelL.keepOwn rl3 (paired_ix hw hps')
    refine seg_bind_wrap ?_
    rw [hA]
    -- the test
    refine wpAny_mono (ht.run _ s3 (putS σ ws) H3 (fun b H' => ∃ h1 ι', mt (putL (wipeL ls own) ps) hs = .ok b h1 ∧ Step ι H3 ι' H' ∧ Rep Γ ι' h1 H') I3 ⟨ι, _, hs, rp2, rl3p, ?_⟩) (fun b s4 ⟨H4, I4, h1, ι4, em, sp4, rp4⟩ => ?_) fun x s' e => by rw [hxe] at e; exact e.elim
    · cases em : mt (putL (wipeL ls own) ps) hs with
      | ok b h1 => exact fun ι' H' s' r' => ⟨h1, ι', rfl, s', r'⟩
      | exc c h1 => rw [em] at hgo; exact (nofail hgo.symm).elim
      | bad => rw [em] at hgo; exact (nofail hgo.symm).elim
    rw [em] at hgo
    have spA : Step ι H ι4 H4 := sp2.trans sp4
    cases b with
    | false =>
      simp only at hgo
      simp only [Bool.false_eq_true, if_false]
      obtain ⟨I4', tn4, fr4⟩ := unp I4
      exact seg_again rfl (ih (i + 1) j h1 s₀ s4 n ι4 H4 (putS σ ws) o (by omega) hlt hj hgo hn hfin ⟨st.trans spA, rp4, rp2.relL sp4 rl3k, hok _ _ _ _ _ _ st spA (fun _ _ e => rp.noTup e) ok, I4', fr4⟩ tn4)
    | true =>
      simp only at hgo
      simp only [if_true]
      cases ee : me (putL (wipeL ls own) ps) h1 with
      | exc c h2 => rw [ee] at hgo; exact (nofail hgo.symm).elim
      | bad => rw [ee] at hgo; exact (nofail hgo.symm).elim
      | ok y h2 =>
      rw [ee] at hgo
      simp only at hgo
      injection hgo with e1 e2
      have hjl : j < outs.length := by
        have := congrArg List.length e1
        simp at this
        omega
      have hdj : outs.drop j = outs[j] :: outs.drop (j + 1) := List.drop_eq_getElem_cons hjl
      rw [hdj] at e1
      injection e1 with e3 e4
      have hy : ∀ v, yieldOut X.env v = yieldValue v := fun v => by simp only [yieldOut, hco, Bool.false_eq_true, if_false]
      simp only [hy]
      rw [Sem.bind_eq_wrap', Sem.bind_eq_wrap', Sem.wrap_wrap, Sem.wrap_wrap]
      refine seg_wrap ?_
      rw [hA]
      refine wpAny_mono (he.run _ s4 (putS σ ws) H4 (fun v H' => ∃ ι', Step ι4 H4 ι' H' ∧ Rep Γ ι' h2 H' ∧ RelD Γ ι' H' y v) I4 ⟨ι4, _, h1, rp4, rp2.relL sp4 rl3p, ?_⟩) (fun v s5 ⟨z, H5, I5, rz, ι5, sp5, rp5, rd5⟩ => ?_) fun x s' e => by rw [hxe] at e; exact e.elim
      · rw [ee]
        exact fun ι' H' v s' r' d' => ⟨ι', s', r', d'⟩
      obtain ⟨I5', tn5, fr5⟩ := unp I5
      have spB : Step ι H ι5 H5 := spA.trans sp5
      have rl5 := rp4.relL sp5 (rp2.relL sp4 rl3k)
      have G5 : GIx X Γ ι1 H1 S gA gO OK fp (wipeL ls own) j h2 ι5 H5 (putS σ ws) o s5 := ⟨st.trans spB, rp5, rl5, hok _ _ _ _ _ _ st spB (fun _ _ e => rp.noTup e) ok, I5', fr5⟩
      obtain ⟨m, rfl⟩ : ∃ m, n = m + 1 := ⟨n - 1, by omega⟩
      refine seg_at (seg_yield rfl rfl rfl ⟨j, y, h2, ι5, H5, putS σ ws, o, z, by omega, by rw [List.getElem?_eq_getElem hjl, ← e3], G5, rd5, rz, fun s'' o' sl ok' hd' hf' => ?_⟩)
      have G6 := GIx.woken hpn hS G5 sl ok' hd'
      have tn6 : tn (i + 1) s''.heap := T.keep _ _ _ tn5 fun b hb o e => sl.keep b o (Ne.symm (hfp b hb).2.2.2.2.1) e
      exact seg_again rfl (ih (i + 1) (j + 1) h2 s'' s'' m ι5 H5 (putS σ ws) o' (by omega) hlt hjl (by rw [← e2, ← e4]) (by omega) hf' G6 tn6)
end
end Fx

set_option Elab.async false
set_option linter.all false
set_option maxRecDepth 100000
set_option maxHeartbeats 1000000
namespace Fx
open PySem PySem.Spec PyProof.Rows L2 GenW

theorem over_gxL {A : Around} {elt target iter : Expr} {ifs : List Expr} {scope : Scope} {pos : Pos} {it acc : Value} {env : Env} : A.over (.compLoop (.GeneratorExp elt [⟨target, iter, ifs, 0⟩] scope pos) 0 it acc env) [] = A.deeper env := by
  first
    | rfl
    | (obtain ⟨hd, d, fr, gs, u⟩ := A; simp [Around.over, Around.deeper, marksOver, frameCount, unitsOf, envsOf, guardsOf, pushEnvs, pushGuards, Code.envs, Code.env?, Code.isFrame, Code.guards, Code.isGuard, Code.weight, Code.frames, Code.isCreation, Code.isCaller, Code.cUnits])
theorem over_gxS {A : Around} {elt target iter : Expr} {ifs : List Expr} {scope : Scope} {pos : Pos} {it acc : Value} {env : Env} : A.over (.compStart (.GeneratorExp elt [⟨target, iter, ifs, 0⟩] scope pos) 0 it acc env) [] = A.deeper env := by
  first
    | rfl
    | (obtain ⟨hd, d, fr, gs, u⟩ := A; simp [Around.over, Around.deeper, marksOver, frameCount, unitsOf, envsOf, guardsOf, pushEnvs, pushGuards, Code.envs, Code.env?, Code.isFrame, Code.guards, Code.isGuard, Code.weight, Code.frames, Code.isCreation, Code.isCaller, Code.cUnits])
section
variable {X : Cx} {Γ : Sta} {ι1 : Ix} {H1 : Hp} {S gA it : Addr} {gO : Obj} {OK : OKT} {fp : List Addr} {outs : List (D × HS)} {fin : Option HS} {target iter elt : Expr} {ifs : List Expr} {scope : Scope} {gpos : Pos} {J : It} {tn : Nat → Heap → Prop}
  {g : MG} {mt : M Bool} {me : M D} {own : List Nat} {ls : LS} {ds : List D} {gd : Option Nat} {hs1 : HS} {A : Around} {R : GenEnd} {Y : Protocol} {n : Nat}
theorem seg_gxStart {s₀ s : Shared} (T : Turn X.prog X.w X.K target J fp it tn) (hst : tn 0 s.heap)
    (loop : Seg (model X.prog X.w) A R Y n s₀ (.compLoop (.GeneratorExp elt [⟨target, iter, ifs, 0⟩] scope gpos) 0 (.ref it) .none X.env)
        ((model X.prog X.w).den (.compLoop (.GeneratorExp elt [⟨target, iter, ifs, 0⟩] scope gpos) 0 (.ref it) .none X.env)) [] s) :
    Seg (model X.prog X.w) A R Y n s₀ (.compStart (.GeneratorExp elt [⟨target, iter, ifs, 0⟩] scope gpos) 0 (.ref it) .none X.env)
      ((model X.prog X.w).den (.compStart (.GeneratorExp elt [⟨target, iter, ifs, 0⟩] scope gpos) 0 (.ref it) .none X.env)) [] s := by
  show Seg _ A _ _ _ s₀ _ ((compStart (.GeneratorExp elt [⟨target, iter, ifs, 0⟩] scope gpos) 0 (.ref it) .none X.env).onRaise (leaving X.env)) [] s
  unfold compStart
  rw [Sem.onRaise_eq_wrap]
  show Seg _ A _ _ _ s₀ _ ((ask >>= _).wrap _ _ _ _) [] s
  refine seg_bind_wrap (wpAny_askSetting ?_)
  split
  · exact seg_again rfl loop
  · first
      | exact seg_bind_wrap (wpAny_rule (seg_bind_wrap (wpAny_standAt (seg_bind_wrap (T.self _ 0 s _ _ hst (seg_again rfl loop))))))
      | (refine seg_bind_wrap (wpAny_rule ?_); show Seg _ A _ _ _ s₀ _ ((standAt iter.pos >>= _).wrap _ _ _ _) [] s; exact seg_bind_wrap (wpAny_standAt (seg_bind_wrap (T.self _ 0 s _ _ hst (seg_again rfl loop)))))
theorem Inv.gens {X : Cx} {pins : List (Addr × Obj)} {σ : L2.St} {H : Hp} {s : Shared} (I : Inv X pins σ H s) {g' : Array GenState} (hg : AllBare g') : Inv X pins σ H { s with gens := g' } :=
  I.call (g' := g') (t' := s.toks) (d' := s.drawn) (ch := []) (Un.kept fun _ _ e => e) I.hok hg fun _ z => nomatch z
/-- the generator, ready to be asked for item j -/
def GRdy (X : Cx) (Γ : Sta) (ι1 : Ix) (H1 : Hp) (S gA : Addr) (gO : Obj) (OK : OKT) (fp : List Addr) (lsW : LS) (outs : List (D × HS)) (fin : Option HS) (gn : Nat) (A : Around) (j : Nat) (s : Shared) : Prop :=
  s.heap.IsGen gA gn ∧ s.heap.NoLimit ∧ AllBare s.gens ∧ ∃ gs, s.gens[gn]? = some gs ∧ gs.Goes (model X.prog X.w) A.in1 (RGx X Γ ι1 H1 S gA gO OK fp lsW outs fin) (YGx X Γ ι1 H1 S gA gO OK fp lsW outs fin) (outs.length + 1 - j) (.send .none) (s.setGen gn .running)
structure GenO (gO : Obj) (gn : Nat) : Prop where
  cls : gO.cls = .type "generator"
  data : ∃ nm qn, gO.data = .fields #[.int gn 0, nm, qn]
  slots : gO.slots = #[]
theorem gx_next {lsW : LS} {gn j : Nat} {s : Shared} {Q : Option Value → Shared → Prop} {E : Value → Shared → Prop} (hO : GenO gO gn) (hh : A.handled = none) (hd : A.depth < recursionLimit) (hj : j ≤ outs.length) (r : GRdy X Γ ι1 H1 S gA gO OK fp lsW outs fin gn A j s)
    (hitem : j < outs.length → ∀ v s' d h ι H σ o z, outs[j]? = some (d, h) → GIx X Γ ι1 H1 S gA gO OK fp lsW j h ι H σ o s' → RelD Γ ι H d z → RelV z v → s'.heap.IsGen gA gn → s'.heap.NoLimit →
      (∀ s2 o', SleptG S gA gO o' s' s2 → s2.gens = s'.gens → s2.heap.NoLimit → OK (j + 1) ι H o' → (∀ x, o'.data ≠ .cell x) → (j + 1 < outs.length ∨ fin.isSome = true) → GRdy X Γ ι1 H1 S gA gO OK fp lsW outs fin gn A (j + 1) s2) → Q (some v) s')
    (hend : j = outs.length → ∀ s' h ι H σ o, fin = some h → GIx X Γ ι1 H1 S gA gO OK fp lsW outs.length h ι H σ o s' → Q none s') :
    wpAny (model X.prog X.w) A (pyNext (.ref gA)) Q E s := by
  obtain ⟨hg, hl, hb, gs, hgs, hgo⟩ := r
  have isG : ∀ {h : Heap}, h.get? gA = some gO → h.IsGen gA gn := fun {h} e => by
    obtain ⟨nm, qn, hdt⟩ := hO.data
    exact ⟨gO, nm, qn, e, hO.cls, hdt, hO.slots⟩
  have hgl : gn < s.gens.size := (Array.getElem?_eq_some_iff.mp hgs).1
  have key := next_genG (F := fun n _ s₁ => n = 1 ∧ ∃ h ι H σ o, fin = some h ∧ GIx X Γ ι1 H1 S gA gO OK fp lsW outs.length h ι H σ o s₁) (Er := fun _ _ => False) (Y := YGx X Γ ι1 H1 S gA gO OK fp lsW outs fin) (Q := fun v s' => gn + 1 ≤ s'.gens.size → Q v s') (E := E) hh hl hd hg hgs hgo (fun v s₁ gs' hbare hv => ?_) (fun s₁ hp h' hk => ?_) (fun e s₁ he => he.elim)
  · refine wpAny_gsz (n := gn + 1) hgl (wpAny_mono key (fun _ _ q => q) fun _ _ q _ => q)
  · intro hsz
    have hsz1 : gn < s₁.gens.size := by
      have q : (s₁.setGen gn gs').gens.size = s₁.gens.size := setGen_size _ _ _
      omega
    obtain ⟨j', d, h, ι, H, σ, o, z, hm, ho, hG, rd, rv, hk⟩ := hv
    have hj' : j' = j := by
      have : outs[j']? = some (d, h) := ho
      have h2 := (List.getElem?_eq_some_iff.mp this).1
      omega
    subst hj'
    have hlt : j' < outs.length := (List.getElem?_eq_some_iff.mp ho).1
    obtain ⟨st, rp, rl, ok, I, fr⟩ := hG
    have I' : Inv X [(S, o), (gA, gO)] σ H (s₁.setGen gn gs') := Inv.gens I (allBare_setGen I.bare hbare)
    have eg := (I'.pin (gA, gO) (List.mem_append_right _ (List.mem_cons_of_mem _ List.mem_cons_self))).1
    refine hitem hlt v _ d h ι H σ o z ho ⟨st, rp, rl, ok, I', fr⟩ rd rv (isG eg) I'.nolimit fun s2 o' sl hgen hl2 ok2 hcell hf => ?_
    have eg2 := sl.gen
    refine ⟨isG eg2, hl2, sl.bare, gs', by rw [hgen]; exact setGen_at hsz1, ?_⟩
    have hn : ∃ m, outs.length + 1 - j' = m + 1 := ⟨outs.length - j', by omega⟩
    obtain ⟨m, em⟩ := hn
    have hk2 := hk (s2.setGen gn .running) o' ⟨sl.os, allBare_setGen sl.bare rfl, fun b ob hb e => sl.keep b ob hb e, sl.own, sl.gen⟩ ok2 hcell hf
    rw [em] at hk2
    have e2 : outs.length + 1 - (j' + 1) = m := by omega
    rw [e2]
    exact hk2
  · intro _
    obtain ⟨h0, h, ι, H, σ, o, ef, st, rp, rl, ok, I, fr⟩ := hp
    refine hend (by omega) _ h ι H σ o ef ⟨st, rp, rl, ok, ?_, fr⟩
    exact Inv.gens (I.kept (t' := s₁.toks) hk) (allBare_setGen I.bare rfl)
end
end Fx

set_option Elab.async false
set_option linter.all false
set_option maxRecDepth 100000
set_option maxHeartbeats 1000000
namespace Fx
open PySem PySem.Spec PyProof.Rows L2 GenW

def capL {α : Type} (pick : List (Option Nat)) (l : List (Option α)) : List (Option α) := pick.map fun o => o.bind fun j => (l[j]?).bind id
/-- a generator expression's own scope: N' its names, pick: which of them the def has -/
structure GxS (sc scope : Scope) (N N' : List Str) (pick : List (Option Nat)) : Prop where
  kind : scope.kind = .function
  co : scope.isCoroutine = false
  cell : ∀ y ∈ scope.names, y.2 ≠ .cell
  dot : scope.names.lookup (".0" : Str) = some NameKind.local
  free : ∀ y ∈ scope.names, y.2 = .free → sc.names.lookup y.1 = some .cell ∨ sc.names.lookup y.1 = some .free
  len : N'.length = pick.length
  at_ : ∀ (i j : Nat), pick[i]? = some (some j) → ∃ x, N'[i]? = some x ∧ N[j]? = some x ∧ scope.names.lookup x = some .free
def gxAt (scope : Scope) (N : List Str) : List Str → List (Option Nat) → Bool
  | [], [] => true
  | x :: xs, o :: os => (match o with
    | none => true
    | some j => decide (N[j]? = some x) && decide (scope.names.lookup x = some .free)) && gxAt scope N xs os
  | _, _ => false
def gxB (sc scope : Scope) (N N' : List Str) (pick : List (Option Nat)) : Bool :=
  decide (scope.kind = .function) && !scope.isCoroutine && decide (scope.names.lookup (".0" : Str) = some NameKind.local) &&
    (scope.names.all fun y => !decide (y.2 = .cell) && (!decide (y.2 = .free) || decide (sc.names.lookup y.1 = some .cell) || decide (sc.names.lookup y.1 = some .free))) && gxAt scope N N' pick
theorem gxAt_len {scope : Scope} {N : List Str} : ∀ {N' : List Str} {pick : List (Option Nat)}, gxAt scope N N' pick = true → N'.length = pick.length
  | [], [], _ => rfl
  | [], _ :: _, h => by simp [gxAt] at h
  | _ :: _, [], h => by simp [gxAt] at h
  | x :: xs, o :: os, h => by
    unfold gxAt at h
    rw [Bool.and_eq_true] at h
    simp [gxAt_len h.2]
theorem gxAt_get {scope : Scope} {N : List Str} : ∀ {N' : List Str} {pick : List (Option Nat)}, gxAt scope N N' pick = true → ∀ {i j : Nat}, pick[i]? = some (some j) → ∃ x, N'[i]? = some x ∧ N[j]? = some x ∧ scope.names.lookup x = some .free
  | [], [], _, i, j, e => by simp at e
  | [], _ :: _, h, _, _, _ => by simp [gxAt] at h
  | _ :: _, [], h, _, _, _ => by simp [gxAt] at h
  | x :: xs, o :: os, h, i, j, e => by
    unfold gxAt at h
    rw [Bool.and_eq_true] at h
    cases i with
    | zero =>
      simp at e
      subst e
      have h1 := h.1
      simp only [Bool.and_eq_true, decide_eq_true_eq] at h1
      exact ⟨x, rfl, h1.1, h1.2⟩
    | succ i => exact gxAt_get h.2 (i := i) (by simpa using e)
theorem gx_by {sc scope : Scope} {N N' : List Str} {pick : List (Option Nat)} (h : gxB sc scope N N' pick = true) : GxS sc scope N N' pick := by
  unfold gxB at h
  simp only [Bool.and_eq_true, Bool.or_eq_true, Bool.not_eq_true', decide_eq_true_eq, decide_eq_false_iff_not, List.all_eq_true] at h
  obtain ⟨⟨⟨⟨h1, h2⟩, h3⟩, h4⟩, h5⟩ := h
  refine ⟨h1, h2, fun y hy => (h4 y hy).1, h3, fun y hy e => ?_, gxAt_len h5, fun i j e => gxAt_get h5 e⟩
  rcases (h4 y hy).2 with (z | z) | z
  · exact absurd e z
  · exact .inl z
  · exact .inr z
abbrev gxE (X : Cx) (scope : Scope) (C : Addr) (code : Value) : Env := genEnv scope (cloFrom X.env.cells scope.names []) C code builtinsNs X.env
section
variable {X : Cx} {pins : List (Addr × Obj)} {σ : L2.St} {H : Hp} {s s2 : Shared} {scope : Scope} {N' : List Str} {pick : List (Option Nat)} {fp : List Addr} {code : Value} {A : Around}
theorem GxS.has (L : GxS X.env.scope scope X.N N' pick) (ok : X.Ok) : ∀ y ∈ scope.names, y.2 = .free → ∃ c, X.env.cells.lookup y.1 = some c := fun y hy e => by
  rcases L.free y hy e with k | k
  · exact ok.has _ (.inl k)
  · exact ok.has _ (.inr k)
theorem gx_cm (L : GxS X.env.scope scope X.N N' pick) (ok : X.Ok) {y : Str} {c : Addr} (e : (cloFrom X.env.cells scope.names []).lookup y = some c) : X.env.cells.lookup y = some c := by
  have hfree := L.has ok
  rcases cloFrom_mem (PySem.mem_of_lookup e) with hm | ⟨h1, h2⟩
  · cases hm
  · obtain ⟨c1, hc⟩ := hfree _ h1 rfl
    have hc : X.env.cells.lookup y = some c1 := hc
    have e2 : c = c1 := by
      rw [h2, hc] <;> rfl
    rw [e2]
    exact hc
theorem inv_gx {m : Str → Option Value} (I : Inv X pins σ H s) (L : GxS X.env.scope scope X.N N' pick) (hd : A.handled = none) (hfr : A.frames = some X.stack)
    (hfp : ∀ b ∈ fp, FpOk X pins H b ∧ b < s.heap.objs.size) (hns : s2.heap.Ns s.heap.objs.size m) (kp : ∀ b o, s.heap.get? b = some o → s2.heap.get? b = some o) (os : s2.os = s.os) (bare : AllBare s2.gens) :
    Inv (gxCx X A s H (gxE X scope s.heap.objs.size code) fp N') [] (capL pick σ) H s2 := by
  have e0 := I.env0
  have cm : ∀ {y c}, (cloFrom X.env.cells scope.names []).lookup y = some c → X.env.cells.lookup y = some c := fun {y c} e => gx_cm L I.ok e
  have look : ∀ {y}, scope.names.lookup y = some .free → ∃ c, (cloFrom X.env.cells scope.names []).lookup y = some c := fun {y} hl => by
    have hy : (y, NameKind.free) ∈ scope.names := PySem.mem_of_lookup hl
    exact mem_lookup (cloFrom_has (cells := X.env.cells) (acc := []) hy)
  have cellK : ∀ {c : Addr} {v : Option Value}, s.heap.IsCell c v → s2.heap.IsCell c v := fun {c v} ⟨o, ho, hd⟩ => ⟨o, kp _ _ ho, hd⟩
  have nfs : ∀ b ∈ fp, b ∉ frs X.stack := fun b hb z => by
    obtain ⟨⟨_, h2, h3, _⟩, _⟩ := hfp b hb
    rcases List.mem_cons.mp (I.stkSub b z) with z | z
    · exact h2 z
    · exact h3 z
  refine ⟨⟨e0.mod, L.kind, I.ok.glob, rfl, Nat.le_refl _, fun y z c e1 e2 => I.ok.inj y z c (cm e1) (cm e2), fun y hy => ?_, fun y c z _ => ?_, fun _ => hd, Around.frames_deeper hfr, .inr ⟨rfl, rfl⟩, fun b hb => ?_, e0.bs, e0.bsz, fun b o e hb => ?_, fun b hb => nfs b hb, e0.funs, e0.frf⟩,
    os, bare, Un.kept kp, ⟨_, hns, fun i y v e1 e2 e3 => ?_⟩, fun y c e => ?_, e0.hok.fresh (Nat.le_refl _), fun y c e => I.freeC y c (cm e), fun q hq => absurd (show q ∈ ([] : List (Addr × Obj)) ++ [] from hq) (by simp), e0.hok.kept kp, ?_⟩
  · have hy : scope.names.lookup y = some .cell ∨ scope.names.lookup y = some .free := hy
    rcases hy with hy | hy
    · exact absurd rfl (L.cell _ (PySem.mem_of_lookup hy))
    · exact look hy
  · have z : false = true := z
    cases z
  · obtain ⟨⟨_, _, _, _, h5, _⟩, hl⟩ := hfp b hb
    exact ⟨Nat.ne_of_lt hl, fun x c e => h5 x c (cm e)⟩
  · obtain ⟨⟨_, _, _, h4, _, _⟩, _⟩ := hfp b hb
    rcases h4 with h4 | h4
    · exact I.ok.noex b o e h4
    · exact absurd (Nat.lt_of_lt_of_le (Heap.lt_size e) (Nat.le_trans I.ok.bsz h4)) (Nat.lt_irrefl _)
  · have e2 : (capL pick σ)[i]? = some (some v) := e2
    unfold capL at e2
    rw [List.getElem?_map] at e2
    cases hp : pick[i]? with
    | none => rw [hp] at e2; cases e2
    | some o =>
      cases o with
      | none => rw [hp] at e2; cases e2
      | some j =>
        rw [hp] at e2
        obtain ⟨x, a1, a2, a3⟩ := L.at_ i j hp
        have e1 : N'[i]? = some y := e1
        rw [a1] at e1
        obtain rfl : x = y := Option.some.inj e1
        have e4 : σ[j]? = some (some v) := by
          cases hq : σ[j]? with
          | none => simp [hq] at e2
          | some w => simp [hq] at e2; rw [e2]
        obtain ⟨m, hn, hl⟩ := I.loc
        have hvis : Vis X.env.scope x := (L.free _ (PySem.mem_of_lookup a3) rfl).elim (fun k => .inr (.inl k)) (fun k => .inr (.inr k))
        obtain ⟨w', r, q⟩ := hl j x v a2 e4 hvis
        obtain ⟨c2, h2⟩ := look a3
        refine ⟨w', r, .inr ⟨.inr a3, c2, h2, ?_⟩⟩
        have c1 := cm h2
        rcases q with ⟨k', _⟩ | ⟨_, c3, e', z⟩
        · have k' : X.env.scope.names.lookup x = some .local := k'
          rcases L.free _ (PySem.mem_of_lookup a3) rfl with k2 | k2 <;> rw [show X.env.scope.names.lookup x = _ from k2] at k' <;> cases k'
        · rw [c1] at e'
          cases e'
          exact cellK z
  · obtain ⟨w', z⟩ := I.cell y c (cm e)
    exact ⟨w', cellK z⟩
  · show (capL pick σ).length = N'.length
    unfold capL
    rw [List.length_map, L.len]
/-- back in the def -/
theorem inv_ungx {H' : Hp} {σ' : L2.St} {pins' : List (Addr × Obj)} {s' : Shared} {env : Env} (I : Inv X pins σ H s) (hfp : ∀ b ∈ fp, FpOk X pins H b) (J : Inv (gxCx X A s H env fp N') pins' σ' H' s') : Inv X pins σ H' s' :=
  I.call' (ch := fp) J.os J.base J.hok J.bare fun b hb => by
    obtain ⟨_, h2, _, h4, h5, h6⟩ := hfp b hb
    exact ⟨h4, h2, h5, h6⟩
end
section
variable {Γ : Sta} {ι : Ix} {H : Hp} {hs : HS}
theorem Step.table {P c : Addr} {q : Str} {ps more : Array Value} (hP : H P = some (.tbl ps)) (hc : H c = none) : Step ι H ι (upd (upd H P (.tbl (ps ++ more))) c (LamX.CodeO c q)) where
  ext := ⟨[], [], by cases ι; simp, by simp, by simp⟩
  keep := fun b o e _ nt => by
    rw [upd_ne (ne_of_none e hc), upd_ne (fun z => nt ps (by rw [z, hP] at e; exact (Option.some.inj e).symm))]
    exact e
  non := fun b e => by
    by_cases h1 : b = c
    · rw [h1]; exact hc
    · rw [upd_ne h1] at e
      by_cases h2 : b = P
      · rw [h2, upd_same] at e; cases e
      · rw [upd_ne h2] at e; exact e
  frz := fun b o u e => by
    rw [upd_ne (ne_of_none e hc), upd_ne (fun z => by rw [z, hP] at e; cases e)]
    exact e
theorem Rep.table {P c : Addr} {q : Str} {ps more : Array Value} (r : Rep Γ ι hs H) (hP : H P = some (.tbl ps)) (hc : H c = none) (ht : LamX.Tabs Γ.T (upd (upd H P (.tbl (ps ++ more))) c (LamX.CodeO c q))) : Rep Γ ι hs (upd (upd H P (.tbl (ps ++ more))) c (LamX.CodeO c q)) where
  len := r.len
  nd := r.nd
  fbs := fun a ha => by
    obtain ⟨h1, u, e, z⟩ := r.fbs a ha
    exact ⟨h1, u, by rw [upd_ne (ne_of_none e hc), upd_ne (fun y => z.noTbl ps (by rw [y, hP] at e; exact (Option.some.inj e).symm))]; exact e, z⟩
  ob := fun n a o e1 e2 => by
    have q2 := r.ob n a o e1 e2
    obtain ⟨u, hu, nt⟩ := RelOb.stands q2
    exact RelOb.step (fun _ _ e => r.noTup e) (Step.table hP hc) q2 (by rw [upd_ne (ne_of_none hu hc), upd_ne (fun y => nt ps (by rw [y, hP] at hu; exact (Option.some.inj hu).symm))])
  tabs := ht
theorem WalkD.on {J : It} {ι1 : Ix} {H1 : Hp} {ds : List D} {gd : Option Nat} {hs1 : HS} (w : WalkD Γ J ι H hs1 ds gd) (st : Step ι H ι1 H1) : WalkD Γ J ι1 H1 hs1 ds gd := fun ι' H' hs' s' r' g' => w ι' H' hs' (st.trans s') r' g'
end
end Fx

set_option Elab.async false
set_option linter.all false
set_option maxRecDepth 100000
set_option maxHeartbeats 1000000
namespace Fx
open PySem PySem.Spec PyProof.Rows L2 GenW

section
variable {Γ : Sta} {ι : Ix} {H : Hp}
theorem RelL.wipeLeft {ls : LS} {σ : L2.St} (r : RelL Γ ι H ls σ) (own : List Nat) : RelL Γ ι H (wipeL ls own) σ := by
  refine ⟨by rw [wipeL_length]; exact r.1, fun i d e => ?_⟩
  rw [wipeL_get] at e
  split at e
  · cases hq : ls[i]? with
    | none => rw [hq] at e; cases e
    | some o => rw [hq] at e; cases e
  · exact r.2 i d e
theorem RelL.cap {ls : LS} {σ : L2.St} (r : RelL Γ ι H ls σ) (pick : List (Option Nat)) : RelL Γ ι H (capL pick ls) (capL pick σ) := by
  refine ⟨by unfold capL; simp, fun i d e => ?_⟩
  unfold capL at e ⊢
  rw [List.getElem?_map] at e ⊢
  cases hp : pick[i]? with
  | none => rw [hp] at e; cases e
  | some o =>
    rw [hp] at e
    cases o with
    | none => cases e
    | some j =>
      have e2 : (ls[j]?).bind id = some d := by simpa using e
      have e3 : ls[j]? = some (some d) := by
        cases hq : ls[j]? with
        | none => rw [hq] at e2; cases e2
        | some w => rw [hq] at e2; exact congrArg some e2
      obtain ⟨v, h1, h2⟩ := r.2 j d e3
      exact ⟨v, by simp [h1], h2⟩
end
section
variable {X : Cx} {pins : List (Addr × Obj)} {σ : L2.St} {H : Hp} {s : Shared}
theorem Inv.frsLt (I : Inv X pins σ H s) {b : Addr} (hb : b ∈ frs X.stack) : b < s.heap.objs.size := by
  rcases List.mem_cons.mp (I.stkSub b hb) with z | z
  · rw [z]; exact I.lt
  · exact Nat.lt_of_not_le fun h => I.nofs h z
end
/-- the generator g has been made -/
def MadeG (X : Cx) (pins : List (Addr × Obj)) (σ : L2.St) (Γ : Sta) (elt target iter : Expr) (ifs : List Expr) (scope : Scope) (gpos : Pos) (ls : LS) (ds : List D) (gd : Option Nat) (h1 : HS) (ι4 : Ix) (H4 : Hp) (g : Addr) (s5 : Shared) : Prop :=
  Rep Γ ι4 h1 H4 ∧ RelL Γ ι4 H4 ls σ ∧ Inv X pins σ H4 s5 ∧ g < s5.heap.objs.size ∧
    ∃ (gn : Nat) (gO : Obj) (s4 : Shared) (fp : List Addr) (it : Addr) (J : It) (tn : Nat → Heap → Prop) (code : Value) (m : Str → Option Value), GenO gO gn ∧ s5.heap.get? g = some gO ∧
      s5.gens[gn]? = some (.fresh (.compStart (.GeneratorExp elt [⟨target, iter, ifs, 0⟩] scope gpos) 0 (.ref it) .none (gxE X scope s4.heap.objs.size code))) ∧ s4.heap.objs.size < g ∧ Inv X pins σ H4 s4 ∧ (∀ b ∈ fp, FpOk X pins H4 b ∧ b < s4.heap.objs.size) ∧
      Turn X.prog X.w X.K target J fp it tn ∧ tn 0 s5.heap ∧ WalkD Γ J ι4 H4 h1 ds gd ∧ s5.heap.Ns s4.heap.objs.size m ∧ (∀ b o, s4.heap.get? b = some o → s5.heap.get? b = some o) ∧ s5.os = s4.os
section
variable {X : Cx} {pins : List (Addr × Obj)} {σ : L2.St} {Γ : Sta} {elt target iter : Expr} {ifs : List Expr} {scope : Scope} {gpos : Pos} {ls : LS} {ds : List D} {gd : Option Nat} {h1 : HS} {ι4 : Ix} {H4 : Hp} {g : Addr} {s5 : Shared} {N' : List Str} {pick : List (Option Nat)}
  {tg : MG} {mt : M Bool} {me : M D} {own : List Nat}
theorem wake_gx {k : Nat} {A1 : Around} {S : Addr} {OK : OKT} {o : Obj} {s2 : Shared} {outs : List (D × HS)} {fin : Option HS} (M : MadeG X pins σ Γ elt target iter ifs scope gpos ls ds gd h1 ι4 H4 g s5) (L : GxS X.env.scope scope X.N N' pick)
    (hd : A1.handled = none) (hfr : A1.frames = some X.stack)
    (hg : ∀ (s : Shared) (H : Hp) (C : Addr) (code : Value) (fp : List Addr), FG (gxCx X A1.in1 s H (gxE X scope C code) fp N') Γ target tg)
    (ht : ∀ (s : Shared) (H : Hp) (C : Addr) (code : Value) (fp : List Addr), FTs (gxCx X A1.in1 s H (gxE X scope C code) fp N') Γ E0 ifs mt)
    (he : ∀ (s : Shared) (H : Hp) (C : Addr) (code : Value) (fp : List Addr), FE (gxCx X A1.in1 s H (gxE X scope C code) fp N') Γ E0 elt me)
    (hS : g ≤ S) (hSO : s2.heap.get? S = some o) (hcell : ∀ x, o.data ≠ .cell x) (kp : ∀ b o, s5.heap.get? b = some o → s2.heap.get? b = some o) (hos : s2.os = s5.os) (hgens : s2.gens = s5.gens) (ok0 : OK 0 ι4 H4 o)
    (hok : ∀ j ι H ι' H' o, Step ι4 H4 ι H → Step ι H ι' H' → (∀ a vs, H a = some (.tup vs) → a ∉ ι.l) → OK j ι H o → OK j ι' H' o) (hgo : gxGo own tg mt me gd h1 (wipeL (capL pick ls) own) ds h1 = (outs, fin)) (hne : 0 < outs.length ∨ fin.isSome = true) :
    ∃ (s4 : Shared) (C : Addr) (code : Value) (fp : List Addr) (gO : Obj) (gn : Nat), GenO gO gn ∧ s5.heap.get? g = some gO ∧ GRdy (gxCx X A1.in1 s4 H4 (gxE X scope C code) fp N') Γ ι4 H4 S g gO OK fp (wipeL (capL pick ls) own) outs fin gn A1 0 s2 ∧
      ∀ j h ι H σ' o s', GIx (gxCx X A1.in1 s4 H4 (gxE X scope C code) fp N') Γ ι4 H4 S g gO OK fp (wipeL (capL pick ls) own) j h ι H σ' o s' → Inv X pins σ H s' := by
  obtain ⟨rp, rl, I5, hgl, gn, gO, s4, fp, it, J, tn, code, m, hO, hgO, hfresh, hCg, I4, hfp, T, htn, wk, hns, k45, os45⟩ := M
  have kp4 : ∀ b o, s4.heap.get? b = some o → s2.heap.get? b = some o := fun b o e => kp b o (k45 b o e)
  have hns2 : s2.heap.Ns s4.heap.objs.size m := hns.keeps kp
  have hgO2 := kp _ _ hgO
  refine ⟨s4, s4.heap.objs.size, code, fp, gO, gn, hO, hgO, ⟨?_, I5.nolimit.keeps kp, by rw [hgens]; exact I5.bare, .fresh (.compStart (.GeneratorExp elt [⟨target, iter, ifs, 0⟩] scope gpos) 0 (.ref it) .none (gxE X scope s4.heap.objs.size code)), by rw [hgens]; exact hfresh, rfl, ?_⟩, fun j h ι H σ' o s' G => ?_⟩
  · obtain ⟨nm, qn, hdt⟩ := hO.data
    exact ⟨gO, nm, qn, hgO2, hO.cls, hdt, hO.slots⟩
  · have hgb : AllBare (s2.setGen gn .running).gens := allBare_setGen (by rw [hgens]; exact I5.bare) rfl
    have J0 : Inv (gxCx X A1.in1 s4 H4 (gxE X scope s4.heap.objs.size code) fp N') [] (capL pick σ) H4 (s2.setGen gn .running) :=
      inv_gx (A := A1.in1) I4 L hd hfr hfp hns2 kp4 (by show s2.os = s4.os; rw [hos, os45]) hgb
    have cells : ∀ x c, (cloFrom X.env.cells scope.names []).lookup x = some c → c < s4.heap.objs.size := fun x c e => by
      obtain ⟨v, z⟩ := I4.cell x c (gx_cm L I4.ok e)
      exact z.lt
    have big : ∀ b, s4.heap.objs.size < b → H4 b = none ∧ b ≠ s4.heap.objs.size ∧ b ∉ frs X.stack := fun b hb =>
      ⟨I4.hok.fresh (Nat.le_of_lt hb), Nat.ne_of_gt hb, fun z => absurd (Inv.frsLt I4 z) (Nat.not_lt.mpr (Nat.le_of_lt hb))⟩
    have hCS : s4.heap.objs.size < S := Nat.lt_of_lt_of_le hCg hS
    have hgnc : ∀ x, gO.data ≠ .cell x := fun x z => by
      obtain ⟨nm, qn, hdt⟩ := hO.data
      rw [hdt] at z
      cases z
    have J1 : Inv (gxCx X A1.in1 s4 H4 (gxE X scope s4.heap.objs.size code) fp N') [(S, o), (g, gO)] (capL pick σ) H4 (s2.setGen gn .running) := J0.pins_of fun p hp => by
      rcases List.mem_cons.mp hp with z | z
      · rw [z]
        obtain ⟨a1, a2, a3⟩ := big S hCS
        exact ⟨hSO, a1, a2, a3, hcell⟩
      · rw [List.mem_singleton.mp z]
        obtain ⟨a1, a2, a3⟩ := big g hCg
        exact ⟨hgO2, a1, a2, a3, hgnc⟩
    have tn2 : tn 0 s2.heap := T.keep _ _ _ htn fun b _ o e => kp b o e
    refine seg_gxStart (X := gxCx X A1.in1 s4 H4 (gxE X scope s4.heap.objs.size code) fp N') T tn2 ?_
    refine seg_gx (X := gxCx X A1.in1 s4 H4 (gxE X scope s4.heap.objs.size code) fp N') (own := own) (ls := capL pick ls) (g := tg) (mt := mt) (me := me) (ds := ds) (gd := gd) (hs1 := h1) rfl rfl rfl L.co T wk (hg _ _ _ _ _) (ht _ _ _ _ _) (he _ _ _ _ _) over_gxL ⟨.inr (Nat.le_of_lt hCS), Nat.ne_of_gt hCS, fun x c e z => ?_⟩ (fun b hb => ?_) hok ds.length 0 0 h1 _ _ _ ι4 H4 (capL pick σ) o (Nat.sub_zero _) (Nat.zero_le _) (Nat.zero_le _) (by simpa using hgo) (by omega) hne ⟨Step.refl _ _, rp, RelL.wipeLeft (RelL.cap rl pick) own, ok0, J1, fun b hb => (hfp b hb).1.1⟩ tn2
    · have := cells x c e
      rw [z] at this
      exact absurd (Nat.lt_trans this hCS) (Nat.lt_irrefl _)
    · obtain ⟨⟨f1, f2, f3, f4, f5, f6⟩, hl⟩ := hfp b hb
      refine ⟨Nat.ne_of_lt hl, fun z => ?_, .inl hb, fun x c e => f5 x c (gx_cm L I4.ok e), fun z => ?_, fun z => ?_⟩
      · rcases List.mem_cons.mp (I4.stkSub b z) with z | z
        · exact f2 z
        · exact f3 z
      · rw [z] at hCS; exact absurd (Nat.lt_trans hl hCS) (Nat.lt_irrefl _)
      · rw [z] at hCg; exact absurd (Nat.lt_trans hl hCg) (Nat.lt_irrefl _)
  · exact inv_ungx I4 (fun b hb => (hfp b hb).1) G.2.2.2.2.1
end
section
variable {X : Cx} {pins : List (Addr × Obj)} {σ : L2.St} {Γ : Sta} {E : XK} {elt target iter : Expr} {ifs : List Expr} {scope : Scope} {gpos : Pos} {N' : List Str} {pick : List (Option Nat)} {mi : MI} {H : Hp} {s : Shared} {c P : Addr} {Q' : Value → Shared → Prop}
theorem gx_make {k : Nat} (hr : Room k X.A) (TB : LamX.TabB X.base X.mg c P) (hcode : X.env.code = .ref c) (hm : (P, X.env.qual ++ "<genexpr>") ∈ Γ.T) (hu : ∀ p ∈ Γ.T, p.1 = P → p.2 = X.env.qual ++ "<genexpr>") (L : GxS X.env.scope scope X.N N' pick)
    (hi : FI X Γ E target iter mi) (hs : ∀ v, genFold iter X.env v = pure v) (I : Inv X pins σ H s) {ι : Ix} {ls : LS} {hp : HS} (rp : Rep Γ ι hp H) (rl : RelL Γ ι H ls σ)
    (sat : (mi ls hp).Sat (fun p h1 => ∀ ι4 H4 g s5, Step ι H ι4 H4 → MadeG X pins σ Γ elt target iter ifs scope gpos ls p.1 p.2 h1 ι4 H4 g s5 → Q' (.ref g) s5) (PostX Γ ι H E)) :
    wpAny (model X.prog X.w) X.A (eval (.GeneratorExp elt [⟨target, iter, ifs, 0⟩] scope gpos) X.env) Q' X.xe s := by
  refine wpAny_GeneratorExp_make L.co (closure_ok (L.has I.ok)) L.cell L.dot L.kind (by have := hr.dp; omega) ?_ hs
  refine thn (hi.run pins s σ H (fun J H2 => ∃ p h1 ι2, Step ι H ι2 H2 ∧ Rep Γ ι2 h1 H2 ∧ WalkD Γ J ι2 H2 h1 p.1 p.2 ∧ ∀ ι4 H4 g s5, Step ι H ι4 H4 → MadeG X pins σ Γ elt target iter ifs scope gpos ls p.1 p.2 h1 ι4 H4 g s5 → Q' (.ref g) s5) I
    ⟨ι, ls, hp, rp, rl, sat.mono (fun p h1 q ι2 H2 J st2 rp2 wk => ⟨p, h1, ι2, st2, rp2, wk, q⟩) fun _ _ e => e⟩) fun v s1 h1 => thn h1 fun itv s2 h2 => ?_
  obtain ⟨it, fp, tn, J, H2, e, I2, T, st2, f2, p, h1, ι2, sp2, rp2, wk, q⟩ := h2
  subst e
  obtain ⟨ps, hP, htr, ha⟩ := rp2.tabs _ hm
  have hPs : s2.heap.get? P = some { cls := .none, data := .fields ps } := I2.hok P _ hP
  have cd : PySem.W.CodeHd s2.heap c P := TB.code.keeps I2.bk
  have fpP : ∀ b ∈ fp, b ≠ P := fun b hb z => by
    have := (f2 b hb).1
    rw [z, hP] at this
    cases this
  have fpl : ∀ b ∈ fp, b < s2.heap.objs.size := fun b hb => by
    obtain ⟨o, e, _⟩ := T.obj _ _ st2 b hb
    exact Heap.lt_size e
  refine ⟨I2.nolimit, ?_⟩
  -- behind the code object
  have cont : ∀ (code : Value) (s3 : Shared) (H4 : Hp), Inv X pins σ H4 s3 → Step ι2 H2 ι2 H4 → Rep Γ ι2 h1 H4 → (∀ b ∈ fp, H4 b = none) → (∀ b ∈ fp, ∀ o, s2.heap.get? b = some o → s3.heap.get? b = some o) → s2.heap.objs.size ≤ s3.heap.objs.size →
      wpAny (model X.prog X.w) X.A (builtinsFor X.env.globals X.env.builtins) (fun bi s₄ =>
        ∀ h', h'.Ns s₄.heap.objs.size (fun y => if y = ".0" then some (.ref it) else none) → Heap.SameBut s₄.heap.objs.size (s₄.heap.push { cls := .type "frame", data := .dict #[] }) h' →
          Q' (.ref h'.objs.size) { s₄ with
            gens := s₄.gens.push (.fresh (.compStart (.GeneratorExp elt [⟨target, iter, ifs, 0⟩] scope gpos) 0 (.ref it) .none (genEnv scope (cloFrom X.env.cells scope.names []) s₄.heap.objs.size code bi X.env))),
            toks := s₄.toks + 1 + 1 + 1,
            heap := h'.push { cls := .type "generator", data := .fields #[.int s₄.gens.size 0, .str "<genexpr>" (s₄.toks + 1), .str (X.env.qual ++ "<genexpr>") (s₄.toks + 1 + 1)] } }) X.xe s3 := by
    intro code s3 H4 I3 sp3 rp3 fr3 kf hsz
    obtain ⟨bm, ob, e1, e2, e3, e4, e5, e6, e7, e8⟩ := TB.bm
    refine wpAny_builtinsFor (m := X.mg) (by rw [I3.ok.glob]; exact I3.mod.glob.keeps I3.bk) e1 e2 (I3.bk _ _ e5) e6 e7 e8 ?_
    intro h' hn' hs'
    have hsz' : h'.objs.size = s3.heap.objs.size + 1 := by rw [hs'.1, Heap.size_push]
    have keep' : ∀ b o, s3.heap.get? b = some o → h'.get? b = some o := fun b o e => hs'.extBut b o (Nat.ne_of_lt (Heap.lt_size e)) (Heap.get?_push_of_some _ e)
    have keep5 : ∀ (go : Obj) b o, s3.heap.get? b = some o → (h'.push go).get? b = some o := fun go b o e => Heap.get?_push_of_some _ (keep' b o e)
    refine q ι2 H4 _ _ (sp2.trans sp3) ⟨rp3, rp.relL (sp2.trans sp3) rl, ?_, ?_, s3.gens.size, _, s3, fp, it, J, tn, code, _, ⟨rfl, ⟨_, _, rfl⟩, rfl⟩, Heap.get?_push_size _ rfl, Array.getElem?_push_size .., by rw [hsz']; exact Nat.lt_succ_self _, I3, fun b hb => ⟨⟨fr3 b hb, (f2 b hb).2⟩, Nat.lt_of_lt_of_le (fpl b hb) hsz⟩, T,
      T.keep _ _ _ st2 fun b hb o e => keep5 _ b o (kf b hb o e), WalkD.on wk sp3, hn'.push _, keep5 _, rfl⟩
    · exact Inv.gens (I3.kept (t' := s3.toks + 1 + 1 + 1) (keep5 _)) (AllBare.push I3.bare rfl)
    · show h'.objs.size < (h'.push _).objs.size
      rw [Heap.size_push]; exact Nat.lt_succ_self _
  cases hf : codeAmong gpos ps.toList with
  | none =>
    refine wpAny_genexprCodeX hcode (cd.code hPs htr) (cd.tab hPs) hf fun c' h' tk hx hge hlt hco' hrec htab' _ => ?_
    obtain ⟨c2, oc, vs, t, e2, hoc, hd, hv⟩ := hrec
    cases e2
    have nC : H2 c' = none := I2.hok.fresh hge
    have I3 := LamX.inv_table (t' := tk) (q := X.env.qual ++ "<genexpr>") (more := #[rawInt gpos.line, rawInt gpos.col, .ref c']) I2 hP (fun b o hb e => hx b o hb e) htab'.2 hge ⟨oc, vs, t, hoc, hd, hv⟩
    have hE : LamX.ExtN H2 (upd (upd H2 P (.tbl (ps ++ #[rawInt gpos.line, rawInt gpos.col, .ref c']))) c' (LamX.CodeO c' (X.env.qual ++ "<genexpr>"))) := fun b o e n => by
      rw [upd_ne (ne_of_none e nC), upd_ne (fun z => n ps (Option.some.inj (e.symm.trans (by rw [z]; exact hP))))]
      exact e
    have eL : (ps ++ #[rawInt gpos.line, rawInt gpos.col, .ref c']).toList = ps.toList ++ [rawInt gpos.line, rawInt gpos.col, .ref c'] := by simp
    have hT4 : LamX.Tabs Γ.T (upd (upd H2 P (.tbl (ps ++ #[rawInt gpos.line, rawInt gpos.col, .ref c']))) c' (LamX.CodeO c' (X.env.qual ++ "<genexpr>"))) := fun p hp => by
      by_cases hb : p.1 = P
      · rw [hu p hp hb, hb]
        refine ⟨_, by rw [upd_ne (ne_of_none hP nC), upd_same], by rw [eL]; exact PySem.TriplesOk_snoc _ _ _ _ htr, fun p' cv hcv => ?_⟩
        rw [eL] at hcv
        rcases LamX.among_app _ htr hcv with z | z
        · obtain ⟨c0, e1, e2⟩ := ha p' cv z
          exact ⟨c0, e1, hE _ _ e2 LamX.codeO_ne⟩
        · exact ⟨c', z, upd_same⟩
      · obtain ⟨ps', a1, a2, a3⟩ := rp2.tabs p hp
        refine ⟨ps', by rw [upd_ne (ne_of_none a1 nC), upd_ne hb]; exact a1, a2, fun p' cv hcv => ?_⟩
        obtain ⟨c0, e1, e2⟩ := a3 p' cv hcv
        exact ⟨c0, e1, hE _ _ e2 LamX.codeO_ne⟩
    refine cont _ _ _ I3 (Step.table hP nC) (rp2.table hP nC hT4) (fun b hb => ?_) (fun b hb o e => hx b o (fpP b hb) e) (Nat.le_trans hge (Nat.le_of_lt hlt))
    have hbc : b ≠ c' := Nat.ne_of_lt (Nat.lt_of_lt_of_le (fpl b hb) hge)
    rw [upd_ne hbc, upd_ne (fpP b hb)]
    exact (f2 b hb).1
  | some cv =>
    refine wpAny_genexprCode_hit hcode (cd.code hPs htr) hf ?_
    exact cont cv s2 H2 I2 (Step.refl _ _) rp2 (fun b hb => (f2 b hb).1) (fun _ _ _ e => e) (Nat.le_refl _)
end
end Fx

set_option Elab.async false
set_option linter.all false
set_option maxRecDepth 100000
set_option maxHeartbeats 1000000
namespace Fx
open PySem PySem.Spec PyProof.Rows L2 GenW

def anyF (b : Bool) : List (D × HS) → Option HS → Option (D × HS)
  | [], some h => some (.bl (!b), h)
  | [], none => none
  | (.bl c, h) :: r, fin => if c = b then some (.bl b, h) else anyF b r fin
  | _ :: _, _ => none
theorem anyF_go {b : Bool} {outs : List (D × HS)} {fin : Option HS} {v : D × HS} (e : anyF b outs fin = some v) : 0 < outs.length ∨ fin.isSome = true := by
  cases outs with
  | nil => cases fin with
    | none => cases e
    | some _ => exact .inr rfl
  | cons _ _ => exact .inl (Nat.succ_pos _)
def R.ofP {α : Type} : Option (α × HS) → R α
  | some p => .ok p.1 p.2
  | none => .bad
abbrev mGx (own : List Nat) (pick : List (Option Nat)) (it : MI) (tg : MG) (t : M Bool) (e : M D) (f : List (D × HS) → Option HS → Option (D × HS)) : M D := fun ls hs => (it ls hs).bind fun p h => R.ofP (f (gxGo own tg t e p.2 h (wipeL (capL pick ls) own) p.1 h).1 (gxGo own tg t e p.2 h (wipeL (capL pick ls) own) p.1 h).2)
section
variable {X : Cx} {Γ : Sta} {ι1 : Ix} {H1 : Hp} {S gA : Addr} {gO : Obj} {OK : OKT} {fp : List Addr} {outs : List (D × HS)} {fin : Option HS} {lsW : LS} {gn : Nat} {A : Around} {R' : Result → Shared → Prop}
theorem rel_bl {ι : Ix} {H : Hp} {c : Bool} {z : V} {v : Value} (r : RelD Γ ι H (.bl c) z) (rv : RelV z v) : v = .bool c := by
  cases r
  exact rv
theorem any_gx {b' : Bool} {hE : HS} (hO : GenO gO gn) (hh : A.handled = none) (hd : A.depth < recursionLimit) :
    ∀ (k j : Nat) (s : Shared), outs.length - j = k → j ≤ outs.length → anyF true (outs.drop j) fin = some (.bl b', hE) → GRdy X Γ ι1 H1 gA gA gO (fun _ _ _ o => o = gO) fp lsW outs fin gn A.in1 j s →
      (∀ s' j ι H σ o, GIx X Γ ι1 H1 gA gA gO (fun _ _ _ o => o = gO) fp lsW j hE ι H σ o s' → R' (.ok (.ret (.bool b'))) s') → codeAny (model X.prog X.w) A (.builtin "any.loop" ⟨[.ref gA], []⟩) R' s := by
  intro k
  induction k with
  | zero =>
    intro j s hk hj he hr hR
    have e : j = outs.length := by omega
    subst e
    rw [List.drop_length] at he
    refine codeAny_builtin F.entry_any_loop ?_
    rw [Around.under_plainId F.plain_any_loop _]
    show wpAny _ A.in1 (pyNext (.ref gA) >>= _) _ _ s
    refine wpAny_bind (gx_next hO hh hd hj hr (fun h => absurd h (Nat.lt_irrefl _)) fun _ s' h ι H σ o ef G => ?_)
    rw [ef] at he
    cases he
    exact wpAny_bind (wpAny_rule (wpAny_pure (hR s' _ ι H σ o G)))
  | succ k ih =>
    intro j s hk hj he hr hR
    have hlt : j < outs.length := by omega
    have hdj : outs.drop j = outs[j] :: outs.drop (j + 1) := List.drop_eq_getElem_cons hlt
    rw [hdj] at he
    refine codeAny_builtin F.entry_any_loop ?_
    rw [Around.under_plainId F.plain_any_loop _]
    show wpAny _ A.in1 (pyNext (.ref gA) >>= _) _ _ s
    refine wpAny_bind (gx_next hO hh hd hj hr (fun _ v s' d h ι H σ o z ho G rd rv hg hl hk => ?_) fun e => absurd hlt (by omega))
    rw [List.getElem?_eq_getElem hlt] at ho
    have ho : outs[j] = (d, h) := Option.some.inj ho
    rw [ho] at he
    cases d with
    | bl c =>
      obtain rfl := rel_bl rd rv
      refine wpAny_bind (wpAny_holding (wpAny_truthy_bool ?_))
      refine wpAny_bind (wpAny_letGo ?_)
      cases c with
      | true =>
        simp only [if_true]
        have he2 : some (D.bl true, h) = some (D.bl b', hE) := by simpa [anyF] using he
        cases he2
        exact wpAny_bind (wpAny_rule (wpAny_pure (hR s' _ ι H σ o G)))
      | false =>
        simp only [Bool.false_eq_true, if_false]
        have he2 : anyF true (outs.drop (j + 1)) fin = some (.bl b', hE) := by simpa [anyF] using he
        obtain ⟨st, rp, rl, ok, I, fr⟩ := _root_.id G
        have eg := (I.pin (gA, gO) (List.mem_append_right _ (List.mem_cons_of_mem _ List.mem_cons_self))).1
        refine wpAny_pure ⟨plainId_quiet F.plain_any_loop _, ih (j + 1) s' (by omega) hlt he2 (hk s' gO ⟨rfl, I.bare, fun _ _ _ e => e, eg, eg⟩ rfl hl rfl (fun x z => ?_) ?_) hR⟩
        · obtain ⟨nm, qn, hdt⟩ := hO.data
          rw [hdt] at z
          cases z
        · rcases anyF_go he2 with q | q
          · exact .inl (by simp at q; omega)
          · exact .inr q
    | _ => cases he
theorem all_gx {b' : Bool} {hE : HS} (hO : GenO gO gn) (hh : A.handled = none) (hd : A.depth < recursionLimit) :
    ∀ (k j : Nat) (s : Shared), outs.length - j = k → j ≤ outs.length → anyF false (outs.drop j) fin = some (.bl b', hE) → GRdy X Γ ι1 H1 gA gA gO (fun _ _ _ o => o = gO) fp lsW outs fin gn A.in1 j s →
      (∀ s' j ι H σ o, GIx X Γ ι1 H1 gA gA gO (fun _ _ _ o => o = gO) fp lsW j hE ι H σ o s' → R' (.ok (.ret (.bool b'))) s') → codeAny (model X.prog X.w) A (.builtin "all.loop" ⟨[.ref gA], []⟩) R' s := by
  intro k
  induction k with
  | zero =>
    intro j s hk hj he hr hR
    have e : j = outs.length := by omega
    subst e
    rw [List.drop_length] at he
    refine codeAny_builtin F.entry_all_loop ?_
    rw [Around.under_plainId F.plain_all_loop _]
    show wpAny _ A.in1 (pyNext (.ref gA) >>= _) _ _ s
    refine wpAny_bind (gx_next hO hh hd hj hr (fun h => absurd h (Nat.lt_irrefl _)) fun _ s' h ι H σ o ef G => ?_)
    rw [ef] at he
    cases he
    exact wpAny_bind (wpAny_rule (wpAny_pure (hR s' _ ι H σ o G)))
  | succ k ih =>
    intro j s hk hj he hr hR
    have hlt : j < outs.length := by omega
    have hdj : outs.drop j = outs[j] :: outs.drop (j + 1) := List.drop_eq_getElem_cons hlt
    rw [hdj] at he
    refine codeAny_builtin F.entry_all_loop ?_
    rw [Around.under_plainId F.plain_all_loop _]
    show wpAny _ A.in1 (pyNext (.ref gA) >>= _) _ _ s
    refine wpAny_bind (gx_next hO hh hd hj hr (fun _ v s' d h ι H σ o z ho G rd rv hg hl hk => ?_) fun e => absurd hlt (by omega))
    rw [List.getElem?_eq_getElem hlt] at ho
    have ho : outs[j] = (d, h) := Option.some.inj ho
    rw [ho] at he
    cases d with
    | bl c =>
      obtain rfl := rel_bl rd rv
      refine wpAny_bind (wpAny_holding (wpAny_truthy_bool ?_))
      refine wpAny_bind (wpAny_letGo ?_)
      cases c with
      | false =>
        simp only [Bool.false_eq_true, if_false]
        have he2 : some (D.bl false, h) = some (D.bl b', hE) := by simpa [anyF] using he
        cases he2
        exact wpAny_bind (wpAny_rule (wpAny_pure (hR s' _ ι H σ o G)))
      | true =>
        simp only [if_true]
        have he2 : anyF false (outs.drop (j + 1)) fin = some (.bl b', hE) := by simpa [anyF] using he
        obtain ⟨st, rp, rl, ok, I, fr⟩ := _root_.id G
        have eg := (I.pin (gA, gO) (List.mem_append_right _ (List.mem_cons_of_mem _ List.mem_cons_self))).1
        refine wpAny_pure ⟨plainId_quiet F.plain_all_loop _, ih (j + 1) s' (by omega) hlt he2 (hk s' gO ⟨rfl, I.bare, fun _ _ _ e => e, eg, eg⟩ rfl hl rfl (fun x z => ?_) ?_) hR⟩
        · obtain ⟨nm, qn, hdt⟩ := hO.data
          rw [hdt] at z
          cases z
        · rcases anyF_go he2 with q | q
          · exact .inl (by simp at q; omega)
          · exact .inr q
    | _ => cases he
end
/-- what a generator's block asks -/
structure GxJ (X : Cx) (Γ : Sta) (k : Nat) (target elt : Expr) (ifs : List Expr) (scope : Scope) (N' : List Str) (tg : MG) (mt : M Bool) (me : M D) : Prop where
  g : ∀ (A : Around) (s : Shared) (H : Hp) (C : Addr) (code : Value) (fp : List Addr), Room k A → FG (gxCx X A s H (gxE X scope C code) fp N') Γ target tg
  t : ∀ (A : Around) (s : Shared) (H : Hp) (C : Addr) (code : Value) (fp : List Addr), Room k (A.deeper (gxE X scope C code)) → FTs (gxCx X A s H (gxE X scope C code) fp N') Γ E0 ifs mt
  e : ∀ (A : Around) (s : Shared) (H : Hp) (C : Addr) (code : Value) (fp : List Addr), Room k (A.deeper (gxE X scope C code)) → FE (gxCx X A s H (gxE X scope C code) fp N') Γ E0 elt me
section
variable {X : Cx} {Γ : Sta} {E : XK} {elt target iter : Expr} {ifs : List Expr} {scope : Scope} {gpos p pos : Pos} {N' : List Str} {pick : List (Option Nat)} {mi : MI} {c P : Addr} {k : Nat} {own : List Nat} {tg : MG} {mt : M Bool} {me : M D} {f : List (D × HS) → Option HS → Option (D × HS)}
theorem MadeG.frames {pins : List (Addr × Obj)} {σ : L2.St} {ls : LS} {ds : List D} {gd : Option Nat} {h1 : HS} {ι4 : Ix} {H4 : Hp} {g : Addr} {s5 : Shared} (M : MadeG X pins σ Γ elt target iter ifs scope gpos ls ds gd h1 ι4 H4 g s5) : X.A.frames = some X.stack := M.2.2.1.ok.frames
/-- a builtin over a generator expression that is ready -/
def CallGx (X : Cx) (Γ : Sta) (E : XK) (elt target iter : Expr) (ifs : List Expr) (scope : Scope) (gpos : Pos) (pick : List (Option Nat)) (own : List Nat) (tg : MG) (mt : M Bool) (me : M D) (bv : Value) (f : List (D × HS) → Option HS → Option (D × HS)) : Prop :=
  ∀ (pins : List (Addr × Obj)) (σ : L2.St) (Q : VK) (ls : LS) (ds : List D) (gd : Option Nat) (h1 : HS) (ι4 : Ix) (H4 : Hp) (g : Addr) (s5 : Shared) (outs : List (D × HS)) (fin : Option HS) (v : D) (hE : HS), MadeG X pins σ Γ elt target iter ifs scope gpos ls ds gd h1 ι4 H4 g s5 →
    gxGo own tg mt me gd h1 (wipeL (capL pick ls) own) ds h1 = (outs, fin) → f outs fin = some (v, hE) → (∀ ι' H' z, Step ι4 H4 ι' H' → Rep Γ ι' hE H' → RelD Γ ι' H' v z → Q z H') → wpAny (model X.prog X.w) X.A (call bv [.ref g]) (EP X pins σ Q) X.xe s5
theorem fe_gx {nm : Str} {q : String} (hr : Room k X.A) (hgl : Gl X nm) (hmg : X.mg nm = none) (hb : bootBuiltins nm = some (.builtin q)) (TB : LamX.TabB X.base X.mg c P) (hcode : X.env.code = .ref c) (hm : (P, X.env.qual ++ "<genexpr>") ∈ Γ.T) (hu : ∀ p ∈ Γ.T, p.1 = P → p.2 = X.env.qual ++ "<genexpr>") (L : GxS X.env.scope scope X.N N' pick)
    (hi : FI X Γ E target iter mi) (hs : ∀ v, genFold iter X.env v = pure v) (hc : CallGx X Γ E elt target iter ifs scope gpos pick own tg mt me (.builtin q) f) 
    (he : starEach [.GeneratorExp elt [⟨target, iter, ifs, 0⟩] scope gpos] X.env = (false, eval (.GeneratorExp elt [⟨target, iter, ifs, 0⟩] scope gpos) X.env) :: starEach [] X.env := by rfl)
    (hnn : nm ≠ "__name__" := by decide) (hd : (nm == ("__debug__" : Str)) = false := by decide) :
    FE X Γ E (.Call (.Name nm p) [.GeneratorExp elt [⟨target, iter, ifs, 0⟩] scope gpos] [] pos) (mGx own pick mi tg mt me f) := by
  refine ⟨fun pins s σ H Q I h => ?_⟩
  obtain ⟨ι, ls, hs0, rp, rl, sat⟩ := h
  refine wpAny_Call_Name_kw (ld_blt I hgl hmg hb ?_ hnn hd)
  refine PyProof.Rows.callWith_builtin1 ?_ he (by rfl)
  rw [he]
  show wpAny _ _ (spliced ((false, eval (.GeneratorExp elt [⟨target, iter, ifs, 0⟩] scope gpos) X.env) :: backTo pos (starEach [] X.env))) _ _ s
  refine Calls.spliced_cons (gx_make hr TB hcode hm hu L hi hs I rp rl (sat.of_bind.mono (fun p h1 q ι4 H4 g s5 st4 M => ?_) fun _ _ e => e))
  refine Calls.spliced_nil ?_
  generalize hq : gxGo own tg mt me p.2 h1 (wipeL (capL pick ls) own) p.1 h1 = q2 at q
  obtain ⟨outs, fin⟩ := q2
  cases ea : f outs fin with
  | none => rw [show f (outs, fin).1 (outs, fin).2 = none from ea] at q; exact q.elim
  | some vh =>
  obtain ⟨v, hE⟩ := vh
  rw [show f (outs, fin).1 (outs, fin).2 = some (v, hE) from ea] at q
  exact hc pins σ Q ls p.1 p.2 h1 ι4 H4 g s5 outs fin v hE M hq ea fun ι' H' z st' rp' rd' => q ι' H' z (st4.trans st') rp' rd'
theorem MadeG.isGen {pins : List (Addr × Obj)} {σ : L2.St} {ls : LS} {ds : List D} {gd : Option Nat} {h1 : HS} {ι4 : Ix} {H4 : Hp} {g : Addr} {s5 : Shared} (M : MadeG X pins σ Γ elt target iter ifs scope gpos ls ds gd h1 ι4 H4 g s5) : ∃ gn gO, GenO gO gn ∧ s5.heap.get? g = some gO ∧ s5.heap.IsGen g gn ∧ ∀ x, gO.data ≠ .cell x := by
  obtain ⟨rp4, _, I5, _, gn, gO, _, _, _, _, _, _, _, hO, hgO, _, _⟩ := M
  obtain ⟨nm, qn, hdt⟩ := hO.data
  exact ⟨gn, gO, hO, hgO, ⟨gO, nm, qn, hgO, hO.cls, hdt, hO.slots⟩, fun x z => by rw [hdt] at z; cases z⟩
theorem anyF_bl {b : Bool} {fin : Option HS} {v : D} {hE : HS} : ∀ (outs : List (D × HS)), anyF b outs fin = some (v, hE) → ∃ b', v = .bl b'
  | [], e => by cases fin with
    | none => cases e
    | some _ => cases e; exact ⟨_, rfl⟩
  | (d, h) :: r, e => by
    cases d with
    | bl c =>
      unfold anyF at e
      split at e
      · cases e; exact ⟨_, rfl⟩
      · exact anyF_bl r e
    | _ => cases e
theorem call_anyG (hr : Room (k + 4) X.A) (L : GxS X.env.scope scope X.N N' pick) (J : GxJ X Γ k target elt ifs scope N' tg mt me) : CallGx X Γ E elt target iter ifs scope gpos pick own tg mt me (.builtin "any") (anyF true) := by
  intro pins σ Q ls ds gd h1 ι4 H4 g s5 outs fin v hE M hq ea q
  refine call_function_tree F.kind_any F.plain_any F.entry_any (F.args_any1 _) ?_
  unfold Builtin.«any»
  refine wpAny_bind (m := oneArg "any" _) (wpAny_pure ?_)
  obtain ⟨gn, gO, hO, hgO, isG, ncl⟩ := M.isGen
  refine wpAny_bind (wpAny_pyIter_gen isG ?_)
  obtain ⟨b', rfl⟩ := anyF_bl outs ea
  have r1 : Room (k + 3) X.A.in1 := Room.in1 hr
  have r2 : Room (k + 2) X.A.in1.in1 := Room.in1 r1
  obtain ⟨s4, C, code, fp, gO', gn', hO', hgO', R0, back⟩ := wake_gx (k := k) (A1 := X.A.in1) (S := g) (OK := fun _ _ _ o => o = gO) (o := gO) (s2 := s5) (outs := outs) (fin := fin) M L r1.hd (MadeG.frames M)
    (fun s H C code fp => J.g _ s H C code fp (r2.mono (by omega))) (fun s H C code fp => J.t _ s H C code fp ((r2.mono (by omega) : Room (k + 1) X.A.in1.in1).deeper _)) (fun s H C code fp => J.e _ s H C code fp ((r2.mono (by omega) : Room (k + 1) X.A.in1.in1).deeper _))
    (Nat.le_refl _) hgO ncl (fun _ _ e => e) rfl rfl rfl (fun _ _ _ _ _ _ _ _ _ e => e) hq (anyF_go ea)
  obtain rfl : gO' = gO := Option.some.inj (hgO'.symm.trans hgO)
  refine wpAny_pure ⟨plainId_quiet F.plain_any_loop _, any_gx (X := gxCx X X.A.in1.in1 s4 H4 (gxE X scope C code) fp N') (b' := b') (hE := hE) hO' hr.hd (by have := hr.dp; omega) outs.length 0 s5 (Nat.sub_zero _) (Nat.zero_le _) (by simpa using ea) R0 fun s' j ι H σ o G => ?_⟩
  exact ⟨.bl b', H, back _ _ _ _ _ _ _ G, rfl, q ι H _ G.1 G.2.1 (.bl b')⟩
theorem call_allG (hr : Room (k + 4) X.A) (L : GxS X.env.scope scope X.N N' pick) (J : GxJ X Γ k target elt ifs scope N' tg mt me) : CallGx X Γ E elt target iter ifs scope gpos pick own tg mt me (.builtin "all") (anyF false) := by
  intro pins σ Q ls ds gd h1 ι4 H4 g s5 outs fin v hE M hq ea q
  refine call_function_tree F.kind_all F.plain_all F.entry_all (F.args_all1 _) ?_
  unfold Builtin.«all»
  refine wpAny_bind (m := oneArg "all" _) (wpAny_pure ?_)
  obtain ⟨gn, gO, hO, hgO, isG, ncl⟩ := M.isGen
  refine wpAny_bind (wpAny_pyIter_gen isG ?_)
  obtain ⟨b', rfl⟩ := anyF_bl outs ea
  have r1 : Room (k + 3) X.A.in1 := Room.in1 hr
  have r2 : Room (k + 2) X.A.in1.in1 := Room.in1 r1
  obtain ⟨s4, C, code, fp, gO', gn', hO', hgO', R0, back⟩ := wake_gx (k := k) (A1 := X.A.in1) (S := g) (OK := fun _ _ _ o => o = gO) (o := gO) (s2 := s5) (outs := outs) (fin := fin) M L r1.hd (MadeG.frames M)
    (fun s H C code fp => J.g _ s H C code fp (r2.mono (by omega))) (fun s H C code fp => J.t _ s H C code fp ((r2.mono (by omega) : Room (k + 1) X.A.in1.in1).deeper _)) (fun s H C code fp => J.e _ s H C code fp ((r2.mono (by omega) : Room (k + 1) X.A.in1.in1).deeper _))
    (Nat.le_refl _) hgO ncl (fun _ _ e => e) rfl rfl rfl (fun _ _ _ _ _ _ _ _ _ e => e) hq (anyF_go ea)
  obtain rfl : gO' = gO := Option.some.inj (hgO'.symm.trans hgO)
  refine wpAny_pure ⟨plainId_quiet F.plain_all_loop _, all_gx (X := gxCx X X.A.in1.in1 s4 H4 (gxE X scope C code) fp N') (b' := b') (hE := hE) hO' hr.hd (by have := hr.dp; omega) outs.length 0 s5 (Nat.sub_zero _) (Nat.zero_le _) (by simpa using ea) R0 fun s' j ι H σ o G => ?_⟩
  exact ⟨.bl b', H, back _ _ _ _ _ _ _ G, rfl, q ι H _ G.1 G.2.1 (.bl b')⟩
end
end Fx

set_option Elab.async false
set_option linter.all false
set_option maxRecDepth 100000
set_option maxHeartbeats 1000000
namespace Fx
open PySem PySem.Spec PyProof.Rows L2 GenW
open AutoSeq1 (wpAny_loadPart')

def fits (i : Int) : Prop := -(2 ^ 63) ≤ i ∧ i < 2 ^ 63
instance (i : Int) : Decidable (fits i) := inferInstanceAs (Decidable (_ ∧ _))
def sumF (acc : Int) : List (D × HS) → Option HS → Option (D × HS)
  | [], some h => some (.int acc, h)
  | (.int i, _) :: r, fin => if fits i ∧ fits (acc + i) then sumF (acc + i) r fin else none
  | _, _ => none
theorem sumF_go {a : Int} {outs : List (D × HS)} {fin : Option HS} {v : D × HS} (e : sumF a outs fin = some v) : 0 < outs.length ∨ fin.isSome = true := by
  cases outs with
  | nil => cases fin with
    | none => cases e
    | some _ => exact .inr rfl
  | cons _ _ => exact .inl (Nat.succ_pos _)
/-- the running sum -/
def runS : List (D × HS) → Nat → Int
  | _, 0 => 0
  | [], _ + 1 => 0
  | (.int i, _) :: r, j + 1 => i + runS r j
  | _ :: _, _ + 1 => 0
abbrev intCell (i : Int) (t : Tok) (c : Nat) : Obj := { cls := .type "list", dict := none, data := .seq #[.int i t] c, slots := #[] }
section
variable {X : Cx} {Γ : Sta} {ι1 : Ix} {H1 : Hp} {S gA : Addr} {gO : Obj} {OK : OKT} {fp : List Addr} {outs : List (D × HS)} {fin : Option HS} {lsW : LS} {gn : Nat} {A : Around} {R' : Result → Shared → Prop}
theorem rel_int {ι : Ix} {H : Hp} {c : Int} {z : V} {v : Value} (r : RelD Γ ι H (.int c) z) (rv : RelV z v) : ∃ t, v = .int c t := by
  cases r
  exact rv
theorem runS_succ : ∀ (outs : List (D × HS)) (j : Nat) (i : Int) (h : HS), (∀ m, m ≤ j → ∀ d h, outs[m]? = some (d, h) → ∃ i, d = .int i) → outs[j]? = some (.int i, h) → runS outs (j + 1) = runS outs j + i
  | [], j, i, h, _, e => by simp at e
  | (d, h0) :: r, 0, i, h, a, e => by
    simp at e
    obtain ⟨rfl, rfl⟩ := e
    simp [runS]
  | (d, h0) :: r, j + 1, i, h, a, e => by
    obtain ⟨i0, rfl⟩ := a 0 (Nat.zero_le _) d h0 rfl
    have := runS_succ r j i h (fun m hm d h e => a (m + 1) (by omega) d h (by simpa using e)) (by simpa using e)
    simp only [runS]
    rw [this]
    omega
theorem sum_gx {v : D} {hE : HS} (hSg : S ≠ gA) (hO : GenO gO gn) (hh : A.handled = none) (hd : A.depth < recursionLimit) :
    ∀ (k j : Nat) (s : Shared) (acc : Int) (t0 : Tok) (c : Nat), outs.length - j = k → j ≤ outs.length → runS outs j = acc → (∀ m, m < j → ∀ d h, outs[m]? = some (d, h) → ∃ i, d = .int i) → sumF acc (outs.drop j) fin = some (v, hE) →
      GRdy X Γ ι1 H1 S gA gO (fun j _ _ o => ∃ t c, o = intCell (runS outs j) t c) fp lsW outs fin gn A.in1 j s → s.heap.get? S = some (intCell acc t0 c) →
      (∀ s' t j ι H σ o i, v = .int i → GIx X Γ ι1 H1 S gA gO (fun j _ _ o => ∃ t c, o = intCell (runS outs j) t c) fp lsW j hE ι H σ o s' → R' (.ok (.ret (.int i t))) s') → codeAny (model X.prog X.w) A (.builtin "sum.loop" ⟨[.ref gA, .ref S, rawInt 0, rawInt 0], []⟩) R' s := by
  intro k
  induction k with
  | zero =>
    intro j s acc t0 c hk hj hacc hints he hr hS hR
    have e : j = outs.length := by omega
    subst e
    rw [List.drop_length] at he
    refine codeAny_builtin F.entry_sum_loop ?_
    rw [Around.under_plainId F.plain_sum_loop _]
    show wpAny _ A.in1 (seqItems? (.ref S) >>= _) _ _ s
    refine wpAny_bind (wpAny_seqItems hS rfl ?_)
    show wpAny _ A.in1 (tryCatch (pyNext (.ref gA)) _ >>= _) _ _ s
    refine wpAny_bind (wpAny_tryCatch (gx_next hO hh hd hj hr (fun h => absurd h (Nat.lt_irrefl _)) fun _ s' h ι H σ o ef G => ?_))
    rw [ef] at he
    cases he
    exact wpAny_pure (hR s' t0 _ ι H σ o acc rfl G)
  | succ k ih =>
    intro j s acc t0 c hk hj hacc hints he hr hS hR
    have hlt : j < outs.length := by omega
    have hdj : outs.drop j = outs[j] :: outs.drop (j + 1) := List.drop_eq_getElem_cons hlt
    rw [hdj] at he
    refine codeAny_builtin F.entry_sum_loop ?_
    rw [Around.under_plainId F.plain_sum_loop _]
    show wpAny _ A.in1 (seqItems? (.ref S) >>= _) _ _ s
    refine wpAny_bind (wpAny_seqItems hS rfl ?_)
    show wpAny _ A.in1 (tryCatch (pyNext (.ref gA)) _ >>= _) _ _ s
    refine wpAny_bind (wpAny_tryCatch (gx_next hO hh hd hj hr (fun _ v' s' d h ι H σ o z ho G rd rv hg hl hk' => ?_) fun e => absurd hlt (by omega)))
    rw [List.getElem?_eq_getElem hlt] at ho
    have ho : outs[j] = (d, h) := Option.some.inj ho
    rw [ho] at he
    cases d with
    | int i =>
      obtain ⟨ti, rfl⟩ := rel_int rd rv
      unfold sumF at he
      split at he
      case isFalse => cases he
      rename_i hf
      obtain ⟨⟨f1, f2⟩, f3, f4⟩ := hf
      obtain ⟨st, rp, rl, ⟨t1, c1, eo⟩, I, fr⟩ := _root_.id G
      have eS := (I.pin (S, o) (List.mem_append_right _ List.mem_cons_self)).1
      have eg := (I.pin (gA, gO) (List.mem_append_right _ (List.mem_cons_of_mem _ List.mem_cons_self))).1
      have eS : s'.heap.get? S = some o := eS
      have eg : s'.heap.get? gA = some gO := eg
      rw [eo, hacc] at eS
      have hc : ((decide (-(2 ^ 63) ≤ i) && decide (i < 2 ^ 63)) && (decide (-(2 ^ 63) ≤ acc + i) && decide (acc + i < 2 ^ 63))) = true := by
        simp only [Bool.and_eq_true, decide_eq_true_eq]
        exact ⟨⟨f1, f2⟩, f3, f4⟩
      have hints' : ∀ m, m < j + 1 → ∀ d h, outs[m]? = some (d, h) → ∃ i, d = .int i := fun m hm d' h' e' => by
        by_cases hmj : m < j
        · exact hints m hmj d' h' e'
        · have : m = j := by omega
          subst this
          rw [List.getElem?_eq_getElem hlt, ho] at e'
          cases e'
          exact ⟨i, rfl⟩
      have hnext : runS outs (j + 1) = acc + i := by
        rw [runS_succ outs j i h (fun m hm d' h' e' => hints' m (by omega) d' h' e') (by rw [List.getElem?_eq_getElem hlt, ho]), hacc]
      show wpAny _ A.in1 (if (_ : Bool) = true then (mkInt (acc + i) >>= _) else _) _ _ _
      split
      · refine wpAny_bind (wpAny_mkInt ?_)
        show wpAny _ A.in1 (updateSeq S (fun _ => #[.int (acc + i) s'.toks]) >>= _) _ _ _
        refine wpAny_bind ?_
        refine wpAny_updateSeq eS rfl (wpAny_pure ⟨plainId_quiet F.plain_sum_loop _, ?_⟩)
        have hup := Heap.get?_update_self (h := s'.heap) (Obj.mapSeq fun _ => #[.int (acc + i) s'.toks]) eS rfl
        refine ih (j + 1) _ (acc + i) s'.toks _ (by omega) hlt hnext hints' he (hk' _ _ ⟨rfl, I.bare, fun b ob hb e => (Heap.get?_update_other _ _ (Ne.symm hb)).trans e, hup, (Heap.get?_update_other _ _ hSg).trans eg⟩ rfl ?_ ?_ (fun x z => by cases z) ?_) hup hR
        · obtain ⟨mc, hns, hnn⟩ := hl
          refine ⟨mc, hns.at' fun ob e => (Heap.get?_update_other _ _ (fun z : S = cStatics => ?_)).trans e, hnn⟩
          obtain ⟨o', es, ep, ho', hd', _⟩ := hns
          rw [← z, eS] at ho'
          cases ho'
          cases hd'
        · exact ⟨s'.toks, _, by rw [hnext]; rfl⟩
        · rcases sumF_go he with q | q
          · exact .inl (by simp at q; omega)
          · exact .inr q
      · rename_i hneg
        exact absurd hc hneg
    | _ => cases he
end
section
variable {X : Cx} {Γ : Sta} {E : XK} {elt target iter : Expr} {ifs : List Expr} {scope : Scope} {gpos p pos : Pos} {N' : List Str} {pick : List (Option Nat)} {mi : MI} {c P : Addr} {k : Nat} {own : List Nat} {tg : MG} {mt : M Bool} {me : M D}
theorem sumF_int {fin : Option HS} {v : D} {hE : HS} : ∀ (outs : List (D × HS)) (a : Int), sumF a outs fin = some (v, hE) → ∃ i, v = .int i
  | [], a, e => by cases fin with
    | none => cases e
    | some _ => cases e; exact ⟨_, rfl⟩
  | (d, h) :: r, a, e => by
    cases d with
    | int i =>
      unfold sumF at e
      split at e
      · exact sumF_int r _ e
      · cases e
    | _ => cases e
theorem call_sumG (hr : Room (k + 4) X.A) (L : GxS X.env.scope scope X.N N' pick) (J : GxJ X Γ k target elt ifs scope N' tg mt me) : CallGx X Γ E elt target iter ifs scope gpos pick own tg mt me (.builtin "sum") (sumF 0) := by
  intro pins σ Q ls ds gd h1 ι4 H4 g s5 outs fin v hE M hq ea q
  refine call_function_tree F.kind_sum F.plain_sum F.entry_sum (F.args_sum1 _) ?_
  unfold Builtin.«sum»
  simp only [List.length_cons, List.length_nil]
  rw [if_neg (by decide)]
  refine wpAny_bind (wpAny_of_eq (show Builtin.Builtins.bindParams "sum" ["start"] 0 { } = pure [none] from rfl) ?_)
  obtain ⟨gn, gO, hO, hgO, isG, ncl⟩ := M.isGen
  refine wpAny_bind (wpAny_pyIter_gen isG ?_)
  refine wpAny_bind (wpAny_mkInt ?_)
  refine wpAny_bind (wpAny_pure ?_)
  simp only [List.forIn_cons, List.forIn_nil]
  refine wpAny_bind (wpAny_bind (wpAny_bind (wpAny_isInstance (T := "int") (b := false) (typeIs_int _ _ _) PySem.sub_int_str ?_)))
  simp only [Bool.false_eq_true, if_false]
  refine wpAny_pure (wpAny_bind (wpAny_bind (wpAny_isInstance (T := "int") (b := false) (typeIs_int _ _ _) PySem.sub_int_bytes ?_)))
  simp only [Bool.false_eq_true, if_false]
  refine wpAny_pure (wpAny_bind (wpAny_bind (wpAny_isInstance (T := "int") (b := false) (typeIs_int _ _ _) PySem.sub_int_bytearray ?_)))
  simp only [Bool.false_eq_true, if_false]
  refine wpAny_pure (wpAny_pure ?_)
  refine wpAny_bind (wpAny_newObj_type ?_)
  obtain ⟨i', rfl⟩ := sumF_int outs 0 ea
  have r1 : Room (k + 3) X.A.in1 := Room.in1 hr
  have r2 : Room (k + 2) X.A.in1.in1 := Room.in1 r1
  have hgl : g < s5.heap.objs.size := M.2.2.2.1
  obtain ⟨s4, C, code, fp, gO', gn', hO', hgO', R0, back⟩ := wake_gx (k := k) (A1 := X.A.in1) (S := s5.heap.objs.size) (OK := fun j _ _ o => ∃ t c, o = intCell (runS outs j) t c) (o := intCell 0 s5.toks 0) (s2 := { s5 with heap := s5.heap.push (intCell 0 s5.toks 0), toks := s5.toks + 1 }) (outs := outs) (fin := fin) M L r1.hd (MadeG.frames M)
    (fun s H C code fp => J.g _ s H C code fp (r2.mono (by omega))) (fun s H C code fp => J.t _ s H C code fp ((r2.mono (by omega) : Room (k + 1) X.A.in1.in1).deeper _)) (fun s H C code fp => J.e _ s H C code fp ((r2.mono (by omega) : Room (k + 1) X.A.in1.in1).deeper _))
    (Nat.le_of_lt hgl) (Heap.get?_push_size _ rfl) (fun x z => by cases z) (fun _ _ e => Heap.get?_push_of_some _ e) rfl rfl ⟨_, _, by unfold runS; rfl⟩ (fun _ _ _ _ _ _ _ _ _ e => e) hq (sumF_go ea)
  obtain rfl : gO' = gO := Option.some.inj (hgO'.symm.trans hgO)
  refine wpAny_pure ⟨plainId_quiet F.plain_sum_loop _, sum_gx (X := gxCx X X.A.in1.in1 s4 H4 (gxE X scope C code) fp N') (v := .int i') (hE := hE) (Nat.ne_of_gt hgl) hO' hr.hd (by have := hr.dp; omega) outs.length 0 _ 0 s5.toks 0 (Nat.sub_zero _) (Nat.zero_le _) (by unfold runS; rfl) (fun m hm => absurd hm (Nat.not_lt_zero _)) (by simpa using ea) R0 (Heap.get?_push_size _ rfl) fun s' t j ι H σ o i ei G => ?_⟩
  cases ei
  exact ⟨.int i', H, back _ _ _ _ _ _ _ G, ⟨t, rfl⟩, q ι H _ G.1 G.2.1 (.int i')⟩
end
end Fx

set_option Elab.async false
set_option linter.all false
set_option maxRecDepth 100000
set_option maxHeartbeats 1000000
namespace Fx
open PySem PySem.Spec PyProof.Rows L2 GenW
open AutoSeq1 (wpAny_loadPart')

def okAcc (Γ : Sta) (outs : List (D × HS)) : OKT := fun j ι H o => ∃ (acc : Array Value) (c : Nat) (zs : List V), o = lstObj acc c ∧ acc.size = j ∧ Vals zs acc.toList ∧ RelDs Γ ι H ((outs.take j).map (·.1)) zs
section
variable {X : Cx} {Γ : Sta} {ι1 : Ix} {H1 : Hp} {S gA : Addr} {gO : Obj} {fp : List Addr} {outs : List (D × HS)} {fin : Option HS} {lsW : LS} {gn : Nat} {A : Around} {R' : Result → Shared → Prop} {res : Value}
theorem extend_gx {hE : HS} (hSg : S ≠ gA) (hO : GenO gO gn) (hh : A.handled = none) (hd : A.depth < recursionLimit) (hfin : fin = some hE) (hsz : outs.length ≤ sizeLine) :
    ∀ (k j : Nat) (s : Shared), outs.length - j = k → j ≤ outs.length → GRdy X Γ ι1 H1 S gA gO (okAcc Γ outs) fp lsW outs fin gn A.in1 j s →
      (∀ s' ι H σ o, GIx X Γ ι1 H1 S gA gO (okAcc Γ outs) fp lsW outs.length hE ι H σ o s' → R' (.ok (.ret res)) s') → codeAny (model X.prog X.w) A (.builtin "list.extend.loop" ⟨[.ref S, .ref gA, res], []⟩) R' s := by
  intro k
  induction k with
  | zero =>
    intro j s hk hj hr hR
    have e : j = outs.length := by omega
    subst e
    refine codeAny_builtin F.entry_extend_loop ?_
    rw [Around.under_plainId F.plain_extend_loop _]
    show wpAny _ A.in1 (pyNext (.ref gA) >>= _) _ _ s
    refine wpAny_bind (gx_next hO hh hd hj hr (fun h => absurd h (Nat.lt_irrefl _)) fun _ s' h ι H σ o ef G => ?_)
    rw [hfin] at ef
    cases ef
    exact wpAny_pure (hR s' ι H σ o G)
  | succ k ih =>
    intro j s hk hj hr hR
    have hlt : j < outs.length := by omega
    refine codeAny_builtin F.entry_extend_loop ?_
    rw [Around.under_plainId F.plain_extend_loop _]
    show wpAny _ A.in1 (pyNext (.ref gA) >>= _) _ _ s
    refine wpAny_bind (gx_next hO hh hd hj hr (fun _ v' s' d h ι H σ o z ho G rd rv hg hl hk' => ?_) fun e => absurd hlt (by omega))
    obtain ⟨st, rp, rl, ⟨acc, c, zs, eo, hacc, hv, hrel⟩, I, fr⟩ := _root_.id G
    have eS : s'.heap.get? S = some o := (I.pin (S, o) (List.mem_append_right _ List.mem_cons_self)).1
    have eg : s'.heap.get? gA = some gO := (I.pin (gA, gO) (List.mem_append_right _ (List.mem_cons_of_mem _ List.mem_cons_self))).1
    rw [eo] at eS
    show wpAny _ A.in1 (updateSeq S (·.push v') >>= _) _ _ _
    refine wpAny_bind ?_
    refine wpAny_updateSeq eS rfl (wpAny_pure ⟨plainId_quiet F.plain_extend_loop _, ?_⟩) (by rw [hacc]; omega) (by show (acc.push v').size ≤ sizeLine + 1; rw [Array.size_push, hacc]; omega)
    have hup := Heap.get?_update_self (h := s'.heap) (Obj.mapSeq (·.push v')) eS rfl
    refine ih (j + 1) _ (by omega) hlt (hk' _ _ ⟨rfl, I.bare, fun b ob hb e => (Heap.get?_update_other _ _ (Ne.symm hb)).trans e, hup, (Heap.get?_update_other _ _ hSg).trans eg⟩ rfl ?_ ?_ (fun x z => by cases z) (by rw [hfin]; exact .inr rfl)) hR
    · obtain ⟨mc, hns, hnn⟩ := hl
      refine ⟨mc, hns.at' fun ob e => (Heap.get?_update_other _ _ (fun z : S = cStatics => ?_)).trans e, hnn⟩
      obtain ⟨o', es, ep, ho', hd', _⟩ := hns
      rw [← z, eS] at ho'
      cases ho'
      cases hd'
    · refine ⟨acc.push v', _, zs ++ [z], rfl, by rw [Array.size_push, hacc], by rw [Array.toList_push]; exact hv.append (.cons rv .nil), ?_⟩
      have ht : outs.take (j + 1) = outs.take j ++ [(d, h)] := by
        rw [List.take_add_one, ho]
        rfl
      rw [ht, List.map_append]
      exact Paired.app hrel (.cons rd .nil)
end
section
variable {X : Cx} {Γ : Sta} {E : XK} {elt target iter : Expr} {ifs : List Expr} {scope : Scope} {gpos p pos : Pos} {N' : List Str} {pick : List (Option Nat)} {mi : MI} {c P : Addr} {k : Nat} {own : List Nat} {tg : MG} {mt : M Bool} {me : M D}
theorem collect_gx {A : Around} {pins : List (Addr × Obj)} {σ : L2.St} {ls : LS} {ds : List D} {gd : Option Nat} {h1 : HS} {ι4 : Ix} {H4 : Hp} {g : Addr} {s5 : Shared} {outs : List (D × HS)} {fin : Option HS} {hE : HS} {Q : List Value → Shared → Prop} {E' : Value → Shared → Prop}
    (hr : Room (k + 3) A) (hfr : A.frames = some X.stack) (L : GxS X.env.scope scope X.N N' pick) (J : GxJ X Γ k target elt ifs scope N' tg mt me) (M : MadeG X pins σ Γ elt target iter ifs scope gpos ls ds gd h1 ι4 H4 g s5)
    (hq : gxGo own tg mt me gd h1 (wipeL (capL pick ls) own) ds h1 = (outs, fin)) (hfin : fin = some hE) (hsz : outs.length ≤ sizeLine)
    (hQ : ∀ s' acc zs ι' H', Inv X pins σ H' s' → Step ι4 H4 ι' H' → Rep Γ ι' hE H' → Vals zs acc → RelDs Γ ι' H' (outs.map (·.1)) zs → Q acc s') : wpAny (model X.prog X.w) A (collect (.ref g)) Q E' s5 := by
  obtain ⟨gn, gO, hO, hgO, isG, ncl⟩ := M.isGen
  have hgl : g < s5.heap.objs.size := M.2.2.2.1
  have hSg : s5.heap.objs.size ≠ g := Nat.ne_of_gt hgl
  unfold collect
  refine wpAny_bind (wpAny_runValue (codeAny_builtin F.entry_proto_collect ?_))
  rw [Around.under_plainId F.plain_proto_collect _]
  show wpAny _ A.in1 (newList [] >>= fun l => again (.builtin "list.__iadd__" ⟨[l, .ref g], []⟩)) _ _ s5
  refine wpAny_bind (wpAny_newObj_type ?_)
  refine wpAny_pure ⟨plainId_quiet F.plain_list_iadd _, codeAny_builtin F.entry_list_iadd ?_⟩
  rw [Around.under_plainId F.plain_list_iadd _]
  have gty : ∀ {h : Heap}, (∀ b o, s5.heap.get? b = some o → h.get? b = some o) → h.IsGen g gn := fun {h} q => isG.keeps q
  have k1 : ∀ b o, s5.heap.get? b = some o → (s5.heap.push { cls := .type "list", data := .seq ([] : List Value).toArray }).get? b = some o := fun b o e => Heap.get?_push_of_some _ e
  show wpAny _ A.in1 (Builtin.List.listExtendWith (.ref s5.heap.objs.size) (.ref g) (.ref s5.heap.objs.size)) _ _ _
  unfold Builtin.List.listExtendWith
  refine wpAny_bind (wpAny_typeOf (Heap.IsGen.typeIs (s := { s5 with heap := _ }) (gty k1)) ?_)
  have h1' : Builtin.List.listSameRef (.ref s5.heap.objs.size) (.ref g) = false := by simp [Builtin.List.listSameRef, hSg]
  have h2 : (Value.type "generator" == Value.type "list") = false := by decide
  have h3 : (Value.type "generator" == Value.type "tuple") = false := by decide
  simp only [h1', h2, h3, Bool.or_false, Bool.false_eq_true, if_false]
  refine wpAny_bind (wpAny_pyIter_gen (s := { s5 with heap := _ }) (gty k1) ?_)
  refine wpAny_bind (wpAny_holding ?_)
  unfold Builtin.List.listLengthHint
  refine wpAny_bind (wpAny_specialOf (Heap.IsGen.typeIs (s := { s5 with heap := _ }) (gty k1)) F.gen_no_len ?_)
  show wpAny _ A.in1 (specialOf (Value.ref g) (Str.ofString "__length_hint__") >>= _) _ _ _
  refine wpAny_bind (wpAny_specialOf (Heap.IsGen.typeIs (s := { s5 with heap := _ }) (gty k1)) F.gen_no_hint ?_)
  refine wpAny_pure ?_
  show wpAny _ A.in1 (rule "list.extend.makes-room" >>= fun _ => Builtin.List.listTouch (.ref s5.heap.objs.size) >>= fun _ =>
    again (.builtin "list.extend.loop" ⟨[.ref s5.heap.objs.size, .ref g, .ref s5.heap.objs.size], []⟩)) _ _ _
  refine wpAny_bind (wpAny_rule ?_)
  have hS₁ : (s5.heap.push { cls := .type "list", data := .seq ([] : List Value).toArray }).get? s5.heap.objs.size = some { cls := .type "list", data := .seq ([] : List Value).toArray } := Heap.get?_push_size _ rfl
  refine wpAny_bind ?_
  show wpAny _ A.in1 (updateSeq s5.heap.objs.size (·.push .none) >>= fun _ => updateSeq s5.heap.objs.size (·.pop)) _ _ _
  refine wpAny_bind (wpAny_updateSeq hS₁ rfl ?_)
  have hS₂ := Heap.get?_update_self (Obj.mapSeq (·.push Value.none)) hS₁ rfl
  refine wpAny_updateSeq hS₂ rfl ?_
  have hS₃ := Heap.get?_update_self (Obj.mapSeq (·.pop)) hS₂ rfl
  have oth : ∀ b o, b ≠ s5.heap.objs.size → (s5.heap.push { cls := .type "list", data := .seq ([] : List Value).toArray }).get? b = some o →
      (((s5.heap.push { cls := .type "list", data := .seq ([] : List Value).toArray }).update s5.heap.objs.size (Obj.mapSeq (·.push Value.none))).update s5.heap.objs.size (Obj.mapSeq (·.pop))).get? b = some o :=
    fun b o hb e => (Heap.get?_update_other _ _ (Ne.symm hb)).trans ((Heap.get?_update_other _ _ (Ne.symm hb)).trans e)
  have r1 : Room (k + 2) A.in1 := Room.in1 hr
  have r2 : Room (k + 1) A.in1.in1 := Room.in1 r1
  obtain ⟨s4, C, code, fp, gO', gn', hO', hgO', R0, back⟩ := wake_gx (k := k) (A1 := A.in1) (S := s5.heap.objs.size) (OK := okAcc Γ outs) (s2 := { s5 with heap := ((s5.heap.push { cls := .type "list", data := .seq ([] : List Value).toArray }).update s5.heap.objs.size (Obj.mapSeq (·.push Value.none))).update s5.heap.objs.size (Obj.mapSeq (·.pop)) }) (outs := outs) (fin := fin) M L r1.hd hfr
    (fun s H C code fp => J.g _ s H C code fp (r2.mono (by omega))) (fun s H C code fp => J.t _ s H C code fp (r2.deeper _)) (fun s H C code fp => J.e _ s H C code fp (r2.deeper _))
    (Nat.le_of_lt hgl) hS₃ (fun x z => by cases z) (fun b o e => oth b o (Nat.ne_of_lt (Heap.lt_size e)) (k1 b o e)) rfl rfl ⟨#[], _, [], rfl, rfl, .nil, .nil⟩ (fun j ι H ι' H' o _ st hT ⟨acc, c, zs, e1, e2, e3, e4⟩ => ⟨acc, c, zs, e1, e2, e3, RelDs.step hT st e4⟩) hq (by rw [hfin]; exact .inr rfl)
  refine wpAny_pure ⟨plainId_quiet F.plain_extend_loop _, extend_gx (X := gxCx X A.in1.in1 s4 H4 (gxE X scope C code) fp N') (hE := hE) (Nat.ne_of_gt (by obtain rfl : gO' = gO := Option.some.inj (hgO'.symm.trans hgO); exact hgl)) hO' hr.hd (by have := hr.dp; omega) hfin hsz outs.length 0 _ (Nat.sub_zero _) (Nat.zero_le _) R0 fun s' ι H σ' o G => ?_⟩
  obtain ⟨st, rp, rl, ⟨acc, c, zs, eo, hacc, hv, hrel⟩, I, fr⟩ := _root_.id G
  have eS : s'.heap.get? s5.heap.objs.size = some o := (I.pin (s5.heap.objs.size, o) (List.mem_append_right _ List.mem_cons_self)).1
  rw [eo] at eS
  show wpAny _ A (load s5.heap.objs.size >>= _) _ _ s'
  refine wpAny_bind (wpAny_load eS ?_)
  refine wpAny_pure (hQ s' acc.toList zs ι H (back _ _ _ _ _ _ _ G) st rp hv ?_)
  rw [List.take_length] at hrel
  exact hrel
def tupF : List (D × HS) → Option HS → Option (D × HS) := fun outs fin => fin.bind fun h => if outs.length ≤ sizeLine then some (.tup (outs.map (·.1)), h) else none
theorem code_tuple_new_gx {A : Around} {pins : List (Addr × Obj)} {σ : L2.St} {ls : LS} {ds : List D} {gd : Option Nat} {h1 : HS} {ι4 : Ix} {H4 : Hp} {g : Addr} {s5 : Shared} {outs : List (D × HS)} {fin : Option HS} {hE : HS} {Q₁ : Value → Shared → Prop} {E' : Value → Shared → Prop}
    (hr : Room (k + 4) A) (hfr : A.frames = some X.stack) (L : GxS X.env.scope scope X.N N' pick) (J : GxJ X Γ k target elt ifs scope N' tg mt me) (M : MadeG X pins σ Γ elt target iter ifs scope gpos ls ds gd h1 ι4 H4 g s5)
    (hq : gxGo own tg mt me gd h1 (wipeL (capL pick ls) own) ds h1 = (outs, fin)) (hfin : fin = some hE) (hsz : outs.length ≤ sizeLine)
    (h : ∀ s' acc zs ι' H', Inv X pins σ H' s' → Step ι4 H4 ι' H' → Rep Γ ι' hE H' → Vals zs acc → RelDs Γ ι' H' (outs.map (·.1)) zs → Q₁ (.ref s'.heap.objs.size) { s' with heap := s'.heap.push { cls := .type "tuple", data := .seq acc.toArray } }) :
    codeAny (model X.prog X.w) A (.call (.builtin "tuple.__new__") ⟨[.type "tuple", .ref g], []⟩) (wants Q₁ E') s5 := by
  obtain ⟨gn, gO, hO, hgO, isG, ncl⟩ := M.isGen
  refine codeAny_of_tree ?_
  show wpAny _ A.in1 (do checkBuiltinCall "tuple.__new__" ⟨[.type "tuple", .ref g], []⟩; again (.builtin "tuple.__new__" ⟨[.type "tuple", .ref g], []⟩)) _ _ s5
  refine wpAny_bind (wpAny_of_eq (F.newCall_tuple_1 _) (wpAny_pure ⟨plainId_quiet F.plain_tuple_new _, codeAny_builtin F.entry_tuple_new ?_⟩))
  rw [Around.under_plainId F.plain_tuple_new _]
  have hsub := sub_tuple_self
  have hinit := init_tuple_lookup
  have hmh := madeHere_tuple
  have hTI : s5.TypeIs (.ref g) "generator" := isG.typeIs
  have cg : ∀ {Q : List Value → Shared → Prop} {E2 : Value → Shared → Prop}, (∀ s' acc zs ι' H', Inv X pins σ H' s' → Step ι4 H4 ι' H' → Rep Γ ι' hE H' → Vals zs acc → RelDs Γ ι' H' (outs.map (·.1)) zs → Q acc s') → wpAny (model X.prog X.w) A.in1 (collect (.ref g)) Q E2 s5 := fun {Q E2} hQ => collect_gx (Room.in1 hr) hfr L J M hq hfin hsz hQ
  wp_walk using wpAny_typeOf hTI, cg
  intro s' acc zs ι' H' I st rp hv hrel
  show wpAny _ _ (Builtin.Tuple.tupleExact acc.toArray >>= fun v => ret v) _ _ _
  unfold Builtin.Tuple.tupleExact
  refine wpAny_bind (wpAny_newObj_type ?_ (by show acc.toArray.size ≤ sizeLine; have e1 := hrel.length; have e2 := hv.length; simp at e1 ⊢; omega))
  refine wpAny_pure ?_
  exact h s' acc zs ι' H' I st rp hv hrel
theorem laid_tup' {pins : List (Addr × Obj)} {σ : L2.St} {H : Hp} {s : Shared} {vs : List V} {us : List Value} {Q : VK} (I : Inv X pins σ H s) (r : Vals vs us) (hz : vs.length ≤ sizeLine) (h : ∀ q, H q = none → Q (.ref q) (upd H q (.tup vs))) :
    EP X pins σ Q (.ref s.heap.objs.size) { s with heap := s.heap.push { cls := .type "tuple", data := .seq us.toArray } } := by
  have hp := I.hok.fresh (Nat.le_refl _)
  exact ⟨.ref s.heap.objs.size, upd H s.heap.objs.size (.tup vs), I.laid (t' := s.toks) (fun b u q => Heap.get?_push_of_some _ q) (Nat.le_refl _) ⟨hz, us, r, IsTup.new _ _⟩, rfl, h _ hp⟩
theorem call_tupleG (hr : Room (k + 5) X.A) (L : GxS X.env.scope scope X.N N' pick) (J : GxJ X Γ k target elt ifs scope N' tg mt me) : CallGx X Γ E elt target iter ifs scope gpos pick own tg mt me (.type "tuple") tupF := by
  intro pins σ Q ls ds gd h1 ι4 H4 g s5 outs fin v hE M hq ea q
  unfold tupF at ea
  cases fin with
  | none => cases ea
  | some h =>
  simp only [Option.bind_some] at ea
  split at ea
  case isFalse => cases ea
  rename_i hsz
  cases ea
  refine callType_codes (Q₁ := fun obj s₁ => s₁.TypeIs obj "tuple" ∧ EP X pins σ Q obj s₁) F.called_tuple (F.typeCall_tuple_1 _) F.entry_object_init
    (code_tuple_new_gx (k := k) (hE := hE) (Room.in1 hr) (MadeG.frames M) L J M hq rfl hsz fun s' acc zs ι' H' I st rp hv hrel => ⟨⟨_, Heap.get?_push_size _ rfl, rfl⟩, ?_⟩) fun obj s₁ h₁ => ?_
  · refine laid_tup' I hv (by have e1 := hrel.length; simp at e1; omega) fun p hp => ?_
    have sn := Step.new (ι := ι') (o := HO.tup zs) hp
    exact q ι' _ _ (st.trans sn) (rp.new hp) (RelD.mkTup (.inl upd_same) (rp.relDs sn hrel))
  · exact ⟨h₁.1, F.args_object_init_2 obj _, object_init_meets F.called_tuple.init.lookup F.called_tuple.made (by decide) X.prog X.w X.A.in1 _ s₁ ⟨h₁.1, rfl, h₁.2⟩⟩
end
end Fx

set_option Elab.async false
set_option linter.all false
set_option maxRecDepth 100000
namespace Fx
open PySem L2
section
open PySem PySem.Spec PyProof.Rows L2
def rSumT (K : PySem.W.Frag) : List V → Hp → VK → Prop := fun vs H Q => ∃ (a : Addr) (ns : List Int), vs = [V.ref a] ∧ SqT K H a (ns.map V.int) ∧ Q (.int ns.sum) H
theorem cr_sumT {X : Cx} (hc : X.calm = true) : CallR X (.builtin "sum") (rSumT X.K) := by
  intro pins s σ H vs us Q I r h
  obtain ⟨a, ns, rfl, ht, q⟩ := h
  obtain ⟨its, rv, p, _⟩ := I.tuple ht
  rw [Vals.ref1 r]
  have hi : IntsAre its ns := rv.ints
  obtain ⟨xs, e⟩ := hi.allInts.items
  have hn : numsOf (intItems xs).toList = ns := by rw [← e]; exact hi.numsOf
  rw [nums_intItems] at hn
  have p' : s.heap.IsTuple a (intItems xs) := by rw [← e]; exact p
  refine PySem.W.ktm_sumG (I.ok.hd hc) p' fun h' tk t' hk => ?_
  have e2 : preSum (numAt xs) xs.size = ns.sum := by rw [preSum_eq, List.take_of_length_le (by simp), hn]
  rw [e2]
  exact ⟨.int _, H, I.kept hk, ⟨_, rfl⟩, q⟩
end

/-! ### builtins -/
def asInts : List D → Option (List Int)
  | [] => some []
  | .int i :: r => (asInts r).map fun q => i :: q
  | _ :: _ => none
section
variable {Γ : Sta} {ι : Ix} {H : Hp} {hs : HS}
theorem asInts_rel : ∀ {ds : List D} {vs : List V} {ns : List Int}, RelDs Γ ι H ds vs → asInts ds = some ns → vs = ns.map V.int
  | _, _, ns, .nil, e => by cases e; rfl
  | d :: ds, v :: vs, ns, .cons r t, e => by
    cases d with
    | int i =>
      simp only [asInts, Option.map_eq_some_iff] at e
      obtain ⟨q, e1, rfl⟩ := e
      rw [r.int_inv, asInts_rel t e1]
      rfl
    | _ => cases e
/-- a list or a tuple -/
def anyL (hs : HS) : D → Option (List D)
  | .tup ds => some ds
  | d => seqL hs d
theorem anyL_rel {d : D} {v : V} {ds : List D} (rp : Rep Γ ι hs H) (r : RelD Γ ι H d v) (e : anyL hs d = some ds) : ∃ p vs, v = .ref p ∧ (SqL Γ.K H p vs ∨ SqT Γ.K H p vs) ∧ RelDs Γ ι H ds vs := by
  cases d with
  | tup x =>
    cases e
    obtain ⟨a, vs, rfl, h1, h2⟩ := r.tup_inv
    exact ⟨a, vs, rfl, .inr h1.sq, h2⟩
  | _ =>
    first
      | (obtain ⟨a, vs, rfl, h1, h2⟩ := seqL_rel rp r (show seqL hs _ = some ds from e); exact ⟨a, vs, rfl, .inl (.inl (.inl h1)), h2⟩)
      | (obtain ⟨a, vs, rfl, h1, h2⟩ := seqL_rel rp r (show seqL hs _ = some ds from e); exact ⟨a, vs, rfl, .inl h1, h2⟩)
      | (obtain ⟨a, vs, rfl, h1, h2⟩ := seqL_rel rp r (show seqL hs _ = some ds from e); exact ⟨a, vs, rfl, .inl (.inl h1), h2⟩)
end
def lenF : HS → List D → Option D := fun hs ds => match ds with
  | [.str s] => if s.length ≤ sizeLine then some (.int (s.length : Nat)) else none
  | [d] => (anyL hs d).map fun xs => .int (xs.length : Nat)
  | _ => none
def opnD (hs : HS) (n : Nat) : Option (List (Key × D)) := match hs[n]? with
  | some (.dct false kvs) => some kvs
  | _ => none
def lenDF : HS → List D → Option D := fun hs ds => match ds with
  | [.ref n] => (opnD hs n).map fun kvs => .int (kvs.length : Nat)
  | _ => none
def orC {α : Type} (f g : HS → List D → Option α) : HS → List D → Option α := fun hs ds => match f hs ds with
  | some d => some d
  | none => g hs ds
def intC : HS → List D → Option D := fun _ ds => match ds with
  | [.int i] => some (.int i)
  | [.bl b] => some (.int (if b then 1 else 0))
  | _ => none
def absC : HS → List D → Option D := fun _ ds => match ds with
  | [.int i] => some (.int (if i < 0 then -i else i))
  | _ => none
def max2C : HS → List D → Option D := fun _ ds => match ds with
  | [.int i, .int j] => some (.int (if j > i then j else i))
  | _ => none
def min2C : HS → List D → Option D := fun _ ds => match ds with
  | [.int i, .int j] => some (.int (if j < i then j else i))
  | _ => none
def sumC : HS → List D → Option D := fun hs ds => match ds with
  | [.tup xs] => (asInts xs).map fun ns => .int ns.sum
  | [d] => (seqL hs d).bind fun xs => (asInts xs).map fun ns => .int ns.sum
  | _ => none
def maxL : List Int → Option Int
  | [] => none
  | a :: r => some (r.foldl max a)
def minL : List Int → Option Int
  | [] => none
  | a :: r => some (r.foldl min a)
def maxC : HS → List D → Option D := fun hs ds => match ds with
  | [d] => (seqL hs d).bind fun xs => (asInts xs).bind fun ns => (maxL ns).map fun m => .int m
  | _ => none
def minC : HS → List D → Option D := fun hs ds => match ds with
  | [d] => (seqL hs d).bind fun xs => (asInts xs).bind fun ns => (minL ns).map fun m => .int m
  | _ => none
def listC : HS → List D → Option (List D) := fun hs ds => match ds with
  | [d] => anyL hs d
  | _ => none
def tupC : HS → List D → Option D := fun hs ds => match ds with
  | [d] => (anyL hs d).map .tup
  | _ => none
theorem foldl_max (l : List Int) : ∀ a : Int, (∀ x ∈ l, x ≤ l.foldl max a) ∧ a ≤ l.foldl max a ∧ (l.foldl max a = a ∨ l.foldl max a ∈ l) := by
  induction l with
  | nil => intro a; simp
  | cons b r ih =>
    intro a
    obtain ⟨h1, h2, h3⟩ := ih (max a b)
    refine ⟨fun x hx => ?_, by simp only [List.foldl_cons]; omega, ?_⟩
    · simp only [List.foldl_cons]
      rcases List.mem_cons.mp hx with rfl | hx
      · omega
      · exact h1 x hx
    · simp only [List.foldl_cons, List.mem_cons]
      rcases h3 with h3 | h3
      · rw [h3]
        rcases Int.le_total a b with q | q
        · right; left; omega
        · left; omega
      · exact .inr (.inr h3)
theorem foldl_min (l : List Int) : ∀ a : Int, (∀ x ∈ l, l.foldl min a ≤ x) ∧ l.foldl min a ≤ a ∧ (l.foldl min a = a ∨ l.foldl min a ∈ l) := by
  induction l with
  | nil => intro a; simp
  | cons b r ih =>
    intro a
    obtain ⟨h1, h2, h3⟩ := ih (min a b)
    refine ⟨fun x hx => ?_, by simp only [List.foldl_cons]; omega, ?_⟩
    · simp only [List.foldl_cons]
      rcases List.mem_cons.mp hx with rfl | hx
      · omega
      · exact h1 x hx
    · simp only [List.foldl_cons, List.mem_cons]
      rcases h3 with h3 | h3
      · rw [h3]
        rcases Int.le_total a b with q | q
        · left; omega
        · right; left; omega
      · exact .inr (.inr h3)
theorem maxL_uniq {ns : List Int} {m k : Int} (h : maxL ns = some m) (hk : k ∈ ns) (hb : ∀ y ∈ ns, y ≤ k) : k = m := by
  cases ns with
  | nil => cases h
  | cons a r =>
    cases h
    obtain ⟨h1, h2, h3⟩ := foldl_max r a
    have hm : r.foldl max a ∈ a :: r := by
      rcases h3 with h3 | h3
      · rw [h3]; exact List.mem_cons_self
      · exact List.mem_cons_of_mem _ h3
    have q1 := hb _ hm
    have q2 : k ≤ r.foldl max a := by
      rcases List.mem_cons.mp hk with rfl | hk
      · exact h2
      · exact h1 k hk
    omega
theorem minL_uniq {ns : List Int} {m k : Int} (h : minL ns = some m) (hk : k ∈ ns) (hb : ∀ y ∈ ns, k ≤ y) : k = m := by
  cases ns with
  | nil => cases h
  | cons a r =>
    cases h
    obtain ⟨h1, h2, h3⟩ := foldl_min r a
    have hm : r.foldl min a ∈ a :: r := by
      rcases h3 with h3 | h3
      · rw [h3]; exact List.mem_cons_self
      · exact List.mem_cons_of_mem _ h3
    have q1 := hb _ hm
    have q2 : r.foldl min a ≤ k := by
      rcases List.mem_cons.mp hk with rfl | hk
      · exact h2
      · exact h1 k hk
    omega
section
variable {Γ : Sta}
theorem ints1 {ι : Ix} {H : Hp} {xs : List V} {d : D} (r : RelDs Γ ι H [d] xs) : ∃ x, xs = [x] ∧ RelD Γ ι H d x := by
  cases r with
  | cons r t => cases t; exact ⟨_, rfl, r⟩
theorem ints2 {ι : Ix} {H : Hp} {xs : List V} {d e : D} (r : RelDs Γ ι H [d, e] xs) : ∃ x y, xs = [x, y] ∧ RelD Γ ι H d x ∧ RelD Γ ι H e y := by
  cases r with
  | cons r t => cases t with
    | cons r2 t => cases t; exact ⟨_, _, rfl, r, r2⟩
theorem cs_int : CallS Γ (fun xs H Q => (∃ i, xs = [.int i] ∧ Q (.int i) H) ∨ ∃ k, xs = [.bl k] ∧ Q (.int (if k then 1 else 0)) H) intC := fun ι hs H xs ds d Q rp r e q => by
  unfold intC at e
  split at e
  · obtain ⟨x, rfl, rx⟩ := ints1 r
    cases e
    exact .inl ⟨_, by rw [rx.int_inv], q H _ (Step.refl _ _) rp (.int _)⟩
  · obtain ⟨x, rfl, rx⟩ := ints1 r
    cases e
    exact .inr ⟨_, by rw [rx.bl_inv], q H _ (Step.refl _ _) rp (.int _)⟩
  · cases e
theorem cs_abs : CallS Γ (fun xs H Q => ∃ i, xs = [.int i] ∧ Q (.int (if i < 0 then -i else i)) H) absC := fun ι hs H xs ds d Q rp r e q => by
  unfold absC at e
  split at e
  · obtain ⟨x, rfl, rx⟩ := ints1 r
    cases e
    exact ⟨_, by rw [rx.int_inv], q H _ (Step.refl _ _) rp (.int _)⟩
  · cases e
theorem cs_max2 : CallS Γ (fun xs H Q => ∃ i j, xs = [.int i, .int j] ∧ Q (.int (if j > i then j else i)) H) max2C := fun ι hs H xs ds d Q rp r e q => by
  unfold max2C at e
  split at e
  · obtain ⟨x, y, rfl, rx, ry⟩ := ints2 r
    cases e
    exact ⟨_, _, by rw [rx.int_inv, ry.int_inv], q H _ (Step.refl _ _) rp (.int _)⟩
  · cases e
theorem cs_min2 : CallS Γ (fun xs H Q => ∃ i j, xs = [.int i, .int j] ∧ Q (.int (if j < i then j else i)) H) min2C := fun ι hs H xs ds d Q rp r e q => by
  unfold min2C at e
  split at e
  · obtain ⟨x, y, rfl, rx, ry⟩ := ints2 r
    cases e
    exact ⟨_, _, by rw [rx.int_inv, ry.int_inv], q H _ (Step.refl _ _) rp (.int _)⟩
  · cases e
theorem cs_sum : CallS Γ (fun xs H Q => rSum Γ.K xs H Q ∨ rSumT Γ.K xs H Q) sumC := fun ι hs H xs ds d Q rp r e q => by
  unfold sumC at e
  split at e
  · obtain ⟨x, rfl, rx⟩ := ints1 r
    simp only [Option.map_eq_some_iff] at e
    obtain ⟨ns, h2, rfl⟩ := e
    obtain ⟨a, vs, rfl, h3, h4⟩ := rx.tup_inv
    rw [asInts_rel h4 h2] at h3
    exact .inr ⟨a, ns, rfl, h3.sq, q H _ (Step.refl _ _) rp (.int _)⟩
  · refine .inl ?_
    obtain ⟨x, rfl, rx⟩ := ints1 r
    simp only [Option.bind_eq_some_iff, Option.map_eq_some_iff] at e
    obtain ⟨ys, h1, ns, h2, rfl⟩ := e
    obtain ⟨a, vs, rfl, h3, h4⟩ := seqL_rel rp rx h1
    rw [asInts_rel h4 h2] at h3
    exact ⟨a, ns, rfl, by first | exact h3 | exact .inl h3 | exact .inl (.inl h3), q H _ (Step.refl _ _) rp (.int _)⟩
  · cases e
theorem cs_max : CallS Γ (rMax Γ.K) maxC := fun ι hs H xs ds d Q rp r e q => by
  unfold maxC at e
  split at e
  · obtain ⟨x, rfl, rx⟩ := ints1 r
    simp only [Option.bind_eq_some_iff, Option.map_eq_some_iff] at e
    obtain ⟨ys, h1, ns, h2, m, h5, rfl⟩ := e
    obtain ⟨a, vs, rfl, h3, h4⟩ := seqL_rel rp rx h1
    rw [asInts_rel h4 h2] at h3
    refine ⟨a, ns, rfl, by first | exact h3 | exact .inl h3 | exact .inl (.inl h3), ?_, fun k hk hb => ?_⟩
    · cases ns with
      | nil => cases h5
      | cons _ _ => exact Nat.succ_pos _
    · rw [maxL_uniq h5 hk hb]
      exact q H _ (Step.refl _ _) rp (.int _)
  · cases e
theorem cs_min : CallS Γ (rMin Γ.K) minC := fun ι hs H xs ds d Q rp r e q => by
  unfold minC at e
  split at e
  · obtain ⟨x, rfl, rx⟩ := ints1 r
    simp only [Option.bind_eq_some_iff, Option.map_eq_some_iff] at e
    obtain ⟨ys, h1, ns, h2, m, h5, rfl⟩ := e
    obtain ⟨a, vs, rfl, h3, h4⟩ := seqL_rel rp rx h1
    rw [asInts_rel h4 h2] at h3
    refine ⟨a, ns, rfl, by first | exact h3 | exact .inl h3 | exact .inl (.inl h3), ?_, fun k hk hb => ?_⟩
    · cases ns with
      | nil => cases h5
      | cons _ _ => exact Nat.succ_pos _
    · rw [minL_uniq h5 hk hb]
      exact q H _ (Step.refl _ _) rp (.int _)
  · cases e
theorem cs_list : CallSL Γ (fun xs H Q => ∃ p ys, xs = [.ref p] ∧ (SqL Γ.K H p ys ∨ SqT Γ.K H p ys) ∧ ∀ l, H l = none → Q (.ref l) (upd H l (.lst ys))) listC := fun ι hs H xs ds d Q rp r e q => by
  unfold listC at e
  split at e
  · obtain ⟨x, rfl, rx⟩ := ints1 r
    obtain ⟨p, vs, rfl, h1, h2⟩ := anyL_rel rp rx e
    exact ⟨p, vs, rfl, h1, fun l hl => q vs l h2 hl⟩
  · cases e
theorem cs_tup : CallS Γ (fun xs H Q => ∃ p ys, xs = [.ref p] ∧ ((SqL Γ.K H p ys ∧ ∀ l, H l = none → Q (.ref l) (upd H l (.tup ys))) ∨ (SqT Γ.K H p ys ∧ Q (.ref p) H))) tupC := fun ι hs H xs ds d Q rp r e q => by
  unfold tupC at e
  split at e
  · obtain ⟨x, rfl, rx⟩ := ints1 r
    simp only [Option.map_eq_some_iff] at e
    obtain ⟨ys, h1, rfl⟩ := e
    rename_i dd
    cases dd with
    | tup zs =>
      cases h1
      obtain ⟨a, vs, rfl, h1, h2⟩ := rx.tup_inv
      exact ⟨a, vs, rfl, .inr ⟨h1.sq, q H _ (Step.refl _ _) rp (RelD.mkTup h1 h2)⟩⟩
    | _ =>
      obtain ⟨a, vs, rfl, h3, h4⟩ := seqL_rel rp rx (show seqL hs _ = some ys from h1)
      refine ⟨a, vs, rfl, .inl ⟨by first | exact h3 | exact .inl h3 | exact .inl (.inl h3), fun l hl => ?_⟩⟩
      have sn := Step.new (ι := ι) (o := HO.tup vs) hl
      exact q _ _ sn (rp.new hl) (RelD.mkTup (.inl upd_same) (rp.relDs sn h4))
  · cases e
theorem cs_len : CallS Γ (fun xs H Q => ∃ x n, xs = [x] ∧ LenV Γ.K x H n ∧ Q (.int n) H) lenF := fun ι hs H xs ds d Q rp r e q => by
  unfold lenF at e
  split at e
  · split at e
    · rename_i hl
      cases e
      obtain ⟨x, rfl, rx⟩ := ints1 r
      exact ⟨x, _, rfl, by rw [rx.str_inv]; exact ⟨hl, rfl⟩, q H _ (Step.refl _ _) rp (.int _)⟩
    · cases e
  · obtain ⟨x, rfl, rx⟩ := ints1 r
    simp only [Option.map_eq_some_iff] at e
    obtain ⟨ys, h1, rfl⟩ := e
    obtain ⟨p, vs, rfl, h3, h4⟩ := anyL_rel rp rx h1
    refine ⟨_, ys.length, rfl, ?_, q H _ (Step.refl _ _) rp (.int _)⟩
    rw [Paired.length h4]
    exact h3.elim (fun h => .inl ⟨vs, h, rfl⟩) fun h => .inr ⟨vs, h, rfl⟩
  · cases e
theorem opnD_iff {hs : HS} {n : Nat} {kvs : List (Key × D)} : opnD hs n = some kvs ↔ hs[n]? = some (.dct false kvs) := by
  unfold opnD
  split
  · rename_i k h; rw [h]; simp
  · rename_i h
    constructor
    · intro e; cases e
    · intro e; exact (h kvs e).elim
theorem opnD_rel {ι : Ix} {hs : HS} {H : Hp} (rp : Rep Γ ι hs H) {n : Nat} {a : Addr} {kvs : List (Key × D)} (h : ι.l[n]? = some a) (e : opnD hs n = some kvs) : ∃ kvs', H a = some (.dK kvs') ∧ Paired (fun p q => p.1 = q.1 ∧ RelD Γ ι H p.2 q.2) kvs kvs' := by
  obtain ⟨kvs', z, r⟩ := rp.ob n a _ h (opnD_iff.mp e)
  refine ⟨kvs', ?_, r⟩
  rcases z with ⟨z, _⟩ | ⟨od, z, h⟩
  · exact z
  · cases h
theorem cs_lenD : CallS Γ (fun xs H Q => ∃ a kvs, xs = [V.ref a] ∧ H a = some (.dK kvs) ∧ Q (.int kvs.length) H) lenDF := fun ι hs H xs ds d Q rp r e q => by
  unfold lenDF at e
  split at e
  · obtain ⟨x, rfl, rx⟩ := ints1 r
    simp only [Option.map_eq_some_iff] at e
    obtain ⟨kvs, h1, rfl⟩ := e
    obtain ⟨a, rfl, h2⟩ := rx.ref_inv
    obtain ⟨kvs', h3, h4⟩ := opnD_rel rp h2 h1
    exact ⟨a, kvs', rfl, h3, q H _ (Step.refl _ _) rp (by rw [Paired.length h4]; exact .int _)⟩
  · cases e
theorem CallR.or {X : Cx} {bv : Value} {r r' : List V → Hp → VK → Prop} (h : CallR X bv r) (h' : CallR X bv r') : CallR X bv (fun xs H Q => r xs H Q ∨ r' xs H Q) := fun pins s σ H xs us Q I rv q => q.elim (h pins s σ H xs us Q I rv) (h' pins s σ H xs us Q I rv)
theorem CallS.or {r r' : List V → Hp → VK → Prop} {f g : HS → List D → Option D} (h : CallS Γ r f) (h' : CallS Γ r' g) : CallS Γ (fun xs H Q => r xs H Q ∨ r' xs H Q) (orC f g) := fun ι hs H xs ds d Q rp rx e q => by
  unfold orC at e
  cases ef : f hs ds with
  | some d' => rw [ef] at e; exact .inl (h ι hs H xs ds d Q rp rx (by rw [ef]; exact e) q)
  | none => rw [ef] at e; exact .inr (h' ι hs H xs ds d Q rp rx e q)
theorem CallSL.or {r r' : List V → Hp → VK → Prop} {f g : HS → List D → Option (List D)} (h : CallSL Γ r f) (h' : CallSL Γ r' g) : CallSL Γ (fun xs H Q => r xs H Q ∨ r' xs H Q) (orC f g) := fun ι hs H xs ds d Q rp rx e q => by
  unfold orC at e
  cases ef : f hs ds with
  | some d' => rw [ef] at e; exact .inl (h ι hs H xs ds d Q rp rx (by rw [ef]; exact e) q)
  | none => rw [ef] at e; exact .inr (h' ι hs H xs ds d Q rp rx e q)
def lenC := orC lenF lenDF
end
end Fx

set_option Elab.async false
set_option linter.all false
set_option maxRecDepth 100000
namespace Fx
open PySem L2

/-! ### list(range(..)), tuple(range(..)) -/
def rgOk (a b : Int) : Prop := -(2 ^ 62) ≤ a ∧ a < 2 ^ 62 ∧ -(2 ^ 62) ≤ b ∧ b < 2 ^ 62 ∧ (b - a).toNat ≤ 2 ^ 24
instance (a b : Int) : Decidable (rgOk a b) := inferInstanceAs (Decidable (_ ∧ _))
def rgD1 (ds : List D) : Option (Int × Int) := match ds with
  | [.int n] => some (0, n)
  | [.int i, .int j] => some (i, j)
  | _ => none
def mRgL (as : M (List D)) : M (List D) := fun ls hs => (as ls hs).bind fun ds h => match rgD1 ds with
  | some (a, b) => if rgOk a b then .ok (rngD a (b - a).toNat) h else .bad
  | none => .bad
def mRgT (as : M (List D)) : M D := fun ls hs => (as ls hs).bind fun ds h => match rgD1 ds with
  | some (a, b) => if rgOk a b then .ok (.tup (rngD a (b - a).toNat)) h else .bad
  | none => .bad
section
variable {X : Cx} {Γ : Sta} {E : XK} {a b e o : Expr} {ma mb mo : M D} {pos p pos2 p2 : Pos} {ml : M (List D)}
theorem rgV_rel {ι : Ix} {H : Hp} (a b : Int) : RelDs Γ ι H (rngD a (b - a).toNat) (rgV a b) := by
  unfold rngD rgV
  generalize (b - a).toNat = n
  have : ∀ l : List Nat, RelDs Γ ι H (l.map fun i => D.int (a + (i : Nat))) (l.map fun i => V.int (a + (i : Nat))) := by
    intro l
    induction l with
    | nil => exact .nil
    | cons i l ih => exact .cons (.int _) ih
  exact this _
/-- a range as an argument: its bounds -/
def tRgF (Γ : Sta) (E : XK) (ml : M (List D)) : St → Hp → (Int → Int → Hp → Prop) → Prop := fun σ H Q => Here Γ E (fun ls hs => (ml ls hs).bind fun ds h => match rgD1 ds with
  | some p => .ok p h
  | none => .bad) (fun ι H (p : Int × Int) h => ∀ ι' H', Step ι H ι' H' → Rep Γ ι' h H' → Q p.1 p.2 H') σ H
abbrev FRg (X : Cx) (Γ : Sta) (E : XK) (e : Expr) (ml : M (List D)) : Prop := PRg X e (tRgF Γ E ml)
theorem frg_1 (hg : Gl X "range") (hm : X.mg "range" = none) (ha : FE X Γ E a ma) (na : starEach [a] X.env = (false, eval a X.env) :: starEach [] X.env := by rfl) : FRg X Γ E (.Call (.Name "range" p) [a] [] pos) (mCons ma mNil) := fun pins s σ H Q I h => by
  refine prg_1 hg hm ha na pins s σ H Q I ?_
  obtain ⟨ι, ls, hs, rp, rl, sat⟩ := h
  unfold mCons mNil at sat
  refine ⟨ι, ls, hs, rp, rl, sat.of_bind.of_bind.mono (fun d h1 s1 ι1 H1 x st1 rp1 rx => ?_) fun _ _ e => e⟩
  have s1 : (match rgD1 [d] with | some p => R.ok p h1 | none => .bad).Sat _ _ := s1
  cases d with
  | int n => exact ⟨n, rx.int_inv, s1 ι1 H1 st1 rp1⟩
  | _ => exact s1.elim
theorem frg_2 (hg : Gl X "range") (hm : X.mg "range" = none) (ha : FE X Γ E a ma) (hb : FE X Γ E b mb) (na : starEach [a, b] X.env = (false, eval a X.env) :: starEach [b] X.env := by rfl)
    (nb : starEach [b] X.env = (false, eval b X.env) :: starEach [] X.env := by rfl) (hp : (backTo pos (starEach [b] X.env)).any (·.1) = false := by rfl) : FRg X Γ E (.Call (.Name "range" p) [a, b] [] pos) (mCons ma (mCons mb mNil)) := fun pins s σ H Q I h => by
  refine prg_2 hg hm ha hb na nb hp pins s σ H Q I ?_
  obtain ⟨ι, ls, hs, rp, rl, sat⟩ := h
  unfold mCons mNil at sat
  refine ⟨ι, ls, hs, rp, rl, sat.of_bind.of_bind.mono (fun d h1 s1 ι1 H1 x st1 rp1 rx => ?_) fun _ _ e => e⟩
  refine ⟨ι1, ls, h1, rp1, rp.relL st1 rl, s1.of_bind.of_bind.mono (fun d2 h2 s2 ι2 H2 y st2 rp2 ry => ?_) fun _ _ e => PostX.on e st1⟩
  have s2 : (match rgD1 [d, d2] with | some p => R.ok p h2 | none => .bad).Sat _ _ := s2
  cases d with
  | int n => cases d2 with
    | int m => exact ⟨n, m, rx.int_inv, ry.int_inv, s2 ι2 H2 (st1.trans st2) rp2⟩
    | _ => exact s2.elim
  | _ => cases d2 <;> exact s2.elim
theorem rg_sat {ι : Ix} {H : Hp} {ds : List D} {h : HS} {α : Type} {f : Int → Int → α} {Q : α → HS → Prop} {E' : Nat → HS → Prop} (s : (match rgD1 ds with | some (a, b) => if rgOk a b then R.ok (f a b) h else .bad | none => .bad : R α).Sat Q E') :
    ∃ a b, rgD1 ds = some (a, b) ∧ rgOk a b ∧ Q (f a b) h := by
  cases e : rgD1 ds with
  | none => rw [e] at s; exact s.elim
  | some p =>
    obtain ⟨a, b⟩ := p
    rw [e] at s
    simp only at s
    split at s
    · rename_i ok
      exact ⟨a, b, rfl, ok, s⟩
    · exact s.elim
theorem fl_listRg (hc : X.calm = true) (hg : Gl X "list") (hm : X.mg "list" = none) (he : FRg X Γ E e ml) (na : starEach [e] X.env = (false, eval e X.env) :: starEach [] X.env := by rfl) : FL X Γ E (.Call (.Name "list" p) [e] [] pos) (mRgL ml) :=
  PE.weak (pe_listRg hc hg hm he na) fun σ H Q q => by
    obtain ⟨ι, ls, hs, rp, rl, sat⟩ := q
    refine ⟨ι, ls, hs, rp, rl, ?_⟩
    unfold mRgL at sat
    show ((ml ls hs).bind fun ds h => match rgD1 ds with | some p => R.ok p h | none => .bad).Sat _ _
    cases em : ml ls hs with
    | bad => rw [em] at sat; exact sat.elim
    | exc c h => rw [em] at sat; exact sat
    | ok ds h =>
      rw [em] at sat
      obtain ⟨a, b, e1, ok, q⟩ := rg_sat (ι := ι) (H := H) (show (match rgD1 ds with | some (a, b) => if rgOk a b then R.ok (rngD a (b - a).toNat) h else .bad | none => .bad : R (List D)).Sat _ _ from sat)
      simp only [R.bind, e1]
      exact fun ι' H' st rp' => ⟨ok, fun l hl => q ι' H' _ l st rp' (rgV_rel a b) hl⟩
theorem fe_tupRg (hc : X.calm = true) (hg : Gl X "tuple") (hm : X.mg "tuple" = none) (he : FRg X Γ E e ml) (na : starEach [e] X.env = (false, eval e X.env) :: starEach [] X.env := by rfl) : FE X Γ E (.Call (.Name "tuple" p) [e] [] pos) (mRgT ml) :=
  PE.weak (pe_tupRg hc hg hm he na) fun σ H Q q => by
    obtain ⟨ι, ls, hs, rp, rl, sat⟩ := q
    refine ⟨ι, ls, hs, rp, rl, ?_⟩
    unfold mRgT at sat
    show ((ml ls hs).bind fun ds h => match rgD1 ds with | some p => R.ok p h | none => .bad).Sat _ _
    cases em : ml ls hs with
    | bad => rw [em] at sat; exact sat.elim
    | exc c h => rw [em] at sat; exact sat
    | ok ds h =>
      rw [em] at sat
      obtain ⟨a, b, e1, ok, q⟩ := rg_sat (ι := ι) (H := H) (show (match rgD1 ds with | some (a, b) => if rgOk a b then R.ok (D.tup (rngD a (b - a).toNat)) h else .bad | none => .bad : R D).Sat _ _ from sat)
      simp only [R.bind, e1]
      refine fun ι' H' st rp' => ⟨ok, fun l hl => ?_⟩
      have sn := Step.new (ι := ι') (o := HO.tup (rgV a b)) hl
      exact q ι' _ _ (st.trans sn) (rp'.new hl) (RelD.mkTup (.inl upd_same) (rgV_rel a b))
/-! ### dicts -/
def mDNew : M D := fun _ hs => .ok (.ref hs.length) (hs ++ [.dct false []])
theorem fe_dnew : FE X Γ E (.Dict [] [] pos) mDNew := PE.weak pe_dnewK fun σ H Q ⟨ι, ls, hs, rp, rl, sat⟩ p hp => by
  have st := Step.box (ι := ι) (o := HO.dK []) hp
  exact sat (ι.add p) _ _ st (rp.box hp ⟨[], .inl ⟨upd_same, rfl⟩, .nil⟩) (.ref (rp.next p))
/-- d.get(k, x) -/
def mDGet2 (md mk mx : M D) : M D := fun ls hs => (md ls hs).bind fun d h1 => match d with
  | .ref n => if (dctAt h1 n).isSome then (mk ls h1).bind fun k h2 => (mx ls h2).bind fun x h3 => match dctAt h3 n, k.key with
      | some kvs, some k => .ok ((lk kvs k).getD x) h3
      | _, _ => .bad
    else .bad
  | _ => .bad
theorem dctAt_isD {ι : Ix} {H : Hp} {hs : HS} {n : Nat} {a : Addr} (rp : Rep Γ ι hs H) (h : ι.l[n]? = some a) (e : (dctAt hs n).isSome = true) : IsD H a := by
  obtain ⟨kvs, e⟩ := Option.isSome_iff_exists.mp e
  obtain ⟨kvs', h1, _⟩ := dctAt_rel rp h e
  exact .inl ⟨kvs', h1⟩
theorem fe_dget2 {k : Nat} {apos cpos : Pos} {f : Expr} {mf : M D} (hr : Room k X.A) (ho : FE X Γ E o mo) (he : FE X Γ E e ma) (hf : FE X Γ E f mf) (m : M2 X o "get" apos e f cpos) : FE X Γ E (.Call (.Attribute o "get" apos) [e, f] [] cpos) (mDGet2 mo ma mf) :=
  PE.weak (pe_dget2 (hu_of hr) ho he hf m) fun σ H Q q => bindV q fun ι ls hs d h1 rp rl s1 ι1 H1 x st1 rp1 rx => by
    cases d with
    | ref n =>
      simp only at s1
      split at s1
      · rename_i hd
        obtain ⟨a, rfl, hn⟩ := rx.ref_inv
        refine ⟨a, rfl, dctAt_isD rp1 hn hd, ι1, ls, h1, rp1, rp.relL st1 rl, s1.of_bind.mono (fun kd h2 s2 ι2 H2 y st2 rp2 ry => ?_) fun _ _ e => PostX.on e st1⟩
        have st12 := st1.trans st2
        refine ⟨ι2, ls, h2, rp2, rp.relL st12 rl, s2.of_bind.mono (fun xd h3 s3 ι3 H3 z st3 rp3 rz => ?_) fun _ _ e => PostX.on e st12⟩
        have st13 := st12.trans st3
        cases e1 : dctAt h3 n with
        | none => rw [e1] at s3; exact s3.elim
        | some kvs =>
          cases e2 : kd.key with
          | none => rw [e1, e2] at s3; exact s3.elim
          | some k =>
            rw [e1, e2] at s3
            have s3 : (R.ok ((lk kvs k).getD xd) h3).Sat _ _ := s3
            have hn3 := (st2.trans st3).get hn
            obtain ⟨kvs', g1, g2⟩ := dctAt_rel rp3 hn3 e1
            have ky := key_rel (rp2.relD st3 ry) e2
            refine ⟨valV kvs' k, .inl ⟨kvs', k, g1, ky, rfl⟩, ?_⟩
            cases e3 : lk kvs k with
            | none =>
              rw [(lk_rel g2 k).2 e3]
              rw [e3] at s3
              exact s3 ι3 H3 z st13 rp3 rz
            | some dv =>
              obtain ⟨v, g3, g4⟩ := (lk_rel g2 k).1 dv e3
              rw [g3]
              rw [e3] at s3
              exact s3 ι3 H3 v st13 rp3 g4
      · exact s1.elim
    | _ => exact s1.elim
end
/-! ### sorted -/
def insI (a : Int) : List Int → List Int
  | [] => [a]
  | b :: r => if a ≤ b then a :: b :: r else b :: insI a r
def sortI : List Int → List Int
  | [] => []
  | a :: r => insI a (sortI r)
theorem insI_perm (a : Int) : ∀ l, (insI a l).Perm (a :: l)
  | [] => .refl _
  | b :: r => by
    unfold insI
    split
    · exact .refl _
    · exact ((insI_perm a r).cons b).trans (List.Perm.swap ..)
theorem sortI_perm : ∀ l, (sortI l).Perm l
  | [] => .refl _
  | a :: r => (insI_perm a _).trans ((sortI_perm r).cons a)
theorem insI_mem {a x : Int} {l : List Int} (h : x ∈ insI a l) : x = a ∨ x ∈ l := List.mem_cons.mp ((insI_perm a l).mem_iff.mp h)
theorem insI_sorted (a : Int) : ∀ l : List Int, l.Pairwise (· ≤ ·) → (insI a l).Pairwise (· ≤ ·)
  | [], _ => by simp [insI]
  | b :: r, h => by
    unfold insI
    have h' := List.pairwise_cons.mp h
    split
    · rename_i hab
      exact List.pairwise_cons.mpr ⟨fun x hx => by rcases List.mem_cons.mp hx with rfl | hx; exact hab; exact Int.le_trans hab (h'.1 x hx), h⟩
    · rename_i hab
      refine List.pairwise_cons.mpr ⟨fun x hx => ?_, insI_sorted a r h'.2⟩
      rcases insI_mem hx with rfl | hx
      · omega
      · exact h'.1 x hx
theorem sortI_sorted : ∀ l : List Int, (sortI l).Pairwise (· ≤ ·)
  | [] => .nil
  | a :: r => insI_sorted a _ (sortI_sorted r)
theorem sortI_uniq {l m : List Int} (hp : m.Perm l) (hs : m.Pairwise (· ≤ ·)) : m = sortI l :=
  List.Perm.eq_of_pairwise (fun a b _ _ h1 h2 => Int.le_antisymm h1 h2) hs (sortI_sorted l) (hp.trans (sortI_perm l).symm)
/-- sorted(xs), ints -/
def sortedC : HS → List D → Option (List D) := fun hs ds => match ds with
  | [d] => (seqL hs d).bind fun xs => (asInts xs).map fun ns => (sortI ns).map .int
  | _ => none
def keysI : List (Key × D) → Option (List Int)
  | [] => some []
  | (.inl i, _) :: r => (keysI r).map fun q => i :: q
  | _ :: _ => none
/-- sorted(d), int keys -/
def sortedDC : HS → List D → Option (List D) := fun hs ds => match ds with
  | [.ref n] => (dctAt hs n).bind fun kvs => (keysI kvs).bind fun ns => if ns.length < 64 then some ((sortI ns).map .int) else none
  | _ => none
section
variable {Γ : Sta}
theorem ints_rel {ι : Ix} {H : Hp} : ∀ ns : List Int, RelDs Γ ι H (ns.map D.int) (ns.map V.int)
  | [] => .nil
  | _ :: r => .cons (.int _) (ints_rel r)
theorem cs_sorted : CallSL Γ (rSortedI Γ.K) sortedC := fun ι hs H xs ds d Q rp r e q => by
  unfold sortedC at e
  split at e
  · obtain ⟨x, rfl, rx⟩ := ints1 r
    simp only [Option.bind_eq_some_iff, Option.map_eq_some_iff] at e
    obtain ⟨ys, h1, ns, h2, rfl⟩ := e
    obtain ⟨a, vs, rfl, h3, h4⟩ := seqL_rel rp rx h1
    rw [asInts_rel h4 h2] at h3
    refine ⟨a, ns, rfl, by first | exact h3 | exact .inl h3 | exact .inl (.inl h3), fun ns' p hp hs' hn => ?_⟩
    rw [sortI_uniq hp hs']
    exact q _ p (ints_rel _) hn
  · cases e
theorem keysI_rel {ι : Ix} {H : Hp} : ∀ {kvs : List (Key × D)} {kvs' : List (Key × V)} {ns : List Int}, Paired (fun p q => p.1 = q.1 ∧ RelD Γ ι H p.2 q.2) kvs kvs' → keysI kvs = some ns → kvs'.map (·.1) = ns.map Sum.inl
  | _, _, ns, .nil, e => by cases e; rfl
  | (k, d) :: kvs, q :: kvs', ns, .cons r t, e => by
    cases k with
    | inl i =>
      simp only [keysI, Option.map_eq_some_iff] at e
      obtain ⟨q2, e1, rfl⟩ := e
      simp only [List.map_cons, ← r.1, keysI_rel t e1]
    | inr _ => cases e
theorem cs_sortedD : CallSL Γ (fun xs H Q => ∃ (a : Addr) (kvs : List (Key × V)) (ks : List Int), xs = [.ref a] ∧ Rd H a (.dK kvs) ∧ kvs.map (·.1) = ks.map Sum.inl ∧ ks.length < 64 ∧
    ∀ (ys : List Int) (p : Addr), ys.Perm ks → ys.Pairwise (· ≤ ·) → H p = none → Q (.ref p) (upd H p (.lst (ys.map V.int)))) sortedDC := fun ι hs H xs ds d Q rp r e q => by
  unfold sortedDC at e
  split at e
  · obtain ⟨x, rfl, rx⟩ := ints1 r
    simp only [Option.bind_eq_some_iff] at e
    obtain ⟨kvs, h1, ns, h2, h3⟩ := e
    split at h3
    · rename_i hl
      cases h3
      obtain ⟨a, rfl, hn⟩ := rx.ref_inv
      obtain ⟨kvs', h4, h5⟩ := dctAt_rel rp hn h1
      refine ⟨a, kvs', ns, rfl, h4, keysI_rel h5 h2, hl, fun ys p hp hs' hn => ?_⟩
      rw [sortI_uniq hp hs']
      exact q _ p (ints_rel _) hn
    · cases h3
  · cases e
end
end Fx

set_option Elab.async false
set_option linter.all false
set_option maxRecDepth 100000
namespace Fx
open PySem L2

section
variable {X : Cx} {Γ : Sta} {E : XK} {a b c e tg : Expr} {ma mb : M D} {mt : M Bool} {ml : M (List D)} {pos : Pos}
theorem dc_sat {own : List Nat} {g : MG} {mk mv : M D} {gd : Option Nat} {ι1 : Ix} {H1 : Hp} {hs0 : HS} {J : It} {ds : List D} {Q : VK} (wk : WalkD Γ J ι1 H1 hs0 ds gd) {ls : LS} {hs : HS} {σ : St} {E : XK} (rp1 : Rep Γ ι1 hs H1) (rl : RelL Γ ι1 H1 ls σ)
    (sat : ((dcD own g mt mk mv gd hs0 (wipeL ls own) ds [] hs).bind fun kvs h1 => R.ok (D.ref h1.length) (h1 ++ [.dct false kvs])).Sat (PostV Γ ι1 H1 Q) (PostX Γ ι1 H1 E)) (D' : Addr) (hD : H1 D' = none) :
    ∃ W : Nat → Nat → Hp → Prop, (∃ m, W 0 m (upd H1 D' (.dK []))) ∧ ∀ i m H, W i m H →
      (J.stop i H ∧ Q (.ref D') H) ∨ (J.go i H ∧ ∃ Nx : Hp → Prop, (∀ H', Nx H' → ∃ m', m' < m ∧ W (i + 1) m' H') ∧ ∀ x H', J.yld i H x H' → tGt Γ g x (wipe σ own) H' fun σ2 H2 => wipe σ2 own = wipe σ own ∧ tFT Γ E0 mt σ2 H2 fun b H3 =>
        if b = true then tF Γ E0 mk σ2 H3 fun y H4 => tF Γ E0 mv σ2 H4 fun z H5 => ∃ kvs k, y = kV k ∧ H5 D' = some (.dK kvs) ∧ kvs.length < sizeLine ∧ Nx (upd H5 D' (.dK (putK kvs k z))) else Nx H3) := by
  have rlw := RelL.wipe rl own
  have sat := sat.of_bind
  refine ⟨fun i m H => m = ds.length - i ∧ i ≤ ds.length ∧ ∃ κ hs acc vacc, H D' = some (.dK vacc) ∧ Step ι1 H1 κ (hide H D') ∧ Rep Γ κ hs (hide H D') ∧ PK' Γ κ (hide H D') acc vacc ∧ (dcD own g mt mk mv gd hs0 (wipeL ls own) (ds.drop i) acc hs).Sat (fun kvs h1 => (R.ok (D.ref h1.length) (h1 ++ [.dct false kvs])).Sat (PostV Γ ι1 H1 Q) (PostX Γ ι1 H1 E)) (PostX Γ ι1 H1 E),
    ⟨_, rfl, Nat.zero_le _, ι1, hs, [], [], upd_same, by rw [hide_upd, hide_none hD]; exact Step.refl _ _, by rw [hide_upd, hide_none hD]; exact rp1, .nil, sat⟩, ?_⟩
  rintro i m H ⟨rfl, hi, κ, hs, acc, vacc, hacc, st, rp, racc, sat⟩
  have eH : upd (hide H D') D' (.dK vacc) = H := by rw [upd_hide, upd_self hacc]
  have rpB : Rep Γ (κ.ban D') hs H := by
    have := Rep.enter (o := HO.dK vacc) trivial rp hide_same
    rw [eH] at this
    exact this
  have stB : Step κ (hide H D') (κ.ban D') H := by
    have := Step.enter (ι := κ) (H := hide H D') (o := HO.dK vacc) hide_same
    rw [eH] at this
    exact this
  by_cases hlt : i < ds.length
  · have hd : ds.drop i = ds[i] :: ds.drop (i + 1) := List.drop_eq_getElem_cons hlt
    rw [hd] at sat
    unfold dcD at sat
    split at sat
    · rename_i hg
      obtain ⟨w1, _⟩ := wk (κ.ban D') H hs (st.trans stB) rpB hg
      obtain ⟨go, yl⟩ := w1 i ds[i] (List.getElem?_eq_getElem hlt)
      refine .inr ⟨go, fun H' => i + 1 ≤ ds.length ∧ ∃ κ hs acc vacc, H' D' = some (.dK vacc) ∧ Step ι1 H1 κ (hide H' D') ∧ Rep Γ κ hs (hide H' D') ∧ PK' Γ κ (hide H' D') acc vacc ∧ (dcD own g mt mk mv gd hs0 (wipeL ls own) (ds.drop (i + 1)) acc hs).Sat (fun kvs h1 => (R.ok (D.ref h1.length) (h1 ++ [.dct false kvs])).Sat (PostV Γ ι1 H1 Q) (PostX Γ ι1 H1 E)) (PostX Γ ι1 H1 E),
        fun H' q => ⟨ds.length - (i + 1), by omega, rfl, q.1, q.2⟩, fun x H' y => ?_⟩
      obtain ⟨st2, rp2, rd⟩ := yl x H' y
      cases eg : g ds[i] with
      | none => rw [eg] at sat; exact sat.elim
      | some ps =>
        rw [eg] at sat
        simp only at sat
        split at sat
        · rename_i hps
          have hps' : ∀ p ∈ ps, p.1 ∈ own := by simpa using hps
          refine ⟨κ.ban D', hs, ds[i], ps, rp2, rd, eg, fun ws hw => ⟨?_, ?_⟩⟩
          · rw [wipe_put own ws _ (paired_ix hw hps'), wipe_wipe]
          · have stA := (st.trans stB).trans st2
            have rl2 : RelL Γ (κ.ban D') H' (putL (wipeL ls own) ps) (putS (wipe σ own) ws) := RelL.putAll (rp1.relL stA rlw) hw
            have accAt : ∀ {κ3 : Ix} {H3 : Hp}, Step (κ.ban D') H κ3 H3 → H3 D' = some (.dK vacc) := fun s3 => s3.keep D' _ hacc (rp.fresh hide_same).l (by intro ps q; cases q)
            have back : ∀ {κ3 : Ix} {H3 : Hp} {h3 : HS}, Step (κ.ban D') H κ3 H3 → Rep Γ κ3 h3 H3 → D' ∈ κ3.fb ∧ Step κ (hide H D') (κ3.unban D') (hide H3 D') ∧ Rep Γ (κ3.unban D') h3 (hide H3 D') := fun {κ3 H3 h3} s3 r3 => by
              have hf : D' ∈ κ3.fb := by
                obtain ⟨e, f, he, _, _⟩ := s3.ext
                rw [he]
                exact List.mem_append_right _ (List.mem_cons_self ..)
              refine ⟨hf, ?_, r3.leave (accAt s3) trivial hf⟩
              rw [← eH] at s3
              exact Step.leave hide_same (rp.fresh hide_same).fb s3
            refine ⟨κ.ban D', putL (wipeL ls own) ps, hs, rp2, rl2, R.nox_sat (E' := PostX Γ (κ.ban D') H' E0) (sat.of_bind.mono (fun c h1 s1 ι3 H3 st3 rp3 => ?_) fun _ _ e => e)⟩
            cases c with
            | false =>
              obtain ⟨hf, sb, rb⟩ := back (st2.trans st3) rp3
              exact ⟨hlt, ι3.unban D', h1, acc, vacc, accAt (st2.trans st3), st.trans sb, rb, pk_step rp sb racc, s1⟩
            | true =>
              simp only [if_true] at s1 ⊢
              refine ⟨ι3, putL (wipeL ls own) ps, h1, rp3, rp2.relL st3 rl2, R.nox_sat (E' := PostX Γ ι3 H3 E0) (s1.of_bind.mono (fun y h2 s2 ι4 H4 v st4 rp4 ry => ?_) fun _ _ e => e)⟩
              refine ⟨ι4, putL (wipeL ls own) ps, h2, rp4, rp3.relL st4 (rp2.relL st3 rl2), R.nox_sat (E' := PostX Γ ι4 H4 E0) (s2.of_bind.mono (fun z h3 s3 ι5 H5 w st5 rp5 rz => ?_) fun _ _ e => e)⟩
              cases ek : y.key with
              | none => rw [ek] at s3; exact s3.elim
              | some k =>
              rw [ek] at s3
              simp only at s3
              split at s3
              · rename_i hz
                have s34 := ((st2.trans st3).trans st4).trans st5
                obtain ⟨hf, sb, rb⟩ := back s34 rp5
                refine ⟨vacc, k, key_rel ry ek, accAt s34, by rw [← Paired.length racc]; exact hz, hlt, ι5.unban D', h3, putD acc k z, putK vacc k w, upd_same, ?_, ?_, ?_, s3⟩
                · rw [hide_upd]; exact st.trans sb
                · rw [hide_upd]; exact rb
                · rw [hide_upd]; exact put_rel (pk_step rp sb racc) (rz.leave (accAt s34) trivial hf)
              · exact s3.elim
        · exact sat.elim
    · exact sat.elim
  · have e : i = ds.length := by omega
    subst e
    rw [List.drop_length] at sat
    unfold dcD at sat
    split at sat
    · rename_i hg
      refine .inl ⟨(wk (κ.ban D') H hs (st.trans stB) rpB hg).2, ?_⟩
      have sn := Step.box (ι := κ) (H := hide H D') (o := HO.dK vacc) hide_same
      have q := sat (κ.add D') (upd (hide H D') D' (.dK vacc)) (.ref D') (st.trans sn) (rp.box hide_same ⟨vacc, .inl ⟨upd_same, rfl⟩, pk_step rp sn racc⟩) (.ref (rp.next D'))
      rw [eH] at q
      exact q
    · exact sat.elim
theorem fe_dc {kx vx iter : Expr} {ifs : List Expr} {scope : Scope} {own : List (Str × Nat)} {mi : MI} {g : MG} {mk mv : M D} (hc : X.calm = true) (hN : X.N.Nodup) (hi : FI X Γ E tg iter mi) (ok : BlkOk X.N X.env.scope scope own)
    (hg : ∀ (s : Shared) (H : Hp) (C : Addr) (cl : List (Str × Addr)) (fp : List Addr), FG (X.blk s H scope (compEnvC scope cl C X.env) fp) Γ tg g)
    (ht : ∀ (s : Shared) (H : Hp) (C : Addr) (cl : List (Str × Addr)) (fp : List Addr), FTs (X.blk s H scope (compEnvC scope cl C X.env) fp) Γ E0 ifs mt)
    (hk : ∀ (s : Shared) (H : Hp) (C : Addr) (cl : List (Str × Addr)) (fp : List Addr), FE (X.blk s H scope (compEnvC scope cl C X.env) fp) Γ E0 kx mk)
    (hv : ∀ (s : Shared) (H : Hp) (C : Addr) (cl : List (Str × Addr)) (fp : List Addr), FE (X.blk s H scope (compEnvC scope cl C X.env) fp) Γ E0 vx mv)
    (hs : ∀ x, foldedSetIterable iter X.env x = pure x := by intro _; rfl) : FE X Γ E (.DictComp kx vx [⟨tg, iter, ifs, 0⟩] scope pos) (mDc (own.map (·.2)) mi g mt mk mv) :=
  PE.weak (pe_dc hc hN hi ok hg ht hk hv hs) fun σ H Q q => by
    obtain ⟨ι, ls, hs, rp, rl, sat⟩ := q
    refine ⟨ι, ls, hs, rp, rl, sat.of_bind.mono (fun p h1 s1 ι1 H1 J st1 rp1 wk D' hD => ?_) fun _ _ e => e⟩
    exact dc_sat wk rp1 (rp.relL st1 rl) (s1.mono (fun _ _ p => PostV.on p st1) fun _ _ p => PostX.on p st1) D' hD
end
end Fx

set_option Elab.async false
set_option linter.all false
set_option maxRecDepth 100000
namespace Fx
open PySem PyProof.Rows L2

/-! ### chains -/
def mChain2 (f g : HS → D → D → Option D) (a b c : M D) : M D := fun ls hs => (a ls hs).bind fun x h1 => (b ls h1).bind fun y h2 => match f h2 x y with
  | some (.bl true) => (c ls h2).bind fun z h3 => R.of (g h3 y z) h3
  | some (.bl false) => .ok (.bl false) h2
  | _ => .bad
def mChain3 (f g h : HS → D → D → Option D) (a b c d : M D) : M D := fun ls hs => (a ls hs).bind fun x h1 => (b ls h1).bind fun y h2 => match f h2 x y with
  | some (.bl true) => (c ls h2).bind fun z h3 => match g h3 y z with
    | some (.bl true) => (d ls h3).bind fun w h4 => R.of (h h4 z w) h4
    | some (.bl false) => .ok (.bl false) h3
    | _ => .bad
  | some (.bl false) => .ok (.bl false) h2
  | _ => .bad
section
variable {X : Cx} {Γ : Sta} {E : XK} {a b c d : Expr} {ma mb mc md : M D} {pos : Pos} {op op' op2 : CmpOp} {r r' r2 : R2} {f g h : HS → D → D → Option D}
theorem chain2_t (hs1 : OpS Γ r f) (hs2 : OpS Γ r' g) {σ : L2.St} {H : Hp} {Q : VK} (q : tF Γ E (mChain2 f g ma mb mc) σ H Q) : tChain r r' (tF Γ E ma) (tF Γ E mb) (tF Γ E mc) σ H Q :=
  bindV q fun ι ls hs dx h1 rp rl s1 ι1 H1 x st1 rp1 rx => by
    refine ⟨ι1, ls, h1, rp1, rp.relL st1 rl, s1.of_bind.mono (fun dy h2 s2 ι2 H2 y st2 rp2 ry => ?_) fun _ _ e => PostX.on e st1⟩
    have st12 := st1.trans st2
    cases ef : f h2 dx dy with
    | none => rw [ef] at s2; exact s2.elim
    | some z =>
      rw [ef] at s2
      refine hs1 ι2 h2 H2 x y dx dy z _ rp2 (rp1.relD st2 rx) ry ef fun H3 v st3 rp3 rv => ?_
      cases z with
      | bl k =>
        refine ⟨k, rv.bl_inv, ?_⟩
        have st13 := st12.trans st3
        cases k with
        | true =>
          simp only [if_true]
          refine ⟨ι2, ls, h2, rp3, rp.relL st13 rl, s2.of_bind.mono (fun dz h3 s3 ι4 H4 w st4 rp4 rw' => ?_) fun _ _ e => PostX.on e st13⟩
          obtain ⟨d', e', p⟩ := R.of_sat s3
          exact hs2 ι4 h3 H4 y w dy dz d' Q rp4 (rp2.relD (st3.trans st4) ry) rw' e' fun H5 v5 st5 rp5 rv5 => p ι4 H5 v5 ((st13.trans st4).trans st5) rp5 rv5
        | false =>
          simp only [Bool.false_eq_true, if_false]
          exact s2 ι2 H3 _ st13 rp3 (.bl false)
      | _ => exact s2.elim
theorem fe_chain2 (ho : OpR X (compareOp op) r) (ho' : OpR X (compareOp op') r') (hs1 : OpS Γ r f) (hs2 : OpS Γ r' g) (ha : FE X Γ E a ma) (hb : FE X Γ E b mb) (hc : FE X Γ E c mc) (hm : lastMarks [op, op'] [b, c] = false := by with_unfolding_all rfl) : FE X Γ E (.Compare a [op, op'] [b, c] pos) (mChain2 f g ma mb mc) :=
  PE.weak (pe_chain ho ho' ha hb hc hm) fun _ _ _ q => chain2_t hs1 hs2 q
theorem ft_chain2 (ho : OpR X (compareOp op) r) (ho' : OpR X (compareOp op') r') (hs1 : OpS Γ r f) (hs2 : OpS Γ r' g) (ha : FE X Γ E a ma) (hb : FE X Γ E b mb) (hc : FE X Γ E c mc) (hm : lastMarks [op, op'] [b, c] = false := by with_unfolding_all rfl) : FT X Γ E (.Compare a [op, op'] [b, c] pos) (mTest (mChain2 f g ma mb mc)) :=
  PT.weak (pt_chain ho ho' ha hb hc hm) fun _ _ _ q => test_t (fun _ _ _ z => chain2_t hs1 hs2 z) q
/-- three links -/
def tChain3 (r r' r2 : R2) (ta tb tc td : TE) : TE := fun σ H Q => ta σ H fun x H1 => tb σ H1 fun y H2 => r x y H2 fun z H3 => ∃ k, z = .bl k ∧
  (if k = true then tc σ H3 fun w H4 => r' y w H4 fun z H5 => ∃ k, z = .bl k ∧ (if k = true then td σ H5 fun w2 H6 => r2 w w2 H6 Q else Q (.bl false) H5) else Q (.bl false) H3)
theorem pe_chain3 {ta tb tc td : TE} (ho : OpR X (compareOp op) r) (ho' : OpR X (compareOp op') r') (ho2 : OpR X (compareOp op2) r2) (ha : PE X a ta) (hb : PE X b tb) (hc : PE X c tc) (hd : PE X d td)
    (hm : lastMarks [op, op', op2] [b, c, d] = false := by with_unfolding_all rfl) : PE X (.Compare a [op, op', op2] [b, c, d] pos) (tChain3 r r' r2 ta tb tc td) := by
  refine ⟨fun pins s σ H Q I h => ?_⟩
  refine Compare_chain (thn (ha.run pins s σ H _ I h) fun v s1 ⟨x, H1, I1, r1, q1⟩ => chain_link (thn (hb.run pins s1 σ H1 _ I1 q1) fun u s2 ⟨y, H2, I2, r2', q2⟩ =>
    thn (ho pins s2 σ H2 x y v u _ I2 r1 r2' q2) fun d' s3 ⟨z, H3, I3, r3, k, e, q3⟩ => ?_)) hm
  subst e
  cases r3
  refine wpAny_truthy_bool ?_
  cases k with
  | false => exact ite_ff ⟨.bl false, H3, I3, rfl, q3⟩
  | true =>
    refine ite_tt (chain_link (thn (hc.run pins s3 σ H3 _ I3 q3) fun w' s4 ⟨z', H4, I4, r4, q4⟩ => thn (ho' pins s4 σ H4 y z' u w' _ I4 r2' r4 q4) fun d2 s5 ⟨z5, H5, I5, r5, k5, e5, q5⟩ => ?_))
    subst e5
    cases r5
    refine wpAny_truthy_bool ?_
    cases k5 with
    | false => exact ite_ff ⟨.bl false, H5, I5, rfl, q5⟩
    | true => exact ite_tt (chain_last (thn (hd.run pins s5 σ H5 _ I5 q5) fun w6 s6 ⟨z6, H6, I6, r6, q6⟩ => ho2 pins s6 σ H6 z' z6 w' w6 Q I6 r4 r6 q6))
theorem pt_chain3 {ta tb tc td : TE} (ho : OpR X (compareOp op) r) (ho' : OpR X (compareOp op') r') (ho2 : OpR X (compareOp op2) r2) (ha : PE X a ta) (hb : PE X b tb) (hc : PE X c tc) (hd : PE X d td)
    (hm : lastMarks [op, op', op2] [b, c, d] = false := by with_unfolding_all rfl) : PT X (.Compare a [op, op', op2] [b, c, d] pos) (tTest (tChain3 r r' r2 ta tb tc td)) := by
  refine ⟨fun pins s σ H Q I h => ?_⟩
  refine isTrue_chain (thn (ha.run pins s σ H _ I h) fun v s1 ⟨x, H1, I1, r1, q1⟩ => test_link (thn (hb.run pins s1 σ H1 _ I1 q1) fun u s2 ⟨y, H2, I2, r2', q2⟩ =>
    thn (ho pins s2 σ H2 x y v u _ I2 r1 r2' q2) fun d' s3 ⟨z, H3, I3, r3, k, e, q3⟩ => ?_)) hm
  subst e
  cases r3
  refine wpAny_truthy_bool ?_
  cases k with
  | false =>
    obtain ⟨k', e', q'⟩ := q3
    cases e'
    exact ite_ff ⟨H3, I3, q'⟩
  | true =>
    refine ite_tt (test_link (thn (hc.run pins s3 σ H3 _ I3 q3) fun w' s4 ⟨z', H4, I4, r4, q4⟩ => thn (ho' pins s4 σ H4 y z' u w' _ I4 r2' r4 q4) fun d2 s5 ⟨z5, H5, I5, r5, k5, e5, q5⟩ => ?_))
    subst e5
    cases r5
    refine wpAny_truthy_bool ?_
    cases k5 with
    | false =>
      obtain ⟨k', e', q'⟩ := q5
      cases e'
      exact ite_ff ⟨H5, I5, q'⟩
    | true =>
      refine ite_tt (test_last (thn (hd.run pins s5 σ H5 _ I5 q5) fun w6 s6 ⟨z6, H6, I6, r6, q6⟩ => thn (ho2 pins s6 σ H6 z' z6 w' w6 _ I6 r4 r6 q6) fun d' s7 ⟨z7, H7, I7, r7, k7, e7, q7⟩ => ?_))
      subst e7
      cases r7
      exact wpAny_truthy_bool ⟨H7, I7, q7⟩
theorem chain3_t (hs1 : OpS Γ r f) (hs2 : OpS Γ r' g) (hs3 : OpS Γ r2 h) {σ : L2.St} {H : Hp} {Q : VK} (q : tF Γ E (mChain3 f g h ma mb mc md) σ H Q) : tChain3 r r' r2 (tF Γ E ma) (tF Γ E mb) (tF Γ E mc) (tF Γ E md) σ H Q :=
  bindV q fun ι ls hs dx h1 rp rl s1 ι1 H1 x st1 rp1 rx => by
    refine ⟨ι1, ls, h1, rp1, rp.relL st1 rl, s1.of_bind.mono (fun dy h2 s2 ι2 H2 y st2 rp2 ry => ?_) fun _ _ e => PostX.on e st1⟩
    have st12 := st1.trans st2
    cases ef : f h2 dx dy with
    | none => rw [ef] at s2; exact s2.elim
    | some z =>
      rw [ef] at s2
      refine hs1 ι2 h2 H2 x y dx dy z _ rp2 (rp1.relD st2 rx) ry ef fun H3 v st3 rp3 rv => ?_
      cases z with
      | bl k =>
        refine ⟨k, rv.bl_inv, ?_⟩
        have st13 := st12.trans st3
        cases k with
        | true =>
          simp only [if_true]
          refine ⟨ι2, ls, h2, rp3, rp.relL st13 rl, s2.of_bind.mono (fun dz h3 s3 ι4 H4 w st4 rp4 rw' => ?_) fun _ _ e => PostX.on e st13⟩
          have st14 := st13.trans st4
          cases eg : g h3 dy dz with
          | none => rw [eg] at s3; exact s3.elim
          | some z5 =>
            rw [eg] at s3
            refine hs2 ι4 h3 H4 y w dy dz z5 _ rp4 (rp2.relD (st3.trans st4) ry) rw' eg fun H5 v5 st5 rp5 rv5 => ?_
            cases z5 with
            | bl k5 =>
              refine ⟨k5, rv5.bl_inv, ?_⟩
              have st15 := st14.trans st5
              cases k5 with
              | true =>
                simp only [if_true]
                refine ⟨ι4, ls, h3, rp5, rp.relL st15 rl, s3.of_bind.mono (fun dw h4 s4 ι6 H6 w6 st6 rp6 rw6 => ?_) fun _ _ e => PostX.on e st15⟩
                obtain ⟨d', e', p⟩ := R.of_sat s4
                exact hs3 ι6 h4 H6 w w6 dz dw d' Q rp6 (rp4.relD (st5.trans st6) rw') rw6 e' fun H7 v7 st7 rp7 rv7 => p ι6 H7 v7 ((st15.trans st6).trans st7) rp7 rv7
              | false =>
                simp only [Bool.false_eq_true, if_false]
                exact s3 ι4 H5 _ st15 rp5 (.bl false)
            | _ => exact s3.elim
        | false =>
          simp only [Bool.false_eq_true, if_false]
          exact s2 ι2 H3 _ st13 rp3 (.bl false)
      | _ => exact s2.elim
theorem fe_chain3 (ho : OpR X (compareOp op) r) (ho' : OpR X (compareOp op') r') (ho2 : OpR X (compareOp op2) r2) (hs1 : OpS Γ r f) (hs2 : OpS Γ r' g) (hs3 : OpS Γ r2 h) (ha : FE X Γ E a ma) (hb : FE X Γ E b mb) (hc : FE X Γ E c mc) (hd : FE X Γ E d md) (hm : lastMarks [op, op', op2] [b, c, d] = false := by with_unfolding_all rfl) :
    FE X Γ E (.Compare a [op, op', op2] [b, c, d] pos) (mChain3 f g h ma mb mc md) := PE.weak (pe_chain3 ho ho' ho2 ha hb hc hd hm) fun _ _ _ q => chain3_t hs1 hs2 hs3 q
theorem ft_chain3 (ho : OpR X (compareOp op) r) (ho' : OpR X (compareOp op') r') (ho2 : OpR X (compareOp op2) r2) (hs1 : OpS Γ r f) (hs2 : OpS Γ r' g) (hs3 : OpS Γ r2 h) (ha : FE X Γ E a ma) (hb : FE X Γ E b mb) (hc : FE X Γ E c mc) (hd : FE X Γ E d md) (hm : lastMarks [op, op', op2] [b, c, d] = false := by with_unfolding_all rfl) :
    FT X Γ E (.Compare a [op, op', op2] [b, c, d] pos) (mTest (mChain3 f g h ma mb mc md)) := PT.weak (pt_chain3 ho ho' ho2 ha hb hc hd hm) fun _ _ _ q => test_t (fun _ _ _ z => chain3_t hs1 hs2 hs3 z) q
/-! ### raise, an own class without an __init__, one text -/
structure ExcOk (X : Cx) (Γ : Sta) (k : Nat) (x : Str) : Prop where
  run : ∀ (p : Pos) (m : Str) (j : Nat) (p2 pos : Pos), PMk X (.Call (.Name x p) [.Constant (.str m) j p2] [] pos) (fun _ H Q => Q (.ref (Γ.cls k)) none H)
theorem fs_raise {k : Nat} {x m : Str} {j : Nat} {p p2 p3 : Pos} (hc : X.calm = true) (tk : Takes X (fun cls d _ H => E cls d H)) (hx : ExcOk X Γ k x) : FS X Γ E (.Raise (some (.Call (.Name x p) [.Constant (.str m) j p2] [] p3)) none pos) (mRaise k) :=
  PS.weak (ps_raise hc tk (hx.run p m j p2 p3)) fun D' σ H ⟨ι, ls, hs, rp, rl, sat⟩ => sat ι H (Step.refl _ _) rp
end
end Fx

set_option Elab.async false
set_option linter.all false
set_option maxRecDepth 100000
namespace Fx
open PySem PyProof.Rows L2

/-! ### defs -/
def startL (n : Nat) (ds : List D) : LS := ds.map some ++ List.replicate (n - ds.length) none
def runF (n : Nat) (m : MS) : Fn := fun ds hs => match m (startL n ds) hs with
  | .nx _ h => .ok .non h
  | .rt d h => .ok d h
  | .exc c h => .exc c h
  | _ => .bad
mutual
/-- data without numbers and lambdas -/
def D.pure : D → Bool
  | .tup ds => D.pures ds
  | .lst ds => D.pures ds
  | .ref _ => false
  | .lam _ => false
  | .con _ => false
  | _ => true
def D.pures : List D → Bool
  | [] => true
  | d :: r => d.pure && D.pures r
end
theorem D.pures_get : ∀ {ds : List D}, D.pures ds = true → ∀ {i : Nat} {d : D}, ds[i]? = some d → d.pure = true
  | [], _, i, d, e => by simp at e
  | x :: r, h, 0, d, e => by
    simp only [D.pures, Bool.and_eq_true] at h
    simp at e
    rw [← e]; exact h.1
  | x :: r, h, i + 1, d, e => by
    simp only [D.pures, Bool.and_eq_true] at h
    exact D.pures_get h.2 (i := i) (by simpa using e)
/-- a def that is handed data and gives data back: run apart from what its caller has under numbers -/
def frF (F : Fn) : Fn := fun ds hs => if D.pures ds then match F ds [] with
    | .ok v _ => if v.pure then .ok v hs else .bad
    | .exc c _ => .exc c hs
    | .bad => .bad
  else .bad
section
variable {Γ Γ' : Sta} {ι ι' : Ix} {H H' : Hp} {hs : HS}
theorem RelD.pure (hK : Γ'.K = Γ.K) (ho : ∀ a, Out ι a → Out ι' a) {d : D} {v : V} (r : RelD Γ ι H d v) (hp : d.pure = true) : RelD Γ' ι' H d v := by
  induction r with
  | non => exact .non
  | bl b => exact .bl b
  | int i => exact .int i
  | str x => exact .str x
  | tup h hl r ih => exact .tup (by rw [hK]; exact h) hl fun i d v e1 e2 => ih i d v e1 e2 (D.pures_get hp e1)
  | lst n h hl r ih => exact .lst (ho _ n) h hl fun i d v e1 e2 => ih i d v e1 e2 (D.pures_get hp e1)
  | ref h => cases hp
  | con h => cases hp
  | lam n nc h hc nt => cases hp
theorem RelDs.pure (hK : Γ'.K = Γ.K) (ho : ∀ a, Out ι a → Out ι' a) {ds : List D} {vs : List V} (r : RelDs Γ ι H ds vs) (hp : D.pures ds = true) : RelDs Γ' ι' H ds vs := by
  induction r with
  | nil => exact .nil
  | cons q _ ih =>
    simp only [D.pures, Bool.and_eq_true] at hp
    exact .cons (q.pure hK ho hp.1) (ih hp.2)
def Ix.apart (ι : Ix) : Ix := ⟨[], ι.l ++ ι.fb⟩
theorem Out.apart {a : Addr} (h : Out ι a) : Out ι.apart a := ⟨by simp [Ix.apart], by
  intro z
  rcases List.mem_append.mp z with z | z
  · exact h.l z
  · exact h.fb z⟩
theorem RelOb.plain {a : Addr} {o : Ob} (h : RelOb Γ ι H a o) : ∃ u, H a = some u ∧ PlainO u := by
  cases o with
  | lst ds => obtain ⟨_, z, _⟩ := h; exact ⟨_, z, trivial⟩
  | dct lk kvs =>
    obtain ⟨_, z, _⟩ := h
    rcases z with ⟨z, _⟩ | ⟨_, z, _⟩
    · exact ⟨_, z, trivial⟩
    · exact ⟨_, z, trivial⟩
  | ins c fs => obtain ⟨_, _, z, _⟩ := h; exact ⟨_, z, trivial⟩
theorem Rep.apart (hT : Γ'.T = Γ.T) (r : Rep Γ ι hs H) : Rep Γ' ι.apart [] H where
  len := rfl
  nd := List.nodup_nil
  fbs := fun a ha => by
    refine ⟨by simp [Ix.apart], ?_⟩
    rcases List.mem_append.mp ha with ha | ha
    · obtain ⟨n, hn, e⟩ := List.getElem_of_mem ha
      obtain ⟨o, _, q⟩ := r.at (n := n) (a := a) (by rw [List.getElem?_eq_getElem hn, e])
      exact RelOb.plain q
    · exact (r.fbs a ha).2
  ob := fun n a o e _ => by simp [Ix.apart] at e
  tabs := by rw [hT]; exact r.tabs
/-- what the caller has is as it was -/
theorem Step.unapart (s : Step ι.apart H ι' H') : Step ι H ι H' where
  ext := ⟨[], [], by cases ι; simp, by simp, by simp⟩
  keep := fun a o h _ nt => s.keep a o h (by simp [Ix.apart]) nt
  non := s.non
  frz := s.frz
theorem Rep.unapart (hT : Γ'.T = Γ.T) (r : Rep Γ ι hs H) (s : Step ι.apart H ι' H') {h' : HS} (r' : Rep Γ' ι' h' H') : Rep Γ ι hs H' where
  len := r.len
  nd := r.nd
  fbs := fun a ha => by
    obtain ⟨h1, u, e, z⟩ := r.fbs a ha
    exact ⟨h1, u, s.keep a u e (by simp [Ix.apart]) fun ps q => z.noTbl ps q, z⟩
  ob := fun n a o e1 e2 => by
    have q := r.ob n a o e1 e2
    obtain ⟨u, hu, nt⟩ := RelOb.stands q
    exact RelOb.step (fun _ _ e => r.noTup e) (Step.unapart s) q (by rw [hu]; exact s.keep a u hu (by simp [Ix.apart]) nt)
  tabs := by rw [← hT]; exact r'.tabs
theorem Out.unapart (s : Step ι.apart H ι' H') {a : Addr} (h : Out ι' a) : Out ι a := by
  obtain ⟨e, f, rfl, _, _⟩ := s.ext
  refine ⟨fun z => h.fb ?_, fun z => h.fb ?_⟩
  · exact List.mem_append_right _ (List.mem_append_left _ z)
  · exact List.mem_append_right _ (List.mem_append_right _ z)
/-- the same but for the lambdas -/
structure SameBut (Γ Γ' : Sta) : Prop where
  K : Γ'.K = Γ.K
  cls : Γ'.cls = Γ.cls
  T : Γ'.T = Γ.T
theorem SameBut.refl (Γ : Sta) : SameBut Γ Γ := ⟨rfl, rfl, rfl⟩
theorem spF_apart {n : Nat} {F : Fn} {vs : List V} {Q : VK} {E : XK} (S : SameBut Γ Γ') (h : spF Γ n (frF F) vs H Q E) : spF Γ' n F vs H Q E := by
  obtain ⟨ι, ds, hs, rp, r, hl, sat⟩ := h
  unfold frF at sat
  split at sat
  case isFalse => exact sat.elim
  rename_i hp
  refine ⟨ι.apart, ds, [], rp.apart S.T, RelDs.pure S.K (fun _ h => h.apart) r hp, hl, ?_⟩
  cases ef : F ds [] with
  | bad => rw [ef] at sat; exact sat.elim
  | exc c h =>
    rw [ef] at sat
    intro ι' H' st rp'
    rw [S.cls]
    exact sat ι H' (Step.unapart st) (rp.unapart S.T st rp')
  | ok v h =>
    rw [ef] at sat
    simp only at sat
    split at sat
    case isFalse => exact sat.elim
    rename_i hv
    intro ι' H' z st rp' rz
    exact sat ι H' z (Step.unapart st) (rp.unapart S.T st rp') (rz.pure S.K.symm (fun _ h => h.unapart st) hv)
end
section
variable {P : Program} {w : World} {K : PySem.W.Frag} {mg : Str → Option Value} {base : Heap} {Γ : Sta} {x qual : Str} {st : Stmt} {f : Addr} {fd : FuncData} {N ps : List Str} {k n : Nat} {m : MS}
theorem GFun.fresh {dds : List D} {F : Fn} (G : GFun P w K mg base Γ f k n dds F) : GFun P w K mg base Γ f k n dds (frF F) := by
  obtain ⟨fd, ps, ds, dvs, h1, h2, h3, h4, h5⟩ := G.ex
  exact ⟨fd, ps, ds, dvs, h1, ⟨spF_len (by simpa using h1), fun A outer s H args us vs Q E hr e0 hb rv h => h2.run A outer s H args us vs Q E hr e0 hb rv (spF_apart (SameBut.refl Γ) h)⟩, h3, h4, h5⟩
theorem startL_rel {Γ : Sta} {ι : Ix} {H : Hp} {ds : List D} {vs : List V} (r : RelDs Γ ι H ds vs) : RelL Γ ι H (startL N.length ds) (L2.start N vs) := by
  have hl := Paired.length r
  refine ⟨by unfold startL L2.start; simp [hl], fun i d e => ?_⟩
  unfold startL at e
  by_cases hi : i < ds.length
  · rw [List.getElem?_append_left (by simpa using hi), List.getElem?_map] at e
    cases hd : ds[i]? with
    | none => rw [hd] at e; cases e
    | some d' =>
      rw [hd] at e
      have e : d' = d := by simpa using e
      subst e
      obtain ⟨v, h1, h2⟩ := Paired.left r hd
      refine ⟨v, ?_, h2⟩
      unfold L2.start
      rw [List.getElem?_append_left (by simp [← hl, hi]), List.getElem?_map, h1]
      rfl
  · rw [List.getElem?_append_right (by simpa using hi), List.getElem?_replicate] at e
    split at e <;> cases e
theorem runF_sat {Γ : Sta} {ι : Ix} {H : Hp} {n : Nat} {ds : List D} {hs : HS} {Q : VK} {E : XK} (h : (runF n m ds hs).Sat (PostV Γ ι H Q) (PostX Γ ι H E)) : (m (startL n ds) hs).Sat (KS Γ ι H { nx := fun _ H' => Q .non H', rt := Q } E) := by
  unfold runF at h
  cases e : m (startL n ds) hs with
  | nx l h1 => rw [e] at h; exact fun ι' H' σ' st rp _ => h ι' H' _ st rp .non
  | rt d h1 => rw [e] at h; exact h
  | bk l h1 => rw [e] at h; exact h.elim
  | ct l h1 => rw [e] at h; exact h.elim
  | exc c h1 => rw [e] at h; exact h
  | bad => rw [e] at h; exact h.elim
abbrev defCx (P : Program) (w : World) (K : PySem.W.Frag) (mg : Str → Option Value) (base : Heap) (N : List Str) (qual : Str) (st : Stmt) (f : Addr) (cdv : Value) (A : Around) (outer : List Env) (s : Shared) (H : Hp) (E : XK) : Cx :=
  cxOf (L2.CX P w) P w K mg base N qual (defScope st) f cdv A outer s H E
theorem gfun_mk (F : Fun K x qual st f fd) (S : FnScope N ps (defScope st)) (hn : ps.length = n) (hb : Binds K fd ps [])
    (body : ∀ (cdv : Value) (A : Around) (outer : List Env) (s : Shared) (H : Hp) (E : XK), Room k (A.deeper (envOfC qual (defScope st) s.heap.objs.size f cdv)) → FSs (defCx P w K mg base N qual st f cdv A outer s H E) Γ E (defBody st) m) :
    GFun P w K mg base Γ f (k + 1) n [] (runF N.length m) :=
  ⟨fd, ps, [], [], by simpa using hn, F.okX S (spF_len (by simpa using hn)) fun cdv A outer s H vs Q E hr ⟨ι, ds, hs, rp, r, hl, sat⟩ => ⟨_, body cdv A outer s H E hr, ι, startL N.length ds, hs, rp, startL_rel r, runF_sat sat⟩, hb, .nil, fun _ _ => .nil⟩
/-- .. whose lambdas are told by the frame -/
theorem gfun_lam {lamOf : Cx → Nat → Addr → Addr → HO} (F : Fun K x qual st f fd) (S : FnScope N ps (defScope st)) (hn : ps.length = n) (hb : Binds K fd ps [])
    (body : ∀ (cdv : Value) (A : Around) (outer : List Env) (s : Shared) (H : Hp) (E : XK), Room k (A.deeper (envOfC qual (defScope st) s.heap.objs.size f cdv)) → FSs (defCx P w K mg base N qual st f cdv A outer s H E) { Γ with lam := lamOf (defCx P w K mg base N qual st f cdv A outer s H E), lq := qual ++ ".<locals>." ++ "<lambda>" } E (defBody st) m) :
    GFun P w K mg base Γ f (k + 1) n [] (frF (runF N.length m)) :=
  ⟨fd, ps, [], [], by simpa using hn, F.okX S (spF_len (by simpa using hn)) fun cdv A outer s H vs Q E hr h => by
    obtain ⟨ι, ds, hs, rp, r, hl, sat⟩ := spF_apart (Γ := Γ) (Γ' := { Γ with lam := lamOf (defCx P w K mg base N qual st f cdv A outer s H E), lq := qual ++ ".<locals>." ++ "<lambda>" }) ⟨rfl, rfl, rfl⟩ h
    exact ⟨_, body cdv A outer s H E hr, ι, startL N.length ds, hs, rp, startL_rel r, runF_sat sat⟩, hb, .nil, fun _ _ => .nil⟩
end
end Fx

set_option Elab.async false
set_option linter.all false
set_option maxRecDepth 100000
namespace Fx
open PySem PyProof.Rows L2

/-! ### by names -/
structure Fnd (P : Program) (w : World) (K : PySem.W.Frag) (mg : Str → Option Value) (base : Heap) (Γ : Sta) (x : Str) (k n : Nat) (F : Fn) : Prop where
  ex : ∃ f, GFun P w K mg base Γ f k n [] F ∧ mg x = some (.ref f) ∧ PySem.W.keepIn K (.ref f) = true
/-- no name of the builtins is written over -/
def bltNames : List Str := ["len", "int", "abs", "max", "min", "sum", "sorted", "list", "tuple", "any", "all", "range", "enumerate", "zip", "str", "dict"]
def NB (mg : Str → Option Value) : Prop := ∀ x ∈ bltNames, mg x = none
section
variable {X : Cx} {Γ : Sta} {E : XK} {a b c e o : Expr} {es : List Expr} {ma mb mo : M D} {pos p pos2 p2 : Pos} {ml : M (List D)} {x : Str} {k k' n : Nat} {F : Fn}
theorem passE0 : Passes (L2.CX X.prog X.w) X E0 := fun _ _ _ _ _ _ _ c => by
  obtain ⟨_, _, _, _, _, _, _, _, _, _, _, _, h⟩ := c
  exact h.elim
theorem fe_fn (G : Fnd X.prog X.w X.K X.mg X.base Γ x k n F) (hr : Room k' X.A) (tk : Passes (L2.CX X.prog X.w) X E) (ha : FA X Γ E (e :: es) ml) (hk : k ≤ k' := by decide) (hg : Gl X x := by rfl)
    (hdb : (x == ("__debug__" : Str)) = false := by decide) (he : starEach (e :: es) X.env = (false, eval e X.env) :: starEach es X.env := by rfl) (hpl : (backTo pos (starEach es X.env)).any (·.1) = false := by rfl) : FE X Γ E (.Call (.Name x p) (e :: es) [] pos) (mCall n [] F ml) := by
  obtain ⟨f, h1, h2, h3⟩ := G.ex
  exact fe_call h1 (hr.mono hk) hg h2 h3 tk ha hdb he hpl
theorem fe_fn0 (G : Fnd X.prog X.w X.K X.mg X.base Γ x k 0 F) (hr : Room k' X.A) (tk : Passes (L2.CX X.prog X.w) X E) (hk : k ≤ k' := by decide) (hg : Gl X x := by rfl) (hdb : (x == ("__debug__" : Str)) = false := by decide) : FE X Γ E (.Call (.Name x p) [] [] pos) (mCall 0 [] F mNil) := by
  obtain ⟨f, h1, h2, h3⟩ := G.ex
  exact fe_call0 h1 (hr.mono hk) hg h2 h3 tk hdb
theorem fe_glob {d : D} {u : Value} {v : V} (hm : X.mg x = some u) (r : RelV v u) (hd : ∀ ι H, RelD Γ ι H d v) (hg : Gl X x := by rfl) (hdb : (x == ("__debug__" : Str)) = false := by decide) : FE X Γ E (.Name x pos) (mC d) := fe_c (pe_glob hg hm r hdb) hd
theorem fe_globI {i : Int} {t : Tok} (hm : X.mg x = some (.int i t)) (hg : Gl X x := by rfl) (hdb : (x == ("__debug__" : Str)) = false := by decide) : FE X Γ E (.Name x pos) (mC (.int i)) := fe_glob (v := .int i) hm ⟨t, rfl⟩ (fun _ _ => .int _) hg hdb
theorem fe_bad {e : Expr} : FE X Γ E e (fun _ _ => .bad) := ⟨fun pins s σ H Q I ⟨_, _, _, _, _, sat⟩ => sat.elim⟩
theorem ft_bad {e : Expr} : FT X Γ E e (fun _ _ => .bad) := ⟨fun pins s σ H Q I ⟨_, _, _, _, _, sat⟩ => sat.elim⟩
theorem fs_bad {s : Stmt} : FS X Γ E s mBadS := ⟨fun pins s σ H Q I ⟨_, _, _, _, _, sat⟩ => sat.elim⟩
theorem fss_bad {s : List Stmt} : FSs X Γ E s mBadS := ⟨fun pins s σ H Q I ⟨_, _, _, _, _, sat⟩ => sat.elim⟩
def m1 (ma : M D) : M (List D) := mCons ma mNil
def m2 (ma mb : M D) : M (List D) := mCons ma (mCons mb mNil)
theorem fe_len (nb : NB X.mg) (ha : FE X Γ E a ma) (hK : X.K = Γ.K := by rfl) (hg : Gl X "len" := by rfl) (he : starEach [a] X.env = (false, eval a X.env) :: starEach [] X.env := by rfl) : FE X Γ E (.Call (.Name "len" p) [a] [] pos) (mCB lenC (m1 ma)) :=
  fe_callB (CallR.or (by rw [← hK]; exact call_len) call_lenD) (CallS.or cs_len cs_lenD) hg (nb _ (by decide)) (by decide +kernel) (fa_cons ha fa_nil he) (by decide) (by decide) he
theorem fe_int1 (nb : NB X.mg) (ha : FE X Γ E a ma) (hg : Gl X "int" := by rfl) (he : starEach [a] X.env = (false, eval a X.env) :: starEach [] X.env := by rfl) : FE X Γ E (.Call (.Name "int" p) [a] [] pos) (mCB intC (m1 ma)) :=
  fe_callTy call_int1 cs_int hg (nb _ (by decide)) (by decide +kernel) (fa_cons ha fa_nil he) (by decide) (by decide) he
theorem fe_abs (nb : NB X.mg) (ha : FE X Γ E a ma) (hg : Gl X "abs" := by rfl) (he : starEach [a] X.env = (false, eval a X.env) :: starEach [] X.env := by rfl) : FE X Γ E (.Call (.Name "abs" p) [a] [] pos) (mCB absC (m1 ma)) :=
  fe_callB call_abs cs_abs hg (nb _ (by decide)) (by decide +kernel) (fa_cons ha fa_nil he) (by decide) (by decide) he
theorem fe_max2 (nb : NB X.mg) (hc : X.calm = true) (ha : FE X Γ E a ma) (hb : FE X Γ E b mb) (hg : Gl X "max" := by rfl) (he : starEach [a, b] X.env = (false, eval a X.env) :: starEach [b] X.env := by rfl) (he2 : starEach [b] X.env = (false, eval b X.env) :: starEach [] X.env := by rfl) (hpl : (backTo pos (starEach [b] X.env)).any (·.1) = false := by rfl) : FE X Γ E (.Call (.Name "max" p) [a, b] [] pos) (mCB max2C (m2 ma mb)) :=
  fe_callB (call_max2 hc) cs_max2 hg (nb _ (by decide)) (by decide +kernel) (fa_cons ha (fa_cons hb fa_nil he2) he) (by decide) (by decide) he hpl
theorem fe_min2 (nb : NB X.mg) (hc : X.calm = true) (ha : FE X Γ E a ma) (hb : FE X Γ E b mb) (hg : Gl X "min" := by rfl) (he : starEach [a, b] X.env = (false, eval a X.env) :: starEach [b] X.env := by rfl) (he2 : starEach [b] X.env = (false, eval b X.env) :: starEach [] X.env := by rfl) (hpl : (backTo pos (starEach [b] X.env)).any (·.1) = false := by rfl) : FE X Γ E (.Call (.Name "min" p) [a, b] [] pos) (mCB min2C (m2 ma mb)) :=
  fe_callB (call_min2 hc) cs_min2 hg (nb _ (by decide)) (by decide +kernel) (fa_cons ha (fa_cons hb fa_nil he2) he) (by decide) (by decide) he hpl
theorem fe_sum1 (nb : NB X.mg) (hc : X.calm = true) (ha : FE X Γ E a ma) (hK : X.K = Γ.K := by rfl) (hg : Gl X "sum" := by rfl) (he : starEach [a] X.env = (false, eval a X.env) :: starEach [] X.env := by rfl) : FE X Γ E (.Call (.Name "sum" p) [a] [] pos) (mCB sumC (m1 ma)) :=
  fe_callB (by rw [← hK]; exact CallR.or (cr_sum hc) (cr_sumT hc)) (cs_sum (Γ := Γ)) hg (nb _ (by decide)) (by decide +kernel) (fa_cons ha fa_nil he) (by decide) (by decide) he
theorem fe_max1 (nb : NB X.mg) (hc : X.calm = true) (ha : FE X Γ E a ma) (hK : X.K = Γ.K := by rfl) (hg : Gl X "max" := by rfl) (he : starEach [a] X.env = (false, eval a X.env) :: starEach [] X.env := by rfl) : FE X Γ E (.Call (.Name "max" p) [a] [] pos) (mCB maxC (m1 ma)) :=
  fe_callB (by rw [← hK]; exact cr_max hc) (cs_max (Γ := Γ)) hg (nb _ (by decide)) (by decide +kernel) (fa_cons ha fa_nil he) (by decide) (by decide) he
theorem fe_min1 (nb : NB X.mg) (hc : X.calm = true) (ha : FE X Γ E a ma) (hK : X.K = Γ.K := by rfl) (hg : Gl X "min" := by rfl) (he : starEach [a] X.env = (false, eval a X.env) :: starEach [] X.env := by rfl) : FE X Γ E (.Call (.Name "min" p) [a] [] pos) (mCB minC (m1 ma)) :=
  fe_callB (by rw [← hK]; exact cr_min hc) (cs_min (Γ := Γ)) hg (nb _ (by decide)) (by decide +kernel) (fa_cons ha fa_nil he) (by decide) (by decide) he
theorem fl_list1 (nb : NB X.mg) (ha : FE X Γ E a ma) (hK : X.K = Γ.K := by rfl) (hg : Gl X "list" := by rfl) (he : starEach [a] X.env = (false, eval a X.env) :: starEach [] X.env := by rfl) : FL X Γ E (.Call (.Name "list" p) [a] [] pos) (mCBL listC (m1 ma)) :=
  fl_callTy (by rw [← hK]; exact call_list_of) (cs_list (Γ := Γ)) hg (nb _ (by decide)) (by decide +kernel) (fa_cons ha fa_nil he) (by decide) (by decide) he
theorem fe_tup1 (nb : NB X.mg) (ha : FE X Γ E a ma) (hK : X.K = Γ.K := by rfl) (hg : Gl X "tuple" := by rfl) (he : starEach [a] X.env = (false, eval a X.env) :: starEach [] X.env := by rfl) : FE X Γ E (.Call (.Name "tuple" p) [a] [] pos) (mCB tupC (m1 ma)) :=
  fe_callTy (by rw [← hK]; exact call_tuple_of) (cs_tup (Γ := Γ)) hg (nb _ (by decide)) (by decide +kernel) (fa_cons ha fa_nil he) (by decide) (by decide) he
theorem fl_sorted (nb : NB X.mg) (ha : FE X Γ E a ma) (hK : X.K = Γ.K := by rfl) (hg : Gl X "sorted" := by rfl) (he : starEach [a] X.env = (false, eval a X.env) :: starEach [] X.env := by rfl) : FL X Γ E (.Call (.Name "sorted" p) [a] [] pos) (mCBL sortedC (m1 ma)) :=
  fl_callB (by rw [← hK]; exact cr_sortedI) (cs_sorted (Γ := Γ)) hg (nb _ (by decide)) (by decide +kernel) (fa_cons ha fa_nil he) (by decide) (by decide) he
theorem fl_sortedD (nb : NB X.mg) (hc : X.calm = true) (ha : FE X Γ E a ma) (hg : Gl X "sorted" := by rfl) (he : starEach [a] X.env = (false, eval a X.env) :: starEach [] X.env := by rfl) : FL X Γ E (.Call (.Name "sorted" p) [a] [] pos) (mCBL sortedDC (m1 ma)) :=
  fl_callB (call_sortedDI hc) (cs_sortedD (Γ := Γ)) hg (nb _ (by decide)) (by decide +kernel) (fa_cons ha fa_nil he) (by decide) (by decide) he
end
end Fx

set_option Elab.async false
set_option linter.all false
set_option maxRecDepth 100000
namespace Fx
open PySem PyProof.Rows L2

structure GxT (X : Cx) (Γ : Sta) : Prop where
  ex : ∃ c P, LamX.TabB X.base X.mg c P ∧ X.env.code = .ref c ∧ (P, X.env.qual ++ "<genexpr>") ∈ Γ.T ∧ ∀ p ∈ Γ.T, p.1 = P → p.2 = X.env.qual ++ "<genexpr>"
section
variable {X : Cx} {Γ : Sta} {E : XK} {elt target iter : Expr} {ifs : List Expr} {scope : Scope} {gpos p pos : Pos} {N' : List Str} {pick : List (Option Nat)} {mi : MI} {k k' : Nat} {own : List Nat} {tg : MG} {mt : M Bool} {me : M D} {f : List (D × HS) → Option HS → Option (D × HS)}
theorem fe_anyG (nb : NB X.mg) (GT : GxT X Γ) (hr : Room k' X.A) (L : GxS X.env.scope scope X.N N' pick) (hi : FI X Γ E target iter mi) (J : GxJ X Γ k target elt ifs scope N' tg mt me) (hk : k + 5 ≤ k' := by decide) (hgl : Gl X "any" := by rfl) (hs : ∀ v, genFold iter X.env v = pure v := by intro _; rfl)
    (he : starEach [.GeneratorExp elt [⟨target, iter, ifs, 0⟩] scope gpos] X.env = (false, eval (.GeneratorExp elt [⟨target, iter, ifs, 0⟩] scope gpos) X.env) :: starEach [] X.env := by rfl) :
    FE X Γ E (.Call (.Name "any" p) [.GeneratorExp elt [⟨target, iter, ifs, 0⟩] scope gpos] [] pos) (mGx own pick mi tg mt me (anyF true)) := by
  obtain ⟨c, P, TB, hcode, hm, hu⟩ := GT.ex
  exact fe_gx (hr.mono (by omega) : Room (k + 4) X.A) hgl (nb _ (by decide)) (by decide +kernel) TB hcode hm hu L hi hs (call_anyG (hr.mono (by omega)) L J) he (by decide) (by decide)
theorem fe_allG (nb : NB X.mg) (GT : GxT X Γ) (hr : Room k' X.A) (L : GxS X.env.scope scope X.N N' pick) (hi : FI X Γ E target iter mi) (J : GxJ X Γ k target elt ifs scope N' tg mt me) (hk : k + 5 ≤ k' := by decide) (hgl : Gl X "all" := by rfl) (hs : ∀ v, genFold iter X.env v = pure v := by intro _; rfl)
    (he : starEach [.GeneratorExp elt [⟨target, iter, ifs, 0⟩] scope gpos] X.env = (false, eval (.GeneratorExp elt [⟨target, iter, ifs, 0⟩] scope gpos) X.env) :: starEach [] X.env := by rfl) :
    FE X Γ E (.Call (.Name "all" p) [.GeneratorExp elt [⟨target, iter, ifs, 0⟩] scope gpos] [] pos) (mGx own pick mi tg mt me (anyF false)) := by
  obtain ⟨c, P, TB, hcode, hm, hu⟩ := GT.ex
  exact fe_gx (hr.mono (by omega) : Room (k + 4) X.A) hgl (nb _ (by decide)) (by decide +kernel) TB hcode hm hu L hi hs (call_allG (hr.mono (by omega)) L J) he (by decide) (by decide)
theorem fe_sumG (nb : NB X.mg) (GT : GxT X Γ) (hr : Room k' X.A) (L : GxS X.env.scope scope X.N N' pick) (hi : FI X Γ E target iter mi) (J : GxJ X Γ k target elt ifs scope N' tg mt me) (hk : k + 5 ≤ k' := by decide) (hgl : Gl X "sum" := by rfl) (hs : ∀ v, genFold iter X.env v = pure v := by intro _; rfl)
    (he : starEach [.GeneratorExp elt [⟨target, iter, ifs, 0⟩] scope gpos] X.env = (false, eval (.GeneratorExp elt [⟨target, iter, ifs, 0⟩] scope gpos) X.env) :: starEach [] X.env := by rfl) :
    FE X Γ E (.Call (.Name "sum" p) [.GeneratorExp elt [⟨target, iter, ifs, 0⟩] scope gpos] [] pos) (mGx own pick mi tg mt me (sumF 0)) := by
  obtain ⟨c, P, TB, hcode, hm, hu⟩ := GT.ex
  exact fe_gx (hr.mono (by omega) : Room (k + 4) X.A) hgl (nb _ (by decide)) (by decide +kernel) TB hcode hm hu L hi hs (call_sumG (hr.mono (by omega)) L J) he (by decide) (by decide)
theorem fe_gxTy {nm : Str} {q : String} {c P : Addr} (hr : Room k X.A) (hgl : Gl X nm) (hmg : X.mg nm = none) (hb : bootBuiltins nm = some (.type q)) (TB : LamX.TabB X.base X.mg c P) (hcode : X.env.code = .ref c) (hm : (P, X.env.qual ++ "<genexpr>") ∈ Γ.T) (hu : ∀ p ∈ Γ.T, p.1 = P → p.2 = X.env.qual ++ "<genexpr>") (L : GxS X.env.scope scope X.N N' pick)
    (hi : FI X Γ E target iter mi) (hs : ∀ v, genFold iter X.env v = pure v) (hc : CallGx X Γ E elt target iter ifs scope gpos pick own tg mt me (.type q) f)
    (he : starEach [.GeneratorExp elt [⟨target, iter, ifs, 0⟩] scope gpos] X.env = (false, eval (.GeneratorExp elt [⟨target, iter, ifs, 0⟩] scope gpos) X.env) :: starEach [] X.env := by rfl)
    (hnn : nm ≠ "__name__" := by decide) (hd : (nm == ("__debug__" : Str)) = false := by decide) :
    FE X Γ E (.Call (.Name nm p) [.GeneratorExp elt [⟨target, iter, ifs, 0⟩] scope gpos] [] pos) (mGx own pick mi tg mt me f) := by
  refine ⟨fun pins s σ H Q I h => ?_⟩
  obtain ⟨ι, ls, hs0, rp, rl, sat⟩ := h
  refine wpAny_Call_Name_kw (ld_blt I hgl hmg hb ?_ hnn hd)
  refine PyProof.Rows.callWith_type1 ?_ he (by rfl)
  rw [he]
  show wpAny _ _ (spliced ((false, eval (.GeneratorExp elt [⟨target, iter, ifs, 0⟩] scope gpos) X.env) :: backTo pos (starEach [] X.env))) _ _ s
  refine Calls.spliced_cons (gx_make hr TB hcode hm hu L hi hs I rp rl (sat.of_bind.mono (fun p h1 q ι4 H4 g s5 st4 M => ?_) fun _ _ e => e))
  refine Calls.spliced_nil ?_
  generalize hq : gxGo own tg mt me p.2 h1 (wipeL (capL pick ls) own) p.1 h1 = q2 at q
  obtain ⟨outs, fin⟩ := q2
  cases ea : f outs fin with
  | none => rw [show f (outs, fin).1 (outs, fin).2 = none from ea] at q; exact q.elim
  | some vh =>
  obtain ⟨v, hE⟩ := vh
  rw [show f (outs, fin).1 (outs, fin).2 = some (v, hE) from ea] at q
  exact hc pins σ Q ls p.1 p.2 h1 ι4 H4 g s5 outs fin v hE M hq ea fun ι' H' z st' rp' rd' => q ι' H' z (st4.trans st') rp' rd'
theorem fe_tupG (nb : NB X.mg) (GT : GxT X Γ) (hr : Room k' X.A) (L : GxS X.env.scope scope X.N N' pick) (hi : FI X Γ E target iter mi) (J : GxJ X Γ k target elt ifs scope N' tg mt me) (hk : k + 5 ≤ k' := by decide) (hgl : Gl X "tuple" := by rfl) (hs : ∀ v, genFold iter X.env v = pure v := by intro _; rfl)
    (he : starEach [.GeneratorExp elt [⟨target, iter, ifs, 0⟩] scope gpos] X.env = (false, eval (.GeneratorExp elt [⟨target, iter, ifs, 0⟩] scope gpos) X.env) :: starEach [] X.env := by rfl) :
    FE X Γ E (.Call (.Name "tuple" p) [.GeneratorExp elt [⟨target, iter, ifs, 0⟩] scope gpos] [] pos) (mGx own pick mi tg mt me tupF) := by
  obtain ⟨c, P, TB, hcode, hm, hu⟩ := GT.ex
  exact fe_gxTy (hr.mono (by omega) : Room (k + 5) X.A) hgl (nb _ (by decide)) (by decide +kernel) TB hcode hm hu L hi hs (call_tupleG (hr.mono (by omega)) L J) he (by decide) (by decide)
end
section
variable {P : Program} {w : World} {K : PySem.W.Frag} {mg : Str → Option Value} {base : Heap} {Γ : Sta} {x qual : Str} {st : Stmt} {f : Addr} {N ps : List Str} {k n : Nat} {m : MS} {oc : Value} {od an : Option Addr} {dV kV doc pm cdv ct : Value} {osl : Array (Option Value)}
/-- what the end finds of a def -/
structure DefAt (K : PySem.W.Frag) (x qual : Str) (st : Stmt) (f : Addr) (fd : FuncData) (cdv : Value) : Prop where
  ex : ∃ (oc : Value) (od : Option Addr) (kV doc pm : Value) (an : Option Addr) (ct : Value) (osl : Array (Option Value)),
    fd = PySem.W.fnOf x qual (defArgs st) (defBody st) (defScope st) .none kV doc pm an cdv ct ∧ K.lookup f = some ⟨oc, od, .func fd, osl⟩ ∧ PySem.W.codeIn K cdv qual = true
  kp : PySem.W.keepIn K (.ref f) = true
theorem gfun_at {fd : FuncData} (F : DefAt K x qual st f fd cdv) (S : FnScope N ps (defScope st)) (hn : ps.length = n) (hb : Binds K fd ps [])
    (body : ∀ (A : Around) (outer : List Env) (s : Shared) (H : Hp) (E : XK), Room k (A.deeper (envOfC qual (defScope st) s.heap.objs.size f cdv)) → FSs (defCx P w K mg base N qual st f cdv A outer s H E) Γ E (defBody st) m) :
    GFun P w K mg base Γ f (k + 1) n [] (runF N.length m) := by
  obtain ⟨oc, od, kV, doc, pm, an, ct, osl, rfl, lk, hcd⟩ := F.ex
  exact ⟨_, ps, [], [], by simpa using hn, fn_of lk hcd S (spF_len (by simpa using hn)) fun A outer s H vs Q E hr ⟨ι, ds, hs, rp, r, hl, sat⟩ => ⟨_, body A outer s H E hr, ι, startL N.length ds, hs, rp, startL_rel r, runF_sat sat⟩, hb, .nil, fun _ _ => .nil⟩
theorem gfun_lamAt {fd : FuncData} {lamOf : Cx → Nat → Addr → Addr → HO} (F : DefAt K x qual st f fd cdv) (S : FnScope N ps (defScope st)) (hn : ps.length = n) (hb : Binds K fd ps [])
    (body : ∀ (A : Around) (outer : List Env) (s : Shared) (H : Hp) (E : XK), Room k (A.deeper (envOfC qual (defScope st) s.heap.objs.size f cdv)) → FSs (defCx P w K mg base N qual st f cdv A outer s H E) { Γ with lam := lamOf (defCx P w K mg base N qual st f cdv A outer s H E), lq := qual ++ ".<locals>." ++ "<lambda>" } E (defBody st) m) :
    GFun P w K mg base Γ f (k + 1) n [] (frF (runF N.length m)) := by
  obtain ⟨oc, od, kV, doc, pm, an, ct, osl, rfl, lk, hcd⟩ := F.ex
  exact ⟨_, ps, [], [], by simpa using hn, fn_of lk hcd S (spF_len (by simpa using hn)) fun A outer s H vs Q E hr h => by
    obtain ⟨ι, ds, hs, rp, r, hl, sat⟩ := spF_apart (Γ := Γ) (Γ' := { Γ with lam := lamOf (defCx P w K mg base N qual st f cdv A outer s H E), lq := qual ++ ".<locals>." ++ "<lambda>" }) ⟨rfl, rfl, rfl⟩ h
    exact ⟨_, body A outer s H E hr, ι, startL N.length ds, hs, rp, startL_rel r, runF_sat sat⟩, hb, .nil, fun _ _ => .nil⟩
end
end Fx

set_option Elab.async false
set_option linter.all false
set_option maxRecDepth 100000
namespace Fx
open PySem PyProof.Rows L2
section
variable {X : Cx} {Γ : Sta} {E : XK} {pos : Pos} {x : Str}
theorem fe_globE {i : Int} (hm : ∃ t, X.mg x = some (.int i t)) (hg : Gl X x := by rfl) (hdb : (x == ("__debug__" : Str)) = false := by decide) : FE X Γ E (.Name x pos) (mC (.int i)) := by
  obtain ⟨t, hm⟩ := hm
  exact fe_globI hm hg hdb
def mulIF := intF fun i j => if CMul i j then some (.int (i * j)) else none
theorem ops_mulI : OpS Γ (rI CMul fun i j => .int (i * j)) mulIF := ops_I fun _ _ _ _ => .int _
theorem un64 {k : Nat} {A : Around} (hr : Room k A) : A.units + 64 < cLine := by have := hr.un; omega
end
end Fx

set_option Elab.async false
set_option linter.all false
set_option maxRecDepth 100000
set_option maxHeartbeats 1000000
namespace Fx
open PySem PySem.Spec PyProof.Rows L2

/-! ### more is known -/
section
variable {Γ : Sta} {ι : Ix} {H H' : Hp} {hs : HS}
theorem Step.more (e : ∀ b o, H b = some o → H' b = some o) : Step ι H ι H' where
  ext := ⟨[], [], by cases ι; simp, by simp, by simp⟩
  keep := fun a o h _ _ => e a o h
  non := fun a h => by
    cases q : H a with
    | none => rfl
    | some o => rw [e a o q] at h; cases h
  frz := fun a o u h => e a _ h
theorem Rep.more (e : ∀ b o, H b = some o → H' b = some o) (r : Rep Γ ι hs H) : Rep Γ ι hs H' where
  len := r.len
  nd := r.nd
  fbs := fun a ha => let ⟨h1, u, q, z⟩ := r.fbs a ha; ⟨h1, u, e a u q, z⟩
  ob := fun n a o e1 e2 => by
    have q := r.ob n a o e1 e2
    obtain ⟨u, hu, _⟩ := RelOb.stands q
    exact RelOb.step (fun _ _ e => r.noTup e) (Step.more e) q (by rw [hu]; exact e a u hu)
  tabs := LamX.Tabs.ext r.tabs e
theorem hide_more {p : Addr} (e : ∀ b o, H b = some o → H' b = some o) (hp : H p = none) : ∀ b o, H b = some o → hide H' p b = some o := fun b o h => by
  rw [hide_ne (ne_of_none h hp)]
  exact e b o h
end
/-! ### list(d.items()) -/
def mListItems (m : M D) : M (List D) := fun ls hs => (m ls hs).bind fun d h => match d with
  | .ref n => R.of ((opnD h n).map fun kvs => kvs.map fun p => .tup [Key.d p.1, p.2]) h
  | _ => .bad
section
variable {X : Cx} {Γ : Sta} {E : XK} {a b e o : Expr} {ma mb mo : M D} {pos p apos cpos : Pos} {k : Nat}
theorem fl_listItems (nb : NB X.mg) (hc : X.calm = true) (ha : FE X Γ E e ma) (hg : Gl X "list" := by rfl) (hbase : attributeBase e "items" X.env (eval e X.env) = eval e X.env := by rfl) (hline : (apos.endLine == cpos.line) = true := by rfl)
    (hs : starEach [.Call (.Attribute e "items" apos) [] [] cpos] X.env = (false, eval (.Call (.Attribute e "items" apos) [] [] cpos) X.env) :: starEach [] X.env := by rfl) :
    FL X Γ E (.Call (.Name "list" p) [.Call (.Attribute e "items" apos) [] [] cpos] [] pos) (mListItems ma) :=
  PE.weak (LiI.pe_listItems hc ha hg (nb _ (by decide)) (by decide +kernel) hbase hline hs) fun σ H Q q => bindV q fun ι ls hs d h1 rp rl s1 ι1 H1 x st1 rp1 rx => by
    cases d with
    | ref n =>
      obtain ⟨zs, e1, po⟩ := R.of_sat s1
      simp only [Option.map_eq_some_iff] at e1
      obtain ⟨kvs, e1, rfl⟩ := e1
      obtain ⟨a, rfl, hn⟩ := rx.ref_inv
      obtain ⟨kvs', e2, r2⟩ := opnD_rel rp1 hn e1
      refine ⟨a, kvs', rfl, e2, fun H' p ts ex hp ht hpt hH' hts => ?_⟩
      have hm := hide_more ex hp
      have q := po ι1 (hide H' p) (ts.map V.ref) p (st1.trans (Step.more hm)) (rp1.more hm) ?_ hide_same
      · rw [upd_hide, upd_self hH'] at q
        exact q
      · have : ∀ {kvs : List (Key × D)} {kvs' : List (Key × V)} {ts : List Addr}, (∀ t ∈ ts, t ≠ p) → Paired (fun p q => p.1 = q.1 ∧ RelD Γ ι1 H1 p.2 q.2) kvs kvs' → Paired (fun (t : Addr) (q : Key × V) => H' t = some (.tup [kV q.1, q.2])) ts kvs' →
            RelDs Γ ι1 (hide H' p) (kvs.map fun p => D.tup [Key.d p.1, p.2]) (ts.map V.ref) := by
          intro kvs kvs' ts hne r r'
          induction r generalizing ts with
          | nil => cases r'; exact .nil
          | cons h _ ih =>
            cases r' with
            | cons h' t' =>
              refine .cons (RelD.mkTup (.inl (by rw [hide_ne (hne _ (List.mem_cons_self ..))]; exact h')) (.cons ?_ (.cons (rp1.relD (Step.more hm) h.2) .nil))) (ih (fun t ht => hne t (List.mem_cons_of_mem _ ht)) t')
              rw [h.1]
              exact key_d _
        exact this (fun t ht z => hpt (by rw [← z]; exact ht)) r2 hts
    | _ => exact s1.elim
/-! ### xs.count(x), ints -/
def countF : HS → D → D → Option D := fun hs x y => match y with
  | .int j => (seqL hs x).bind fun xs => (asInts xs).map fun ns => .int (ns.countP (fun i => decide (i = j)) : Nat)
  | _ => none
def rCount : R2 := fun x y H Q => ∃ (a : Addr) (ns : List Int) (j : Int), x = .ref a ∧ y = .int j ∧ H a = some (.lst (ns.map V.int)) ∧ Q (.int (ns.countP (fun i => decide (i = j)) : Nat)) H
def rCountM : V → List V → Hp → VK → Prop := fun x vs H Q => ∃ (a : Addr) (ns : List Int) (j : Int), x = .ref a ∧ vs = [.int j] ∧ H a = some (.lst (ns.map V.int)) ∧ Q (.int (ns.countP (fun i => decide (i = j)) : Nat)) H
theorem count_vals {j : Int} : ∀ {ns : List Int} {its : List Value}, Vals (ns.map V.int) its → its.countP (fun v => match v with | .int i _ => i == j | _ => false) = ns.countP (fun i => decide (i = j))
  | [], _, .nil => rfl
  | n :: ns, v :: its, .cons r t => by
    obtain ⟨tk, rfl⟩ := r
    rw [List.countP_cons, List.countP_cons, count_vals t]
    simp
theorem mt_count : MtM X "list.count" rCountM := by
  intro pins s σ H x vs v us Q I rx rv h
  obtain ⟨l, ns, j, rfl, rfl, hH, q⟩ := h
  cases rx
  obtain ⟨u, rfl, ru⟩ := rv.one
  obtain ⟨z, its, n, r, hl, e⟩ := I.lstM hH
  obtain ⟨tj, rfl⟩ := ru
  refine call_meets F.slot_list_count ⟨_, e, rfl⟩ F.entry_list_count (F.args_list_count_2 _ _) (SeqAt.list_countAt l its.toArray n none #[] (.int j tj) (fun v => match v with | .int i _ => i == j | _ => false)) ⟨e, fun y hy => ?_, ?_⟩
  · have hy' : y ∈ its := by simpa using hy
    obtain ⟨i, hi, ey⟩ := List.getElem_of_mem hy'
    have h2 : ∃ w, (ns.map V.int)[i]? = some w ∧ RelV w y := by
      have hlen := r.length
      have hi2 : i < (ns.map V.int).length := by omega
      obtain ⟨w, e1, e2⟩ := r.get (List.getElem?_eq_getElem hi2)
      rw [List.getElem?_eq_getElem hi, ey] at e1
      cases e1
      exact ⟨_, List.getElem?_eq_getElem hi2, e2⟩
    obtain ⟨w, e1, e2⟩ := h2
    rw [List.getElem?_map] at e1
    cases e3 : ns[i]? with
    | none => rw [e3] at e1; cases e1
    | some m =>
      rw [e3] at e1
      cases e1
      obtain ⟨t, rfl⟩ := e2
      exact SeqAt.EqAt.int_int _ _ _ _
  · have e9 : its.toArray.toList.countP (fun v => match v with | .int i _ => i == j | _ => false) = ns.countP (fun i => decide (i = j)) := by
      rw [List.toList_toArray]
      exact count_vals r
    rw [e9]
    exact ⟨.int _, H, I.kept (t' := s.toks + 1) fun _ _ e => e, ⟨_, rfl⟩, q⟩
/-- methods of lists -/
abbrev MF := HS → D → List D → Option (D × HS)
def MtS (Γ : Sta) (r : V → List V → Hp → VK → Prop) (f : MF) : Prop := ∀ ι hs H x vs dx dvs d hs' (Q : VK), Rep Γ ι hs H → RelD Γ ι H dx x → RelDs Γ ι H dvs vs → f hs dx dvs = some (d, hs') →
  (∀ H' v, Step ι H ι H' → Rep Γ ι hs' H' → RelD Γ ι H' d v → Q v H') → r x vs H Q
def mBM (f : MF) (o : M D) (as : M (List D)) : M D := fun ls hs => (o ls hs).bind fun x h1 => if (seqL h1 x).isSome then (as ls h1).bind fun xs h2 => R.ofP (f h2 x xs) else .bad
variable {es : List Expr} {ml : M (List D)} {name : Str} {id : String} {r : V → List V → Hp → VK → Prop} {f : MF}
theorem R.ofP_sat {α : Type} {o : Option (α × HS)} {Q : α → HS → Prop} {E : Nat → HS → Prop} (s : (R.ofP o).Sat Q E) : ∃ a h, o = some (a, h) ∧ Q a h := by
  cases o with
  | none => exact s.elim
  | some p => exact ⟨p.1, p.2, rfl, s⟩
theorem fe_bm (slot : Slot "list" name id) (hty : typeOf (.builtin id) = pure (.type "method_descriptor")) (hm : MtR X id r) (hs : MtS Γ r f) (ho : FE X Γ E o mo) (ha : FA X Γ E (e :: es) ml) (hK : X.K = Γ.K := by rfl)
    (hbase : attributeBase o name X.env (eval o X.env) = eval o X.env := by rfl)
    (hfew : ((backTo cpos (starEach (e :: es) X.env)).all (fun x => !x.1) && (backToKw cpos (keywordEach [] X.env)).all (fun x => x.1.isSome)
      && decide ((e :: es).length + ([] : List Keyword).length + (if ([] : List Keyword).isEmpty then 0 else 1) < 30)) = true := by rfl)
    (hline : (apos.endLine == cpos.line) = true := by rfl) (hst : starEach (e :: es) X.env = (false, eval e X.env) :: starEach es X.env := by rfl) (hplain : (backTo cpos (starEach es X.env)).any (·.1) = false := by rfl) :
    FE X Γ E (.Call (.Attribute o name apos) (e :: es) [] cpos) (mBM f mo ml) :=
  PE.weak (pe_bm PySem.F.plainAttrs_list slot hty hm ho ha hbase hfew hline hst hplain) fun σ H Q q => bindV q fun ι ls hs0 d h1 rp rl s1 ι1 H1 x st1 rp1 rx => by
    split at s1
    case isFalse => exact s1.elim
    rename_i hl
    obtain ⟨xs, hx⟩ := Option.isSome_iff_exists.mp hl
    obtain ⟨a, vs, rfl, e1, r1⟩ := seqL_rel rp1 rx hx
    refine ⟨?_, ι1, ls, h1, rp1, rp.relL st1 rl, s1.of_bind.mono (fun ds h2 s2 ι2 H2 ws st2 rp2 rws => ?_) fun _ _ e => PostX.on e st1⟩
    · exact .inl ⟨rfl, vs, SqL.of e1⟩
    · obtain ⟨v, h3, e2, po⟩ := R.ofP_sat s2
      exact hs ι2 h2 H2 _ ws d ds v h3 Q rp2 (rp1.relD st2 rx) rws e2 fun H' v' st' rp' rv' => po ι2 H' v' ((st1.trans st2).trans st') rp' rv'
def countMF : MF := fun hs x ds => match ds with
  | [d] => (countF hs x d).map fun z => (z, hs)
  | _ => none
theorem ms_count : MtS Γ rCountM countMF := fun ι hs H x vs dx dvs d hs' Q rp rx rvs e q => by
  unfold countMF at e
  split at e
  case h_2 => cases e
  obtain ⟨y, rfl, ry⟩ := ints1 rvs
  simp only [Option.map_eq_some_iff] at e
  obtain ⟨z, e, e'⟩ := e
  cases e'
  unfold countF at e
  split at e
  case h_2 => cases e
  simp only [Option.bind_eq_some_iff, Option.map_eq_some_iff] at e
  obtain ⟨xs, h1, ns, h2, rfl⟩ := e
  obtain ⟨a, ws, rfl, h3, h4⟩ := seqL_rel rp rx h1
  rw [asInts_rel h4 h2] at h3
  exact ⟨a, ns, _, rfl, by rw [ry.int_inv], h3, q H _ (Step.refl _ _) rp (.int _)⟩
def appendMF : MF := fun hs x ds => match x, ds with
  | .ref n, [d] => (lstAt hs n).bind fun xs => if xs.length < sizeLine then some (.non, hs.set n (.lst (xs ++ [d]))) else none
  | _, _ => none
theorem ms_append : MtS Γ rAppend appendMF := fun ι hs H x vs dx dvs d hs' Q rp rx rvs e q => by
  unfold appendMF at e
  split at e
  case h_2 => cases e
  obtain ⟨y, rfl, ry⟩ := ints1 rvs
  simp only [Option.bind_eq_some_iff] at e
  obtain ⟨xs, h1, e⟩ := e
  split at e
  case isFalse => cases e
  rename_i hl
  cases e
  obtain ⟨a, rfl, hn⟩ := rx.ref_inv
  obtain ⟨ws, h3, h4⟩ := lstAt_rel rp hn h1
  obtain ⟨st, rp'⟩ := wr_lst rp hn h3 (Paired.app h4 (.cons ry .nil))
  exact ⟨a, ws, y, rfl, rfl, h3, by rw [← Paired.length h4]; exact hl, q _ _ st rp' .non⟩
theorem fe_count (ho : FE X Γ E o mo) (ha : FE X Γ E e ma) (hK : X.K = Γ.K := by rfl) (hbase : attributeBase o "count" X.env (eval o X.env) = eval o X.env := by rfl)
    (hfew : ((backTo cpos (starEach [e] X.env)).all (fun x => !x.1) && (backToKw cpos (keywordEach [] X.env)).all (fun x => x.1.isSome)
      && decide ([e].length + ([] : List Keyword).length + (if ([] : List Keyword).isEmpty then 0 else 1) < 30)) = true := by rfl)
    (hline : (apos.endLine == cpos.line) = true := by rfl) (hst : starEach [e] X.env = (false, eval e X.env) :: starEach [] X.env := by rfl) : FE X Γ E (.Call (.Attribute o "count" apos) [e] [] cpos) (mBM countMF mo (m1 ma)) :=
  fe_bm PySem.F.slot_list_count PySem.F.type_list_count mt_count ms_count ho (fa_cons ha fa_nil hst) hK hbase hfew hline hst rfl
theorem fe_append (ho : FE X Γ E o mo) (ha : FE X Γ E e ma) (hK : X.K = Γ.K := by rfl) (hbase : attributeBase o "append" X.env (eval o X.env) = eval o X.env := by rfl)
    (hfew : ((backTo cpos (starEach [e] X.env)).all (fun x => !x.1) && (backToKw cpos (keywordEach [] X.env)).all (fun x => x.1.isSome)
      && decide ([e].length + ([] : List Keyword).length + (if ([] : List Keyword).isEmpty then 0 else 1) < 30)) = true := by rfl)
    (hline : (apos.endLine == cpos.line) = true := by rfl) (hst : starEach [e] X.env = (false, eval e X.env) :: starEach [] X.env := by rfl) : FE X Γ E (.Call (.Attribute o "append" apos) [e] [] cpos) (mBM appendMF mo (m1 ma)) :=
  fe_bm PySem.F.slot_list_append PySem.F.type_list_append mt_append ms_append ho (fa_cons ha fa_nil hst) hK hbase hfew hline hst rfl
end
end Fx

set_option Elab.async false
set_option linter.all false
set_option maxRecDepth 100000
set_option maxHeartbeats 1000000
namespace Fx
open PySem PySem.Spec PyProof.Rows L2

theorem args_sum2 (a b : Value) : argsOk "sum" ⟨[a, b], []⟩ := by unfold argsOk; kernel_rfl
/-- the same context within a builtin -/
abbrev Cx.i1 (X : Cx) (pins : List (Addr × Obj)) : Cx := { X with A := X.A.in1, xe := fun _ _ => False, pn := X.pn ++ pins }
section
variable {X : Cx} {pins : List (Addr × Obj)} {σ : L2.St} {H : Hp} {s : Shared}
theorem Inv.i1 (I : Inv X pins σ H s) : Inv (Cx.i1 X pins) [] σ H s :=
  ⟨⟨I.ok.mod, I.ok.kind, I.ok.glob, I.ok.blt, I.ok.above, I.ok.inj, I.ok.has, I.ok.cab, I.ok.hd, I.ok.frames, I.ok.stk, I.ok.exf, I.ok.bs, I.ok.bsz, I.ok.noex, I.ok.exfs, I.ok.funs, I.ok.frf⟩, I.os, I.bare, I.base, I.loc, I.cell, I.free, I.freeC, fun p hp => I.pin p (by simpa using hp), I.hok, I.len⟩
theorem Inv.o1 (I : Inv (Cx.i1 X pins) [] σ H s) : Inv X pins σ H s :=
  ⟨⟨I.ok.mod, I.ok.kind, I.ok.glob, I.ok.blt, I.ok.above, I.ok.inj, I.ok.has, I.ok.cab, I.ok.hd, I.ok.frames, I.ok.stk, I.ok.exf, I.ok.bs, I.ok.bsz, I.ok.noex, I.ok.exfs, I.ok.funs, I.ok.frf⟩, I.os, I.bare, I.base, I.loc, I.cell, I.free, I.freeC, fun p hp => I.pin p (by simpa using hp), I.hok, I.len⟩
end
section
variable {X : Cx} {pins : List (Addr × Obj)} {σ : L2.St} {R' : Result → Shared → Prop}
abbrev refCell (a : Addr) (c : Nat) : Obj := { cls := .type "list", dict := none, data := .seq #[.ref a] c, slots := #[] }
/-- the lists that are added -/
def LsAt (H : Hp) (ws : List V) (vss : List (List V)) : Prop := Paired (fun w ys => ∃ a, w = V.ref a ∧ H a = some (.lst ys)) ws vss
theorem LsAt.more {H H' : Hp} {ws : List V} {vss : List (List V)} (e : ∀ b o, H b = some o → H' b = some o) (h : LsAt H ws vss) : LsAt H' ws vss := Paired.imp (fun _ _ ⟨a, e1, e2⟩ => ⟨a, e1, e a _ e2⟩) h
theorem sum2_loop {l it S : Addr} {its : Array Value} {xe : Value → Shared → Prop} (hc : X.calm = true) (hne : it ≠ S) :
    ∀ (k j : Nat) (s : Shared) (H0 H : Hp) (b : Addr) (vs : List V) (ws : List V) (vss : List (List V)) (oS oi : Obj), ws.length - j = k → j ≤ ws.length → (∃ c, oS = refCell b c) → Inv (Cx.i1 X pins) [(S, oS), (it, oi)] σ H s → (∀ b o, H0 b = some o → H b = some o) → H b = some (.lst vs) →
      H l = some (.lst ws) → LsAt H (ws.drop j) vss → vs.length + vss.flatten.length ≤ sizeLine → s.heap.IsListIter it l j → FpOk (Cx.i1 X pins) [] H0 S → FpOk (Cx.i1 X pins) [] H0 it → H S = none → H it = none →
      (∀ s' H' p, Inv X pins σ H' s' → (∀ b o, H0 b = some o → H' b = some o) → H' p = some (.lst (vs ++ vss.flatten)) → (p = b ∨ H p = none) → R' (.ok (.ret (.ref p))) s') → codeAny (model X.prog X.w) X.A (.builtin "sum.loop" ⟨[.ref it, .ref S, rawInt 2, rawInt 0], []⟩) R' s := by
  intro k
  induction k with
  | zero =>
    intro j s H0 H b vs ws vss oS oi hk hj ⟨c, hoS⟩ I ext hb hl hls hz hit fS fI hS hI hR
    have e : j = ws.length := by omega
    subst e
    rw [List.drop_length] at hls
    cases hls
    subst hoS
    obtain ⟨eS, _⟩ := I.pin (S, refCell b c) (List.mem_append_right _ List.mem_cons_self)
    obtain ⟨itl, rv, p, _⟩ := I.list (SqL.of hl)
    refine codeAny_builtin F.entry_sum_loop ?_
    rw [Around.under_plainId F.plain_sum_loop _]
    show wpAny _ X.A.in1 (seqItems? (.ref S) >>= _) _ _ s
    refine wpAny_bind (wpAny_seqItems eS rfl ?_)
    show wpAny _ X.A.in1 (tryCatch (pyNext (.ref it)) _ >>= _) _ _ s
    have hl2 := rv.length
    refine wpAny_bind (wpAny_tryCatch (wpAny_pyNext_list_end (I.ok.hd hc) hit p.isList (by simp; omega) fun h' eb => ?_))
    have I0 : Inv (Cx.i1 X pins) [] σ H s := I.pins_of fun p hp => by cases hp
    have I1 : Inv (Cx.i1 X pins) [] σ H { s with heap := h' } := I0.turned (t' := s.toks) (fun b o hb e => eb b o hb e) hI fI.2.1 fI.2.2.2.1 fI.2.2.2.2.1 fI.2.2.2.2.2
    exact wpAny_pure (hR _ H b (Inv.o1 I1) ext (by simpa using hb) (.inl rfl))
  | succ k ih =>
    intro j s H0 H b vs ws vss oS oi hk hj ⟨c, hoS⟩ I ext hb hl hls hz hit fS fI hS hI hR
    have hlt : j < ws.length := by omega
    have hdj : ws.drop j = ws[j] :: ws.drop (j + 1) := List.drop_eq_getElem_cons hlt
    rw [hdj] at hls
    subst hoS
    obtain ⟨eS, _⟩ := I.pin (S, refCell b c) (List.mem_append_right _ List.mem_cons_self)
    obtain ⟨itl, rv, p, _⟩ := I.list (SqL.of hl)
    cases hls with
    | @cons _ ys _ vss hw t =>
    obtain ⟨a, ea, ha⟩ := hw
    obtain ⟨u, hu, ru⟩ := rv.get (List.getElem?_eq_getElem hlt)
    rw [ea] at ru
    cases ru
    refine codeAny_builtin F.entry_sum_loop ?_
    rw [Around.under_plainId F.plain_sum_loop _]
    show wpAny _ X.A.in1 (seqItems? (.ref S) >>= _) _ _ s
    refine wpAny_bind (wpAny_seqItems eS rfl ?_)
    show wpAny _ X.A.in1 (tryCatch (pyNext (.ref it)) _ >>= _) _ _ s
    refine wpAny_bind (wpAny_tryCatch (wpAny_pyNext_list_item hit p.isList (x := .ref a) (by simpa using hu) fun h' hit' sb => ?_))
    -- behind the iterator's turn
    obtain ⟨oi', ei', ci', di'⟩ := id hit'
    have I0 : Inv (Cx.i1 X pins) [(S, refCell b c)] σ H s := I.pins_of fun p hp => I.pin p (List.mem_append_right _ (by rw [List.mem_singleton.mp hp]; simp))
    have I1 : Inv (Cx.i1 X pins) [(S, refCell b c)] σ H { s with heap := h' } := I0.turned (t' := s.toks) (fun b o hb e => (sb.2 b hb).trans e) hI fI.2.1 fI.2.2.2.1 fI.2.2.2.2.1 fun p hp => by
      rcases List.mem_append.mp hp with z | z
      · exact fI.2.2.2.2.2 p (List.mem_append_left _ z)
      · rw [List.mem_singleton.mp z]; exact Ne.symm hne
    have I2 : Inv (Cx.i1 X pins) [(S, refCell b c), (it, oi')] σ H { s with heap := h' } := I1.pins_of fun p hp => by
      rcases List.mem_cons.mp hp with z | z
      · rw [z]; exact I1.pin _ (List.mem_append_right _ (by simp))
      · rw [List.mem_singleton.mp z]
        exact ⟨ei', hI, fI.2.1, fI.2.2.1, fun v q => by rw [di'] at q; cases q⟩
    show wpAny _ X.A.in1 ((holding [Value.ref a] (binaryOp .Add (.ref b) (.ref a))).attempt >>= _) _ _ _
    have hadd := op_cat (X := Cx.i1 X pins) [(S, refCell b c), (it, oi')] { s with heap := h' } σ H (.ref b) (.ref a) (.ref b) (.ref a) (fun v H' => ∃ p, v = .ref p ∧ H p = none ∧ H' = upd H p (.lst (vs ++ ys))) I2 rfl rfl
      ⟨b, a, vs, ys, rfl, rfl, hb, ha, by simp only [List.flatten_cons, List.length_append] at hz; omega, fun p hp => ⟨p, rfl, hp, rfl⟩⟩
    refine wpAny_bind (wpAny_attempt (wpAny_holding (wpAny_mono hadd (fun r s3 hr => ?_) fun e s3 he => ?_)))
    · obtain ⟨z, H3, I3, rz, pp, rfl, hp, rfl⟩ := hr
      obtain rfl : r = Value.ref pp := rz
      obtain ⟨eS3, nS3, lS3, fS3, _⟩ := I3.pin (S, refCell b c) (List.mem_append_right _ List.mem_cons_self)
      have eS3 : s3.heap.get? S = some (refCell b c) := eS3
      show wpAny _ X.A.in1 (updateSeq S (fun _ => #[.ref pp]) >>= fun _ => letGo [.ref b, .ref a] >>= fun _ => updateSeq S (fun _ => #[.ref pp]) >>= _) _ _ _
      refine wpAny_bind (wpAny_updateSeq eS3 rfl ?_)
      have hup := Heap.get?_update_self (h := s3.heap) (Obj.mapSeq fun _ => #[Value.ref pp]) eS3 rfl
      refine wpAny_bind (wpAny_letGo ?_)
      refine wpAny_bind (wpAny_updateSeq hup rfl ?_)
      have hup2 := Heap.get?_update_self (h := s3.heap.update S (Obj.mapSeq fun _ => #[Value.ref pp])) (Obj.mapSeq fun _ => #[Value.ref pp]) hup rfl
      have kk : ∀ b o, b ≠ S → s3.heap.get? b = some o → ((s3.heap.update S (Obj.mapSeq fun _ => #[Value.ref pp])).update S (Obj.mapSeq fun _ => #[Value.ref pp])).get? b = some o := fun b o hb e => (Heap.get?_update_other _ _ (Ne.symm hb)).trans ((Heap.get?_update_other _ _ (Ne.symm hb)).trans e)
      have ext3 : ∀ b o, H b = some o → upd H pp (.lst (vs ++ ys)) b = some o := fun b o e => by rw [upd_ne (ne_of_none e hp)]; exact e
      have I3' : Inv (Cx.i1 X pins) [(it, oi')] σ (upd H pp (.lst (vs ++ ys))) s3 := I3.pins_of fun p hp => I3.pin p (List.mem_append_right _ (by rw [List.mem_singleton.mp hp]; simp))
      have I4 : Inv (Cx.i1 X pins) [(it, oi')] σ (upd H pp (.lst (vs ++ ys))) { s3 with heap := (s3.heap.update S (Obj.mapSeq fun _ => #[Value.ref pp])).update S (Obj.mapSeq fun _ => #[Value.ref pp]) } := I3'.turned (t' := s3.toks) kk nS3 fS.2.1 fS.2.2.2.1 fS.2.2.2.2.1 fun p hp => by
        rcases List.mem_append.mp hp with z | z
        · exact fS.2.2.2.2.2 p (List.mem_append_left _ z)
        · rw [List.mem_singleton.mp z]; exact hne
      obtain ⟨eI4, nI4, _⟩ := I4.pin (it, oi') (List.mem_append_right _ (by simp))
      refine wpAny_pure ⟨plainId_quiet F.plain_sum_loop _, ih (j + 1) _ H0 (upd H pp (.lst (vs ++ ys))) pp (vs ++ ys) ws vss _ oi' (by omega) hlt ⟨_, rfl⟩ (I4.pins_of (pins' := [(S, Obj.mapSeq (fun _ => #[Value.ref pp]) (Obj.mapSeq (fun _ => #[Value.ref pp]) (refCell b c))), (it, oi')]) fun p hp => ?_) (fun b o e => ext3 b o (ext b o e)) upd_same (ext3 _ _ hl) (LsAt.more ext3 t) (by simp only [List.flatten_cons, List.length_append] at hz ⊢; omega) ⟨oi', eI4, ci', di'⟩ fS fI nS3 nI4 fun s' H' q J' ext' hq hpq => ?_⟩
      · rcases List.mem_cons.mp hp with z | z
        · rw [z]
          exact ⟨hup2, nS3, fS.2.1, fS.2.2.1, fun v q => by cases q⟩
        · rw [List.mem_singleton.mp z]
          exact I4.pin _ (List.mem_append_right _ (by simp))
      · refine hR s' H' q J' ext' (by simpa using hq) (.inr ?_)
        rcases hpq with z | z
        · rw [z]; exact hp
        · by_cases zz : q = pp
          · rw [zz]; exact hp
          · rw [upd_ne zz] at z; exact z
    · exact he.elim
def rSum2 : List V → Hp → VK → Prop := fun xs H Q => ∃ (l b : Addr) (ws : List V) (vss : List (List V)), xs = [.ref l, .ref b] ∧ H l = some (.lst ws) ∧ H b = some (.lst []) ∧ LsAt H ws vss ∧ vss.flatten.length ≤ sizeLine ∧
  ∀ H' p, (∀ b o, H b = some o → H' b = some o) → H' p = some (.lst vss.flatten) → (p = b ∨ H p = none) → Q (.ref p) H'
theorem cr_sum2 (hc : X.calm = true) : CallR X (.builtin "sum") rSum2 := by
  intro pins s σ H xs us Q I r h
  obtain ⟨l, b, ws, vss, rfl, hl, hb, hls, hz, q⟩ := h
  obtain ⟨u, w, rfl, ru, rw'⟩ := r.two
  obtain rfl : u = Value.ref l := ru
  obtain rfl : w = Value.ref b := rw'
  refine call_function_tree F.kind_sum F.plain_sum F.entry_sum (args_sum2 _ _) ?_
  unfold Builtin.«sum»
  simp only [List.length_cons, List.length_nil]
  rw [if_neg (by decide)]
  refine wpAny_bind (wpAny_of_eq (show Builtin.Builtins.bindParams "sum" ["start"] 0 ⟨[Value.ref b], []⟩ = pure [some (.ref b)] from rfl) ?_)
  obtain ⟨itl, rv, p, _⟩ := I.list (SqL.of hl)
  refine wpAny_bind (wpAny_pyIter_list p.isList ?_)
  refine wpAny_bind (wpAny_pure ?_)
  have I1 : Inv X pins σ H { s with heap := s.heap.push { cls := .type "list_iterator", data := .fields #[.ref l, .int 0 0] } } := I.kept (t' := s.toks) fun b o e => Heap.get?_push_of_some _ e
  obtain ⟨_, _, bp, _⟩ := I1.list (SqL.of hb)
  have ty : Shared.TypeIs { s with heap := s.heap.push { cls := .type "list_iterator", data := .fields #[.ref l, .int 0 0] } } (.ref b) "list" := bp.isList.typeIs
  simp only [List.forIn_cons, List.forIn_nil]
  refine wpAny_bind (wpAny_bind (wpAny_bind (wpAny_isInstance (T := "list") (b := false) ty PySem.F.sub_list_str ?_)))
  simp only [Bool.false_eq_true, if_false]
  refine wpAny_pure (wpAny_bind (wpAny_bind (wpAny_isInstance (T := "list") (b := false) ty PySem.F.sub_list_bytes ?_)))
  simp only [Bool.false_eq_true, if_false]
  refine wpAny_pure (wpAny_bind (wpAny_bind (wpAny_isInstance (T := "list") (b := false) ty PySem.F.sub_list_bytearray ?_)))
  simp only [Bool.false_eq_true, if_false]
  refine wpAny_pure (wpAny_pure ?_)
  refine wpAny_bind (wpAny_newObj_type ?_)
  have hs1 : (s.heap.push { cls := .type "list_iterator", data := .fields #[.ref l, .int 0 0] }).objs.size = s.heap.objs.size + 1 := Heap.size_push ..
  have I2 : Inv X pins σ H { s with heap := (s.heap.push { cls := .type "list_iterator", data := .fields #[.ref l, .int 0 0] }).push (refCell b 0) } := I1.kept (t' := s.toks) fun b o e => Heap.get?_push_of_some _ e
  have hS : H (s.heap.push { cls := .type "list_iterator", data := .fields #[.ref l, .int 0 0] }).objs.size = none := I1.hok.fresh (Nat.le_refl _)
  have hI : H s.heap.objs.size = none := I.hok.fresh (Nat.le_refl _)
  have fS : FpOk X pins H (s.heap.push { cls := .type "list_iterator", data := .fields #[.ref l, .int 0 0] }).objs.size := I1.fpOk (Nat.le_refl _) hS
  have fI : FpOk X pins H s.heap.objs.size := I.fpOk (Nat.le_refl _) hI
  have cv : ∀ {b : Addr}, FpOk X pins H b → FpOk (Cx.i1 X pins) [] H b := fun ⟨a1, a2, a3, a4, a5, a6⟩ => ⟨a1, a2, a3, a4, a5, fun p hp => a6 p (by simpa using hp)⟩
  have I3 := Inv.i1 I2
  refine wpAny_pure ⟨plainId_quiet F.plain_sum_loop _, sum2_loop (X := X) (pins := pins) (its := itl.toArray) (xe := X.xe) hc (by rw [hs1]; exact Nat.ne_of_lt (Nat.lt_succ_self _)) ws.length 0 _ H H b [] ws vss (refCell b 0) _ (Nat.sub_zero _) (Nat.zero_le _) ⟨0, rfl⟩ (I3.pins_of (pins' := [(_, refCell b 0), (s.heap.objs.size, { cls := .type "list_iterator", data := .fields #[.ref l, .int 0 0] })]) fun p hp => ?_) (fun _ _ e => e) hb hl (by simpa using hls) (by simpa using hz) ⟨_, Heap.get?_push_of_some _ (Heap.get?_push_size _ rfl), rfl, rfl⟩ (cv fS) (cv fI) hS hI fun s' H' q' J ext hq hp => ?_⟩
  · rcases List.mem_cons.mp hp with z | z
    · rw [z]
      exact ⟨Heap.get?_push_size _ rfl, hS, fS.2.1, fS.2.2.1, fun v q => by cases q⟩
    · rw [List.mem_singleton.mp z]
      exact ⟨Heap.get?_push_of_some _ (Heap.get?_push_size _ rfl), hI, fI.2.1, fI.2.2.1, fun v q => by cases q⟩
  · exact ⟨.ref q', H', J, rfl, q H' q' ext (by simpa using hq) hp⟩
end
def lstsOf (hs : HS) : List D → Option (List (List D))
  | [] => some []
  | d :: r => (seqL hs d).bind fun xs => (lstsOf hs r).map fun q => xs :: q
def sum2C : HS → List D → Option D := fun hs ds => match ds with
  | [d, .lst []] => (seqL hs d).bind fun xs => (lstsOf hs xs).bind fun yss => if yss.flatten.length ≤ sizeLine then some (.lst yss.flatten) else none
  | _ => none
section
variable {Γ : Sta}
theorem lstsOf_rel {ι : Ix} {H : Hp} {hs : HS} (rp : Rep Γ ι hs H) : ∀ {ds : List D} {ws : List V} {yss : List (List D)}, RelDs Γ ι H ds ws → lstsOf hs ds = some yss → ∃ vss, LsAt H ws vss ∧ RelDs Γ ι H yss.flatten vss.flatten ∧ yss.flatten.length = vss.flatten.length
  | _, _, _, .nil, e => by cases e; exact ⟨[], .nil, .nil, rfl⟩
  | d :: ds, w :: ws, yss, .cons r t, e => by
    simp only [lstsOf, Option.bind_eq_some_iff, Option.map_eq_some_iff] at e
    obtain ⟨xs, h1, q, h2, rfl⟩ := e
    obtain ⟨a, vs, rfl, h3, h4⟩ := seqL_rel rp r h1
    obtain ⟨vss, h5, h6, h7⟩ := lstsOf_rel rp t h2
    exact ⟨vs :: vss, .cons ⟨a, rfl, h3⟩ h5, by simp only [List.flatten_cons]; exact Paired.app h4 h6, by simp only [List.flatten_cons, List.length_append, h7, Paired.length h4]⟩
theorem cs_sum2 : CallS Γ rSum2 sum2C := fun ι hs H xs ds d Q rp r e q => by
  unfold sum2C at e
  split at e
  case h_2 => cases e
  obtain ⟨x, y, rfl, rx, ry⟩ := ints2 r
  simp only [Option.bind_eq_some_iff] at e
  obtain ⟨zs, h1, yss, h2, e⟩ := e
  split at e
  case isFalse => cases e
  rename_i hz
  cases e
  obtain ⟨a, ws, rfl, h3, h4⟩ := seqL_rel rp rx h1
  obtain ⟨b, vs, rfl, ob, h5, h6⟩ := ry.lst_inv
  cases h6
  obtain ⟨vss, h7, h8, h9⟩ := lstsOf_rel rp h4 h2
  refine ⟨a, b, ws, vss, rfl, h3, h5, h7, by rw [← h9]; exact hz, fun H' p ext hp hpb => ?_⟩
  refine q H' _ (Step.more ext) (rp.more ext) (RelD.mkLst ?_ hp (rp.relDs (Step.more ext) h8))
  rcases hpb with z | z
  · rw [z]; exact ob
  · exact rp.fresh z
end
section
variable {X : Cx} {Γ : Sta} {E : XK} {a b : Expr} {ma mb : M D} {pos p : Pos}
theorem fe_sum2 (nb : NB X.mg) (hc : X.calm = true) (ha : FE X Γ E a ma) (hb : FE X Γ E b mb) (hg : Gl X "sum" := by rfl) (he : starEach [a, b] X.env = (false, eval a X.env) :: starEach [b] X.env := by rfl) (he2 : starEach [b] X.env = (false, eval b X.env) :: starEach [] X.env := by rfl) (hpl : (backTo pos (starEach [b] X.env)).any (·.1) = false := by rfl) : FE X Γ E (.Call (.Name "sum" p) [a, b] [] pos) (mCB sum2C (m2 ma mb)) :=
  fe_callB (cr_sum2 hc) (cs_sum2 (Γ := Γ)) hg (nb _ (by decide)) (by decide +kernel) (fa_cons ha (fa_cons hb fa_nil he2) he) (by decide) (by decide) he hpl
end
end Fx

set_option Elab.async false
set_option linter.all false
set_option maxRecDepth 100000
set_option maxHeartbeats 1000000
namespace Fx
open PySem PySem.Spec PyProof.Rows L2

/-- t < u of tuples of ints -/
def ltL (ns ms : List Int) : Bool := Ob.lexAt (fun j => decide (ns.getD j 0 = ms.getD j 0)) (fun j => decide (ns.getD j 0 < ms.getD j 0)) (decide (ns.length < ms.length)) 0 (min ns.length ms.length)
def minGo {α : Type} : α → List Int → List α → List (List Int) → α
  | b, nb, w :: ws, n :: ns => if ltL n nb then minGo w n ws ns else minGo b nb ws ns
  | b, _, _, _ => b
/-- these values are tuples of these ints -/
def TupsAt (h : Heap) (its : List Value) (rows : List (List Int)) : Prop := Paired (fun u ns => ∃ (a : Addr) (us : List Value), u = .ref a ∧ h.IsTuple a us.toArray ∧ IntsAre us ns) its rows
theorem rc_lt {A : Around} {s : Shared} {a b : Addr} {us vs : List Value} {ns ms : List Int} (h1 : s.heap.IsTuple a us.toArray) (h2 : s.heap.IsTuple b vs.toArray) (i1 : IntsAre us ns) (i2 : IntsAre vs ms) (hu : A.units < cLine) : Ob.RcOp .Lt A s (.ref a) (.ref b) (ltL ns ms) := by
  have e1 : us.toArray.size = ns.length := by rw [List.size_toArray]; exact i1.length
  have e2 : vs.toArray.size = ms.length := by rw [List.size_toArray]; exact i2.length
  have at1 : ∀ j (h1 : j < us.toArray.size), ∃ t, us.toArray[j] = .int (ns.getD j 0) t := fun j h1 => PyProof.Rows.IntsAre.int_at i1 _ _ (by simp at h1; simp [h1])
  have at2 : ∀ j (h1 : j < vs.toArray.size), ∃ t, vs.toArray[j] = .int (ms.getD j 0) t := fun j h1 => PyProof.Rows.IntsAre.int_at i2 _ _ (by simp at h1; simp [h1])
  have R := Ob.RcOp.tuples_lt (A := A) (s := s) (e := fun j => decide (ns.getD j 0 = ms.getD j 0)) (r := fun j => decide (ns.getD j 0 < ms.getD j 0)) h1 h2 hu (fun j h1 h2 => by
    obtain ⟨t, et⟩ := at1 j h1
    obtain ⟨t', et'⟩ := at2 j h2
    rw [et, et']
    have z : (ns.getD j 0 == ms.getD j 0) = decide (ns.getD j 0 = ms.getD j 0) := by
      by_cases q : ns.getD j 0 = ms.getD j 0
      · rw [decide_eq_true q]; exact beq_iff_eq.mpr q
      · rw [decide_eq_false q]; exact beq_eq_false_iff_ne.mpr q
    rw [← z]
    exact SeqAt.EqAt.int_int _ _ _ _) (fun j h1 h2 _ => by
    obtain ⟨t, et⟩ := at1 j h1
    obtain ⟨t', et'⟩ := at2 j h2
    rw [et, et']
    exact Ob.RcOp.lt_int _ _ _ _)
  rw [e1, e2] at R
  exact R
section
variable {prog : Program} {w : World} {A : Around} {R' : Result → Shared → Prop}
theorem TupsAt.keep {h h' : Heap} {its : List Value} {rows : List (List Int)} {S it : Addr} {oS oI : Obj} (t : TupsAt h its rows) (eS : h.get? S = some oS) (eI : h.get? it = some oI) (nS : oS.cls ≠ .type "tuple") (nI : oI.cls ≠ .type "tuple")
    (k : ∀ b o, b ≠ it → b ≠ S → h.get? b = some o → h'.get? b = some o) : TupsAt h' its rows :=
  Paired.imp (fun u ns ⟨a, us, e1, ⟨o, e2, c, r⟩, e3⟩ => by
    refine ⟨a, us, e1, ⟨o, k a o (fun z => ?_) (fun z => ?_) e2, c, r⟩, e3⟩
    · rw [z, eI] at e2; cases e2; exact nI c
    · rw [z, eS] at e2; cases e2; exact nS c) t
theorem minT_loop {l it S : Addr} {its : List Value} (hh : A.handled = none) (hu : A.units + 1 < cLine) (hne : it ≠ S) (hli : l ≠ it) (hlS : l ≠ S) :
    ∀ (k j : Nat) (s : Shared) (c : Nat) (vb : Value) (nb : List Int) (rows : List (List Int)), its.length - j = k → j ≤ its.length → s.heap.IsListIter it l j → s.heap.IsList l its.toArray → TupsAt s.heap (vb :: its.drop j) (nb :: rows) →
      s.heap.get? S = some { cls := .type "list", dict := none, data := .seq #[vb, vb] c, slots := #[] } →
      (∀ h' tk, (∀ b o, b ≠ it → b ≠ S → s.heap.get? b = some o → h'.get? b = some o) → R' (.ok (.ret (minGo vb nb (its.drop j) rows))) { s with heap := h', toks := tk }) →
      codeAny (model prog w) A (.builtin "min.loop" ⟨[.ref it, .none, .ref S], []⟩) R' s := by
  have hname : (toString "min" ++ toString ".loop" : String) = "min.loop" := by decide
  intro k
  induction k with
  | zero =>
    intro j s c vb nb rows hk hj hit hl ht hS hR
    have e : j = its.length := by omega
    subst e
    rw [List.drop_length] at ht hR
    refine codeAny_builtin F.entry_min_loop ?_
    rw [Around.under_plainId F.plain_min_loop _]
    show wpAny _ A.in1 (seqItems? (.ref S) >>= _) _ _ s
    refine wpAny_bind (wpAny_seqItems hS rfl ?_)
    show wpAny _ A.in1 (tryCatch (pyNext (.ref it)) _ >>= _) _ _ s
    refine wpAny_bind (wpAny_tryCatch (wpAny_pyNext_list_end hh hit hl (by simp) fun h' eb => ?_))
    have hS' : h'.get? S = _ := eb S _ (Ne.symm hne) hS
    show wpAny _ A.in1 (updateSeq S (fun _ => #[]) >>= _) _ _ _
    refine wpAny_bind ?_
    refine wpAny_updateSeq hS' rfl (wpAny_bind (wpAny_letGo (wpAny_pure ?_)))
    have q := hR (h'.update S (Obj.mapSeq fun _ => #[])) s.toks fun b o h1 h2 e => (Heap.get?_update_other _ _ (Ne.symm h2)).trans (eb b o h1 e)
    cases rows <;> exact q
  | succ k ih =>
    intro j s c vb nb rows hk hj hit hl ht hS hR
    have hlt : j < its.length := by omega
    have hdj : its.drop j = its[j] :: its.drop (j + 1) := List.drop_eq_getElem_cons hlt
    rw [hdj] at ht hR
    refine codeAny_builtin F.entry_min_loop ?_
    rw [Around.under_plainId F.plain_min_loop _]
    show wpAny _ A.in1 (seqItems? (.ref S) >>= _) _ _ s
    refine wpAny_bind (wpAny_seqItems hS rfl ?_)
    show wpAny _ A.in1 (tryCatch (pyNext (.ref it)) _ >>= _) _ _ s
    refine wpAny_bind (wpAny_tryCatch (wpAny_pyNext_list_item hit hl (x := its[j]) (by simp [hlt]) fun h' hit' sb => ?_))
    obtain ⟨oI, eI, cI, dI⟩ := id hit
    have hk1 : ∀ b o, b ≠ it → s.heap.get? b = some o → h'.get? b = some o := fun b o hb e => (sb.2 b hb).trans e
    have hS' : h'.get? S = _ := hk1 S _ (Ne.symm hne) hS
    have ht' := ht.keep hS eI (by intro q; injection q with q; exact absurd q (by decide)) (by rw [cI]; intro q; injection q with q; exact absurd q (by decide)) (fun b o h1 h2 e => hk1 b o h1 e)
    have hl' : h'.IsList l its.toArray := hl.at fun o e => hk1 l o hli e
    cases rows with
    | nil => cases ht' with | cons _ t => cases t
    | cons nj rows =>
    cases ht' with
    | cons hb0 t => cases t with
      | cons hj0 t =>
      obtain ⟨ab, ub, eb1, eb2, eb3⟩ := hb0
      obtain ⟨aj, uj, ej1, ej2, ej3⟩ := hj0
      have cmp := rc_lt (A := A.in1) (s := { s with heap := h' }) ej2 eb2 ej3 eb3 (by show A.units + 1 < cLine; exact hu)
      rw [← ej1, ← eb1] at cmp
      show wpAny _ A.in1 (tryCatch (holding [its[j], its[j]] (richCompare .Lt its[j] vb >>= _)) _ >>= _) _ _ _
      refine wpAny_bind (wpAny_tryCatch (wpAny_holding (wpAny_bind (cmp _ _ _ _ ?_))))
      refine wpAny_bind (wpAny_holding (wpAny_truthy_bool ?_))
      refine wpAny_bind (wpAny_letGo (wpAny_pure ?_))
      unfold minGo at hR
      cases hb : ltL nj nb with
      | true =>
        rw [hb] at hR
        simp only [if_true] at hR ⊢
        refine wpAny_bind ?_
        refine wpAny_updateSeq hS' rfl (wpAny_bind (wpAny_letGo ?_))
        rw [hname]
        have hup := Heap.get?_update_self (h := h') (Obj.mapSeq fun _ => #[its[j], its[j]]) hS' rfl
        have hk2 : ∀ b o, b ≠ S → h'.get? b = some o → (h'.update S (Obj.mapSeq fun _ => #[its[j], its[j]])).get? b = some o := fun b o hb e => (Heap.get?_update_other _ _ (Ne.symm hb)).trans e
        refine wpAny_pure ⟨plainId_quiet F.plain_min_loop _, ih (j + 1) _ _ its[j] nj rows (by omega) hlt (hit'.at fun o e => hk2 it o hne e) (hl'.at fun o e => hk2 l o hlS e) ?_ hup fun h'' tk kk => hR h'' tk fun b o h1 h2 e => kk b o h1 h2 (hk2 b o h2 (hk1 b o h1 e))⟩
        obtain ⟨oI', eI', cI', dI'⟩ := id hit'
        exact TupsAt.keep (.cons ⟨aj, uj, ej1, ej2, ej3⟩ t) hS' eI' (by intro q; injection q with q; exact absurd q (by decide)) (by rw [cI']; intro q; injection q with q; exact absurd q (by decide)) fun b o h1 h2 e => hk2 b o h2 e
      | false =>
        rw [hb] at hR
        simp only [Bool.false_eq_true, if_false] at hR ⊢
        refine wpAny_bind (wpAny_letGo ?_)
        rw [hname]
        exact wpAny_pure ⟨plainId_quiet F.plain_min_loop _, ih (j + 1) _ c vb nb rows (by omega) hlt hit' hl' (.cons ⟨ab, ub, eb1, eb2, eb3⟩ t) hS' fun h'' tk kk => hR h'' tk fun b o h1 h2 e => kk b o h1 h2 (hk1 b o h1 e)⟩
end
def minPick {α : Type} : List α → List (List Int) → Option α
  | w :: ws, n :: ns => some (minGo w n ws ns)
  | _, _ => none
def rMinT (K : PySem.W.Frag) : List V → Hp → VK → Prop := fun xs H Q => ∃ (l : Addr) (ws : List V) (rows : List (List Int)) (z : V), xs = [.ref l] ∧ H l = some (.lst ws) ∧ Paired (fun w ns => ∃ a, w = V.ref a ∧ SqT K H a (ns.map V.int)) ws rows ∧ minPick ws rows = some z ∧ Q z H
theorem minGo_rel {α β : Type} {F : α → β → Prop} : ∀ {ws : List α} {us : List β} {rows : List (List Int)} {w : α} {u : β} {n : List Int}, F w u → Paired F ws us → F (minGo w n ws rows) (minGo u n us rows)
  | _, _, rows, _, _, _, r, .nil => by cases rows <;> exact r
  | _, _, [], _, _, _, r, .cons _ _ => r
  | _, _, m :: rows, w, u, n, r, .cons r' t => by
    unfold minGo
    split
    · exact minGo_rel r' t
    · exact minGo_rel r t
section
variable {X : Cx}
theorem cr_minT (hc : X.calm = true) (hu : X.A.units + 64 < cLine) : CallR X (.builtin "min") (rMinT X.K) := by
  intro pins s σ H xs us Q I r h
  obtain ⟨l, ws, rows, z, rfl, hl, hrows, hpick, q⟩ := h
  have hname : (toString "min" ++ toString ".loop" : String) = "min.loop" := by decide
  rw [Vals.ref1 r]
  obtain ⟨its, rv, p, _⟩ := I.list (SqL.of hl)
  have hlt : l < s.heap.objs.size := by obtain ⟨o, e, _⟩ := p.isList; exact Heap.lt_size e
  refine call_function_tree F.kind_min F.plain_min F.entry_min (F.args_min1 _) ?_
  show wpAny _ X.A.in1 (Builtin.Builtins.bindParams "min" ["key", "default"] 0 ⟨[], []⟩ >>= _) _ _ s
  refine wpAny_bind (wpAny_of_eq (show Builtin.Builtins.bindParams "min" ["key", "default"] 0 ⟨[], []⟩ = pure [none, none] from rfl) ?_)
  refine wpAny_bind (wpAny_pure ?_)
  refine wpAny_bind (wpAny_pyIter_list p.isList ?_)
  refine wpAny_bind (wpAny_newObj_type ?_)
  rw [hname]
  refine wpAny_pure ⟨plainId_quiet F.plain_min_loop _, ?_⟩
  -- the first item
  have hs1 : (s.heap.push { cls := .type "list_iterator", data := .fields #[.ref l, .int 0 0] }).objs.size = s.heap.objs.size + 1 := Heap.size_push ..
  cases rv with
  | nil => cases rows <;> cases hpick
  | @cons w u ws us rw0 rvs =>
  cases hrows with
  | @cons _ n _ rows hn hrows =>
  cases hpick
  have k0 : ∀ b o, s.heap.get? b = some o → ((s.heap.push { cls := .type "list_iterator", data := .fields #[.ref l, .int 0 0] }).push ({ cls := .type "list", data := .seq #[] } : Obj)).get? b = some o := fun b o e => Heap.get?_push_of_some _ (Heap.get?_push_of_some _ e)
  have tups : ∀ {ws : List V} {us : List Value} {rows : List (List Int)}, Vals ws us → Paired (fun w ns => ∃ a, w = V.ref a ∧ SqT X.K H a (ns.map V.int)) ws rows → TupsAt s.heap us rows := by
    intro ws us rows rv
    induction rv generalizing rows with
    | nil => intro h; cases h; exact .nil
    | cons r _ ih =>
      intro h
      cases h with
      | cons h0 t =>
        obtain ⟨a, rfl, hq⟩ := h0
        obtain ⟨vs, r1, p1, _⟩ := I.tuple hq
        exact .cons ⟨a, vs, r, p1, Vals.ints r1⟩ (ih t)
  have t0 : TupsAt s.heap (u :: us) (n :: rows) := tups (.cons rw0 rvs) (.cons hn hrows)
  have t1 : TupsAt ((s.heap.push { cls := .type "list_iterator", data := .fields #[.ref l, .int 0 0] }).push ({ cls := .type "list", data := .seq #[] } : Obj)) (u :: us) (n :: rows) := Paired.imp (fun u ns ⟨a, us, e1, ⟨o, e2, r⟩, e3⟩ => ⟨a, us, e1, ⟨o, k0 a o e2, r⟩, e3⟩) t0
  have hne : s.heap.objs.size ≠ (s.heap.push { cls := .type "list_iterator", data := .fields #[.ref l, .int 0 0] }).objs.size := by rw [hs1]; exact Nat.ne_of_lt (Nat.lt_succ_self _)
  refine codeAny_builtin F.entry_min_loop ?_
  rw [Around.under_plainId F.plain_min_loop _]
  have hS0 : ((s.heap.push { cls := .type "list_iterator", data := .fields #[.ref l, .int 0 0] }).push ({ cls := .type "list", data := .seq #[] } : Obj)).get? (s.heap.push { cls := .type "list_iterator", data := .fields #[.ref l, .int 0 0] }).objs.size = some ({ cls := .type "list", data := .seq #[] } : Obj) := Heap.get?_push_size _ rfl
  have hit0 : ((s.heap.push { cls := .type "list_iterator", data := .fields #[.ref l, .int 0 0] }).push ({ cls := .type "list", data := .seq #[] } : Obj)).IsListIter s.heap.objs.size l 0 := ⟨_, Heap.get?_push_of_some _ (Heap.get?_push_size _ rfl), rfl, rfl⟩
  show wpAny _ X.A.in1 (seqItems? (.ref _) >>= _) _ _ _
  refine wpAny_bind (wpAny_seqItems hS0 rfl ?_)
  show wpAny _ X.A.in1 (tryCatch (pyNext (.ref s.heap.objs.size)) _ >>= _) _ _ _
  refine wpAny_bind (wpAny_tryCatch (wpAny_pyNext_list_item hit0 (p.isList.at fun o e => k0 l o e) (x := u) (by simp) fun h' hit' sb => ?_))
  have hk1 : ∀ b o, b ≠ s.heap.objs.size → ((s.heap.push { cls := .type "list_iterator", data := .fields #[.ref l, .int 0 0] }).push ({ cls := .type "list", data := .seq #[] } : Obj)).get? b = some o → h'.get? b = some o := fun b o hb e => (sb.2 b hb).trans e
  have hS' := hk1 _ _ (Ne.symm hne) hS0
  show wpAny _ X.A.in1 (updateSeq _ (fun _ => #[u, u]) >>= _) _ _ _
  refine wpAny_bind ?_
  refine wpAny_updateSeq hS' rfl ?_
  rw [hname]
  have hup := Heap.get?_update_self (h := h') (Obj.mapSeq fun _ => #[u, u]) hS' rfl
  have hk2 : ∀ b o, b ≠ (s.heap.push { cls := .type "list_iterator", data := .fields #[.ref l, .int 0 0] }).objs.size → h'.get? b = some o → (h'.update (s.heap.push { cls := .type "list_iterator", data := .fields #[.ref l, .int 0 0] }).objs.size (Obj.mapSeq fun _ => #[u, u])).get? b = some o := fun b o hb e => (Heap.get?_update_other _ _ (Ne.symm hb)).trans e
  have hall : ∀ b o, s.heap.get? b = some o → (h'.update (s.heap.push { cls := .type "list_iterator", data := .fields #[.ref l, .int 0 0] }).objs.size (Obj.mapSeq fun _ => #[u, u])).get? b = some o := fun b o e => by
    have hb := Heap.lt_size e
    exact hk2 b o (by rw [hs1]; exact Nat.ne_of_lt (Nat.lt_succ_of_lt hb)) (hk1 b o (Nat.ne_of_lt hb) (k0 b o e))
  refine wpAny_pure ⟨plainId_quiet F.plain_min_loop _, minT_loop (its := u :: us) (l := l) (I.ok.hd hc) (by have := hu; omega) hne (Nat.ne_of_lt hlt) (by rw [hs1]; exact Nat.ne_of_lt (Nat.lt_succ_of_lt hlt)) us.length 1 _ _ u n rows (by simp) (by simp) (hit'.at fun o e => hk2 _ o hne e) (p.isList.at fun o e => hall l o e) ?_ hup fun h'' tk kk => ?_⟩
  · exact Paired.imp (fun u ns ⟨a, us, e1, ⟨o, e2, r⟩, e3⟩ => ⟨a, us, e1, ⟨o, hall a o e2, r⟩, e3⟩) t0
  · refine ⟨_, H, I.kept (t' := tk) fun b o e => ?_, minGo_rel (F := fun (w : V) u => RelV w u) rw0 rvs, q⟩
    have hb := Heap.lt_size e
    exact kk b o (Nat.ne_of_lt hb) (by rw [hs1]; exact Nat.ne_of_lt (Nat.lt_succ_of_lt hb)) (hall b o e)
end
def rowsOf : List D → Option (List (List Int))
  | [] => some []
  | .tup ds :: r => (asInts ds).bind fun ns => (rowsOf r).map fun q => ns :: q
  | _ :: _ => none
def minTC : HS → List D → Option D := fun hs ds => match ds with
  | [d] => (seqL hs d).bind fun xs => (rowsOf xs).bind fun rows => minPick xs rows
  | _ => none
section
variable {Γ : Sta}
theorem rowsOf_rel {ι : Ix} {H : Hp} : ∀ {ds : List D} {ws : List V} {rows : List (List Int)}, RelDs Γ ι H ds ws → rowsOf ds = some rows → Paired (fun w ns => ∃ a, w = V.ref a ∧ SqT Γ.K H a (ns.map V.int)) ws rows
  | _, _, _, .nil, e => by cases e; exact .nil
  | d :: ds, w :: ws, rows, .cons r t, e => by
    cases d with
    | tup xs =>
      simp only [rowsOf, Option.bind_eq_some_iff, Option.map_eq_some_iff] at e
      obtain ⟨ns, h1, q, h2, rfl⟩ := e
      obtain ⟨a, vs, rfl, h3, h4⟩ := r.tup_inv
      rw [asInts_rel h4 h1] at h3
      exact .cons ⟨a, rfl, h3.sq⟩ (rowsOf_rel t h2)
    | _ => cases e
theorem cs_minT : CallS Γ (rMinT Γ.K) minTC := fun ι hs H xs ds d Q rp r e q => by
  unfold minTC at e
  split at e
  case h_2 => cases e
  obtain ⟨x, rfl, rx⟩ := ints1 r
  simp only [Option.bind_eq_some_iff] at e
  obtain ⟨zs, h1, rows, h2, e⟩ := e
  obtain ⟨a, ws, rfl, h3, h4⟩ := seqL_rel rp rx h1
  cases h4 with
  | nil => cases rows <;> cases e
  | @cons d0 w0 ds ws r0 t0 =>
    cases rows with
    | nil => cases e
    | cons n rows =>
      cases e
      exact ⟨a, _, _, _, rfl, h3, rowsOf_rel (.cons r0 t0) h2, rfl, q H _ (Step.refl _ _) rp (minGo_rel (F := RelD Γ ι H) r0 t0)⟩
end
section
variable {X : Cx} {Γ : Sta} {E : XK} {a b : Expr} {ma mb : M D} {pos p : Pos} {k : Nat}
theorem fe_minT (nb : NB X.mg) (hc : X.calm = true) (hr : Room k X.A) (ha : FE X Γ E a ma) (hK : X.K = Γ.K := by rfl) (hg : Gl X "min" := by rfl) (he : starEach [a] X.env = (false, eval a X.env) :: starEach [] X.env := by rfl) : FE X Γ E (.Call (.Name "min" p) [a] [] pos) (mCB minTC (m1 ma)) :=
  fe_callB (by rw [← hK]; exact cr_minT hc (un64 hr)) (cs_minT (Γ := Γ)) hg (nb _ (by decide)) (by decide +kernel) (fa_cons ha fa_nil he) (by decide) (by decide) he
end
end Fx

set_option Elab.async false
set_option linter.all false
set_option maxRecDepth 100000
set_option maxHeartbeats 1000000
namespace Fx
open PySem PySem.Spec PyProof.Rows L2
open AutoSeq1 (wpAny_loadPart')

theorem meets_enumerate_newT (l : Addr) (items : Array Value) (n : Nat) (dct : Option Addr) (sl : Array (Option Value)) :
    Meets (Builtin.«enumerate.__new__» ⟨[.type "enumerate", .ref l], []⟩) (fun _ R s => s.heap.get? l = some { cls := .type "tuple", dict := dct, data := .seq items n, slots := sl } ∧
      R (.ok (.ret (.ref (s.heap.push { cls := .type "tuple_iterator", data := .fields #[.ref l, .int 0 0] }).objs.size)))
        { s with heap := (s.heap.push { cls := .type "tuple_iterator", data := .fields #[.ref l, .int 0 0] }).push { cls := .type "enumerate", data := .fields #[.none, .bool false, .ref s.heap.objs.size, rawInt 0, .none, .none] } }) :=
  .of_wp fun prog w A R s h => by
    obtain ⟨hp, g, d, tk, os⟩ := s; obtain ⟨hl, h⟩ := h
    have hsub := sub_enumerate
    have hL : Heap.IsTuple (Shared.heap ⟨hp, g, d, tk, os⟩) l items := ⟨_, hl, rfl, n, rfl⟩
    wp_walk using wpAny_loadPart' hl
    refine wpAny_stack_any fun st => wpAny_pure ?_
    split
    · rename_i c _ _ _ _ _
      cases (c == Value.type "enumerate")
      · wp_walk using wpAny_loadPart' hl, wpAny_pyIter_tuple hL
        exact ⟨_, rfl, h⟩
      · wp_walk using wpAny_loadPart' hl, wpAny_pyIter_tuple hL
        exact ⟨_, rfl, h⟩
    · wp_walk using wpAny_loadPart' hl, wpAny_pyIter_tuple hL
      exact ⟨_, rfl, h⟩
section
variable {prog : Program} {w : World} {A : Around} {E : Value → Shared → Prop} {s : Shared}
theorem call_enumerate_tup {l : Addr} {items : Array Value} {Q : Value → Shared → Prop} (hL : s.heap.IsTuple l items)
    (h : ∀ h', IsEnum h' (s.heap.objs.size + 1) s.heap.objs.size 0 .none → h'.IsTupleIter s.heap.objs.size l 0 → h'.objs.size = s.heap.objs.size + 2 →
      (∀ b o, s.heap.get? b = some o → h'.get? b = some o) → Q (.ref (s.heap.objs.size + 1)) { s with heap := h' }) :
    wpAny (model prog w) A (call (.type "enumerate") [.ref l]) Q E s := by
  obtain ⟨⟨c, dct, dt, sl⟩, hl, hc, n, hd⟩ := hL
  replace hc : c = .type "tuple" := hc
  replace hd : dt = .seq items n := hd
  subst hc hd
  refine callType_new F.called_enumerate (by decide) (F.typeCall_enumerate_1 _) (F.newCall_enumerate_1 _) (fun obj => F.args_object_init_2 obj _) F.entry_enumerate_new
    (meets_enumerate_newT l items n dct sl) ⟨hl, ?_⟩
  have hz : (s.heap.push { cls := .type "tuple_iterator", data := .fields #[.ref l, .int 0 0] }).objs.size = s.heap.objs.size + 1 := Heap.size_push ..
  show _ ∧ _
  rw [hz]
  have he : IsEnum ((s.heap.push { cls := .type "tuple_iterator", data := .fields #[.ref l, .int 0 0] }).push
      { cls := .type "enumerate", data := .fields #[.none, .bool false, .ref s.heap.objs.size, rawInt 0, .none, .none] }) (s.heap.objs.size + 1) s.heap.objs.size 0 .none := by
    have := Heap.get?_push_size (s.heap.push { cls := .type "tuple_iterator", data := .fields #[.ref l, .int 0 0] })
      (o := { cls := .type "enumerate", data := .fields #[.none, .bool false, .ref s.heap.objs.size, rawInt 0, .none, .none] }) rfl
    rw [hz] at this; exact this
  refine ⟨⟨_, he, rfl⟩, h _ he ⟨_, Heap.get?_push_of_some _ (Heap.get?_push_size _ rfl), rfl, rfl⟩ (by rw [Heap.size_push, hz]) fun b o x => Heap.get?_push_of_some _ (Heap.get?_push_of_some _ x)⟩
end
/-- enumerate of the tuple at a -/
def IteT (K : PySem.W.Frag) (a : Addr) : It :=
  ⟨fun i H => ∃ (xs : List V) (x : V), SqT K H a xs ∧ xs[i]? = some x, fun i H v H' => ∃ T x, v = .ref T ∧ H T = none ∧ H' = upd H T (.tup [.int (i : Nat), x]) ∧ ∀ xs, SqT K H a xs → xs[i]? = some x, fun i H => ∃ xs : List V, SqT K H a xs ∧ xs.length = i⟩
theorem turn_enumT {P : Program} {w : World} {K : PySem.W.Frag} {elts : List Expr} {kk : Nat} {tpos : Pos} (a e it : Addr) :
    Turn P w K (.Tuple elts kk tpos) (IteT K a) [e, it] e (fun i h => (∃ old, IsEnum h e it ((i : Nat) : Int) old) ∧ h.IsTupleIter it a i ∧ e ≠ it ∧ a ≠ it ∧ a ≠ e) where
  mem := by simp
  obj := fun i h st b hb => by
    obtain ⟨⟨old, he⟩, ⟨o, ho, hc, hd⟩, _⟩ := st
    have e' : b = e ∨ b = it := by simpa using hb
    rcases e' with z | z
    · rw [z]; exact ⟨_, he, fun v q => nomatch q⟩
    · rw [z]; exact ⟨o, ho, fun v q => by rw [hd] at q; cases q⟩
  keep := fun i h h' st k => let ⟨⟨old, he⟩, hi, hne⟩ := st; ⟨⟨old, k e (by simp) _ he⟩, hi.at fun o q => k it (by simp) o q, hne⟩
  item := by
    intro X hP hw hK hc i pins s σ H E I hf st hg
    subst hP hw hK
    obtain ⟨⟨old, he⟩, hit, hne, hai, hae⟩ := st
    obtain ⟨xs, x, hq, hx⟩ := hg
    obtain ⟨its, rv, p, hz⟩ := I.tuple hq
    obtain ⟨u, hu, ru⟩ := rv.get hx
    have hel : e < s.heap.objs.size := Heap.lt_size he
    have hil : it < s.heap.objs.size := by obtain ⟨_, q, _⟩ := hit; exact Heap.lt_size q
    have hil2 : i < its.length := (List.getElem?_eq_some_iff.mp hu).1
    have hD := Draws.tuple (prog := X.prog) (w := X.w) (A := X.A.in1) (I.ok.hd hc) it a hai its.toArray
    refine wpAny_pyNext_enum_itemD hD he ⟨hit, p⟩ (by simpa using hil2) hne (by simp [hne, Ne.symm hae]) fun x' h' tk hx' ho hst' hT hsz hk => ?_
    have ex : x' = u := by
      have : its[i]? = some x' := by simpa using hx'
      rw [hu] at this; cases this; rfl
    subst ex
    refine ⟨_, rfl, wpAny_letOwnedTupleGo_enum (s := { s with heap := h', toks := tk + 1 }) ho fun h'' he' sb => ?_⟩
    have hT2 : h''.get? s.heap.objs.size = some { cls := .type "tuple", data := .seq #[.int i tk, x'] } := (sb.2 _ (Nat.ne_of_gt hel)).trans hT
    have new : ObjOk X.prog X.w (upd H s.heap.objs.size (.tup [.int (i : Nat), x])) h'' s.heap.objs.size (.tup [.int (i : Nat), x]) :=
      ⟨by show 2 ≤ sizeLine; decide, [.int i tk, x'], .cons ⟨_, rfl⟩ (.cons ru .nil), ⟨_, hT2, rfl, _, rfl⟩⟩
    have I1 : Inv X pins σ (upd H s.heap.objs.size (.tup [.int (i : Nat), x])) { s with heap := h'', toks := tk + 1 } :=
      I.turnedNew (ch := [e, it]) (fun b ob hb q => (sb.2 b (fun z => hb (by simp [z]))).trans (hk b ob (fun z => hb (by simp [z])) (fun z => hb (by simp [z])) q)) hf (Nat.le_refl _) new
    refine ⟨.ref s.heap.objs.size, _, I1, rfl, ⟨_, x, rfl, I.hok.fresh (Nat.le_refl _), rfl, fun ys hy => by rw [I.tuple_inj hy hq]; exact hx⟩, ⟨⟨x', ?_⟩, hst'.1.at fun o q => (sb.2 it (Ne.symm hne)).trans q, hne, hai, hae⟩, fun b hb => ?_⟩
    · have e1 : ((i + 1 : Nat) : Int) = (i : Int) + 1 := by omega
      rw [e1]; exact he'
    · have hb' : b < s.heap.objs.size := by
        have e' : b = e ∨ b = it := by simpa using hb
        rcases e' with z | z
        · rw [z]; exact hel
        · rw [z]; exact hil
      rw [upd_ne (Nat.ne_of_lt hb')]
      exact (hf b hb).1
  done := by
    intro X hP hw hK hc i pins s σ H E I hf st hg
    subst hP hw hK
    obtain ⟨⟨old, he⟩, hit, hne, hai, hae⟩ := st
    obtain ⟨xs, hq, hx⟩ := hg
    obtain ⟨its, rv, p, hz⟩ := I.tuple hq
    obtain ⟨f0, f1, f2, f3, f4, f5⟩ := hf it (by simp)
    have hl := rv.length
    have hD := Draws.tuple (prog := X.prog) (w := X.w) (A := X.A.in1) (I.ok.hd hc) it a hai its.toArray
    have ei : i = its.toArray.size := by rw [List.size_toArray]; omega
    exact wpAny_pyNext_enum_endD hD he ⟨ei ▸ hit, p⟩ fun h' eb => ⟨rfl, I.turned (t' := s.toks) (fun b o hb q => eb b o hb q) f0 f1 f3 f4 f5⟩
  self := fun A i s Q E st h => let ⟨⟨_, he⟩, _⟩ := st; wpAny_pyIter_enum he h
def iEnumT (K : PySem.W.Frag) (ta : TA) : TI := fun σ H R => ta σ H fun vs H1 => ∃ a xs, vs = [.ref a] ∧ SqT K H1 a xs ∧ R (IteT K a) H1
theorem pi_enumT {X : Cx} {e : Expr} {ta : TA} {p pos tpos : Pos} {elts : List Expr} {kk : Nat} (hg : Gl X "enumerate") (hm : X.mg "enumerate" = none) (ha : PA X [e] ta) (hs : starEach [e] X.env = [(false, eval e X.env)] := by rfl) :
    PI X (.Tuple elts kk tpos) (.Call (.Name "enumerate" p) [e] [] pos) (iEnumT X.K ta) := by
  refine ⟨fun pins s σ H R I h => ?_⟩
  refine Call_ (ld_blt I hg hm boot_enumerate (PyProof.Rows.callWith_type1 (thn (ha.run pos pins s σ H _ I h) fun us s1 ⟨vs, H1, I1, r1, q1⟩ => ?_) hs rfl))
  obtain ⟨a, xs, ex, hq, q⟩ := q1
  subst ex
  cases r1 with
  | cons r rr =>
    cases rr
    cases r
    obtain ⟨its, rv, p', hz⟩ := I1.tuple hq
    have hal : a < s1.heap.objs.size := by obtain ⟨o, e, _⟩ := p'; exact Heap.lt_size e
    refine call_enumerate_tup (items := its.toArray) p' fun h' he hit hsz hk => wpAny_pyIter_enum he ?_
    have I2 : Inv X pins σ H1 { s1 with heap := h' } := I1.kept (t' := s1.toks) hk
    refine ⟨s1.heap.objs.size + 1, [s1.heap.objs.size + 1, s1.heap.objs.size], _, _, H1, rfl, I2, turn_enumT a (s1.heap.objs.size + 1) s1.heap.objs.size, ⟨⟨.none, he⟩, hit, Nat.succ_ne_self _, Nat.ne_of_lt hal, Nat.ne_of_lt (Nat.lt_succ_of_lt hal)⟩, fun b hb => ?_, q⟩
    have e' : b = s1.heap.objs.size + 1 ∨ b = s1.heap.objs.size := by simpa using hb
    have hle : s1.heap.objs.size ≤ b := by
      rcases e' with z | z
      · rw [z]; exact Nat.le_add_right _ _
      · rw [z]; exact Nat.le_refl _
    exact I1.fpOk hle (I1.hok.fresh hle)
section
variable {Γ : Sta} {ι0 : Ix} {H0 : Hp} {hs0 : HS}
theorem walk_enumTD {K : PySem.W.Frag} {a : Addr} {ds : List D} {g : Option Nat} (w : ∀ ι' H' hs', Step ι0 H0 ι' H' → Rep Γ ι' hs' H' → guardOk g hs0 hs' = true → ∃ ws, SqT K H' a ws ∧ RelDs Γ ι' H' ds ws) : WalkD Γ (IteT K a) ι0 H0 hs0 (enumD ds) g := by
  intro ι H hs st rp g
  obtain ⟨ws, h1, h2⟩ := w ι H hs st rp g
  refine ⟨fun i d e => ?_, ⟨ws, h1, by rw [← Paired.length h2]; simp [enumD]⟩⟩
  unfold enumD at e
  rw [List.getElem?_map, List.getElem?_zipIdx] at e
  simp only [Option.map_map, Option.map_eq_some_iff] at e
  obtain ⟨d', h3, rfl⟩ := e
  obtain ⟨x, h4, h5⟩ := Paired.left h2 h3
  refine ⟨⟨ws, x, h1, h4⟩, fun y H' yl => ?_⟩
  obtain ⟨T, x', rfl, hT, rfl, q⟩ := yl
  have := q ws h1
  rw [h4] at this
  cases this
  have hi : (0 + i : Nat) = i := Nat.zero_add i
  have sn := Step.new (ι := ι) (o := HO.tup [.int (i : Nat), x]) hT
  refine ⟨sn, rp.new hT, RelD.mkTup (.inl upd_same) ?_⟩
  show RelDs Γ ι _ [D.int ((0 + i : Nat) : Int), d'] _
  rw [hi]
  exact .cons (.int _) (.cons (rp.relD sn h5) .nil)
end
/-- enumerate of a list or of a tuple -/
def mEnumA (as : M (List D)) : MI := fun ls hs => (as ls hs).bind fun ds h => match ds with
  | [.tup xs] => .ok (enumD xs, none) h
  | [d] => R.of ((seqI h d).map fun p => (enumD p.1, p.2)) h
  | _ => .bad
def mEnumT (as : M (List D)) : MI := fun ls hs => (as ls hs).bind fun ds h => match ds with
  | [.tup xs] => .ok (enumD xs, none) h
  | _ => .bad
section
variable {X : Cx} {Γ : Sta} {E : XK} {a : Expr} {ml : M (List D)} {pos : Pos}
theorem fi_enumT {p tpos : Pos} {elts : List Expr} {kk : Nat} (hg : Gl X "enumerate") (hm : X.mg "enumerate" = none) (ha : FA X Γ E [a] ml) (hK : X.K = Γ.K := by rfl) (hs : starEach [a] X.env = [(false, eval a X.env)] := by rfl) : FI X Γ E (.Tuple elts kk tpos) (.Call (.Name "enumerate" p) [a] [] pos) (mEnumT ml) :=
  PI.weak (pi_enumT hg hm ha hs) fun σ H Rr q => bindA q fun ι ls hs ds h1 rp rl s1 ι1 H1 vs st1 rp1 rds => by
    split at s1
    · obtain ⟨x, rfl, rx⟩ := ints1 rds
      obtain ⟨b, ws, rfl, h3, h4⟩ := rx.tup_inv
      rw [hK]
      refine ⟨b, ws, rfl, h3.sq, s1 ι1 H1 _ st1 rp1 (walk_enumTD fun ι' H' hs' st' rp' _ => ?_)⟩
      exact ⟨ws, (h3.step st' fun e => rp1.noTup e).sq, rp1.relDs st' h4⟩
    · exact s1.elim
theorem fi_enumA {p tpos : Pos} {elts : List Expr} {kk : Nat} (hg : Gl X "enumerate") (hm : X.mg "enumerate" = none) (ha : FA X Γ E [a] ml) (hK : X.K = Γ.K := by rfl) (hs : starEach [a] X.env = [(false, eval a X.env)] := by rfl) : FI X Γ E (.Tuple elts kk tpos) (.Call (.Name "enumerate" p) [a] [] pos) (mEnumA ml) :=
  PI.alt (fi_enum hg hm ha hs) (fi_enumT hg hm ha hK hs) fun σ H Rr ⟨ι, ls, hs, rp, rl, sat⟩ => by
    have one : ∀ ds h, ml ls hs = .ok ds h → (∃ xs, ds = [.tup xs]) ∨ ∀ xs, ds ≠ [.tup xs] := fun ds h _ => by
      by_cases q : ∃ xs, ds = [.tup xs]
      · exact .inl q
      · exact .inr fun xs e => q ⟨xs, e⟩
    cases em : ml ls hs with
    | bad =>
      refine .inl ⟨ι, ls, hs, rp, rl, ?_⟩
      unfold mEnumA at sat
      rw [em] at sat
      exact sat.elim
    | exc c h =>
      refine .inl ⟨ι, ls, hs, rp, rl, ?_⟩
      unfold mEnumA at sat
      unfold mEnum
      rw [em] at sat ⊢
      exact sat
    | ok ds h =>
      rcases one ds h em with ⟨xs, rfl⟩ | hn
      · refine .inr ⟨ι, ls, hs, rp, rl, ?_⟩
        unfold mEnumA at sat
        unfold mEnumT
        rw [em] at sat ⊢
        exact sat
      · refine .inl ⟨ι, ls, hs, rp, rl, ?_⟩
        unfold mEnumA at sat
        unfold mEnum
        rw [em] at sat ⊢
        simp only [R.bind] at sat ⊢
        split at sat
        · rename_i xs
          exact absurd rfl (hn xs)
        · exact sat
        · exact sat.elim
end
end Fx

set_option Elab.async false
set_option linter.all false
set_option maxRecDepth 100000
namespace Fx
open PySem PyProof.Rows L2
def blkB (N : List Str) (sc scope : Scope) (own : List (Str × Nat)) : Bool :=
  decide (scope.kind = .function) && (scope.names.all fun y => decide (scope.names.lookup y.1 = some y.2)) && (own.all fun p => decide (N[p.2]? = some p.1)) &&
    (scope.names.all fun y => !decide (y.2 = .free) || decide (sc.names.lookup y.1 = some .cell) || decide (sc.names.lookup y.1 = some .free)) &&
    (scope.names.all fun y => !(decide (y.2 = .local) || decide (y.2 = .cell)) || decide (y.1 ∈ own.map (·.1)) || !decide (y.1 ∈ N))
theorem blk_by {N : List Str} {sc scope : Scope} {own : List (Str × Nat)} (h : blkB N sc scope own = true) : BlkOk N sc scope own := by
  unfold blkB at h
  simp only [Bool.and_eq_true, Bool.or_eq_true, Bool.not_eq_true', decide_eq_true_eq, decide_eq_false_iff_not, List.all_eq_true, Bool.or_eq_false_iff] at h
  obtain ⟨⟨⟨⟨h1, h2⟩, h3⟩, h4⟩, h5⟩ := h
  refine ⟨h1, h2, h3, fun y hy e => ?_, fun y hy e => ?_⟩
  · rcases h4 y hy with (z | z) | z
    · exact absurd e z
    · exact .inl z
    · exact .inr z
  · rcases h5 y hy with (⟨z1, z2⟩ | z) | z
    · rcases e with e | e
      · exact absurd e z1
      · exact absurd e z2
    · exact .inl z
    · exact .inr z
end Fx

set_option Elab.async false
set_option linter.all false
set_option maxRecDepth 100000
set_option maxHeartbeats 1000000
namespace Fx
open PySem PySem.Spec PyProof.Rows L2

/-! ### lambdas as values -/
def lamHO (q : Str) (params : Arguments) (body : Expr) (scope : Scope) (cl : List (Str × Addr)) (f c' : Addr) : HO := .ext fun h => ∃ pm ctv, h.get? f = some (PySem.W.kla_obj "<lambda>" q params body scope cl pm c' ctv)
structure LmT (X : Cx) (Γ : Sta) : Prop where
  ex : ∃ c P, LamX.TabB X.base X.mg c P ∧ X.env.code = .ref c ∧ (P, X.env.qual ++ "<lambda>") ∈ Γ.T ∧ ∀ p ∈ Γ.T, p.1 = P → p.2 = X.env.qual ++ "<lambda>"
section
variable {X : Cx} {Γ : Sta} {E : XK} {params : Arguments} {body : Expr} {scope : Scope} {pos : Pos} {k : Nat}
theorem fe_lam (LT : LmT X Γ) (L : LamX.LamS X.env.scope scope) (hdef : defaultsOf params X.env = ([], [])) (hq : Γ.lq = X.env.qual ++ "<lambda>")
    (hk : Γ.lam k = fun f c => lamHO (X.env.qual ++ "<lambda>") params body scope (cloFrom X.env.cells scope.names []) f c) : FE X Γ E (.Lambda params body scope pos) (mC (.lam k)) := by
  refine ⟨fun pins s σ H Q I ⟨ι, ls, hs, rp, rl, sat⟩ => ?_⟩
  obtain ⟨c, P, TB, hcode, hm, hu⟩ := LT.ex
  obtain ⟨ps, hP, ht, ha⟩ := rp.tabs _ hm
  refine PySem.W.kla_eval hdef ?_
  have bP : s.heap.BuiltinsAt X.mg P := TB.bm.keeps I.bk
  have hP' : s.heap.get? P = some { cls := .none, data := .fields ps } := I.hok P _ hP
  -- the function's object is laid and tracked
  have fin : ∀ (c' : Addr) (pm ctv : Value) (h' : Heap) (tk : Nat) (H1 : Hp), Inv X pins σ H1 { s with heap := h', toks := tk } → Step ι H ι H1 → Rep Γ ι hs H1 → H1 c' = some (LamX.CodeO c' (X.env.qual ++ "<lambda>")) → Out ι c' →
      EP X pins σ Q (.ref h'.objs.size) { s with heap := h'.push (PySem.W.kla_obj "<lambda>" (X.env.qual ++ "<lambda>") params body scope (cloFrom X.env.cells scope.names []) pm c' ctv), toks := tk } := by
    intro c' pm ctv h' tk H1 I1 st1 rp1 hc' oc
    have hn : H1 h'.objs.size = none := I1.hok.fresh (Nat.le_refl _)
    have hobj : (h'.push (PySem.W.kla_obj "<lambda>" (X.env.qual ++ "<lambda>") params body scope (cloFrom X.env.cells scope.names []) pm c' ctv)).get? h'.objs.size = some (PySem.W.kla_obj "<lambda>" (X.env.qual ++ "<lambda>") params body scope (cloFrom X.env.cells scope.names []) pm c' ctv) := Heap.get?_push_size _ rfl
    have I2 := I1.laid (a := h'.objs.size) (o := lamHO (X.env.qual ++ "<lambda>") params body scope (cloFrom X.env.cells scope.names []) h'.objs.size c') (h' := h'.push (PySem.W.kla_obj "<lambda>" (X.env.qual ++ "<lambda>") params body scope (cloFrom X.env.cells scope.names []) pm c' ctv)) (t' := tk)
      (fun b o e => Heap.get?_push_of_some _ e) (Nat.le_refl _) ⟨⟨pm, ctv, hobj⟩, ⟨_, hobj⟩, fun h1 h2 ⟨pm', ctv', e⟩ st => ⟨pm', ctv', st _ e⟩⟩
    have sn := Step.new (ι := ι) (o := lamHO (X.env.qual ++ "<lambda>") params body scope (cloFrom X.env.cells scope.names []) h'.objs.size c') hn
    refine ⟨.ref h'.objs.size, _, I2, rfl, sat ι _ _ (st1.trans sn) (rp1.new hn) ?_⟩
    have nec : c' ≠ h'.objs.size := ne_of_none hc' hn
    exact .lam (rp1.fresh hn) oc (by rw [hk, upd_same]) (by rw [upd_ne nec, hq]; exact hc') (by rw [hk]; intro ps q; cases q)
  cases hc : codeAmong pos ps.toList with
  | none =>
    refine PySem.W.kla_makeFunction (mg := X.mg) (c := c) (P := P) (ps := ps) (closure_ok (L.has I.ok)) I.ok.glob (I.mod.glob.keeps I.bk) hcode (TB.code.keeps I.bk) hP' ht hc TB.gP bP fun c' ctv h' tk hx hge hlt hrec htb => ?_
    obtain ⟨c2, oc, vs, t, e2, hoc, hd, hv⟩ := hrec
    cases e2
    have nC : H c' = none := I.hok.fresh hge
    have I3 := LamX.inv_table (t' := tk) (q := X.env.qual ++ "<lambda>") (more := #[rawInt pos.line, rawInt pos.col, .ref c']) I hP (fun b o hb e => hx b o hb e) htb hge ⟨oc, vs, t, hoc, hd, hv⟩
    have hE : LamX.ExtN H (upd (upd H P (.tbl (ps ++ #[rawInt pos.line, rawInt pos.col, .ref c']))) c' (LamX.CodeO c' (X.env.qual ++ "<lambda>"))) := fun b o e n => by
      rw [upd_ne (ne_of_none e nC), upd_ne (fun z => n ps (Option.some.inj (e.symm.trans (by rw [z]; exact hP))))]
      exact e
    have eL : (ps ++ #[rawInt pos.line, rawInt pos.col, .ref c']).toList = ps.toList ++ [rawInt pos.line, rawInt pos.col, .ref c'] := by simp
    have hT4 : LamX.Tabs Γ.T (upd (upd H P (.tbl (ps ++ #[rawInt pos.line, rawInt pos.col, .ref c']))) c' (LamX.CodeO c' (X.env.qual ++ "<lambda>"))) := fun p hp => by
      by_cases hb : p.1 = P
      · rw [hu p hp hb, hb]
        refine ⟨_, by rw [upd_ne (ne_of_none hP nC), upd_same], by rw [eL]; exact PySem.TriplesOk_snoc _ _ _ _ ht, fun p' cv hcv => ?_⟩
        rw [eL] at hcv
        rcases LamX.among_app _ ht hcv with z | z
        · obtain ⟨c0, e1, e2⟩ := ha p' cv z
          exact ⟨c0, e1, hE _ _ e2 LamX.codeO_ne⟩
        · exact ⟨c', z, upd_same⟩
      · obtain ⟨ps', a1, a2, a3⟩ := rp.tabs p hp
        refine ⟨ps', by rw [upd_ne (ne_of_none a1 nC), upd_ne hb]; exact a1, a2, fun p' cv hcv => ?_⟩
        obtain ⟨c0, e1, e2⟩ := a3 p' cv hcv
        exact ⟨c0, e1, hE _ _ e2 LamX.codeO_ne⟩
    exact fin c' _ ctv h' tk _ I3 (Step.table hP nC) (rp.table hP nC hT4) upd_same (rp.fresh nC)
  | some cv =>
    obtain ⟨c', e, hco⟩ := ha pos cv hc
    subst e
    refine PySem.W.kla_makeFunctionHit (mg := X.mg) (c := c) (P := P) (ps := ps) (closure_ok (L.has I.ok)) I.ok.glob (I.mod.glob.keeps I.bk) hcode (TB.code.keeps I.bk) hP' ht hc bP fun ctv h' tk hx hsz => ?_
    refine fin c' _ ctv h' tk H (I.kept (t' := tk) hx) (Step.refl _ _) rp hco ⟨fun hm => ?_, fun hm => ?_⟩
    · obtain ⟨n, hn, e⟩ := List.getElem_of_mem hm
      obtain ⟨o, _, q⟩ := rp.at (n := n) (a := c') (by rw [List.getElem?_eq_getElem hn, e])
      obtain ⟨u, hu', z⟩ := RelOb.plain q
      exact z.noCode c' _ (by rw [hco] at hu'; exact (Option.some.inj hu').symm)
    · obtain ⟨_, u, hu', z⟩ := rp.fbs c' hm
      exact z.noCode c' _ (by rw [hco] at hu'; exact (Option.some.inj hu').symm)
end
/-! ### told(f) -/
/-- what is told of a lambda's body -/
def toldR (c : Nat) (txt : Str) : R D → R D
  | .ok v h => .ok v h
  | .exc c' h => if c' = c then .ok (.str txt) h else .bad
  | .bad => .bad
def mTold (c : Nat) (txt : Str) (bodies : Nat → M D) (a : M D) : M D := fun ls hs => (a ls hs).bind fun d h => match d with
  | .lam k => toldR c txt (bodies k ls h)
  | _ => .bad
/-- the lambdas of a def -/
structure LamRow where
  params : Arguments
  body : Expr
  scope : Scope
def lamsHO (q : Str) (cells : List (Str × Addr)) (rows : List LamRow) : Nat → Addr → Addr → HO := fun k f c => match rows[k]? with
  | some r => lamHO q r.params r.body r.scope (cloFrom cells r.scope.names []) f c
  | none => .ext fun _ => False
/-- x(), in told: Z is told's context, entered at s -/
theorem act_lam {X : Cx} {pins : List (Addr × Obj)} {σ : L2.St} {H : Hp} {s : Shared} {Eg : XK} {CXg : CXT} {Ng : List Str} {qg : Str} {sg : Scope} {g f c' : Addr} {cdg : Value} {params : Arguments} {body : Expr} {scope : Scope} {k i : Nat} {a : Str} {pn : List (Addr × Obj)} {xe : Value → Shared → Prop} {W : WX} {E : XK} {tb : TE} {p1 p2 : Pos}
    (I : Inv X pins σ H s) (L : LamX.LamS X.env.scope scope) 
    (hbind : ∀ (pm ctv : Value), bindArgs (PySem.W.kla_fn "<lambda>" (X.env.qual ++ "<lambda>") params body scope (cloFrom X.env.cells scope.names []) pm (.ref c') ctv) ⟨[], []⟩ = pure [])
    (tk : Takes ((cxOf CXg X.prog X.w X.K X.mg X.base Ng qg sg g cdg X.A X.stack s H Eg).tr pn xe) W) (hW : ∀ cls d σ' H', E cls d H' → W cls d σ' H') (hr : Room (k + 1) (X.A.deeper (envOfC qg sg s.heap.objs.size g cdg)))
    (hbody : ∀ (A : Around) (outer : List Env) (s : Shared) (H : Hp), Room k (A.deeper (LamX.lamEnv X scope s.heap.objs.size f c')) → PE (LamX.lamCx X A outer s H E scope f c') body tb)
    (hN : Ng[i]? = some a) (hv : Vis sg a) (hd : (a == ("__debug__" : Str)) = false := by decide) (hcd : (a == ("__classdict__" : Str)) = false := by decide) :
    PE ((cxOf CXg X.prog X.w X.K X.mg X.base Ng qg sg g cdg X.A X.stack s H Eg).tr pn xe) (.Call (.Name a p1) [] [] p2)
      (fun σZ HZ Q => σZ[i]? = some (some (.ref f)) ∧ HZ f = some (lamHO (X.env.qual ++ "<lambda>") params body scope (cloFrom X.env.cells scope.names []) f c') ∧ HZ c' = some (LamX.CodeO c' (X.env.qual ++ "<lambda>")) ∧ tb σ HZ Q) := by
  refine ⟨fun pinsZ sZ σZ HZ Q IZ h => ?_⟩
  obtain ⟨hs, hf, hc, ht⟩ := h
  refine wpAny_Call_Name_kw (thn ((pe_var (pos := p1) (i := i) hN hv hd hcd).run pinsZ sZ σZ HZ (fun v H1 => v = .ref f ∧ H1 = HZ) IZ ⟨.ref f, hs, rfl, rfl⟩) fun u s1 ⟨v, H1, I1, r1, q1⟩ => ?_)
  obtain ⟨ev, eH⟩ := q1
  subst ev
  rw [eH] at I1
  obtain rfl : u = Value.ref f := r1
  obtain ⟨⟨pm, ctv, of1⟩, _, _⟩ := I1.hok f _ hf
  refine PySem.W.callWith_F0 ⟨_, _, _, _, of1⟩ ?_
  have un : Un (frs X.stack) [] H HZ s.heap s1.heap := I1.base
  obtain ⟨⟨oc, vs, t, hoc, hdc, hvc⟩, _, _⟩ := I1.hok c' _ hc
  have rc : codeAny (model X.prog X.w) (X.A.deeper (envOfC qg sg s.heap.objs.size g cdg)) (.call (.ref f) ⟨[], []⟩) (CR (L2.CX X.prog X.w) (envOfC qg sg s.heap.objs.size g cdg :: X.stack) X.prog X.w HZ s1 Q E) s1 := by
    refine PySem.W.kla_callFunE hr.depth of1 rfl L.co L.gen rfl ⟨c', oc, vs, t, rfl, hoc, hdc, hvc⟩ ?_
    rw [hbind]
    refine wpAny_pure (wpAny_newFunctionEnv (fun y hy => (L.own y hy).2) (fun y hy => absurd hy (by simp)) (fun h₁ hns hsb => ⟨I1.nolimit.fresh _ hsb, ?_⟩) L.kind)
    show codeAny _ _ (.expr body (LamX.lamEnv X scope s1.heap.objs.size f c')) _ _
    have kp : ∀ b o, s1.heap.get? b = some o → h₁.get? b = some o := fun b o e => hsb.extBut b o (Nat.ne_of_lt (Heap.lt_size e)) (Heap.get?_push_of_some _ e)
    have J : Inv (LamX.lamCx X (X.A.deeper (envOfC qg sg s.heap.objs.size g cdg)) (envOfC qg sg s.heap.objs.size g cdg :: X.stack) s1 HZ E scope f c') [] σ HZ { s1 with heap := h₁, toks := s1.toks + ([] : List (Str × Value)).length } :=
      LamX.lam_start2 I L I1.env0 hr.hd un hns kp
    refine PySem.W.kla_codeExpr (wpAny_mono ((hbody _ _ s1 HZ (hr.deeper _)).run [] _ _ HZ Q J ht) (fun v s' hq => ?_) fun e s' hq => hq)
    obtain ⟨w', H', J', rv, q⟩ := hq
    exact ⟨w', H', J'.os, J'.bare, J'.base, J'.hok, rv, q⟩
  have hx : Passes (L2.CX X.prog X.w) ((cxOf CXg X.prog X.w X.K X.mg X.base Ng qg sg g cdg X.A X.stack s H Eg).tr pn xe) E := passes_call tk hW
  refine wpAny_call (codeAny_mono rc fun r s' hq => ?_)
  cases r with
  | error e => exact hx pinsZ σZ HZ s1 e s' I1 hq
  | ok fl =>
    cases fl with
    | ret u => exact I1.after hq
    | next => exact False.elim hq
    | brk => exact False.elim hq
    | cont => exact False.elim hq
end Fx

set_option Elab.async false
set_option linter.all false
set_option maxRecDepth 100000
set_option maxHeartbeats 1000000
namespace Fx
open PySem PySem.Spec PyProof.Rows L2

/-- the def _law_told, as the end finds it -/
structure ToldD (K : PySem.W.Frag) (mg : Str → Option Value) (st : Stmt) (CS : Addr) (ret : Str) : Prop where
  ex : ∃ (g : Addr) (oc : Value) (od : Option Addr) (kV doc pm : Value) (an : Option Addr) (cdv ct : Value) (osl : Array (Option Value)), mg "_law_told" = some (.ref g) ∧ PySem.W.keepIn K (.ref g) = true ∧
    K.lookup g = some ⟨oc, od, .func (PySem.W.fnOf "_law_told" "_law_told" (defArgs st) (defBody st) (defScope st) .none kV doc pm an cdv ct), osl⟩ ∧ PySem.W.codeIn K cdv "_law_told" = true ∧
    L2.Binds K (PySem.W.fnOf "_law_told" "_law_told" (defArgs st) (defBody st) (defScope st) .none kV doc pm an cdv ct) ["what"] []
  sc : FnScope ["what"] ["what"] (defScope st)
  vis : Vis (defScope st) "what"
  gives : ∀ (X : Cx), X.K = K → X.mg = mg → ∀ (g : Addr) (cdg : Value) (q : Str), LamX.GivesTo X ["what"] "_law_told" (defScope st) g cdg (defBody st) "what" q (LamX.TTold K CS ret)
  exm : PySem.W.exmOne K (.ref CS) (.ref CS) = some true
/-- the bodies of a def's lambdas -/
def LamBs (X : Cx) (Γ : Sta) (kk : Nat) (rows : List LamRow) (bodies : Nat → M D) : Prop := ∀ (k : Nat) (r : LamRow), rows[k]? = some r → LamX.LamS X.env.scope r.scope ∧
  (∀ (q : Str) (cl : List (Str × Addr)) (pm cv ctv : Value), bindArgs (PySem.W.kla_fn "<lambda>" q r.params r.body r.scope cl pm cv ctv) ⟨[], []⟩ = pure []) ∧
  ∀ (A : Around) (outer : List Env) (s : Shared) (H : Hp) (E : XK) (f c' : Addr), Room kk (A.deeper (LamX.lamEnv X r.scope s.heap.objs.size f c')) → FE (LamX.lamCx X A outer s H E r.scope f c') Γ E r.body (bodies k)
section
variable {X : Cx} {Γ : Sta} {pins : List (Addr × Obj)} {σ : L2.St} {H : Hp} {s : Shared}
theorem told_at {st : Stmt} {CS : Addr} {ret : Str} {c kk : Nat} {rows : List LamRow} {bodies : Nat → M D} {ι : Ix} {ls : LS} {hs : HS} {k : Nat} {v : V} {Q : VK} (TD : ToldD X.K X.mg st CS ret) (hcls : Γ.cls c = CS) (hlam : Γ.lam = lamsHO (X.env.qual ++ "<lambda>") X.env.cells rows) (hlq : Γ.lq = X.env.qual ++ "<lambda>")
    (LB : LamBs X Γ kk rows bodies) (hr : Room (kk + 2) X.A) (I : Inv X pins σ H s) (rp : Rep Γ ι hs H) (rl : RelL Γ ι H ls σ) (rd : RelD Γ ι H (.lam k) v)
    (sat : (toldR c ret (bodies k ls hs)).Sat (PostV Γ ι H Q) fun _ _ => False) :
    ∃ g f, v = .ref f ∧ X.mg "_law_told" = some (.ref g) ∧ PySem.W.keepIn X.K (.ref g) = true ∧ codeAny (model X.prog X.w) X.A (.call (.ref g) ⟨[.ref f], []⟩) (CR C8.CX0 X.stack X.prog X.w H s Q C8.E0) s := by
  obtain ⟨g, oc, od, kV, doc, pm, an, cdv, ct, osl, hm, hk, lk, hcg, hb⟩ := TD.ex
  cases rd with
  | @lam _ f c' n nc h hc nt =>
  rw [hlam] at h
  unfold lamsHO at h
  cases hrow : rows[k]? with
  | none =>
    rw [hrow] at h
    exact absurd (I.hok f _ h).1 (fun z => z)
  | some r =>
  rw [hrow] at h
  obtain ⟨L, hbind, hbody⟩ := LB k r hrow
  rw [hlq] at hc
  refine ⟨g, f, rfl, hm, hk, ?_⟩
  refine LamX.run_ofS (N := ["what"]) (ps := ["what"]) (us := [.ref f]) (vs := [.ref f]) lk hcg TD.sc hr I.env0 (hb s [.ref f] I.kIn rfl) (.cons rfl .nil) rfl fun hr' => ?_
  have htt : LamX.TTold X.K CS ret (fun E HZ Q' => HZ f = some (lamHO (X.env.qual ++ "<lambda>") r.params r.body r.scope (cloFrom X.env.cells r.scope.names []) f c') ∧ tF Γ E (bodies k) σ HZ Q') H Q := by
    refine ⟨h, ι, ls, hs, rp, rl, ?_⟩
    unfold toldR at sat
    cases eb : bodies k ls hs with
    | ok w h' => rw [eb] at sat; exact sat
    | bad => rw [eb] at sat; exact sat.elim
    | exc c2 h' =>
      rw [eb] at sat
      simp only at sat
      split at sat
      · rename_i e
        subst e
        intro ι' H' st' rp'
        refine ⟨true, ?_, fun _ => sat ι' H' _ st' rp' (.str _), fun z => by cases z⟩
        rw [hcls]
        exact TD.exm
      · exact sat.elim
  have gv := TD.gives X rfl rfl g cdv (X.env.qual ++ "<lambda>") f c' s H Q (fun E HZ Q' => HZ f = some (lamHO (X.env.qual ++ "<lambda>") r.params r.body r.scope (cloFrom X.env.cells r.scope.names []) f c') ∧ tF Γ E (bodies k) σ HZ Q')
    (fun W pn xe E p1 p2 tk hW => PE.weak (act_lam (f := f) (c' := c') (i := 0) I L (fun pm ctv => hbind _ _ _ _ _) tk hW hr' (fun A outer s H hr2 => hbody A outer s H E f c' hr2) rfl TD.vis) fun σZ HZ Q' ⟨a1, a2, a3, a4⟩ => ⟨a1, a3, a2, a4⟩) hc htt
  obtain ⟨t', ht', hq'⟩ := gv
  exact ⟨t', ht'.nox, hq'⟩
theorem fe_told {E : XK} {a : Expr} {ma : M D} {p pos : Pos} {st : Stmt} {CS : Addr} {ret : Str} {c kk k' : Nat} {rows : List LamRow} {bodies : Nat → M D} (TD : ToldD X.K X.mg st CS ret) (hcls : Γ.cls c = CS) (hlam : Γ.lam = lamsHO (X.env.qual ++ "<lambda>") X.env.cells rows) (hlq : Γ.lq = X.env.qual ++ "<lambda>")
    (LB : LamBs X Γ kk rows bodies) (hr : Room k' X.A) (ha : FE X Γ E a ma) (hk : kk + 2 ≤ k' := by decide) (hg : Gl X "_law_told" := by rfl) (he : starEach [a] X.env = (false, eval a X.env) :: starEach [] X.env := by rfl) (hpl : (backTo pos (starEach [] X.env)).any (·.1) = false := by rfl) :
    FE X Γ E (.Call (.Name "_law_told" p) [a] [] pos) (mTold c ret bodies ma) := by
  refine ⟨fun pins s σ H Q I ⟨ι, ls, hs, rp, rl, sat⟩ => ?_⟩
  obtain ⟨g, _, _, _, _, _, _, _, _, _, hm, hkp, _⟩ := TD.ex
  refine wpAny_Call_Name_kw (ld_glob I hg hm ?_ (by decide))
  refine PySem.W.callWith_K (h₀ := X.base) I.ok.mod.kin hkp ?_ he hpl
  rw [he]
  show wpAny _ _ (spliced ((false, eval a X.env) :: backTo pos (starEach [] X.env))) _ _ s
  refine Calls.spliced_cons (thn (ha.run pins s σ H (fun v H1 => ∃ ι1 h1 k, Step ι H ι1 H1 ∧ Rep Γ ι1 h1 H1 ∧ RelD Γ ι1 H1 (.lam k) v ∧ (toldR c ret (bodies k ls h1)).Sat (PostV Γ ι1 H1 Q) fun _ _ => False) I ⟨ι, ls, hs, rp, rl, ?_⟩) fun u s1 ⟨v, H1, I1, rv, q1⟩ => ?_)
  · refine sat.of_bind.mono (fun d h1 q ι1 H1 v st1 rp1 rd => ?_) fun _ _ e => e
    cases d with
    | lam k =>
      refine ⟨ι1, h1, k, st1, rp1, rd, ?_⟩
      have q : (toldR c ret (bodies k ls h1)).Sat (PostV Γ ι H Q) (PostX Γ ι H E) := q
      cases et : toldR c ret (bodies k ls h1) with
      | ok w h2 => rw [et] at q; exact PostV.on q st1
      | bad => rw [et] at q; exact q.elim
      | exc c2 h2 =>
        exfalso
        unfold toldR at et
        split at et
        · cases et
        · split at et <;> cases et
        · cases et
    | _ => exact q.elim
  · obtain ⟨ι1, h1, k, st1, rp1, rd, q⟩ := q1
    obtain ⟨g', f, ev, hm', hk', rc⟩ := told_at TD hcls hlam hlq LB (hr.mono hk) I1 rp1 (rp.relL st1 rl) rd q
    rw [hm] at hm'
    cases hm'
    subst ev
    obtain rfl : u = Value.ref f := rv
    refine Calls.spliced_nil ⟨I1.kIn, ?_⟩
    refine wpAny_call (codeAny_mono rc fun r s2 hq => ?_)
    cases r with
    | error e => exact (show False from hq).elim
    | ok fl =>
      cases fl with
      | ret u => exact I1.after hq
      | next => exact False.elim hq
      | brk => exact False.elim hq
      | cont => exact False.elim hq
end
end Fx

set_option Elab.async false
set_option linter.all false
set_option maxRecDepth 100000
set_option maxHeartbeats 1000000
namespace Fx
open PySem PySem.Spec PyProof.Rows L2

/-! ### told in a comprehension -/
/-- where a block of the def's starts -/
structure At (X : Cx) (pins : List (Addr × Obj)) (σ : L2.St) (H : Hp) (s : Shared) (fp : List Addr) : Prop where
  inv : Inv X pins σ H s
  fps : ∀ b ∈ fp, FpOk X pins H b ∧ b < s.heap.objs.size
section
variable {X : Cx} {pins pins' : List (Addr × Obj)} {σ σ' : L2.St} {H H' : Hp} {s s' : Shared} {fp : List Addr} {scope : Scope} {ce : Env}
theorem At.back (B : At X pins σ H s fp) (J : Inv (X.blk s H scope ce fp) pins' σ' H' s') : Inv X pins σ H' s' :=
  B.inv.call' (ch := fp) J.os J.base J.hok J.bare fun b hb => ⟨(B.fps b hb).1.2.2.2.1, (B.fps b hb).1.2.1, (B.fps b hb).1.2.2.2.2.1, (B.fps b hb).1.2.2.2.2.2⟩
/-- the block's own names aside, the def's locals are as they were -/
def tW (own : List Nat) (σ : L2.St) (t : TE) : TE := fun σ2 H Q => wipe σ2 own = wipe σ own ∧ t σ2 H Q
def mToldB (own : List Nat) (c : Nat) (txt : Str) (bodies : Nat → M D) (a : M D) : M D := fun ls hs => (a ls hs).bind fun d h => match d with
  | .lam k => toldR c txt (bodies k (wipeL ls own) h)
  | _ => .bad
theorem RelL.unwipe {Γ : Sta} {ι : Ix} {H : Hp} {ls : LS} {σ2 σ : L2.St} {own : List Nat} (r : RelL Γ ι H ls σ2) (e : L2.wipe σ2 own = L2.wipe σ own) : RelL Γ ι H (wipeL ls own) σ := by
  have r2 := RelL.wipe r own
  rw [e] at r2
  refine ⟨by rw [r2.1, wipe_length], fun i d q => ?_⟩
  obtain ⟨v, h1, h2⟩ := r2.2 i d q
  exact ⟨v, (wipe_some h1).1, h2⟩
variable {Γ : Sta} {E : XK}
theorem pe_toldB {a : Expr} {ma : M D} {p pos : Pos} {st : Stmt} {CS : Addr} {ret : Str} {c kk k' : Nat} {rows : List LamRow} {bodies : Nat → M D} {own : List Nat} (B : At X pins σ H s fp) (TD : ToldD X.K X.mg st CS ret) (hcls : Γ.cls c = CS) (hlam : Γ.lam = lamsHO (X.env.qual ++ "<lambda>") X.env.cells rows) (hlq : Γ.lq = X.env.qual ++ "<lambda>")
    (LB : LamBs X Γ kk rows bodies) (hr : Room k' X.A) (ha : FE (X.blk s H scope ce fp) Γ E a ma) (hk : kk + 2 ≤ k' := by decide) (hg : Gl (X.blk s H scope ce fp) "_law_told" := by rfl) (he : starEach [a] ce = (false, eval a ce) :: starEach [] ce := by rfl) (hpl : (backTo pos (starEach [] ce)).any (·.1) = false := by rfl) :
    PE (X.blk s H scope ce fp) (.Call (.Name "_law_told" p) [a] [] pos) (tW own σ (tF Γ E (mToldB own c ret bodies ma))) := by
  refine ⟨fun pl s5 σ5 H5 Q I ⟨ew, ι, ls, hs, rp, rl, sat⟩ => ?_⟩
  obtain ⟨g, _, _, _, _, _, _, _, _, _, hm, hkp, _⟩ := TD.ex
  refine wpAny_Call_Name_kw (ld_glob I hg hm ?_ (by decide))
  refine PySem.W.callWith_K (h₀ := X.base) I.ok.mod.kin hkp ?_ he hpl
  rw [he]
  show wpAny _ _ (spliced ((false, eval a ce) :: backTo pos (starEach [] ce))) _ _ s5
  refine Calls.spliced_cons (thn (ha.run pl s5 σ5 H5 (fun v H1 => ∃ ι1 h1 k, Step ι H5 ι1 H1 ∧ Rep Γ ι1 h1 H1 ∧ RelD Γ ι1 H1 (.lam k) v ∧ (toldR c ret (bodies k (wipeL ls own) h1)).Sat (PostV Γ ι1 H1 Q) fun _ _ => False) I ⟨ι, ls, hs, rp, rl, ?_⟩) fun u s1 ⟨v, H1, I1, rv, q1⟩ => ?_)
  · refine sat.of_bind.mono (fun d h1 q ι1 H1 v st1 rp1 rd => ?_) fun _ _ e => e
    cases d with
    | lam k =>
      refine ⟨ι1, h1, k, st1, rp1, rd, ?_⟩
      have q : (toldR c ret (bodies k (wipeL ls own) h1)).Sat (PostV Γ ι H5 Q) (PostX Γ ι H5 E) := q
      cases et : toldR c ret (bodies k (wipeL ls own) h1) with
      | ok w h2 => rw [et] at q; exact PostV.on q st1
      | bad => rw [et] at q; exact q.elim
      | exc c2 h2 =>
        exfalso
        unfold toldR at et
        split at et
        · cases et
        · split at et <;> cases et
        · cases et
    | _ => exact q.elim
  · obtain ⟨ι1, h1, k, st1, rp1, rd, q⟩ := q1
    obtain ⟨g', f, ev, hm', hk', rc⟩ := told_at TD hcls hlam hlq LB (hr.mono hk) (B.back I1) rp1 (RelL.unwipe (rp.relL st1 rl) ew) rd q
    have hm : X.mg "_law_told" = some (.ref g) := hm
    rw [hm] at hm'
    cases hm'
    subst ev
    obtain rfl : u = Value.ref f := rv
    refine Calls.spliced_nil ⟨I1.kIn, ?_⟩
    refine wpAny_call (codeAny_mono rc fun r s2 hq => ?_)
    cases r with
    | error e => exact (show False from hq).elim
    | ok fl =>
      cases fl with
      | ret u => exact I1.after hq
      | next => exact False.elim hq
      | brk => exact False.elim hq
      | cont => exact False.elim hq
/-- told(x) compared, as a comprehension's test -/
def tWT (own : List Nat) (σ : L2.St) (t : TT) : TT := fun σ2 H Q => wipe σ2 own = wipe σ own ∧ t σ2 H Q
theorem pts_told {Y : Cx} {a b : Expr} {ma mb : M D} {op : CmpOp} {r : R2} {f : HS → D → D → Option D} {own : List Nat} {pos : Pos} (ho : OpR Y (compareOp op) r) (hs : OpS Γ r f) (ha : PE Y a (tW own σ (tF Γ E ma))) (hb : FE Y Γ E b mb)
    (hm : behindInMarks op b = false := by first | exact nobehind _ (by decide) (by decide) | rfl) : PTs Y [.Compare a [op] [b] pos] (tWT own σ (tFT Γ E (mTest (mBin f ma mb)))) :=
  pts_one (PT.weak (pt_cmpR ho ha hb hm) fun σ2 H Q ⟨e, h⟩ => ⟨e, test_t (fun _ _ _ q => bin_t hs q) h⟩)
end
/-- a list comprehension whose tests may be told of the def's state where the block starts -/
theorem fl_lcT {X : Cx} {Γ : Sta} {E : XK} {tg elt iter : Expr} {ifs : List Expr} {scope : Scope} {own : List (Str × Nat)} {mi : MI} {g : MG} {mt : M Bool} {me : M D} {pos : Pos} (hc : X.calm = true) (hN : X.N.Nodup) (hi : FI X Γ E tg iter mi) (ok : BlkOk X.N X.env.scope scope own)
    (hg : ∀ (s : Shared) (H : Hp) (C : Addr) (cl : List (Str × Addr)) (fp : List Addr), FG (X.blk s H scope (compEnvC scope cl C X.env) fp) Γ tg g)
    (ht : ∀ (pins : List (Addr × Obj)) (σ : L2.St) (s : Shared) (H : Hp) (C : Addr) (cl : List (Str × Addr)) (fp : List Addr), At X pins σ H s fp → PTs (X.blk s H scope (compEnvC scope cl C X.env) fp) ifs (tWT (own.map (·.2)) σ (tFT Γ E0 mt)))
    (he : ∀ (s : Shared) (H : Hp) (C : Addr) (cl : List (Str × Addr)) (fp : List Addr), FE (X.blk s H scope (compEnvC scope cl C X.env) fp) Γ E0 elt me)
    (hs : ∀ x, foldedSetIterable iter X.env x = pure x := by intro _; rfl) : FL X Γ E (.ListComp elt [⟨tg, iter, ifs, 0⟩] scope pos) (mLc (own.map (·.2)) mi g mt me) := by
  refine ⟨fun pins s σ H Q I h => ?_⟩
  rw [eval_ListComp]
  obtain ⟨ι, ls, hs0, rp, rl, sat⟩ := h
  have hfree : ∀ y ∈ scope.names, y.2 = .free → ∃ c, X.env.cells.lookup y.1 = some c := fun y hy e => I.ok.has _ (ok.free y hy e)
  have run := hi.run pins s σ H (fun J H2 => ∃ p h1 ι1, (lcD (own.map (·.2)) g mt me p.2 h1 (wipeL ls (own.map (·.2))) p.1 [] h1).Sat (PostL Γ ι1 H2 Q) (PostX Γ ι1 H2 E) ∧ Step ι H ι1 H2 ∧ Rep Γ ι1 h1 H2 ∧ WalkD Γ J ι1 H2 h1 p.1 p.2) I
    ⟨ι, ls, hs0, rp, rl, sat.of_bind.mono (fun p h1 s1 ι1 H1 J st1 rp1 wk => ⟨p, h1, ι1, s1.mono (fun _ _ z => PostL.on z st1) fun _ _ z => PostX.on z st1, st1, rp1, wk⟩) fun _ _ e => e⟩
  refine wpAny_comprehension_free (use := none) rfl hs (closure_ok hfree) ok.kind (fun y hy e => by rw [ok.uniq y hy, e]) (thn run fun xv s1 hx => thn hx fun itv s2 h2 => ?_)
  obtain ⟨it, fp, tn, J, H2, e, I2, T, st2, f2, p, h1, ι1, sat1, st1, rp1, wk⟩ := h2
  subst e
  refine wpAny_newObj_type (newEnv_comp ?_) (by show 0 ≤ sizeLine; decide)
  -- the new list stands at the next place
  generalize hL : s2.heap.objs.size = L
  have nL : H2 L = none := I2.hok.fresh (Nat.le_of_eq hL)
  obtain ⟨W, ⟨m0, w0⟩, turn⟩ := lc_sat wk rp1 (rp.relL st1 rl) sat1 L nL
  generalize hsa : ({ s2 with heap := s2.heap.push { cls := .type "list", data := .seq ([] : List Value).toArray } } : Shared) = sa
  have ha : sa.heap = s2.heap.push { cls := .type "list", data := .seq ([] : List Value).toArray } := by rw [← hsa]
  have Ia : Inv X pins σ (upd H2 L (.lst [])) sa := by
    rw [← hsa]
    exact I2.laid (t' := s2.toks) (fun b o e => Heap.get?_push_of_some _ e) (Nat.le_of_eq hL) ⟨Nat.zero_le _, [], 0, .nil, by rw [← hL]; exact Heap.get?_push_size _ rfl⟩
  have keepA : ∀ b ∈ fp, ∀ o, s2.heap.get? b = some o → sa.heap.get? b = some o := fun b _ o e => by rw [ha]; exact Heap.get?_push_of_some _ e
  have B : At X pins σ (upd H2 L (.lst [])) sa fp := ⟨Ia, fun b hb => by
    obtain ⟨o, e, _⟩ := T.obj _ _ st2 b hb
    have lt := Heap.lt_size e
    exact ⟨⟨by rw [upd_ne (by rw [← hL]; exact Nat.ne_of_lt lt)]; exact (f2 b hb).1, (f2 b hb).2⟩, by rw [ha, Heap.size_push]; exact Nat.lt_succ_of_lt lt⟩⟩
  have sta := T.keep _ _ _ st2 keepA
  have J0 := block_start Ia ok hN B.fps
  have pg := hg sa (upd H2 L (.lst [])) sa.heap.objs.size (cellsFrom (sa.heap.objs.size + 1) scope.names (cloFrom X.env.cells scope.names [])) fp
  have pt := ht pins σ sa (upd H2 L (.lst [])) sa.heap.objs.size (cellsFrom (sa.heap.objs.size + 1) scope.names (cloFrom X.env.cells scope.names [])) fp B
  have pe := he sa (upd H2 L (.lst [])) sa.heap.objs.size (cellsFrom (sa.heap.objs.size + 1) scope.names (cloFrom X.env.cells scope.names [])) fp
  show codeAny _ _ (.compStart (.ListComp elt [⟨tg, iter, ifs, 0⟩] scope pos) 0 (.ref it) (.ref L) (compEnvC scope (cellsFrom (sa.heap.objs.size + 1) scope.names (cloFrom X.env.cells scope.names [])) sa.heap.objs.size X.env)) (compPost (model X.prog X.w) X.A X.xe none (EP X pins σ Q) (.ref L) sa.heap.objs.size) { sa with heap := pushCells (sa.heap.push { cls := .type "dict", data := .dict #[] }) scope.names }
  obtain ⟨ce, hce⟩ : ∃ ce, compEnvC scope (cellsFrom (sa.heap.objs.size + 1) scope.names (cloFrom X.env.cells scope.names [])) sa.heap.objs.size X.env = ce := ⟨_, rfl⟩
  have cL : ce.locals = sa.heap.objs.size := by rw [← hce]; rfl
  rw [hce] at J0 pg pt pe ⊢
  obtain ⟨sb, hsb⟩ : ∃ sb : Shared, ({ sa with heap := pushCells (sa.heap.push { cls := .type "dict", data := .dict #[] }) scope.names } : Shared) = sb := ⟨_, rfl⟩
  rw [hsb] at J0 ⊢
  have stb : tn 0 sb.heap := T.keep _ _ _ sta fun b _ o e => by rw [← hsb]; exact pushCells_keeps _ _ _ _ (Heap.get?_push_of_some _ e)
  -- the iterator's objects, in the block
  have itOk : ∀ {σ' : L2.St} {H' : Hp} {s' : Shared}, Inv (X.blk sa (upd H2 L (.lst [])) scope ce fp) [] σ' H' s' → (∀ b ∈ fp, H' b = none) → ∀ b ∈ fp, FpOk (X.blk sa (upd H2 L (.lst [])) scope ce fp) [] H' b := fun {σ' H' s'} J hn b hb =>
    ⟨hn b hb, (J.ok.exf b hb).1, J.ok.exfs b hb, .inl hb, fun x c e => (J.ok.exf b hb).2 x c e, fun p hp => absurd (show p ∈ ([] : List (Addr × Obj)) ++ [] from hp) (by simp)⟩
  have loop : codeAny (model X.prog X.w) X.A (.compLoop (.ListComp elt [⟨tg, iter, ifs, 0⟩] scope pos) 0 (.ref it) (.ref L) ce) (compPost (model X.prog X.w) X.A X.xe none (EP X pins σ Q) (.ref L) sa.heap.objs.size) sb := by
    refine compLoop_any (fun n s' => ∃ i H', Inv (X.blk sa (upd H2 L (.lst [])) scope ce fp) [] (L2.wipe σ (own.map (·.2))) H' s' ∧ tn i s'.heap ∧ (∀ b ∈ fp, H' b = none) ∧ W i n H') ?_ m0 ⟨0, _, J0, stb, fun b hb => (B.fps b hb).1.1, w0⟩
    rintro n s5 ⟨i, H5, J5, st5, n5, w5⟩
    rcases turn i n H5 w5 with ⟨stop, qq⟩ | ⟨go, Nx, hNx, step⟩
    · refine thnF (T.done (X.blk sa (upd H2 L (.lst [])) scope ce fp) rfl rfl rfl hc i [] s5 _ H5 (fun _ _ => False) J5 (itOk J5 n5) st5 stop) fun r s6 ⟨hr, J6⟩ => ?_
      subst hr
      obtain ⟨m, hn, _⟩ := J6.loc
      have hn : s6.heap.Ns ce.locals m := hn
      have nC : H5 ce.locals = none := J6.free
      rw [cL] at hn nC
      obtain ⟨f0, f1, f2, f3, f4, f5⟩ := Ia.fpOk (Nat.le_refl _) nC
      exact ⟨m, hn, fun h9 sb9 => ⟨.ref L, H5, (B.back J6).turned (t' := s6.toks) (fun b o hb e => (sb9.2 b hb).trans e) f0 f1 f3 f4 f5, rfl, qq⟩⟩
    · refine thnF (T.item (X.blk sa (upd H2 L (.lst [])) scope ce fp) rfl rfl rfl hc i [] s5 _ H5 (fun _ _ => False) J5 (itOk J5 n5) st5 go) fun r s6 ⟨u, hr, h6⟩ => ?_
      subst hr
      refine thnF h6 fun _ s7 ⟨x, H7, J7, r7, y7, st7, n7⟩ => ?_
      have pinned := J7.pinned (itOk J7 n7) (T.obj _ _ st7)
      have over : ∀ {s' : Shared} {H' : Hp} {σ8 : L2.St}, L2.wipe σ8 (own.map (·.2)) = L2.wipe σ (own.map (·.2)) → Inv (X.blk sa (upd H2 L (.lst [])) scope ce fp) ([] ++ pinsAt fp s7.heap) σ8 H' s' → Nx H' →
          ∃ m, m < n ∧ ∃ i H', Inv (X.blk sa (upd H2 L (.lst [])) scope ce fp) [] (L2.wipe σ (own.map (·.2))) H' s' ∧ tn i s'.heap ∧ (∀ b ∈ fp, H' b = none) ∧ W i m H' := fun {s' H' σ8} ew J' nx => by
        have same : ∀ b ∈ fp, ∀ o, s7.heap.get? b = some o → s'.heap.get? b = some o ∧ H' b = none := fun b hb o e =>
          have z := J'.pin (b, o) (List.mem_append_right _ (List.mem_append_right _ (mem_pinsAt hb e)))
          ⟨z.1, z.2.1⟩
        obtain ⟨m', lt, w'⟩ := hNx H' nx
        refine ⟨m', lt, i + 1, H', (J'.unpinned (pins := [])).weak (by rw [← ew, wipe_length]) fun j v e => by rw [← ew] at e; exact (wipe_some e).1, T.keep _ _ _ st7 fun b hb o e => (same b hb o e).1, fun b hb => ?_, w'⟩
        obtain ⟨o, e, _⟩ := T.obj _ _ st7 b hb
        exact (same b hb o e).2
      refine thnF (pg.run _ s7 _ H7 x u _ pinned r7 (step x H7 y7)) fun _ s8 ⟨σ8, H8, J8, ew, q8⟩ => ?_
      refine thnF (pt.run _ s8 σ8 H8 _ J8 ⟨ew, q8⟩) fun b s9 ⟨H9, J9, q9⟩ => ?_
      cases b with
      | false => exact over ew J9 q9
      | true => exact thnF (pe.run _ s9 σ8 H9 _ J9 q9) fun z s10 ⟨yv, H10, J10, r10, acc, a1, a2, nx⟩ => app_ok (X := X.blk sa (upd H2 L (.lst [])) scope ce fp) J10 a1 a2 r10 fun s11 J11 => over ew J11 nx
  exact codeAny_compStart_list loop (T.self X.A 0 _ _ _ stb loop)
end Fx

set_option Elab.async false
set_option linter.all false
set_option maxRecDepth 100000
set_option maxHeartbeats 1000000
namespace Fx
open PySem PySem.Spec PyProof.Rows L2

/-! ### dict displays -/
def mPairs : List (M D × M D) → M (List (Key × D))
  | [] => fun _ hs => .ok [] hs
  | p :: r => fun ls hs => (p.1 ls hs).nox.bind fun k h1 => (p.2 ls h1).nox.bind fun v h2 => (mPairs r ls h2).nox.bind fun ps h3 => match k.key with
    | some k => .ok ((k, v) :: ps) h3
    | none => .bad
def mergeD (kvs more : List (Key × D)) : List (Key × D) := more.foldl (fun acc p => putD acc p.1 p.2) kvs
def mDisp (ps : List (M D × M D)) : M D := fun ls hs => (mPairs ps ls hs).nox.bind fun kvs h => .ok (.ref h.length) (h ++ [.dct false (mergeD [] kvs)])
abbrev FPs (X : Cx) (Γ : Sta) (E : XK) (pos : Pos) (keys : List (Option Expr)) (values : List Expr) (ps : List (M D × M D)) : Prop := PPs X pos keys values (ps.map fun p => (tF Γ E p.1, tF Γ E p.2))
section
variable {X : Cx} {Γ : Sta} {E : XK} {pos : Pos}
theorem fps_nil : FPs X Γ E pos [] [] [] := pps_nil
theorem fps_cons {k v : Expr} {ks : List (Option Expr)} {vs : List Expr} {mk mv : M D} {ps : List (M D × M D)} (hk : FE X Γ E k mk) (hv : FE X Γ E v mv) (hr : FPs X Γ E pos ks vs ps) : FPs X Γ E pos (some k :: ks) (v :: vs) ((mk, mv) :: ps) := pps_cons hk hv hr
theorem R.nox_ok {α β : Type} {r : R α} {f : α → HS → R β} {Q : β → HS → Prop} {E : Nat → HS → Prop} (h : (r.nox.bind f).Sat Q E) : ∃ a h1, r = .ok a h1 ∧ (f a h1).Sat Q E := by
  cases r with
  | ok a h1 => exact ⟨a, h1, rfl, h⟩
  | exc c h1 => exact h.elim
  | bad => exact h.elim
theorem pairs_t {ls : LS} {σ : L2.St} : ∀ (ps : List (M D × M D)) {ι : Ix} {hs : HS} {H : Hp} {Q : List (V × V) → Hp → Prop} {kvs : List (Key × D)} {h' : HS}, Rep Γ ι hs H → RelL Γ ι H ls σ → mPairs ps ls hs = .ok kvs h' →
    (∀ ι' H' kvs', Step ι H ι' H' → Rep Γ ι' h' H' → PK' Γ ι' H' kvs kvs' → Q (kvs'.map fun kv => (kV kv.1, kv.2)) H') → tPairs (ps.map fun p => (tF Γ E p.1, tF Γ E p.2)) σ H Q
  | [], ι, hs, H, Q, _, _, rp, rl, e, q => by
    cases e
    exact q ι H [] (Step.refl _ _) rp .nil
  | (mk, mv) :: r, ι, hs, H, Q, kvs, h', rp, rl, e, q => by
    have sat : (mPairs ((mk, mv) :: r) ls hs).Sat (fun a b => a = kvs ∧ b = h') fun _ _ => False := by rw [e]; exact ⟨rfl, rfl⟩
    obtain ⟨k, h1, e1, sat⟩ := R.nox_ok sat
    obtain ⟨v, h2, e2, sat⟩ := R.nox_ok sat
    obtain ⟨ps, h3, e3, sat⟩ := R.nox_ok sat
    cases ek : k.key with
    | none => rw [ek] at sat; exact sat.elim
    | some k' =>
    rw [ek] at sat
    obtain ⟨f1, f2⟩ : (k', v) :: ps = kvs ∧ h3 = h' := sat
    subst f1 f2
    refine ⟨ι, ls, hs, rp, rl, ?_⟩
    rw [e1]
    intro ι1 H1 x st1 rp1 rk
    refine ⟨ι1, ls, h1, rp1, rp.relL st1 rl, ?_⟩
    rw [e2]
    intro ι2 H2 y st2 rp2 rv
    refine pairs_t r rp2 (rp1.relL st2 (rp.relL st1 rl)) e3 fun ι3 H3 kvs' st3 rp3 pk => ?_
    have := q ι3 H3 ((k', y) :: kvs') ((st1.trans st2).trans st3) rp3 (.cons ⟨rfl, rp2.relD st3 rv⟩ pk)
    rw [List.map_cons, ← key_rel rk ek] at this
    exact this
theorem merge_rel {ι : Ix} {H : Hp} : ∀ {more : List (Key × D)} {more' : List (Key × V)} {kvs : List (Key × D)} {kvs' : List (Key × V)}, PK' Γ ι H more more' → PK' Γ ι H kvs kvs' → PK' Γ ι H (mergeD kvs more) (mergeK kvs' more')
  | _, _, _, _, .nil, r => r
  | _, _, _, _, .cons (a := p) (b := q) e t, r => by
    have := put_rel r (k := p.1) e.2
    unfold mergeD mergeK
    rw [List.foldl_cons, List.foldl_cons, ← e.1]
    exact merge_rel t this
theorem fe_disp {keys : List (Option Expr)} {values : List Expr} {ps : List (M D × M D)} (h : FPs X Γ E pos keys values ps) (hall : keys.all (·.isSome) = true := by rfl) (hl : keys.length = values.length := by rfl) (h0 : keys ≠ [] := by simp)
    (h15 : keys.length ≤ 15 := by decide) (hp : ps.length ≤ 15 := by decide) : FE X Γ E (.Dict keys values pos) (mDisp ps) := PE.weak (pe_disp h hall hl h0 h15) fun σ H Q ⟨ι, ls, hs, rp, rl, sat⟩ p hpn => by
  obtain ⟨kvs, h1, e, sat⟩ := R.nox_ok sat
  have rpB := Rep.enter (o := HO.dK []) trivial rp hpn
  have stB := Step.enter (ι := ι) (H := H) (o := HO.dK []) hpn
  have hid : hide (upd H p (.dK [])) p = H := by rw [hide_upd, hide_none hpn]
  have lenP : ∀ (ps : List (M D × M D)) (hs : HS) (kvs : List (Key × D)) (h1 : HS), mPairs ps ls hs = .ok kvs h1 → kvs.length = ps.length := by
    intro ps
    induction ps with
    | nil => intro hs kvs h1 e; cases e; rfl
    | cons p r ih =>
      intro hs kvs h1 e
      have sat : (mPairs (p :: r) ls hs).Sat (fun a b => a = kvs ∧ b = h1) fun _ _ => False := by rw [e]; exact ⟨rfl, rfl⟩
      obtain ⟨k, h1, e1, sat⟩ := R.nox_ok sat
      obtain ⟨v, h2, e2, sat⟩ := R.nox_ok sat
      obtain ⟨ps, h3, e3, sat⟩ := R.nox_ok sat
      cases ek : k.key with
      | none => rw [ek] at sat; exact sat.elim
      | some k' =>
      rw [ek] at sat
      have f1 : (k', v) :: ps = kvs := sat.1
      rw [← f1, List.length_cons, List.length_cons, ih _ _ _ e3]
  refine pairs_t ps rpB (rp.relL stB rl) e fun ι' H' kvs' st' rp' pk => ?_
  have at' : H' p = some (.dK []) := st'.keep p _ upd_same (rp.fresh hpn).l (by intro ps q; cases q)
  have hf : p ∈ ι'.fb := by
    obtain ⟨e, f, he, _, _⟩ := st'.ext
    rw [he]
    exact List.mem_append_right _ (List.mem_cons_self ..)
  have stL : Step ι H (ι'.unban p) (hide H' p) := Step.leave hpn (rp.fresh hpn).fb st'
  have rpL : Rep Γ (ι'.unban p) h1 (hide H' p) := rp'.leave at' trivial hf
  have pkL : PK' Γ (ι'.unban p) (hide H' p) kvs kvs' := Paired.imp (fun _ _ z => ⟨z.1, z.2.leave at' trivial hf⟩) pk
  refine ⟨at', kvs', rfl, by rw [← Paired.length pk, lenP ps _ _ _ e]; exact hp, ?_⟩
  have pkM := merge_rel pkL (Paired.nil : PK' Γ (ι'.unban p) (hide H' p) ([] : List (Key × D)) [])
  have sn := Step.box (ι := ι'.unban p) (H := hide H' p) (o := HO.dK (mergeK [] kvs')) hide_same
  have q := sat ((ι'.unban p).add p) (upd (hide H' p) p (.dK (mergeK [] kvs'))) (.ref p) (stL.trans sn) (rpL.box hide_same ⟨_, .inl ⟨upd_same, rfl⟩, pk_step rpL sn pkM⟩) (.ref (rpL.next p))
  rw [upd_hide] at q
  exact q
end
/-! ### lists compared whose items may be dicts -/
def flatEq : D → D → Bool
  | .non, .non => true
  | .bl a, .bl b => a == b
  | .int a, .int b => a == b
  | .str a, .str b => a == b
  | _, _ => false
def eqI0 (hs : HS) (x y : D) : Option Bool := (D.res hs x).bind fun a => (D.res hs y).bind fun b => if a.pl 8 && b.pl 8 then some (deq a b) else none
def eqItem (hs : HS) : D → D → Option Bool
  | .ref n, .ref m => match opnAt hs n, opnAt hs m with
    | some ks, some ls => if ks.length = ls.length && ks.all (fun p => match lk ls p.1 with
      | some d => flatEq p.2 d
      | none => false) then some true else none
    | _, _ => eqI0 hs (.ref n) (.ref m)
  | x, y => eqI0 hs x y
def eqItems (hs : HS) : List D → List D → Option (List Bool)
  | [], [] => some []
  | x :: xs, y :: ys => (eqItem hs x y).bind fun b => (eqItems hs xs ys).map fun bs => b :: bs
  | _, _ => none
def eqLF (hs : HS) (x y : D) : Option D := (seqL hs x).bind fun xs => (seqL hs y).bind fun ys => (eqItems hs xs ys).map fun bs => .bl (bs.all id)
def EqI (K : PySem.W.Frag) (H : Hp) (b : Bool) (x y : V) : Prop := (∃ d e, Dp K H x d ∧ Dp K H y e ∧ SeqAt.shaped d = true ∧ SeqAt.shaped e = true ∧ b = PyData.eqv d e) ∨
  (b = true ∧ ∃ a b ks ls, x = .ref a ∧ y = .ref b ∧ H a = some (.dK ks) ∧ H b = some (.dK ls) ∧ ks.length = ls.length ∧ ∀ p ∈ ks, ∃ u, valV ls p.1 = some u ∧ p.2 = u ∧ flatB p.2 = true)
def rEqI (K : PySem.W.Frag) : R2 := fun x y H Q => ∃ a b xs ys bs, x = .ref a ∧ y = .ref b ∧ SqL K H a xs ∧ SqL K H b ys ∧ List.length xs = List.length bs ∧ List.length ys = List.length bs ∧
  (∀ (j : Nat) c u v, bs[j]? = some c → xs[j]? = some u → ys[j]? = some v → EqI K H c u v) ∧ Q (.bl (bs.all id)) H
section
variable {X : Cx}
theorem eqI_run {pins : List (Addr × Obj)} {σ : L2.St} {H : Hp} {s : Shared} (I : Inv X pins σ H s) {A : Around} (hu : A.units + 64 < cLine) {b : Bool} {x y : V} {v u : Value} (h : EqI X.K H b x y) (rx : RelV x v) (ry : RelV y u) : SeqAt.EqP X.prog X.w A s v u b := by
  rcases h with ⟨d, e, h1, h2, h3, h4, rfl⟩ | ⟨rfl, a, b, ks, ls, rfl, rfl, ha, hb, hl, hp⟩
  · obtain ⟨as, r1⟩ := Dp.reads I d x v h1 rx
    obtain ⟨bs, r2⟩ := Dp.reads I e y u h2 ry
    exact (SeqAt.eqAt_reads d e A s v u as bs r1 r2 (SeqAt.canLay_of_shaped h3) (SeqAt.canLay_of_shaped h4) (SeqAt.room_of_shaped h3 hu)).eqP
  · cases (show v = Value.ref a from rx)
    cases (show u = Value.ref b from ry)
    by_cases e : a = b
    · subst e
      exact (SeqAt.EqAt.same _).eqP
    · refine SeqAt.eqP_refs e (eqR_run I (F := fun x y => x = y ∧ flatB x = true) (by omega) (fun x y v u f rx ry => ?_) (.inr ⟨a, b, ks, ls, rfl, rfl, ha, hb, hl, fun p hp' => ?_⟩) rfl rfl)
      · obtain ⟨rfl, f⟩ := f
        exact (eqAt_same rx ry f).eqP
      · exact hp p hp'
theorem op_eqI (hu : X.A.units + 65 < cLine) : OpR X (compareOp .Eq) (rEqI X.K) := by
  intro pins s σ H x y v u Q I rx ry h
  obtain ⟨a, b, xs, ys, bs, rfl, rfl, ha, hb, h1, h2, hi, q⟩ := h
  cases (show v = Value.ref a from rx)
  cases (show u = Value.ref b from ry)
  obtain ⟨us, r1, p1, _⟩ := I.list ha
  obtain ⟨ws, r2, p2, _⟩ := I.list hb
  have l1 := r1.length
  have l2 := r2.length
  have hsz : us.toArray.size = ws.toArray.size := by rw [List.size_toArray, List.size_toArray]; omega
  refine SeqAt.rcP_lists (e := fun j => bs.getD j true) p1.isList p2.isList hsz (by omega) (fun j j1 j2 => ?_) _ _ ?_
  · have j1' : j < us.length := by simpa using j1
    have j2' : j < ws.length := by simpa using j2
    have hj : j < bs.length := by omega
    have x1 : j < xs.length := by omega
    have y1 : j < ys.length := by omega
    have e : bs.getD j true = bs[j] := by simp [hj]
    rw [e]
    obtain ⟨u1, e1, q1⟩ := Vals.get r1 (i := j) (x := xs[j]) (by simp)
    obtain ⟨u2, e2, q2⟩ := Vals.get r2 (i := j) (x := ys[j]) (by simp)
    rw [List.getElem?_eq_getElem j1'] at e1
    rw [List.getElem?_eq_getElem j2'] at e2
    cases e1
    cases e2
    have k := eqI_run I (A := X.A.in1) (by show X.A.units + 1 + 64 < cLine; omega) (hi j bs[j] xs[j] ys[j] (by simp) (by simp) (by simp)) q1 q2
    simpa using k
  · refine ⟨.bl (bs.all id), H, I, ?_, q⟩
    have key : ∀ (n : Nat) (bs : List Bool), bs.length = n → ((List.range n).all fun j => bs.getD j true) = bs.all id := fun n bs e => by
      rw [Bool.eq_iff_iff]
      simp only [List.all_eq_true, List.mem_range, id]
      constructor
      · intro h x hx
        obtain ⟨j, hj, e'⟩ := List.getElem_of_mem hx
        have := h j (by omega)
        rw [← e']
        simpa [hj] using this
      · intro h j hj
        have hj' : j < bs.length := by omega
        have := h bs[j] (List.getElem_mem hj')
        simpa [hj'] using this
    rw [List.size_toArray, ← l1, key _ bs h1.symm]
    rfl
variable {Γ : Sta} {ι : Ix} {hs : HS} {H : Hp}
theorem flatEq_rel {x y : D} {v u : V} (h : flatEq x y = true) (rx : RelD Γ ι H x v) (ry : RelD Γ ι H y u) : v = u ∧ flatB v = true := by
  cases x <;> cases y <;> first | (simp only [flatEq] at h; cases h; done) | skip
  · cases rx; cases ry; exact ⟨rfl, rfl⟩
  · simp only [flatEq, beq_iff_eq] at h; subst h; cases rx; cases ry; exact ⟨rfl, rfl⟩
  · simp only [flatEq, beq_iff_eq] at h; subst h; cases rx; cases ry; exact ⟨rfl, rfl⟩
  · simp only [flatEq, beq_iff_eq] at h; subst h; cases rx; cases ry; exact ⟨rfl, rfl⟩
theorem paired_mem {α β : Type} {F : α → β → Prop} {xs : List α} {ys : List β} (h : Paired F xs ys) {y : β} (hy : y ∈ ys) : ∃ x, x ∈ xs ∧ F x y := by
  induction h with
  | nil => cases hy
  | cons e _ ih =>
    rcases List.mem_cons.mp hy with rfl | hy
    · exact ⟨_, List.mem_cons_self .., e⟩
    · obtain ⟨x, h1, h2⟩ := ih hy
      exact ⟨x, List.mem_cons_of_mem _ h1, h2⟩
theorem eqI0_rel (rp : Rep Γ ι hs H) {x y : D} {v u : V} {b : Bool} (h : eqI0 hs x y = some b) (rx : RelD Γ ι H x v) (ry : RelD Γ ι H y u) : EqI Γ.K H b v u := by
  simp only [eqI0, Option.bind_eq_some_iff] at h
  obtain ⟨a, h1, c, h2, e⟩ := h
  split at e
  · rename_i h
    simp only [Bool.and_eq_true] at h
    cases e
    exact .inl ⟨a.py, c.py, dp_of rp h1 rx h.1, dp_of rp h2 ry h.2, shaped_of h.1, shaped_of h.2, rfl⟩
  · cases e
theorem eqItem_rel (rp : Rep Γ ι hs H) {x y : D} {v u : V} {b : Bool} (h : eqItem hs x y = some b) (rx : RelD Γ ι H x v) (ry : RelD Γ ι H y u) : EqI Γ.K H b v u := by
  unfold eqItem at h
  split at h
  · rename_i n m
    split at h
    · rename_i ks ls e1 e2
      split at h
      · rename_i hc
        cases h
        simp only [Bool.and_eq_true, decide_eq_true_eq, List.all_eq_true] at hc
        obtain ⟨a, ea, e3⟩ := rx.ref_inv
        obtain ⟨a', ea', e4⟩ := ry.ref_inv
        obtain ⟨ks', f1, r1⟩ := opn_rel rp e3 e1
        obtain ⟨ls', f2, r2⟩ := opn_rel rp e4 e2
        refine .inr ⟨rfl, a, a', ks', ls', ea, ea', f1, f2, by rw [← Paired.length r1, ← Paired.length r2]; exact hc.1, fun p hp => ?_⟩
        obtain ⟨q, hq, e, rq⟩ := paired_mem r1 hp
        have z := hc.2 q hq
        cases el : lk ls q.1 with
        | none => rw [el] at z; cases z
        | some d =>
          rw [el] at z
          obtain ⟨w, hw, rw'⟩ := (lk_rel r2 q.1).1 d el
          obtain ⟨g1, g2⟩   := flatEq_rel z rq rw'
          exact ⟨w, by rw [← e]; exact hw, g1, g2⟩
      · cases h
    · exact eqI0_rel rp h rx ry
  · exact eqI0_rel rp h rx ry
theorem eqItems_rel (rp : Rep Γ ι hs H) : ∀ {xs ys : List D} {vs us : List V} {bs : List Bool}, eqItems hs xs ys = some bs → RelDs Γ ι H xs vs → RelDs Γ ι H ys us → vs.length = bs.length ∧ us.length = bs.length ∧
    ∀ (j : Nat) c u v, bs[j]? = some c → vs[j]? = some u → us[j]? = some v → EqI Γ.K H c u v
  | [], [], _, _, _, h, .nil, .nil => by
    cases h
    exact ⟨rfl, rfl, fun j c u v e => by simp at e⟩
  | x :: xs, y :: ys, _, _, bs, h, .cons r1 t1, .cons r2 t2 => by
    simp only [eqItems, Option.bind_eq_some_iff, Option.map_eq_some_iff] at h
    obtain ⟨b, hb, bs', hbs, rfl⟩ := h
    obtain ⟨i1, i2, i3⟩ := eqItems_rel rp hbs t1 t2
    refine ⟨by simp [i1], by simp [i2], fun j c u v e1 e2 e3 => ?_⟩
    cases j with
    | zero =>
      simp only [List.getElem?_cons_zero] at e1 e2 e3
      cases e1; cases e2; cases e3
      exact eqItem_rel rp hb r1 r2
    | succ j =>
      simp only [List.getElem?_cons_succ] at e1 e2 e3
      exact i3 j c u v e1 e2 e3
theorem ops_eqL : OpS Γ (rEqI Γ.K) eqLF := fun ι hs H x y dx dy d Q rp rx ry e q => by
  simp only [eqLF, Option.bind_eq_some_iff, Option.map_eq_some_iff] at e
  obtain ⟨xs, h1, ys, h2, bs, h3, rfl⟩ := e
  obtain ⟨a, vs, e1, f1, r1⟩ := seqL_rel rp rx h1
  obtain ⟨b, us, e2, f2, r2⟩ := seqL_rel rp ry h2
  obtain ⟨i1, i2, i3⟩ := eqItems_rel rp h3 r1 r2
  exact ⟨a, b, vs, us, bs, e1, e2, SqL.of f1, SqL.of f2, i1, i2, i3, q H _ (Step.refl _ _) rp (.bl _)⟩
end
end Fx

set_option Elab.async false
set_option linter.all false
set_option maxRecDepth 100000
set_option maxHeartbeats 1000000
namespace Fx
open PySem PySem.Spec PyProof.Rows L2

/-! ### a def's lambdas, found in its text -/
def lamOf : Expr → List LamRow
  | .Lambda ps b sc _ => [⟨ps, b, sc⟩]
  | _ => []
def lamsE : Expr → List LamRow
  | .List es _ => es.flatMap lamOf
  | .BinOp _ _ (.List es _) _ => es.flatMap lamOf
  | _ => []
def lamRows (ss : List Stmt) : List LamRow := ss.flatMap fun s => match s with
  | .Assign _ e _ => lamsE e
  | _ => []
def bodN (ms : List (M D)) (k : Nat) : M D := ms.getD k fun _ _ => .bad
theorem un65 {k : Nat} {A : Around} (hr : Room k A) : A.units + 65 < cLine := by have := hr.un; omega
section
variable {X : Cx} {Γ : Sta} {kk : Nat}
/-- one lambda's body -/
structure LamB (X : Cx) (Γ : Sta) (kk : Nat) (r : LamRow) (m : M D) : Prop where
  sc : LamX.LamS X.env.scope r.scope
  bind : ∀ (q : Str) (cl : List (Str × Addr)) (pm cv ctv : Value), bindArgs (PySem.W.kla_fn "<lambda>" q r.params r.body r.scope cl pm cv ctv) ⟨[], []⟩ = pure []
  body : ∀ (A : Around) (outer : List Env) (s : Shared) (H : Hp) (E : XK) (f c' : Addr), Room kk (A.deeper (LamX.lamEnv X r.scope s.heap.objs.size f c')) → FE (LamX.lamCx X A outer s H E r.scope f c') Γ E r.body m
theorem lamBs_of {rows : List LamRow} {ms : List (M D)} (h : Paired (LamB X Γ kk) rows ms) : LamBs X Γ kk rows (bodN ms) := fun k r e => by
  obtain ⟨m, em, b⟩ := Paired.left h e
  have : bodN ms k = m := by unfold bodN; rw [List.getD_eq_getElem?_getD, em]; rfl
  rw [this]
  exact ⟨b.sc, b.bind, b.body⟩
end
end Fx

set_option Elab.async false
set_option linter.all false
set_option maxRecDepth 100000
set_option maxHeartbeats 1000000
namespace Fx
open PySem PySem.Spec PyProof.Rows L2

/-! ### from the head's facts -/
section
variable {P : Program} {w : World} {K : PySem.W.Frag} {mg : Str → Option Value} {base : Heap} {Γ : Sta} {x : Str} {st : Stmt} {fd : FuncData} {N ps : List Str} {k n : Nat} {m : MS}
abbrev FunT (K : PySem.W.Frag) (x : Str) (st : Stmt) (fd : FuncData) : Prop := FunD K x x (defArgs st) (defBody st) (defScope st) [] [] (He.fAd K (x, none)) fd
abbrev cdT (K : PySem.W.Frag) (x : Str) : Value := .ref (He.cT K (x, none)).1
abbrev BindsA (x : Str) (st : Stmt) (ps : List Str) : Prop := ∀ (kV doc pm : Value) (an : Option Addr) (cdv ct : Value) (us : List Value), us.length = ps.length → bindArgs (PySem.W.fnOf x x (defArgs st) (defBody st) (defScope st) .none kV doc pm an cdv ct) ⟨us, []⟩ = pure (ps.zip us)
theorem defAt_of (F : FunT K x st fd) : DefAt K x x st (He.ga K x) fd (cdT K x) := by
  obtain ⟨oc, od, dV, kV, doc, pm, an, cdv, ct, osl, rfl, lk, hcd, hD, hK⟩ := F.ex
  rcases hD with ⟨_, rfl⟩ | ⟨e, _⟩
  · obtain ⟨c, rfl⟩ := He.codeIn_ref hcd
    have e : He.codeOf K (x, none) = c := He.codeOf_eq lk rfl
    have e' : cdT K x = .ref c := congrArg Value.ref e
    rw [e']
    exact ⟨⟨oc, od, kV, doc, pm, an, ct, osl, rfl, lk, hcd⟩, F.kp⟩
  · exact absurd rfl e
theorem fnd_of (F : FunT K x st fd) (gm : mg x = some (.ref (He.ga K x))) (S : FnScope N ps (defScope st)) (hn : ps.length = n) (hb : BindsA x st ps)
    (body : ∀ (A : Around) (outer : List Env) (s : Shared) (H : Hp) (E : XK), Room k (A.deeper (envOfC x (defScope st) s.heap.objs.size (He.ga K x) (cdT K x))) → FSs (defCx P w K mg base N x st (He.ga K x) (cdT K x) A outer s H E) Γ E (defBody st) m) :
    Fnd P w K mg base Γ x (k + 1) n (runF N.length m) :=
  ⟨_, gfun_at (defAt_of F) S hn (F.bindsN hb) body, gm, F.kp⟩
theorem fndL_of {lamOf : Cx → Nat → Addr → Addr → HO} (F : FunT K x st fd) (gm : mg x = some (.ref (He.ga K x))) (S : FnScope N ps (defScope st)) (hn : ps.length = n) (hb : BindsA x st ps)
    (body : ∀ (A : Around) (outer : List Env) (s : Shared) (H : Hp) (E : XK), Room k (A.deeper (envOfC x (defScope st) s.heap.objs.size (He.ga K x) (cdT K x))) → FSs (defCx P w K mg base N x st (He.ga K x) (cdT K x) A outer s H E) { Γ with lam := lamOf (defCx P w K mg base N x st (He.ga K x) (cdT K x) A outer s H E), lq := x ++ ".<locals>." ++ "<lambda>" } E (defBody st) m) :
    Fnd P w K mg base Γ x (k + 1) n (frF (runF N.length m)) :=
  ⟨_, gfun_lamAt (lamOf := lamOf) (defAt_of F) S hn (F.bindsN hb) body, gm, F.kp⟩
theorem fnOk_of (F : FunT K x st fd) (S : FnScope N ps (defScope st)) (hn : ps.length = n)
    (body : ∀ (A : Around) (outer : List Env) (s : Shared) (H : Hp) (E : XK), Room k (A.deeper (envOfC x (defScope st) s.heap.objs.size (He.ga K x) (cdT K x))) → FSs (defCx P w K mg base N x st (He.ga K x) (cdT K x) A outer s H E) Γ E (defBody st) m) :
    FnOk P w K mg base (L2.CX P w) (k + 1) (He.ga K x) fd ps (spF Γ n (runF N.length m)) := by
  obtain ⟨oc, od, kV, doc, pm, an, ct, osl, rfl, lk, hcd⟩ := (defAt_of F).ex
  exact fn_of lk hcd S (spF_len hn) fun A outer s H vs Q E hr ⟨ι, ds, hs, rp, r, hl, sat⟩ => ⟨_, body A outer s H E hr, ι, startL N.length ds, hs, rp, startL_rel r, runF_sat sat⟩
/-! ### tables -/
abbrev TQ : Type := List (Str × Str)
def tfOf (tq : TQ) : List He.Defn := tq.map fun q => (q.1, none)
def tabsOf (K : PySem.W.Frag) (tq : TQ) : List (Addr × Str) := tq.map fun q => ((He.cT K (q.1, none)).2, q.1 ++ ".<locals>." ++ q.2)
theorem nd_one {α β : Type} {l : List (α × β)} (h : (l.map (·.1)).Nodup) {a : α} {b b' : β} (h1 : (a, b) ∈ l) (h2 : (a, b') ∈ l) : b' = b := by
  induction l with
  | nil => cases h1
  | cons p r ih =>
    rw [List.map_cons, List.nodup_cons] at h
    rcases List.mem_cons.mp h1 with e1 | m1
    · rcases List.mem_cons.mp h2 with e2 | m2
      · have : (a, b) = (a, b') := e1.trans e2.symm
        injection this with _ e
        exact e.symm
      · exact absurd (List.mem_map_of_mem (f := (·.1)) m2) (by rw [← e1] at h; exact h.1)
    · rcases List.mem_cons.mp h2 with e2 | m2
      · exact absurd (List.mem_map_of_mem (f := (·.1)) m1) (by rw [← e2] at h; exact h.1)
      · exact ih h.2 m1 m2
theorem tabs_uniq {tq : TQ} (h : ((tfOf tq).map fun p => (He.cT K p).2).Nodup) {q : Str × Str} (hq : q ∈ tq) : ((He.cT K (q.1, none)).2, q.1 ++ ".<locals>." ++ q.2) ∈ tabsOf K tq ∧
    ∀ p ∈ tabsOf K tq, p.1 = (He.cT K (q.1, none)).2 → p.2 = q.1 ++ ".<locals>." ++ q.2 := by
  have e : (tabsOf K tq).map (·.1) = (tfOf tq).map fun p => (He.cT K p).2 := by
    unfold tabsOf tfOf
    rw [List.map_map, List.map_map]
    rfl
  have m : ((He.cT K (q.1, none)).2, q.1 ++ ".<locals>." ++ q.2) ∈ tabsOf K tq := List.mem_map.mpr ⟨q, hq, rfl⟩
  refine ⟨m, fun p hp e1 => ?_⟩
  obtain ⟨p1, p2⟩ := p
  have e1 : p1 = _ := e1
  subst e1
  exact nd_one (by rw [e]; exact h) m hp
variable {cls : Nat → Addr} {lm : Nat → Addr → Addr → HO} {lq : Str} {f : Addr} {A : Around} {outer : List Env} {s : Shared} {H : Hp} {E : XK}
theorem gxT_of {tq : TQ} (h : ((tfOf tq).map fun p => (He.cT K p).2).Nodup) (TB : ∀ p ∈ (tfOf tq).map (He.cT K), LamX.TabB base mg p.1 p.2) (hq : (x, ("<genexpr>" : Str)) ∈ tq) : GxT (defCx P w K mg base N x st f (cdT K x) A outer s H E) ⟨K, cls, tabsOf K tq, lm, lq⟩ :=
  ⟨_, _, TB (He.cT K (x, none)) (List.mem_map.mpr ⟨(x, none), List.mem_map.mpr ⟨_, hq, rfl⟩, rfl⟩), rfl, (tabs_uniq h hq).1, (tabs_uniq h hq).2⟩
theorem lmT_of {tq : TQ} (h : ((tfOf tq).map fun p => (He.cT K p).2).Nodup) (TB : ∀ p ∈ (tfOf tq).map (He.cT K), LamX.TabB base mg p.1 p.2) (hq : (x, ("<lambda>" : Str)) ∈ tq) : LmT (defCx P w K mg base N x st f (cdT K x) A outer s H E) ⟨K, cls, tabsOf K tq, lm, lq⟩ :=
  ⟨_, _, TB (He.cT K (x, none)) (List.mem_map.mpr ⟨(x, none), List.mem_map.mpr ⟨_, hq, rfl⟩, rfl⟩), rfl, (tabs_uniq h hq).1, (tabs_uniq h hq).2⟩
/-! ### an own exception class -/
theorem excOk_of {X : Cx} {c : Nat} (hc : (He.Fa.exc x).ok X.K = true) (gm : X.mg x = some (.ref (He.ga X.K x))) (hg : Gl X x) (e : Γ.cls c = He.ga X.K x) (hdb : (x == ("__debug__" : Str)) = false := by decide) : ExcOk X Γ c x := by
  have c2 : (PySem.W.excIn X.K (He.ga X.K x) He.veBase "ValueError.__new__" && (PySem.W.keepIn X.K (.ref (He.ga X.K x)) && (decide (PySem.W.subIn X.K (.ref (He.ga X.K x)) (.type "BaseException") = some true) && decide (PySem.W.typeIn X.K (.ref (He.ga X.K x)) = some (.type "type"))))) = true := hc
  simp only [Bool.and_eq_true, decide_eq_true_eq] at c2
  obtain ⟨h1, h2, h3, h4⟩ := c2
  refine ⟨fun p m j p2 pos => ?_⟩
  rw [e]
  exact pmk_own PySem.F.excBase_ValueError h1 gm h2 (raises_own h3 h4) hg hdb
/-! ### told -/
theorem toldD_of {e ret : Str} {CS : Addr} {j : Nat} {p1 p2 p3 p4 p5 p6 p7 p8 : Pos} (F : FunT K "_law_told" st fd) (gm : mg "_law_told" = some (.ref (He.ga K "_law_told"))) (S : FnScope ["what"] ["what"] (defScope st)) (hb : BindsA "_law_told" st ["what"])
    (hbd : defBody st = [.Try [.Return (some (.Call (.Name "what" p1) [] [] p2)) p3] [.ExceptHandler (some (.Name e p4)) none [.Return (some (.Constant (.str ret) j p5)) p6] p7] [] [] p8])
    (hge : (defScope st).names.lookup e = some .globalImplicit) (hde : (e == ("__debug__" : Str)) = false) (hv : Vis (defScope st) "what") (hme : mg e = some (.ref CS)) (hex : PySem.W.exmOne K (.ref CS) (.ref CS) = some true) : ToldD K mg st CS ret := by
  have hB := F.bindsN hb
  obtain ⟨oc, od, dV, kV, doc, pm, an, cdv, ct, osl, rfl, lk, hcd, hD, hK⟩ := F.ex
  rcases hD with ⟨_, rfl⟩ | ⟨z, _⟩
  · refine ⟨⟨_, oc, od, kV, doc, pm, an, cdv, ct, osl, gm, F.kp, lk, hcd, hB⟩, S, hv, fun X hK hmg g cdg q => ?_, hex⟩
    subst hK hmg
    rw [hbd]
    exact LamX.told_gives hge hme hde fun f => rfl
  · exact absurd rfl z
/-! ### the law's end -/
theorem law_end {l : PySem.W.OpenLaw} {h : Heap} {fa : List He.Fa} {fn : List He.DefD} {tq : TQ} {ex : PySem.W.Frag → Bool} {Γ : Sta} {F : Fn} {fdl : FuncData} {kl n : Nat} (X : K.In h) (c : He.SaysX fa fn [] (tfOf tq) ex w h K)
    (FL : FunT K "law" st fdl) (hb : BindsA "law" st ["script"]) (hT : Γ.T = tabsOf K tq) (hK : Γ.K = K)
    (G : ∀ base : Heap, K.In base → base.Ns mainGlobals mg → (∀ p ∈ (tfOf tq).map (He.cT K), LamX.TabB base mg p.1 p.2) → FnOk l.prog w K mg base (L2.CX l.prog w) kl (He.ga K "law") fdl ["script"] (spF Γ 1 F))
    (law : ∀ ns : List Int, ns.length ≤ n → ∃ hs', F [.con ns] [] = .ok (.bl true) hs') : LamX.LawAtS l w K (L2.CX l.prog w) kl n "script" mg (He.ga K "law") h := by
  refine ⟨fdl, (tfOf tq).map (He.cT K), spF Γ 1 F, fun p hp => ?_, fun p hp => ?_, fun p hp => ?_, fun s u => ?_, fun H a ns hn _ hH hS => ?_, G⟩
  · obtain ⟨q, hq, rfl⟩ := List.mem_map.mp hp
    exact c.empty q hq
  · obtain ⟨q, hq, rfl⟩ := List.mem_map.mp hp
    exact c.out q hq
  · obtain ⟨q, hq, rfl⟩ := List.mem_map.mp hp
    exact PySem.W.codeHd_of_K X (c.hd q hq)
  · exact FL.bindsA hb s [u] rfl
  · obtain ⟨hs', e⟩ := law ns hn
    refine ⟨⟨[], []⟩, [.con ns], [], ⟨rfl, List.nodup_nil, by simp, by simp, ?_⟩, .cons (.con ?_) .nil, rfl, ?_⟩
    · rw [hT]
      intro p hp
      obtain ⟨q, hq, rfl⟩ := List.mem_map.mp hp
      exact ⟨#[], hH _ (List.mem_map.mpr ⟨(q.1, none), List.mem_map.mpr ⟨q, hq, rfl⟩, rfl⟩), trivial, fun p' cv e => by cases e⟩
    · rw [hK]
      rcases hS with z | z
      · exact .inl ⟨⟨by simp, by simp⟩, z⟩
      · exact .inr z
    · rw [e]
      intro ι' H' v _ _ r
      exact r.bl_inv
end
end Fx

set_option Elab.async false
set_option linter.all false
set_option maxRecDepth 100000
set_option maxHeartbeats 1000000
/-! what the parts give, as equations -/
namespace Fx
open PySem
section
variable {α β : Type} {a : α} {h : HS} {c : Nat} {ls : LS} {hs : HS}
theorem bind_ok {f : α → HS → R β} : (R.ok a h).bind f = f a h := rfl
theorem bind_exc {f : α → HS → R β} : (R.exc c h : R α).bind f = .exc c h := rfl
theorem bind_bad {f : α → HS → R β} : (R.bad : R α).bind f = .bad := rfl
theorem toS_ok {f : α → HS → SR} : (R.ok a h).toS f = f a h := rfl
theorem toS_exc {f : α → HS → SR} : (R.exc c h : R α).toS f = .exc c h := rfl
theorem toS_bad {f : α → HS → SR} : (R.bad : R α).toS f = .bad := rfl
theorem of_some : R.of (some a) h = .ok a h := rfl
theorem of_none : R.of (none : Option α) h = .bad := rfl
theorem nox_ok : (R.ok a h).nox = .ok a h := rfl
theorem nox_bad : (R.bad : R α).nox = .bad := rfl
variable {ma mb mc mo : M D} {t u : M Bool} {as : M (List D)} {i j k n : Nat} {sa sb : MS} {d : D} {f g : HS → D → D → Option D}
theorem ap_c : mC d ls hs = .ok d hs := rfl
theorem ap_var : mVar i ls hs = R.of ((ls[i]?).bind id) hs := rfl
theorem ap_bin : mBin f ma mb ls hs = (ma ls hs).bind fun x h1 => (mb ls h1).bind fun y h2 => R.of (f h2 x y) h2 := rfl
theorem ap_un {f : HS → D → Option D} : mUn f ma ls hs = (ma ls hs).bind fun x h1 => R.of (f h1 x) h1 := rfl
def asB : D → HS → R Bool
  | .bl b, h => .ok b h
  | _, _ => .bad
theorem ap_test : mTest ma ls hs = (ma ls hs).bind asB := by
  unfold mTest
  congr 1
  funext x h
  cases x <;> rfl
theorem asB_bl {b : Bool} : asB (.bl b) hs = .ok b hs := rfl
theorem ap_if : mIf t ma mb ls hs = (t ls hs).bind fun c h1 => if c then ma ls h1 else mb ls h1 := rfl
theorem ap_and : mAnd t u ls hs = (t ls hs).bind fun c h1 => if c then u ls h1 else .ok false h1 := rfl
theorem ap_or : mOr t u ls hs = (t ls hs).bind fun c h1 => if c then .ok true h1 else u ls h1 := rfl
theorem ap_not : mNot t ls hs = (t ls hs).bind fun c h1 => .ok (!c) h1 := rfl
theorem ap_andV : mAndV ma mb ls hs = (ma ls hs).bind fun x h1 => (asB x h1).bind fun b h2 => if b then mb ls h2 else .ok (.bl false) h2 := by
  unfold mAndV
  congr 1
  funext x h
  cases x <;> first | rfl | (rename_i b; cases b <;> rfl)
theorem ap_orV : mOrV ma mb ls hs = (ma ls hs).bind fun x h1 => (asB x h1).bind fun b h2 => if b then .ok (.bl true) h2 else mb ls h2 := by
  unfold mOrV
  congr 1
  funext x h
  cases x <;> first | rfl | (rename_i b; cases b <;> rfl)
theorem ap_notV : mNotV ma ls hs = (ma ls hs).bind fun x h1 => (asB x h1).bind fun b h2 => .ok (.bl (!b)) h2 := by
  unfold mNotV
  congr 1
  funext x h
  cases x <;> rfl
theorem ap_nil : mNil ls hs = .ok [] hs := rfl
theorem ap_cons : mCons ma as ls hs = (ma ls hs).bind fun x h1 => (as ls h1).bind fun xs h2 => .ok (x :: xs) h2 := rfl
theorem ap_tup : mTup as ls hs = (as ls hs).bind fun xs h1 => if xs.length ≤ sizeLine then .ok (.tup xs) h1 else .bad := rfl
theorem ap_lst : mLst as ls hs = (as ls hs).bind fun xs h1 => if xs.length ≤ sizeLine then .ok xs h1 else .bad := rfl
theorem ap_val : mVal as ls hs = (as ls hs).bind fun xs h1 => .ok (.lst xs) h1 := rfl
theorem ap_box : mBox as ls hs = (as ls hs).bind fun xs h1 => .ok (.ref h1.length) (h1 ++ [.lst xs]) := rfl
theorem ap_cb {f : HS → List D → Option D} : mCB f as ls hs = (as ls hs).bind fun ds h1 => R.of (f h1 ds) h1 := rfl
theorem ap_cbl {f : HS → List D → Option (List D)} : mCBL f as ls hs = (as ls hs).bind fun ds h1 => R.of (f h1 ds) h1 := rfl
theorem ap_call {dds : List D} {F : Fn} : mCall n dds F as ls hs = (as ls hs).bind fun ds h1 => if ds.length = n then F (ds ++ dds) h1 else .bad := rfl
theorem ap_seq : mSeq sa sb ls hs = match sa ls hs with
  | .nx l h => sb l h
  | r => r := rfl
theorem ap_set : mSet i ma ls hs = (ma ls hs).toS fun d h => .nx (ls.set i (some d)) h := rfl
theorem ap_ret : mRet ma ls hs = (ma ls hs).toS fun d h => .rt d h := rfl
theorem ap_expr : mExpr ma ls hs = (ma ls hs).toS fun _ h => .nx ls h := rfl
theorem ap_ifS : mIfS t sa sb ls hs = (t ls hs).toS fun c h => if c then sa ls h else sb ls h := rfl
theorem ap_skip : mSkip ls hs = .nx ls hs := rfl
theorem ap_raise : mRaise c ls hs = .exc c hs := rfl
theorem ap_aug {f : IF} : mAug i f ma ls hs = toS ((ls[i]?).bind id) fun dx => (ma ls hs).toS fun dy h => toS (f h dx dy) fun p => .nx (ls.set i (some p.1)) p.2 := rfl
theorem ap_setSub {f : SF} : mSetSub f mo mb ma ls hs = (ma ls hs).toS fun v h1 => (mo ls h1).toS fun o h2 => (mb ls h2).toS fun i h3 => toS (f h3 o i v) fun h4 => .nx ls h4 := rfl
theorem toS_some {f : α → SR} : toS (some a) f = f a := rfl
theorem ap_for {it : MI} {tg : MG} : mFor it tg sa ls hs = (it ls hs).toS fun p h => forD tg sa p.2 h p.1 ls h := rfl
theorem ap_lc {own : List Nat} {it : MI} {tg : MG} : mLc own it tg t ma ls hs = (it ls hs).bind fun p h => lcD own tg t ma p.2 h (wipeL ls own) p.1 [] h := rfl
theorem ap_it : mIt ma ls hs = (ma ls hs).bind fun d h => R.of (itF h d) h := rfl
theorem ap_yes : mYes ls hs = .ok true hs := rfl
theorem ap_sl {f : HS → D → Option Int → Option Int → Option D} {ml mh : M (Option Int)} : mSl f ma ml mh ls hs = (ma ls hs).bind fun x h1 => (ml ls h1).bind fun lo h2 => (mh ls h2).bind fun hi h3 => R.of (f h3 x lo hi) h3 := rfl
theorem ap_noPart : mNoPart ls hs = .ok none hs := rfl
variable {x y : Int}
theorem add_int : addF hs (.int x) (.int y) = some (.int (x + y)) := rfl
theorem sub_int : subF hs (.int x) (.int y) = some (.int (x - y)) := rfl
theorem lt_int : ltF hs (.int x) (.int y) = some (.bl (decide (x < y))) := rfl
theorem le_int : leF hs (.int x) (.int y) = some (.bl (decide (x ≤ y))) := rfl
theorem gt_int : gtF hs (.int x) (.int y) = some (.bl (decide (y < x))) := rfl
theorem ge_int : geF hs (.int x) (.int y) = some (.bl (decide (y ≤ x))) := rfl
end
end Fx

set_option Elab.async false
set_option linter.all false
set_option maxRecDepth 100000
set_option maxHeartbeats 1000000
/-! loops over lists of what is known -/
namespace Fx
open PySem
section
variable {α β : Type} {own : List Nat} {tg : MG} {t : M Bool} {e : M D} {hs hs1 : HS} {ls : LS}
/-- each turn's test is p, its element q -/
structure Turn (own : List Nat) (tg : MG) (t : M Bool) (e : M D) (hs : HS) (ls : LS) (enc : α → D) (p : α → Bool) (q : α → D) (x : α) : Prop where
  ex : ∃ ps, tg (enc x) = some ps ∧ (ps.all fun p => decide (p.1 ∈ own)) = true ∧ t (putL ls ps) hs = .ok (p x) hs ∧ (p x = true → e (putL ls ps) hs = .ok (q x) hs)
theorem lc_go {enc : α → D} {p : α → Bool} {q : α → D} : ∀ (xs : List α) (acc : List D), (∀ x ∈ xs, Turn own tg t e hs ls enc p q x) → acc.length + xs.length ≤ sizeLine →
    lcD own tg t e none hs1 ls (xs.map enc) acc hs = .ok (acc ++ (xs.filter p).map q) hs
  | [], acc, _, _ => by simp [lcD, guardOk]
  | x :: r, acc, h, hl => by
    obtain ⟨ps, h1, h2, h3, h4⟩ := (h x List.mem_cons_self).ex
    rw [List.length_cons] at hl
    simp only [List.map_cons, lcD, guardOk, if_true, h1, h2, h3, nox_ok, bind_ok]
    cases hp : p x with
    | false =>
      simp only [Bool.false_eq_true, if_false, List.filter_cons, hp]
      exact lc_go r acc (fun y hy => h y (List.mem_cons_of_mem _ hy)) (by omega)
    | true =>
      rw [h4 hp]
      simp only [if_true, nox_ok, bind_ok, List.filter_cons, hp]
      rw [if_pos (by omega), lc_go r _ (fun y hy => h y (List.mem_cons_of_mem _ hy)) (by rw [List.length_append]; simp; omega)]
      simp
theorem gx_go {enc : α → D} {p : α → Bool} {q : α → D} : ∀ (xs : List α), (∀ x ∈ xs, Turn own tg t e hs ls enc p q x) → gxGo own tg t e none hs1 ls (xs.map enc) hs = (((xs.filter p).map fun x => (q x, hs)), some hs)
  | [], _ => by simp [gxGo, guardOk]
  | x :: r, h => by
    obtain ⟨ps, h1, h2, h3, h4⟩ := (h x List.mem_cons_self).ex
    simp only [List.map_cons, gxGo, guardOk, if_true, h1, h2, h3]
    cases hp : p x with
    | false =>
      simp only [List.filter_cons, hp, Bool.false_eq_true, if_false]
      exact gx_go r fun y hy => h y (List.mem_cons_of_mem _ hy)
    | true =>
      dsimp only
      rw [h4 hp]
      simp only [List.filter_cons, hp, if_true, gx_go r fun y hy => h y (List.mem_cons_of_mem _ hy), List.map_cons]
theorem any_outs {b : Bool} {q : α → Bool} : ∀ (xs : List α), anyF b (xs.map fun x => (D.bl (q x), hs)) (some hs) = some (.bl (if b then xs.any q else xs.all q), hs)
  | [] => by cases b <;> rfl
  | x :: r => by
    simp only [List.map_cons, anyF, List.any_cons, List.all_cons]
    rw [any_outs r]
    cases b <;> cases q x <;> simp
end
end Fx

set_option Elab.async false
set_option linter.all false
set_option maxRecDepth 100000
set_option maxHeartbeats 1000000
/-! more equations -/
namespace Fx
open PySem
section
variable {α β : Type} {a : α} {h : HS} {c : Nat} {ls : LS} {hs : HS}
variable {ma mb mc mo : M D} {t u : M Bool} {as : M (List D)} {i j k n : Nat} {sa sb : MS} {d : D} {f g : HS → D → D → Option D}
def partO : D → HS → R (Option Int)
  | .int i, h => .ok (some i) h
  | _, _ => .bad
theorem ap_part : mPart ma ls hs = (ma ls hs).bind partO := by
  unfold mPart
  congr 1
  funext x h
  cases x <;> rfl
theorem part_int {i : Int} : partO (.int i) hs = .ok (some i) hs := rfl
def thenR (o : Option D) (h : HS) (r : R D) : R D := match o with
  | some (.bl true) => r
  | some (.bl false) => .ok (.bl false) h
  | _ => .bad
theorem ap_chain2 : mChain2 f g ma mb mc ls hs = (ma ls hs).bind fun x h1 => (mb ls h1).bind fun y h2 => thenR (f h2 x y) h2 ((mc ls h2).bind fun z h3 => R.of (g h3 y z) h3) := by
  unfold mChain2
  refine congrArg _ (funext fun x => funext fun h1 => congrArg _ (funext fun y => funext fun h2 => ?_))
  unfold thenR
  cases f h2 x y with
  | none => rfl
  | some d => cases d <;> first | rfl | (rename_i b; cases b <;> rfl)
theorem then_t {r : R D} : thenR (some (.bl true)) h r = r := rfl
theorem then_f {r : R D} : thenR (some (.bl false)) h r = .ok (.bl false) h := rfl
def rng1O : List D → HS → R (List D × Option Nat) := fun ds h => match ds with
  | [.int j] => if big62 j then .ok (rngD 0 j.toNat, none) h else .bad
  | _ => .bad
theorem ap_rng1 : mRng1 as ls hs = (as ls hs).bind rng1O := rfl
def rng2O : List D → HS → R (List D × Option Nat) := fun ds h => match ds with
  | [.int i, .int j] => if big62 i ∧ big62 j then .ok (rngD i (j - i).toNat, none) h else .bad
  | _ => .bad
theorem ap_rng2 : mRng2 as ls hs = (as ls hs).bind rng2O := rfl
theorem rng1_int {j : Int} (h : -(2 ^ 62) ≤ j ∧ j < 2 ^ 62) : rng1O [.int j] hs = .ok (rngD 0 j.toNat, none) hs := if_pos h
theorem rng2_int {i j : Int} (h : -(2 ^ 62) ≤ i ∧ i < 2 ^ 62) (h' : -(2 ^ 62) ≤ j ∧ j < 2 ^ 62) : rng2O [.int i, .int j] hs = .ok (rngD i (j - i).toNat, none) hs := if_pos ⟨h, h'⟩
def rgO : List D → HS → R (List D) := fun ds h => match rgD1 ds with
    | some (a, b) => if rgOk a b then .ok (rngD a (b - a).toNat) h else .bad
    | none => .bad
theorem ap_rgL : mRgL as ls hs = (as ls hs).bind rgO := rfl
theorem rgO_ok {a b : Int} (h0 : -(2 ^ 20) ≤ a) (h1 : a ≤ 2 ^ 20) (h2 : -(2 ^ 20) ≤ b) (h3 : b ≤ 2 ^ 20) : rgO [.int a, .int b] hs = .ok (rngD a (b - a).toNat) hs := if_pos ⟨by omega, by omega, by omega, by omega, by omega⟩
theorem ap_rgT : mRgT as ls hs = (as ls hs).bind fun ds h => (rgO ds h).bind fun xs h => .ok (.tup xs) h := by
  unfold mRgT
  congr 1
  funext ds h
  unfold rgO
  cases rgD1 ds with
  | none => rfl
  | some p =>
    obtain ⟨a, b⟩ := p
    dsimp only
    by_cases hh : rgOk a b
    · rw [if_pos hh, if_pos hh]; rfl
    · rw [if_neg hh, if_neg hh]; rfl
theorem ap_asg {g : MG} : mAsg g ma ls hs = (ma ls hs).toS fun d h => toS (g d) fun ps => .nx (putL ls ps) h := by
  unfold mAsg
  congr 1
  funext d h
  cases g d <;> rfl
theorem ap_zip : mZip as ls hs = (as ls hs).bind fun ds h => match ds with
  | [.lst a, .lst b] => .ok (zipD a b, none) h
  | [.tup a, .tup b] => .ok (zipD a b, none) h
  | [.ref n, .lst b] => R.of ((lstAt h n).map fun a => (zipD a b, some n)) h
  | _ => .bad := rfl
theorem ap_enumA : mEnumA as ls hs = (as ls hs).bind fun ds h => match ds with
  | [.tup xs] => .ok (enumD xs, none) h
  | [d] => R.of ((seqI h d).map fun p => (enumD p.1, p.2)) h
  | _ => .bad := rfl
theorem ap_par2 : mPar2 i j as ls hs = (as ls hs).toS fun ds h => match ds with
  | [x, y] => .nx ((ls.set i (some x)).set j (some y)) h
  | _ => .bad := by
  unfold mPar2
  rfl
theorem ofP_some {p : D × HS} : R.ofP (some p) = .ok p.1 p.2 := rfl
theorem gx_pair {own : List Nat} {pick : List (Option Nat)} {it : MI} {tg : MG} {e : M D} {F : List (D × HS) → Option HS → Option (D × HS)} {xs : List D} {o : Option Nat} {h1 : HS} {outs : List (D × HS)} {fin : Option HS}
    (hi : it ls hs = .ok (xs, o) h1) (hg : gxGo own tg t e o h1 (wipeL (capL pick ls) own) xs h1 = (outs, fin)) : mGx own pick it tg t e F ls hs = R.ofP (F outs fin) := by
  show (it ls hs).bind _ = _
  rw [hi, bind_ok]
  dsimp only
  rw [hg]
theorem bind_if {p : Prop} [Decidable p] {r s : R α} {f : α → HS → R β} : (if p then r else s).bind f = if p then r.bind f else s.bind f := by split <;> rfl
theorem toS_if {p : Prop} [Decidable p] {r s : R α} {f : α → HS → SR} : (if p then r else s).toS f = if p then r.toS f else s.toS f := by split <;> rfl
/-! ints -/
theorem asInts_map (ns : List Int) : asInts (ns.map D.int) = some ns := by
  induction ns with
  | nil => rfl
  | cons a r ih => simp [asInts, ih]
theorem asInts_map' {α : Type} (f : α → Int) (xs : List α) : asInts (xs.map fun x => D.int (f x)) = some (xs.map f) := by
  rw [← asInts_map, List.map_map]; rfl
theorem mul_int {x y : Int} (h : -(2 ^ 64) < x ∧ x < 2 ^ 64 ∨ -(2 ^ 64) < y ∧ y < 2 ^ 64) : mulF hs (.int x) (.int y) = some (.int (x * y)) := if_pos h
theorem div_int {x y : Int} (h : 0 < y ∧ y < 1073741824) : divF hs (.int x) (.int y) = some (.int (x / y)) := if_pos h
theorem mod_int {x y : Int} (h : 0 < y) : modF hs (.int x) (.int y) = some (.int (x % y)) := if_pos h
theorem sum_go {α : Type} {hs : HS} (f : α → Int) : ∀ (xs : List α) (acc : Int) (b : Int), (∀ x ∈ xs, 0 ≤ f x ∧ f x ≤ b) → 0 ≤ acc → acc + b * xs.length < 2 ^ 62 → 0 ≤ b → b < 2 ^ 62 → sumF acc (xs.map fun x => (D.int (f x), hs)) (some hs) = some (.int (acc + (xs.map f).sum), hs)
  | [], acc, b, _, _, _, _, _ => by simp [sumF]
  | x :: r, acc, b, h, h0, h1, hb, hb2 => by
    obtain ⟨p, q⟩ := h x List.mem_cons_self
    rw [List.length_cons, Int.natCast_add, Int.mul_add] at h1
    have hm : 0 ≤ b * (r.length : Int) := Int.mul_nonneg hb (by omega)
    simp only [List.map_cons, sumF]
    rw [if_pos ⟨⟨by omega, by omega⟩, ⟨by omega, by omega⟩⟩, sum_go f r (acc + f x) b (fun y hy => h y (List.mem_cons_of_mem _ hy)) (by omega) (by omega) hb hb2]
    simp [Int.add_assoc]
theorem tup_outs {α : Type} {hs : HS} (q : α → D) (xs : List α) (h : xs.length ≤ 16777216) : tupF (xs.map fun x => (q x, hs)) (some hs) = some (.tup (xs.map q), hs) := by
  have e : sizeLine = 16777216 := rfl
  simp [tupF, h, e]
/-! equality of what is the same -/
mutual
theorem eqv_refl : ∀ d : D, PyData.eqv d.py d.py = true
  | .non => rfl
  | .bl b => by simp [D.py, PyData.eqv]
  | .int i => by simp [D.py, PyData.eqv]
  | .str s => by simp [D.py, PyData.eqv]
  | .tup ds => by simp [D.py, PyData.eqv, eqvAll_refl ds]
  | .lst ds => by simp [D.py, PyData.eqv, eqvAll_refl ds]
  | .ref _ => rfl
  | .lam _ => rfl
  | .con _ => rfl
theorem eqvAll_refl : ∀ ds : List D, PyData.eqvAll (D.pys ds) (D.pys ds) = true
  | [] => rfl
  | d :: r => by simp [D.pys, PyData.eqvAll, eqv_refl d, eqvAll_refl r]
end
theorem res_pl8 {d : D} (h : d.pl 8 = true) : D.res hs d = some d := if_pos h
theorem ne_same {d : D} (h : d.pl 8 = true) : neF hs d d = some (.bl false) := by
  simp [neF, res_pl8 h, h, deq, eqv_refl]
theorem eq_same {d : D} (h : d.pl 8 = true) : eqF hs d d = some (.bl true) := by
  simp [eqF, res_pl8 h, h, deq, eqv_refl]
theorem eq_int {x y : Int} : eqF hs (.int x) (.int y) = some (.bl (decide (x = y))) := by
  have h : (D.int x).pl 8 = true := rfl
  have h2 : (D.int y).pl 8 = true := rfl
  simp only [eqF, res_pl8 h, res_pl8 h2, Option.bind_some, h, h2, Bool.and_self, if_true, deq, D.py, PyData.eqv]
  congr 2
theorem ne_int {x y : Int} : neF hs (.int x) (.int y) = some (.bl (!decide (x = y))) := by
  have h : (D.int x).pl 8 = true := rfl
  have h2 : (D.int y).pl 8 = true := rfl
  simp only [neF, res_pl8 h, res_pl8 h2, Option.bind_some, h, h2, Bool.and_self, if_true, deq, D.py, PyData.eqv]
  congr 2
theorem pls_map {α : Type} {f : α → D} {k : Nat} {xs : List α} (h : ∀ x ∈ xs, (f x).pl k = true) : D.pls (xs.map f) k = true := by
  rw [D.pls_all]
  simp only [List.all_eq_true, List.mem_map]
  rintro d ⟨x, hx, rfl⟩
  exact h x hx
theorem eq_nil {xs : List D} (h : (D.lst xs).pl 8 = true) : eqF hs (.lst xs) (.lst []) = some (.bl (decide (xs = []))) := by
  have h2 : (D.lst []).pl 8 = true := rfl
  simp only [eqF, res_pl8 h, res_pl8 h2, Option.bind_some, h, h2, Bool.and_self, if_true, deq]
  cases xs <;> simp [D.py, D.pys, PyData.eqv, PyData.eqvAll]
theorem ne_nil {xs : List D} (h : (D.lst xs).pl 8 = true) : neF hs (.lst xs) (.lst []) = some (.bl (!decide (xs = []))) := by
  have h2 : (D.lst []).pl 8 = true := rfl
  simp only [neF, res_pl8 h, res_pl8 h2, Option.bind_some, h, h2, Bool.and_self, if_true, deq]
  cases xs <;> simp [D.py, D.pys, PyData.eqv, PyData.eqvAll]
theorem add_lst {i j : List D} (h : i.length + j.length ≤ 16777216) : addF hs (.lst i) (.lst j) = some (.lst (i ++ j)) := by
  simp [addF, seqL, show sizeLine = 16777216 from rfl, h]
/-! numbers in a list of numbers -/
theorem in_ints {neg : Bool} {ns : List Int} {i : Int} : inF neg hs (.int i) (.lst (ns.map D.int)) = some (.bl (ng neg (decide (i ∈ ns)))) := by
  have e : (inFlat neg hs (.int i) (.lst (ns.map D.int))) = some (.bl (ng neg (decide (i ∈ ns)))) := by
    unfold inFlat
    simp only [seqT, Option.bind_some]
    rw [if_pos (by simp [flatD])]
    congr 3
    rw [Bool.eq_iff_iff]
    simp [deq, D.py, PyData.eqv]
  unfold inF orF
  simp only [e, Option.or]
/-! a loop with what holds of its turns -/
theorem for_go {α : Type} {enc : α → D} {tg : MG} {body : MS} {hs0 : HS} {xs0 : List α} (I : List α → LS → HS → Prop)
    (step : ∀ pre x post ls hs, xs0 = pre ++ x :: post → I pre ls hs → ∃ ps, tg (enc x) = some ps ∧ ∃ ls' hs', (body (putL ls ps) hs = .nx ls' hs' ∨ body (putL ls ps) hs = .ct ls' hs') ∧ I (pre ++ [x]) ls' hs') :
    ∀ (xs pre : List α) ls hs, xs0 = pre ++ xs → I pre ls hs → ∃ ls' hs', forD tg body none hs0 (xs.map enc) ls hs = .nx ls' hs' ∧ I xs0 ls' hs'
  | [], pre, ls, hs, e, i => ⟨ls, hs, rfl, by rw [e, List.append_nil]; exact i⟩
  | x :: r, pre, ls, hs, e, i => by
    obtain ⟨ps, h1, ls', hs', h2, h3⟩ := step pre x r ls hs e i
    obtain ⟨ls2, hs2, h4, h5⟩ := for_go I step r (pre ++ [x]) ls' hs' (by rw [e]; simp) h3
    refine ⟨ls2, hs2, ?_, h5⟩
    simp only [List.map_cons, forD, guardOk, if_true, h1]
    rcases h2 with h2 | h2 <;> rw [h2] <;> exact h4
/-- a comprehension that may change the store -/
theorem lc_inv {α : Type} {enc : α → D} {own : List Nat} {tg : MG} {t : M Bool} {e : M D} {hs1 : HS} {ls : LS} {xs0 : List α} (I : List α → List D → HS → Prop)
    (step : ∀ pre x post acc hs, xs0 = pre ++ x :: post → I pre acc hs → ∃ ps, tg (enc x) = some ps ∧ (ps.all fun p => decide (p.1 ∈ own)) = true ∧ ∃ c h1, t (putL ls ps) hs = .ok c h1 ∧
      (c = false → I (pre ++ [x]) acc h1) ∧ (c = true → acc.length < 16777216 ∧ ∃ y h2, e (putL ls ps) h1 = .ok y h2 ∧ I (pre ++ [x]) (acc ++ [y]) h2)) :
    ∀ (xs pre : List α) acc hs, xs0 = pre ++ xs → I pre acc hs → ∃ acc' hs', lcD own tg t e none hs1 ls (xs.map enc) acc hs = .ok acc' hs' ∧ I xs0 acc' hs'
  | [], pre, acc, hs, e, i => ⟨acc, hs, rfl, by rw [e, List.append_nil]; exact i⟩
  | x :: r, pre, acc, hs, ee, i => by
    obtain ⟨ps, h1, h2, c, hh, h3, h4, h5⟩ := step pre x r acc hs ee i
    cases c with
    | false =>
      obtain ⟨acc', hs', g1, g2⟩ := lc_inv I step r (pre ++ [x]) acc hh (by rw [ee]; simp) (h4 rfl)
      refine ⟨acc', hs', ?_, g2⟩
      simp only [List.map_cons, lcD, guardOk, if_true, h1, h2, h3, nox_ok, bind_ok, Bool.false_eq_true, if_false]
      exact g1
    | true =>
      obtain ⟨hl, y, h6, h7, h8⟩ := h5 rfl
      obtain ⟨acc', hs', g1, g2⟩ := lc_inv I step r (pre ++ [x]) (acc ++ [y]) h6 (by rw [ee]; simp) h8
      refine ⟨acc', hs', ?_, g2⟩
      simp only [List.map_cons, lcD, guardOk, if_true, h1, h2, h3, h7, nox_ok, bind_ok]
      rw [if_pos (show acc.length < sizeLine from hl)]
      exact g1
/-- a while loop with a measure -/
theorem wh_go {t : M Bool} {body : MS} (I : Nat → LS → HS → Prop)
    (step : ∀ n ls hs, I n ls hs → ∃ c h1, t ls hs = .ok c h1 ∧ (c = false → I 0 ls h1) ∧ (c = true → ∃ m, n = m + 1 ∧ ∃ ls' hs', body ls h1 = .nx ls' hs' ∧ I m ls' hs')) :
    ∀ (f n : Nat) ls hs, n < f → I n ls hs → ∃ ls' hs', whD t body f ls hs = .nx ls' hs' ∧ I 0 ls' hs'
  | 0, n, ls, hs, h, _ => absurd h (Nat.not_lt_zero n)
  | f + 1, n, ls, hs, h, i => by
    obtain ⟨c, h1, e, e1, e2⟩ := step n ls hs i
    cases c with
    | false => exact ⟨ls, h1, by simp [whD, e, toS_ok], e1 rfl⟩
    | true =>
      obtain ⟨m, rfl, ls', hs', e3, e4⟩ := e2 rfl
      obtain ⟨ls2, hs2, e5, e6⟩ := wh_go I step f m ls' hs' (by omega) e4
      exact ⟨ls2, hs2, by simp [whD, e, toS_ok, e3, e5], e6⟩
end
end Fx

set_option Elab.async false
set_option linter.all false
set_option maxRecDepth 100000
set_option maxHeartbeats 1000000
/-! slices, zips, enumerations of lists of what is known -/
namespace Fx
open PySem
section
variable {hs : HS}
theorem cut_from (xs : List D) {v : Int} (h : 0 ≤ v) : cutD xs (some v) none = xs.drop v.toNat := by
  unfold cutD
  obtain ⟨n, rfl⟩ := Int.eq_ofNat_of_zero_le h
  rw [HT.sIx_nat, HT.sIx_none, Int.toNat_natCast]
  by_cases hn : n ≤ xs.length
  · rw [Nat.min_eq_left hn, List.take_of_length_le (by simp)]
  · rw [Nat.min_eq_right (by omega)]
    simp
    omega
theorem cut_to (xs : List D) {v : Int} (h : 0 ≤ v) : cutD xs none (some v) = xs.take v.toNat := by
  unfold cutD
  obtain ⟨n, rfl⟩ := Int.eq_ofNat_of_zero_le h
  rw [HT.sIx_nat, HT.sIx_none, Int.toNat_natCast]
  simp only [List.drop_zero, Nat.sub_zero]
  by_cases hn : n ≤ xs.length
  · rw [Nat.min_eq_left hn]
  · rw [Nat.min_eq_right (by omega), List.take_of_length_le (Nat.le_refl _), List.take_of_length_le (by omega)]
theorem cut_mid (xs : List D) {u v : Int} (h : 0 ≤ u) (h' : 0 ≤ v) : cutD xs (some u) (some v) = (xs.take v.toNat).drop u.toNat := by
  unfold cutD
  obtain ⟨n, rfl⟩ := Int.eq_ofNat_of_zero_le h
  obtain ⟨m, rfl⟩ := Int.eq_ofNat_of_zero_le h'
  rw [HT.sIx_nat, HT.sIx_nat, Int.toNat_natCast, Int.toNat_natCast, List.drop_take]
  by_cases hn : n ≤ xs.length
  · rw [Nat.min_eq_left hn]
    by_cases hm : m ≤ xs.length
    · rw [Nat.min_eq_left hm]
    · rw [Nat.min_eq_right (by omega), List.take_of_length_le (by simp), List.take_of_length_le (by simp; omega)]
  · rw [Nat.min_eq_right (show xs.length ≤ n by omega)]
    rw [show xs.drop n = [] from List.drop_eq_nil_of_le (by omega)]
    simp
theorem sl_from (xs : List D) {v : Int} (h : 0 ≤ v) : slF hs (.lst xs) (some v) none = some (.lst (xs.drop v.toNat)) := by
  rw [← cut_from xs h]; rfl
theorem sl_to (xs : List D) {v : Int} (h : 0 ≤ v) : slF hs (.lst xs) none (some v) = some (.lst (xs.take v.toNat)) := by
  rw [← cut_to xs h]; rfl
theorem sl_mid (xs : List D) {u v : Int} (h : 0 ≤ u) (h' : 0 ≤ v) : slF hs (.lst xs) (some u) (some v) = some (.lst ((xs.take v.toNat).drop u.toNat)) := by
  rw [← cut_mid xs h h']; rfl
theorem zip_map {α β : Type} (f : α → D) (g : β → D) (xs : List α) (ys : List β) : zipD (xs.map f) (ys.map g) = (xs.zip ys).map fun q => .tup [f q.1, g q.2] := by
  unfold zipD
  rw [List.zip_map, List.map_map]
  rfl
theorem enum_map {α : Type} (f : α → D) (xs : List α) : enumD (xs.map f) = xs.zipIdx.map fun q => .tup [.int (q.2 : Nat), f q.1] := by
  unfold enumD
  rw [List.zipIdx_map, List.map_map]
  rfl
theorem at_nat {α : Type} (xs : List α) {i : Int} (h0 : 0 ≤ i) (h1 : i < xs.length) : L2.atI xs i = xs[i.toNat]? := by
  unfold L2.atI L2.ixN
  rw [if_pos h0, if_pos h1]
  rfl
theorem ix_lst {xs : List D} {i : Int} (h0 : 0 ≤ i) (h1 : i < xs.length) : ixF hs (.lst xs) (.int i) = xs[i.toNat]? := by
  unfold ixF orF ixSeq ixDct
  simp only [seqT, Option.bind_some, at_nat xs h0 h1]
  cases xs[i.toNat]? <;> rfl
theorem ix_tup {xs : List D} {i : Int} (h0 : 0 ≤ i) (h1 : i < xs.length) : ixF hs (.tup xs) (.int i) = xs[i.toNat]? := by
  unfold ixF orF ixSeq ixDct
  simp only [seqT, Option.bind_some, at_nat xs h0 h1]
  cases xs[i.toNat]? <;> rfl
theorem ix_ref {xs : List D} {n : Nat} {i : Int} (h : lstAt hs n = some xs) (h0 : 0 ≤ i) (h1 : i < xs.length) : ixF hs (.ref n) (.int i) = xs[i.toNat]? := by
  unfold ixF orF ixSeq
  simp only [seqT, h, Option.bind_some, at_nat xs h0 h1]
  have e : xs[i.toNat]? = some (xs[i.toNat]'(by omega)) := List.getElem?_eq_getElem (by omega)
  rw [e]
  rfl
theorem lst_at_app {h e : HS} {n : Nat} {xs : List D} (hl : lstAt h n = some xs) : lstAt (h ++ e) n = some xs := by
  rw [lstAt_iff] at hl ⊢
  rw [List.getElem?_append_left (by have := List.getElem?_eq_some_iff.mp hl; exact this.1)]
  exact hl
theorem lst_at_new {h e : HS} {xs : List D} : lstAt (h ++ (.lst xs :: e)) h.length = some xs := by
  rw [lstAt_iff]
  simp
theorem set_new {h e : HS} {xs ys : List D} : (h ++ (.lst xs :: e)).set h.length (.lst ys) = h ++ (.lst ys :: e) := by
  rw [List.set_append_right _ _ (Nat.le_refl _)]
  simp
theorem lst_at_new2 {h e : HS} {a : Ob} {xs : List D} : lstAt (h ++ (a :: (e ++ [.lst xs]))) (h.length + (e.length + 1)) = some xs := by
  rw [lstAt_iff]
  rw [show h ++ (a :: (e ++ [.lst xs])) = (h ++ a :: e) ++ [.lst xs] by simp, List.getElem?_append_right (by simp)]
  simp
theorem lc_all {α : Type} {own : List Nat} {tg : MG} {t : M Bool} {e : M D} {hs1 : HS} {ls : LS} {enc : α → D} {q : α → D} (xs : List α) (acc : List D) (h : ∀ x ∈ xs, Turn own tg t e hs ls enc (fun _ => true) q x) (hl : acc.length + xs.length ≤ 16777216) :
    lcD own tg t e none hs1 ls (xs.map enc) acc hs = .ok (acc ++ xs.map q) hs := by
  rw [lc_go xs acc h hl, List.filter_eq_self.mpr fun _ _ => rfl]
theorem gx_all {α : Type} {own : List Nat} {tg : MG} {t : M Bool} {e : M D} {hs1 : HS} {ls : LS} {enc : α → D} {q : α → D} (xs : List α) (h : ∀ x ∈ xs, Turn own tg t e hs ls enc (fun _ => true) q x) :
    gxGo own tg t e none hs1 ls (xs.map enc) hs = ((xs.map fun x => (q x, hs)), some hs) := by
  rw [gx_go xs h, List.filter_eq_self.mpr fun _ _ => rfl]
theorem it_lst {ds : List D} : itF hs (.lst ds) = some (ds, none) := rfl
theorem it_tup {ds : List D} : itF hs (.tup ds) = some (ds, none) := rfl
theorem seq_lst {ds : List D} : seqL hs (.lst ds) = some ds := rfl
theorem seq_ref {n : Nat} {xs : List D} (h : lstAt hs n = some xs) : seqL hs (.ref n) = some xs := h
theorem iadd_int {x y : Int} : iaddF hs (.int x) (.int y) = some (.int (x + y), hs) := rfl
theorem iadd_ref {n : Nat} {xs ys : List D} {y : D} (h : lstAt hs n = some xs) (h' : seqL hs y = some ys) (hl : xs.length + ys.length ≤ 16777216) : iaddF hs (.ref n) y = some (.ref n, hs.set n (.lst (xs ++ ys))) := by
  have e : iaddF hs (.ref n) y = (lstAt hs n).bind fun xs => (seqL hs y).bind fun ys => if xs.length + ys.length ≤ sizeLine then some (.ref n, hs.set n (.lst (xs ++ ys))) else none := by
    cases y <;> rfl
  rw [e, h, h', Option.bind_some, Option.bind_some, if_pos (show _ ≤ sizeLine from hl)]
theorem add_seq {x y : D} {i j : List D} (h : seqL hs x = some i) (h' : seqL hs y = some j) (hl : i.length + j.length ≤ 16777216) : addF hs x y = some (.lst (i ++ j)) := by
  cases x <;> cases y <;> first | cases h; done | cases h'; done | simp only [addF, h, h', Option.bind_some, show sizeLine = 16777216 from rfl, hl, if_true]
theorem tupC_any {d : D} {ds : List D} (h : anyL hs d = some ds) : tupC hs [d] = some (.tup ds) := by
  simp [tupC, h]
theorem listC_any {d : D} {ds : List D} (h : anyL hs d = some ds) : listC hs [d] = some ds := by
  simp [listC, h]
theorem any_lst {ds : List D} : anyL hs (.lst ds) = some ds := rfl
theorem any_tup {ds : List D} : anyL hs (.tup ds) = some ds := rfl
theorem any_ref {n : Nat} {xs : List D} (h : lstAt hs n = some xs) : anyL hs (.ref n) = some xs := h
theorem sumC_lst {ns : List Int} : sumC hs [.lst (ns.map D.int)] = some (.int ns.sum) := by
  simp [sumC, seqL, asInts_map]
theorem len_lst {ds : List D} : lenC hs [.lst ds] = some (.int (ds.length : Nat)) := by
  simp [lenC, orC, lenF, anyL, seqL]
end
end Fx

set_option Elab.async false
set_option linter.all false
set_option maxRecDepth 100000
set_option maxHeartbeats 4000000
namespace K16
open PySem PyProof.Rows L2 Fx
def top (i : Nat) : Stmt := PySem.Challenge.pw_memorystack_k16_gaps_and_maps.main.body.getD i (.Pass ⟨0, 0, 0, 0⟩)

def st__law_told : Stmt := top 22
def st_check_rows : Stmt := top 5
def nm_check_rows : List Str := [("rows" : Str), ("size" : Str)]
theorem nd_check_rows : nm_check_rows.Nodup := by decide +kernel
abbrev e_check_rows_0 : M D := (mOrV (mBin ltF (mVar 0) (mC (.int 0))) (mOrV (mBin ltF (mVar 1) (mC (.int 1))) (mBin gtF (mBin addF (mVar 0) (mVar 1)) (mVar 2))))
abbrev e_check_rows_1 : M D := (mBin gtF (mBin addF (mBin ixF (mVar 0) (mC (.int 0))) (mBin ixF (mVar 0) (mC (.int 1)))) (mBin ixF (mVar 1) (mC (.int 0))))
def m_check_rows : MS := (mSeq (mIfS (mOr (mNot (mTest (mChain2 leF leF (mC (.int 1)) (mVar 1) (mC (.int 2000))))) (mTest (mGx [0, 1] [none, none, some 1] (mIt (mVar 0)) (mgTup [(mgName 0), (mgName 1)]) mYes e_check_rows_0 (anyF true)))) (mRaise 0) mSkip) (mIfS (mTest (mGx [0, 1] [none, none] (mZip (mCons (mVar 0) (mCons (mSl slF (mVar 0) (mPart (mC (.int 1))) mNoPart) mNil))) (mgTup [(mgName 0), (mgName 1)]) mYes e_check_rows_1 (anyF true))) (mRaise 0) mSkip))
def F_check_rows : Fn := runF 2 m_check_rows
structure T_check_rows (P : Program) (w : World) (K : PySem.W.Frag) (mg : Str → Option Value) (base : Heap) (Γ : Sta) : Prop where
  nb : NB mg
  c_MOST_CELLS : ∃ t, mg "MOST_CELLS" = some (.int 2000 t)
  x_GapError : ∀ {X : Cx}, X.K = K → X.mg = mg → Gl X "GapError" → ExcOk X Γ 0 "GapError"
theorem d_check_rows {P : Program} {w : World} {K : PySem.W.Frag} {mg : Str → Option Value} {base : Heap} {cls : Nat → Addr} {Tt : List (Addr × Str)} {lm : Nat → Addr → Addr → HO} {lq : Str} (T : T_check_rows P w K mg base ⟨K, cls, Tt, lm, lq⟩) {f : Addr} {cdv : Value} (GT : ∀ A outer s H E, GxT (defCx P w K mg base nm_check_rows "check_rows" st_check_rows f cdv A outer s H E) ⟨K, cls, Tt, lm, lq⟩) (A : Around) (outer : List Env) (s : Shared) (H : Hp) (E : XK) (hr : Room 5 (A.deeper (envOfC "check_rows" (defScope st_check_rows) s.heap.objs.size f cdv))) :
    FSs (defCx P w K mg base nm_check_rows "check_rows" st_check_rows f cdv A outer s H E) ⟨K, cls, Tt, lm, lq⟩ E (defBody st_check_rows) m_check_rows :=
  (fss_cons (fs_if (PW.pt (fw_or (ft_not (ft_chain2 op_le op_le ops_le ops_le fe_int (fv 1) (fe_globE T.c_MOST_CELLS))) (fw_or1 (ft_val (fe_anyG (k := 0) (own := [0, 1]) T.nb (GT _ _ _ _ _) hr (gx_by (show gxB (defScope st_check_rows) _ nm_check_rows ["first", "long", "size"] [none, none, some 1] = true from by decide +kernel)) (fi_seq (fv 0)) ⟨fun A s H C code fp hq => (fg_tup rfl (fgs_cons (fg_name (show List.Nodup (["first", "long", "size"] : List Str) from by decide +kernel) (i := 0) rfl (by first | exact Or.inl rfl | exact Or.inr rfl)) (fgs_cons (fg_name (show List.Nodup (["first", "long", "size"] : List Str) from by decide +kernel) (i := 1) rfl (by first | exact Or.inl rfl | exact Or.inr rfl)) fgs_nil))), fun A s H C code fp hq => fts_nil, fun A s H C code fp hq => (fe_or (fe_cmp op_lt ops_lt (fv 0) fe_int) (fe_or (fe_cmp op_lt ops_lt (fv 1) fe_int) (fe_one (fe_cmp op_gt ops_gt (fe_op op_addAll ops_add (fv 0) (fv 1)) (fv 2)))))⟩))))) (fss_one (fs_raise rfl (takes_of rfl rfl rfl rfl) (T.x_GapError rfl rfl rfl))) fss_nil) (fss_one (fs_if (ft_val (fe_anyG (k := 0) (own := [0, 1]) T.nb (GT _ _ _ _ _) hr (gx_by (show gxB (defScope st_check_rows) _ nm_check_rows ["one", "two"] [none, none] = true from by decide +kernel)) (fi_zip rfl (T.nb _ (by decide)) (fa_cons (fv 0) (fa_cons (fe_slice (fv 0) (fo_some fe_int) fo_none) fa_nil))) ⟨fun A s H C code fp hq => (fg_tup rfl (fgs_cons (fg_name (show List.Nodup (["one", "two"] : List Str) from by decide +kernel) (i := 0) rfl (by first | exact Or.inl rfl | exact Or.inr rfl)) (fgs_cons (fg_name (show List.Nodup (["one", "two"] : List Str) from by decide +kernel) (i := 1) rfl (by first | exact Or.inl rfl | exact Or.inr rfl)) fgs_nil))), fun A s H C code fp hq => fts_nil, fun A s H C code fp hq => (fe_cmp op_gt ops_gt (fe_op op_addAll ops_add (fe_ix hq (fv 0) fe_int) (fe_ix hq (fv 0) fe_int)) (fe_ix hq (fv 1) fe_int))⟩)) (fss_one (fs_raise rfl (takes_of rfl rfl rfl rfl) (T.x_GapError rfl rfl rfl))) fss_nil)))
def st_gaps_between : Stmt := top 6
def nm_gaps_between : List Str := [("rows" : Str), ("size" : Str), ("found" : Str), ("here" : Str), ("first" : Str), ("long" : Str)]
theorem nd_gaps_between : nm_gaps_between.Nodup := by decide +kernel
abbrev b_gaps_between_0 : MS := (mSeq (mAug 2 iaddF (mIf (mTest (mBin ltF (mVar 3) (mVar 4))) (mVal (mLst (mCons (mTup (mCons (mVar 3) (mCons (mBin subF (mVar 4) (mVar 3)) mNil))) mNil))) (mBox (mLst mNil)))) (mSet 3 (mBin addF (mVar 4) (mVar 5))))
def m_gaps_between : MS := (mSeq (mExpr (mCall 2 [] F_check_rows (mCons (mVar 0) (mCons (mVar 1) mNil)))) (mSeq (mPar2 2 3 (mCons (mBox (mLst mNil)) (mCons (mC (.int 0)) mNil))) (mSeq (mFor (mIt (mVar 0)) (mgTup [(mgName 4), (mgName 5)]) b_gaps_between_0) (mRet (mCB tupC (m1 (mBin addF (mVar 2) (mIf (mTest (mBin ltF (mVar 3) (mVar 1))) (mVal (mLst (mCons (mTup (mCons (mVar 3) (mCons (mBin subF (mVar 1) (mVar 3)) mNil))) mNil))) (mBox (mLst mNil))))))))))
def F_gaps_between : Fn := runF 6 m_gaps_between
structure T_gaps_between (P : Program) (w : World) (K : PySem.W.Frag) (mg : Str → Option Value) (base : Heap) (Γ : Sta) : Prop where
  nb : NB mg
  f_check_rows : Fnd P w K mg base Γ "check_rows" 6 2 F_check_rows
theorem d_gaps_between {P : Program} {w : World} {K : PySem.W.Frag} {mg : Str → Option Value} {base : Heap} {cls : Nat → Addr} {Tt : List (Addr × Str)} {lm : Nat → Addr → Addr → HO} {lq : Str} (T : T_gaps_between P w K mg base ⟨K, cls, Tt, lm, lq⟩) {f : Addr} {cdv : Value} (A : Around) (outer : List Env) (s : Shared) (H : Hp) (E : XK) (hr : Room 6 (A.deeper (envOfC "gaps_between" (defScope st_gaps_between) s.heap.objs.size f cdv))) :
    FSs (defCx P w K mg base nm_gaps_between "gaps_between" st_gaps_between f cdv A outer s H E) ⟨K, cls, Tt, lm, lq⟩ E (defBody st_gaps_between) m_gaps_between :=
  (fss_cons (fs_expr (fe_fn T.f_check_rows hr (passes_call (takes_of rfl rfl rfl rfl) fun _ _ _ _ h => h) (fa_cons (fv 0) (fa_cons (fv 1) fa_nil)))) (fss_cons (fs_par2 rfl nd_gaps_between (i := 2) rfl (j := 3) rfl (by decide) rfl rfl (fa_cons (fe_box (fl_lst fa_nil)) (fa_cons fe_int fa_nil))) (fss_cons (fs_for (passes_of rfl) rfl (fi_seq (fv 0)) (fg_tup rfl (fgs_cons (fg_name nd_gaps_between (i := 4) rfl (by first | exact Or.inl rfl | exact Or.inr rfl)) (fgs_cons (fg_name nd_gaps_between (i := 5) rfl (by first | exact Or.inl rfl | exact Or.inr rfl)) fgs_nil))) (fss_cons (fs_aug op_iaddAll ins_add nd_gaps_between (j := 2) rfl (by first | exact Or.inl rfl | exact Or.inr rfl) (fe_if (ft_cmp op_lt ops_lt (fv 3) (fv 4)) (fe_val (fl_lst (fa_cons (fe_tup (fa_cons (fv 3) (fa_cons (fe_op op_sub ops_sub (fv 4) (fv 3)) fa_nil))) fa_nil))) (fe_box (fl_lst fa_nil)))) (fss_one (fs_set nd_gaps_between (i := 3) rfl (by first | exact Or.inl rfl | exact Or.inr rfl) (fe_op op_addAll ops_add (fv 4) (fv 5)))))) (fss_one (fs_ret (fe_tup1 T.nb (fe_op op_addAll ops_add (fv 2) (fe_if (ft_cmp op_lt ops_lt (fv 3) (fv 1)) (fe_val (fl_lst (fa_cons (fe_tup (fa_cons (fv 3) (fa_cons (fe_op op_sub ops_sub (fv 1) (fv 3)) fa_nil))) fa_nil))) (fe_box (fl_lst fa_nil))))))))))
def st_parted_share : Stmt := top 7
def nm_parted_share : List Str := [("rows" : Str), ("size" : Str), ("sizes" : Str), ("first" : Str), ("long" : Str)]
theorem nd_parted_share : nm_parted_share.Nodup := by decide +kernel
def m_parted_share : MS := (mSeq (mSet 2 (mVal (mLc [3, 4] (mIt (mCall 2 [] F_gaps_between (mCons (mVar 0) (mCons (mVar 1) mNil)))) (mgTup [(mgName 3), (mgName 4)]) mYes (mVar 4)))) (mRet (mIf (mTest (mBin neF (mVar 2) (mVal (mLst mNil)))) (mBin divF (mBin mulF (mC (.int 1000)) (mBin subF (mCB sumC (m1 (mVar 2))) (mCB maxC (m1 (mVar 2))))) (mCB sumC (m1 (mVar 2)))) (mC (.int 0)))))
def F_parted_share : Fn := runF 5 m_parted_share
structure T_parted_share (P : Program) (w : World) (K : PySem.W.Frag) (mg : Str → Option Value) (base : Heap) (Γ : Sta) : Prop where
  nb : NB mg
  f_gaps_between : Fnd P w K mg base Γ "gaps_between" 7 2 F_gaps_between
theorem d_parted_share {P : Program} {w : World} {K : PySem.W.Frag} {mg : Str → Option Value} {base : Heap} {cls : Nat → Addr} {Tt : List (Addr × Str)} {lm : Nat → Addr → Addr → HO} {lq : Str} (T : T_parted_share P w K mg base ⟨K, cls, Tt, lm, lq⟩) {f : Addr} {cdv : Value} (A : Around) (outer : List Env) (s : Shared) (H : Hp) (E : XK) (hr : Room 7 (A.deeper (envOfC "parted_share" (defScope st_parted_share) s.heap.objs.size f cdv))) :
    FSs (defCx P w K mg base nm_parted_share "parted_share" st_parted_share f cdv A outer s H E) ⟨K, cls, Tt, lm, lq⟩ E (defBody st_parted_share) m_parted_share :=
  (fss_cons (fs_setLc (own := [("first", 3), ("long", 4)]) rfl nd_parted_share (i := 2) rfl rfl (sw_true rfl rfl rfl rfl) (fi_seq (fe_fn T.f_gaps_between hr (passes_call (takes_of rfl rfl rfl rfl) fun _ _ _ _ h => h) (fa_cons (fv 0) (fa_cons (fv 1) fa_nil)))) (show BlkOk nm_parted_share (defScope st_parted_share) _ [("first", 3), ("long", 4)] from ⟨rfl, by decide +kernel, by decide +kernel, by decide +kernel, by decide +kernel⟩) (fun s H C cl fp => (fg_tup rfl (fgs_cons (fg_name nd_parted_share (i := 3) rfl (by first | exact Or.inl rfl | exact Or.inr rfl)) (fgs_cons (fg_name nd_parted_share (i := 4) rfl (by first | exact Or.inl rfl | exact Or.inr rfl)) fgs_nil)))) (fun s H C cl fp => fts_nil) (fun s H C cl fp => (fv 4))) (fss_one (fs_ret (fe_if (ft_cmp (op_neD (un64 hr)) ops_ne (fv 2) (fe_val (fl_lst fa_nil))) (fe_op op_fdiv ops_div (fe_op op_mulAll ops_mul fe_int (fe_op op_sub ops_sub (fe_sum1 T.nb rfl (fv 2)) (fe_max1 T.nb rfl (fv 2)))) (fe_sum1 T.nb rfl (fv 2))) fe_int))))
def st_even_share : Stmt := top 8
def nm_even_share : List Str := [("rows" : Str), ("size" : Str), ("sizes" : Str), ("whole" : Str), ("first" : Str), ("long" : Str)]
theorem nd_even_share : nm_even_share.Nodup := by decide +kernel
def m_even_share : MS := (mSeq (mSet 2 (mVal (mLc [4, 5] (mIt (mCall 2 [] F_gaps_between (mCons (mVar 0) (mCons (mVar 1) mNil)))) (mgTup [(mgName 4), (mgName 5)]) mYes (mVar 5)))) (mSeq (mSet 3 (mCB sumC (m1 (mVar 2)))) (mRet (mIf (mTest (mBin gtF (mVar 3) (mC (.int 0)))) (mBin divF (mBin mulF (mC (.int 1000)) (mBin subF (mBin mulF (mVar 3) (mVar 3)) (mGx [0] [none] (mIt (mVar 2)) (mgName 0) mYes (mBin mulF (mVar 0) (mVar 0)) (sumF 0)))) (mBin mulF (mVar 3) (mVar 3))) (mC (.int 0))))))
def F_even_share : Fn := runF 6 m_even_share
structure T_even_share (P : Program) (w : World) (K : PySem.W.Frag) (mg : Str → Option Value) (base : Heap) (Γ : Sta) : Prop where
  nb : NB mg
  f_gaps_between : Fnd P w K mg base Γ "gaps_between" 7 2 F_gaps_between
theorem d_even_share {P : Program} {w : World} {K : PySem.W.Frag} {mg : Str → Option Value} {base : Heap} {cls : Nat → Addr} {Tt : List (Addr × Str)} {lm : Nat → Addr → Addr → HO} {lq : Str} (T : T_even_share P w K mg base ⟨K, cls, Tt, lm, lq⟩) {f : Addr} {cdv : Value} (GT : ∀ A outer s H E, GxT (defCx P w K mg base nm_even_share "even_share" st_even_share f cdv A outer s H E) ⟨K, cls, Tt, lm, lq⟩) (A : Around) (outer : List Env) (s : Shared) (H : Hp) (E : XK) (hr : Room 7 (A.deeper (envOfC "even_share" (defScope st_even_share) s.heap.objs.size f cdv))) :
    FSs (defCx P w K mg base nm_even_share "even_share" st_even_share f cdv A outer s H E) ⟨K, cls, Tt, lm, lq⟩ E (defBody st_even_share) m_even_share :=
  (fss_cons (fs_setLc (own := [("first", 4), ("long", 5)]) rfl nd_even_share (i := 2) rfl rfl (sw_true rfl rfl rfl rfl) (fi_seq (fe_fn T.f_gaps_between hr (passes_call (takes_of rfl rfl rfl rfl) fun _ _ _ _ h => h) (fa_cons (fv 0) (fa_cons (fv 1) fa_nil)))) (show BlkOk nm_even_share (defScope st_even_share) _ [("first", 4), ("long", 5)] from ⟨rfl, by decide +kernel, by decide +kernel, by decide +kernel, by decide +kernel⟩) (fun s H C cl fp => (fg_tup rfl (fgs_cons (fg_name nd_even_share (i := 4) rfl (by first | exact Or.inl rfl | exact Or.inr rfl)) (fgs_cons (fg_name nd_even_share (i := 5) rfl (by first | exact Or.inl rfl | exact Or.inr rfl)) fgs_nil)))) (fun s H C cl fp => fts_nil) (fun s H C cl fp => (fv 5))) (fss_cons (fs_set nd_even_share (i := 3) rfl (by first | exact Or.inl rfl | exact Or.inr rfl) (fe_sum1 T.nb rfl (fv 2))) (fss_one (fs_ret (fe_if (ft_cmp op_gt ops_gt (fv 3) fe_int) (fe_op op_fdiv ops_div (fe_op op_mulAll ops_mul fe_int (fe_op op_sub ops_sub (fe_op op_mulAll ops_mul (fv 3) (fv 3)) (fe_sumG (k := 0) (own := [0]) T.nb (GT _ _ _ _ _) hr (gx_by (show gxB (defScope st_even_share) _ nm_even_share ["long"] [none] = true from by decide +kernel)) (fi_seq (fv 2)) ⟨fun A s H C code fp hq => (fg_name (show List.Nodup (["long"] : List Str) from by decide +kernel) (i := 0) rfl (by first | exact Or.inl rfl | exact Or.inr rfl)), fun A s H C code fp hq => fts_nil, fun A s H C code fp hq => (fe_op op_mulAll ops_mul (fv 0) (fv 0))⟩))) (fe_op op_mulAll ops_mul (fv 3) (fv 3))) fe_int)))))
def st_gap_counts : Stmt := top 9
def nm_gap_counts : List Str := [("rows" : Str), ("size" : Str), ("found" : Str), ("first" : Str), ("long" : Str), ("part" : Str)]
theorem nd_gap_counts : nm_gap_counts.Nodup := by decide +kernel
abbrev t_gap_counts_0 : M Bool := (mTest (mBin leF (mBin mulF (mC (.int 2)) (mVar 5)) (mVar 4)))
abbrev b_gap_counts_1 : MS := (mSeq (mSet 5 (mC (.int 1))) (mSeq (mWhile 64 t_gap_counts_0 (mAug 5 (pureI mulIF) (mC (.int 2)))) (mSetSub setF (mVar 2) (mVar 5) (mBin addF (mDGet2 (mVar 2) (mVar 5) (mC (.int 0))) (mC (.int 1))))))
def m_gap_counts : MS := (mSeq (mSet 2 mDNew) (mSeq (mFor (mIt (mCall 2 [] F_gaps_between (mCons (mVar 0) (mCons (mVar 1) mNil)))) (mgTup [(mgName 3), (mgName 4)]) b_gap_counts_1) (mRet (mDc [5] (mIt (mVal (mCBL sortedDC (m1 (mVar 2))))) (mgName 5) mYes (mVar 5) (mBin ixF (mVar 2) (mVar 5))))))
def F_gap_counts : Fn := runF 6 m_gap_counts
structure T_gap_counts (P : Program) (w : World) (K : PySem.W.Frag) (mg : Str → Option Value) (base : Heap) (Γ : Sta) : Prop where
  nb : NB mg
  f_gaps_between : Fnd P w K mg base Γ "gaps_between" 7 2 F_gaps_between
theorem d_gap_counts {P : Program} {w : World} {K : PySem.W.Frag} {mg : Str → Option Value} {base : Heap} {cls : Nat → Addr} {Tt : List (Addr × Str)} {lm : Nat → Addr → Addr → HO} {lq : Str} (T : T_gap_counts P w K mg base ⟨K, cls, Tt, lm, lq⟩) {f : Addr} {cdv : Value} (A : Around) (outer : List Env) (s : Shared) (H : Hp) (E : XK) (hr : Room 7 (A.deeper (envOfC "gap_counts" (defScope st_gap_counts) s.heap.objs.size f cdv))) :
    FSs (defCx P w K mg base nm_gap_counts "gap_counts" st_gap_counts f cdv A outer s H E) ⟨K, cls, Tt, lm, lq⟩ E (defBody st_gap_counts) m_gap_counts :=
  (fss_cons (fs_set nd_gap_counts (i := 2) rfl (by first | exact Or.inl rfl | exact Or.inr rfl) fe_dnew) (fss_cons (fs_for (passes_of rfl) rfl (fi_seq (fe_fn T.f_gaps_between hr (passes_call (takes_of rfl rfl rfl rfl) fun _ _ _ _ h => h) (fa_cons (fv 0) (fa_cons (fv 1) fa_nil)))) (fg_tup rfl (fgs_cons (fg_name nd_gap_counts (i := 3) rfl (by first | exact Or.inl rfl | exact Or.inr rfl)) (fgs_cons (fg_name nd_gap_counts (i := 4) rfl (by first | exact Or.inl rfl | exact Or.inr rfl)) fgs_nil))) (fss_cons (fs_set nd_gap_counts (i := 5) rfl (by first | exact Or.inl rfl | exact Or.inr rfl) fe_int) (fss_cons (fs_while (n := 64) (passes_of rfl) (ft_cmp op_le ops_le (fe_op op_mulAll ops_mul fe_int (fv 5)) (fv 4)) (fss_one (fs_aug iop_mul (ins_pure ops_mulI) nd_gap_counts (j := 5) rfl (by first | exact Or.inl rfl | exact Or.inr rfl) fe_int))) (fss_one (fs_setSub hr (fv 2) (fv 5) (fe_op op_addAll ops_add (fe_dget2 hr (fv 2) (fv 5) fe_int ⟨rfl, rfl, rfl, rfl⟩) fe_int)))))) (fss_one (fs_ret (fe_dc (own := [("part", 5)]) rfl nd_gap_counts (fi_seq (fe_val (fl_sortedD T.nb rfl (fv 2)))) (show BlkOk nm_gap_counts (defScope st_gap_counts) _ [("part", 5)] from ⟨rfl, by decide +kernel, by decide +kernel, by decide +kernel, by decide +kernel⟩) (fun s H C cl fp => (fg_name nd_gap_counts (i := 5) rfl (by first | exact Or.inl rfl | exact Or.inr rfl))) (fun s H C cl fp => fts_nil) (fun s H C cl fp => (fv 5)) (fun s H C cl fp => (fe_ix hr (fv 2) (fv 5))))))))
def st_cannot_fit : Stmt := top 10
def nm_cannot_fit : List Str := [("rows" : Str), ("size" : Str), ("asks" : Str), ("sizes" : Str), ("first" : Str), ("long" : Str)]
theorem nd_cannot_fit : nm_cannot_fit.Nodup := by decide +kernel
abbrev t_cannot_fit_0 : M Bool := (mTest (mChain2 ltF leF (mCB maxC (m1 (mBin addF (mVar 1) (mVal (mLst (mCons (mC (.int 0)) mNil)))))) (mVar 0) (mCB sumC (m1 (mVar 1)))))
def m_cannot_fit : MS := (mSeq (mSet 3 (mVal (mLc [4, 5] (mIt (mCall 2 [] F_gaps_between (mCons (mVar 0) (mCons (mVar 1) mNil)))) (mgTup [(mgName 4), (mgName 5)]) mYes (mVar 5)))) (mSeq (mIfS (mTest (mGx [0] [none] (mIt (mVar 2)) (mgName 0) mYes (mBin ltF (mVar 0) (mC (.int 1))) (anyF true))) (mRaise 0) mSkip) (mRet (mGx [0] [none, some 3] (mIt (mVar 2)) (mgName 0) t_cannot_fit_0 (mVar 0) tupF))))
def F_cannot_fit : Fn := runF 6 m_cannot_fit
structure T_cannot_fit (P : Program) (w : World) (K : PySem.W.Frag) (mg : Str → Option Value) (base : Heap) (Γ : Sta) : Prop where
  nb : NB mg
  x_GapError : ∀ {X : Cx}, X.K = K → X.mg = mg → Gl X "GapError" → ExcOk X Γ 0 "GapError"
  f_gaps_between : Fnd P w K mg base Γ "gaps_between" 7 2 F_gaps_between
theorem d_cannot_fit {P : Program} {w : World} {K : PySem.W.Frag} {mg : Str → Option Value} {base : Heap} {cls : Nat → Addr} {Tt : List (Addr × Str)} {lm : Nat → Addr → Addr → HO} {lq : Str} (T : T_cannot_fit P w K mg base ⟨K, cls, Tt, lm, lq⟩) {f : Addr} {cdv : Value} (GT : ∀ A outer s H E, GxT (defCx P w K mg base nm_cannot_fit "cannot_fit" st_cannot_fit f cdv A outer s H E) ⟨K, cls, Tt, lm, lq⟩) (A : Around) (outer : List Env) (s : Shared) (H : Hp) (E : XK) (hr : Room 7 (A.deeper (envOfC "cannot_fit" (defScope st_cannot_fit) s.heap.objs.size f cdv))) :
    FSs (defCx P w K mg base nm_cannot_fit "cannot_fit" st_cannot_fit f cdv A outer s H E) ⟨K, cls, Tt, lm, lq⟩ E (defBody st_cannot_fit) m_cannot_fit :=
  (fss_cons (fs_set nd_cannot_fit (i := 3) rfl (by first | exact Or.inl rfl | exact Or.inr rfl) (fe_val (fl_lc (own := [("first", 4), ("long", 5)]) rfl nd_cannot_fit (fi_seq (fe_fn T.f_gaps_between hr (passes_call (takes_of rfl rfl rfl rfl) fun _ _ _ _ h => h) (fa_cons (fv 0) (fa_cons (fv 1) fa_nil)))) (show BlkOk nm_cannot_fit (defScope st_cannot_fit) _ [("first", 4), ("long", 5)] from ⟨rfl, by decide +kernel, by decide +kernel, by decide +kernel, by decide +kernel⟩) (fun s H C cl fp => (fg_tup rfl (fgs_cons (fg_name nd_cannot_fit (i := 4) rfl (by first | exact Or.inl rfl | exact Or.inr rfl)) (fgs_cons (fg_name nd_cannot_fit (i := 5) rfl (by first | exact Or.inl rfl | exact Or.inr rfl)) fgs_nil)))) (fun s H C cl fp => fts_nil) (fun s H C cl fp => (fv 5))))) (fss_cons (fs_if (ft_val (fe_anyG (k := 0) (own := [0]) T.nb (GT _ _ _ _ _) hr (gx_by (show gxB (defScope st_cannot_fit) _ nm_cannot_fit ["ask"] [none] = true from by decide +kernel)) (fi_seq (fv 2)) ⟨fun A s H C code fp hq => (fg_name (show List.Nodup (["ask"] : List Str) from by decide +kernel) (i := 0) rfl (by first | exact Or.inl rfl | exact Or.inr rfl)), fun A s H C code fp hq => fts_nil, fun A s H C code fp hq => (fe_cmp op_lt ops_lt (fv 0) fe_int)⟩)) (fss_one (fs_raise rfl (takes_of rfl rfl rfl rfl) (T.x_GapError rfl rfl rfl))) fss_nil) (fss_one (fs_ret (fe_tupG (k := 0) (own := [0]) T.nb (GT _ _ _ _ _) hr (gx_by (show gxB (defScope st_cannot_fit) _ nm_cannot_fit ["ask", "sizes"] [none, some 3] = true from by decide +kernel)) (fi_seq (fv 2)) ⟨fun A s H C code fp hq => (fg_name (show List.Nodup (["ask", "sizes"] : List Str) from by decide +kernel) (i := 0) rfl (by first | exact Or.inl rfl | exact Or.inr rfl)), fun A s H C code fp hq => (fts_one (ft_chain2 op_lt op_le ops_lt ops_le (fe_max1 T.nb rfl (fe_op op_addAll ops_add (fv 1) (fe_val (fl_lst (fa_cons fe_int fa_nil))))) (fv 0) (fe_sum1 T.nb rfl (fv 1)))), fun A s H C code fp hq => (fv 0)⟩)))))
def st_how_many_fit : Stmt := top 11
def nm_how_many_fit : List Str := [("rows" : Str), ("size" : Str), ("ask" : Str)]
theorem nd_how_many_fit : nm_how_many_fit.Nodup := by decide +kernel
def m_how_many_fit : MS := (mSeq (mIfS (mTest (mBin ltF (mVar 2) (mC (.int 1)))) (mRaise 0) mSkip) (mRet (mGx [0, 1] [none, none, some 2] (mIt (mCall 2 [] F_gaps_between (mCons (mVar 0) (mCons (mVar 1) mNil)))) (mgTup [(mgName 0), (mgName 1)]) mYes (mBin divF (mVar 1) (mVar 2)) (sumF 0))))
def F_how_many_fit : Fn := runF 3 m_how_many_fit
structure T_how_many_fit (P : Program) (w : World) (K : PySem.W.Frag) (mg : Str → Option Value) (base : Heap) (Γ : Sta) : Prop where
  nb : NB mg
  x_GapError : ∀ {X : Cx}, X.K = K → X.mg = mg → Gl X "GapError" → ExcOk X Γ 0 "GapError"
  f_gaps_between : Fnd P w K mg base Γ "gaps_between" 7 2 F_gaps_between
theorem d_how_many_fit {P : Program} {w : World} {K : PySem.W.Frag} {mg : Str → Option Value} {base : Heap} {cls : Nat → Addr} {Tt : List (Addr × Str)} {lm : Nat → Addr → Addr → HO} {lq : Str} (T : T_how_many_fit P w K mg base ⟨K, cls, Tt, lm, lq⟩) {f : Addr} {cdv : Value} (GT : ∀ A outer s H E, GxT (defCx P w K mg base nm_how_many_fit "how_many_fit" st_how_many_fit f cdv A outer s H E) ⟨K, cls, Tt, lm, lq⟩) (A : Around) (outer : List Env) (s : Shared) (H : Hp) (E : XK) (hr : Room 7 (A.deeper (envOfC "how_many_fit" (defScope st_how_many_fit) s.heap.objs.size f cdv))) :
    FSs (defCx P w K mg base nm_how_many_fit "how_many_fit" st_how_many_fit f cdv A outer s H E) ⟨K, cls, Tt, lm, lq⟩ E (defBody st_how_many_fit) m_how_many_fit :=
  (fss_cons (fs_if (ft_cmp op_lt ops_lt (fv 2) fe_int) (fss_one (fs_raise rfl (takes_of rfl rfl rfl rfl) (T.x_GapError rfl rfl rfl))) fss_nil) (fss_one (fs_ret (fe_sumG (k := 0) (own := [0, 1]) T.nb (GT _ _ _ _ _) hr (gx_by (show gxB (defScope st_how_many_fit) _ nm_how_many_fit ["first", "long", "ask"] [none, none, some 2] = true from by decide +kernel)) (fi_seq (fe_fn T.f_gaps_between hr (passes_call (takes_of rfl rfl rfl rfl) fun _ _ _ _ h => h) (fa_cons (fv 0) (fa_cons (fv 1) fa_nil)))) ⟨fun A s H C code fp hq => (fg_tup rfl (fgs_cons (fg_name (show List.Nodup (["first", "long", "ask"] : List Str) from by decide +kernel) (i := 0) rfl (by first | exact Or.inl rfl | exact Or.inr rfl)) (fgs_cons (fg_name (show List.Nodup (["first", "long", "ask"] : List Str) from by decide +kernel) (i := 1) rfl (by first | exact Or.inl rfl | exact Or.inr rfl)) fgs_nil))), fun A s H C code fp hq => fts_nil, fun A s H C code fp hq => (fe_op op_fdiv ops_div (fv 1) (fv 2))⟩))))
def st_map_text : Stmt := top 12
def nm_map_text : List Str := [("rows" : Str), ("size" : Str), ("wide" : Str), ("found" : Str), ("turn" : Str), ("used" : Str), ("end" : Str), ("here" : Str)]
theorem nd_map_text : nm_map_text.Nodup := by decide +kernel
abbrev e_map_text_0 : M D := (mCB max2C (m2 (mC (.int 0)) (mBin subF (mCB min2C (m2 (mVar 2) (mBin addF (mVar 0) (mVar 1)))) (mCB max2C (m2 (mVar 3) (mVar 0))))))
abbrev b_map_text_1 : MS := (mSeq (mSet 6 (mBin addF (mBin addF (mVar 7) (mBin divF (mVar 1) (mVar 2))) (mIf (mTest (mBin ltF (mVar 4) (mBin modF (mVar 1) (mVar 2)))) (mC (.int 1)) (mC (.int 0))))) (mSeq (mSet 5 (mGx [0, 1] [none, none, some 6, some 7] (mIt (mVar 0)) (mgTup [(mgName 0), (mgName 1)]) mYes e_map_text_0 (sumF 0))) (mSeq (mAug 3 iaddF (mIf (mTest (mBin eqF (mVar 5) (mC (.int 0)))) (mC (.str ".")) (mIf (mTest (mBin eqF (mVar 5) (mBin subF (mVar 6) (mVar 7)))) (mC (.str "#")) (mC (.str "+"))))) (mSet 7 (mVar 6)))))
def m_map_text : MS := (mSeq (mExpr (mCall 2 [] F_check_rows (mCons (mVar 0) (mCons (mVar 1) mNil)))) (mSeq (mIfS (mNot (mTest (mChain2 leF leF (mC (.int 1)) (mVar 2) (mVar 1)))) (mRaise 0) mSkip) (mSeq (mAsg (mgTup [(mgName 3), (mgName 7)]) (mTup (mCons (mC (.str "")) (mCons (mC (.int 0)) mNil)))) (mSeq (mFor (mRng1 (mCons (mVar 2) mNil)) (mgName 4) b_map_text_1) (mRet (mVar 3))))))
def F_map_text : Fn := runF 8 m_map_text
structure T_map_text (P : Program) (w : World) (K : PySem.W.Frag) (mg : Str → Option Value) (base : Heap) (Γ : Sta) : Prop where
  nb : NB mg
  x_GapError : ∀ {X : Cx}, X.K = K → X.mg = mg → Gl X "GapError" → ExcOk X Γ 0 "GapError"
  f_check_rows : Fnd P w K mg base Γ "check_rows" 6 2 F_check_rows
theorem d_map_text {P : Program} {w : World} {K : PySem.W.Frag} {mg : Str → Option Value} {base : Heap} {cls : Nat → Addr} {Tt : List (Addr × Str)} {lm : Nat → Addr → Addr → HO} {lq : Str} (T : T_map_text P w K mg base ⟨K, cls, Tt, lm, lq⟩) {f : Addr} {cdv : Value} (GT : ∀ A outer s H E, GxT (defCx P w K mg base nm_map_text "map_text" st_map_text f cdv A outer s H E) ⟨K, cls, Tt, lm, lq⟩) (A : Around) (outer : List Env) (s : Shared) (H : Hp) (E : XK) (hr : Room 6 (A.deeper (envOfC "map_text" (defScope st_map_text) s.heap.objs.size f cdv))) :
    FSs (defCx P w K mg base nm_map_text "map_text" st_map_text f cdv A outer s H E) ⟨K, cls, Tt, lm, lq⟩ E (defBody st_map_text) m_map_text :=
  (fss_cons (fs_expr (fe_fn T.f_check_rows hr (passes_call (takes_of rfl rfl rfl rfl) fun _ _ _ _ h => h) (fa_cons (fv 0) (fa_cons (fv 1) fa_nil)))) (fss_cons (fs_if (ft_not (ft_chain2 op_le op_le ops_le ops_le fe_int (fv 2) (fv 1))) (fss_one (fs_raise rfl (takes_of rfl rfl rfl rfl) (T.x_GapError rfl rfl rfl))) fss_nil) (fss_cons (fs_asg (fe_tup (fa_cons fe_str (fa_cons fe_int fa_nil))) (fg_tup rfl (fgs_cons (fg_name nd_map_text (i := 3) rfl (by first | exact Or.inl rfl | exact Or.inr rfl)) (fgs_cons (fg_name nd_map_text (i := 7) rfl (by first | exact Or.inl rfl | exact Or.inr rfl)) fgs_nil)))) (fss_cons (fs_for (passes_of rfl) rfl (fi_range1 rfl (T.nb _ (by decide)) (fa_cons (fv 2) fa_nil)) (fg_name nd_map_text (i := 4) rfl (by first | exact Or.inl rfl | exact Or.inr rfl)) (fss_cons (fs_set nd_map_text (i := 6) rfl (by first | exact Or.inl rfl | exact Or.inr rfl) (fe_op op_addAll ops_add (fe_op op_addAll ops_add (fv 7) (fe_op op_fdiv ops_div (fv 1) (fv 2))) (fe_if (ft_cmp op_lt ops_lt (fv 4) (fe_op op_mod ops_mod (fv 1) (fv 2))) fe_int fe_int))) (fss_cons (fs_set nd_map_text (i := 5) rfl (by first | exact Or.inl rfl | exact Or.inr rfl) (fe_sumG (k := 0) (own := [0, 1]) T.nb (GT _ _ _ _ _) hr (gx_by (show gxB (defScope st_map_text) _ nm_map_text ["first", "long", "end", "here"] [none, none, some 6, some 7] = true from by decide +kernel)) (fi_seq (fv 0)) ⟨fun A s H C code fp hq => (fg_tup rfl (fgs_cons (fg_name (show List.Nodup (["first", "long", "end", "here"] : List Str) from by decide +kernel) (i := 0) rfl (by first | exact Or.inl rfl | exact Or.inr rfl)) (fgs_cons (fg_name (show List.Nodup (["first", "long", "end", "here"] : List Str) from by decide +kernel) (i := 1) rfl (by first | exact Or.inl rfl | exact Or.inr rfl)) fgs_nil))), fun A s H C code fp hq => fts_nil, fun A s H C code fp hq => (fe_max2 T.nb rfl fe_int (fe_op op_sub ops_sub (fe_min2 T.nb rfl (fv 2) (fe_op op_addAll ops_add (fv 0) (fv 1))) (fe_max2 T.nb rfl (fv 3) (fv 0))))⟩)) (fss_cons (fs_aug op_iaddAll ins_add nd_map_text (j := 3) rfl (by first | exact Or.inl rfl | exact Or.inr rfl) (fe_if (ft_cmp (op_eqD (un64 hr)) ops_eq (fv 5) fe_int) fe_str (fe_if (ft_cmp (op_eqD (un64 hr)) ops_eq (fv 5) (fe_op op_sub ops_sub (fv 6) (fv 7))) fe_str fe_str))) (fss_one (fs_set nd_map_text (i := 7) rfl (by first | exact Or.inl rfl | exact Or.inr rfl) (fv 6))))))) (fss_one (fs_ret (fv 3)))))))
def st_moves_to_fit : Stmt := top 13
def nm_moves_to_fit : List Str := [("rows" : Str), ("size" : Str), ("ask" : Str), ("best" : Str), ("whole" : Str), ("start" : Str)]
theorem nd_moves_to_fit : nm_moves_to_fit.Nodup := by decide +kernel
abbrev t_moves_to_fit_0 : M Bool := (mAnd (mTest (mBin ltF (mVar 0) (mBin addF (mVar 3) (mVar 2)))) (mTest (mBin ltF (mVar 3) (mBin addF (mVar 0) (mVar 1)))))
abbrev b_moves_to_fit_1 : MS := (mSeq (mSet 4 (mGx [0, 1] [none, none, some 2, some 5] (mIt (mVar 0)) (mgTup [(mgName 0), (mgName 1)]) t_moves_to_fit_0 (mVar 1) (sumF 0))) (mIfS (mOr (mTest (mBin isNF (mVar 3) (mC .non))) (mTest (mBin ltF (mVar 4) (mBin ixF (mVar 3) (mC (.int 0)))))) (mSet 3 (mTup (mCons (mVar 4) (mCons (mVar 5) mNil)))) mSkip))
def m_moves_to_fit : MS := (mSeq (mExpr (mCall 2 [] F_check_rows (mCons (mVar 0) (mCons (mVar 1) mNil)))) (mSeq (mIfS (mTest (mBin ltF (mVar 2) (mC (.int 1)))) (mRaise 0) mSkip) (mSeq (mSet 3 (mC .non)) (mSeq (mFor (mRng1 (mCons (mBin addF (mBin subF (mVar 1) (mVar 2)) (mC (.int 1))) mNil)) (mgName 5) b_moves_to_fit_1) (mRet (mVar 3))))))
def F_moves_to_fit : Fn := runF 6 m_moves_to_fit
structure T_moves_to_fit (P : Program) (w : World) (K : PySem.W.Frag) (mg : Str → Option Value) (base : Heap) (Γ : Sta) : Prop where
  nb : NB mg
  x_GapError : ∀ {X : Cx}, X.K = K → X.mg = mg → Gl X "GapError" → ExcOk X Γ 0 "GapError"
  f_check_rows : Fnd P w K mg base Γ "check_rows" 6 2 F_check_rows
theorem d_moves_to_fit {P : Program} {w : World} {K : PySem.W.Frag} {mg : Str → Option Value} {base : Heap} {cls : Nat → Addr} {Tt : List (Addr × Str)} {lm : Nat → Addr → Addr → HO} {lq : Str} (T : T_moves_to_fit P w K mg base ⟨K, cls, Tt, lm, lq⟩) {f : Addr} {cdv : Value} (GT : ∀ A outer s H E, GxT (defCx P w K mg base nm_moves_to_fit "moves_to_fit" st_moves_to_fit f cdv A outer s H E) ⟨K, cls, Tt, lm, lq⟩) (A : Around) (outer : List Env) (s : Shared) (H : Hp) (E : XK) (hr : Room 6 (A.deeper (envOfC "moves_to_fit" (defScope st_moves_to_fit) s.heap.objs.size f cdv))) :
    FSs (defCx P w K mg base nm_moves_to_fit "moves_to_fit" st_moves_to_fit f cdv A outer s H E) ⟨K, cls, Tt, lm, lq⟩ E (defBody st_moves_to_fit) m_moves_to_fit :=
  (fss_cons (fs_expr (fe_fn T.f_check_rows hr (passes_call (takes_of rfl rfl rfl rfl) fun _ _ _ _ h => h) (fa_cons (fv 0) (fa_cons (fv 1) fa_nil)))) (fss_cons (fs_if (ft_cmp op_lt ops_lt (fv 2) fe_int) (fss_one (fs_raise rfl (takes_of rfl rfl rfl rfl) (T.x_GapError rfl rfl rfl))) fss_nil) (fss_cons (fs_set nd_moves_to_fit (i := 3) rfl (by first | exact Or.inl rfl | exact Or.inr rfl) fe_non) (fss_cons (fs_for (passes_of rfl) rfl (fi_range1 rfl (T.nb _ (by decide)) (fa_cons (fe_op op_addAll ops_add (fe_op op_sub ops_sub (fv 1) (fv 2)) fe_int) fa_nil)) (fg_name nd_moves_to_fit (i := 5) rfl (by first | exact Or.inl rfl | exact Or.inr rfl)) (fss_cons (fs_set nd_moves_to_fit (i := 4) rfl (by first | exact Or.inl rfl | exact Or.inr rfl) (fe_sumG (k := 0) (own := [0, 1]) T.nb (GT _ _ _ _ _) hr (gx_by (show gxB (defScope st_moves_to_fit) _ nm_moves_to_fit ["first", "long", "ask", "start"] [none, none, some 2, some 5] = true from by decide +kernel)) (fi_seq (fv 0)) ⟨fun A s H C code fp hq => (fg_tup rfl (fgs_cons (fg_name (show List.Nodup (["first", "long", "ask", "start"] : List Str) from by decide +kernel) (i := 0) rfl (by first | exact Or.inl rfl | exact Or.inr rfl)) (fgs_cons (fg_name (show List.Nodup (["first", "long", "ask", "start"] : List Str) from by decide +kernel) (i := 1) rfl (by first | exact Or.inl rfl | exact Or.inr rfl)) fgs_nil))), fun A s H C code fp hq => (fts_one (PW.pt (fw_and (ft_cmp op_lt ops_lt (fv 0) (fe_op op_addAll ops_add (fv 3) (fv 2))) (fw_and1 (ft_cmp op_lt ops_lt (fv 3) (fe_op op_addAll ops_add (fv 0) (fv 1))))))), fun A s H C code fp hq => (fv 1)⟩)) (fss_one (fs_if (PW.pt (fw_or (ft_cmp op_isN ops_isN (fv 3) fe_non) (fw_or1 (ft_cmp op_lt ops_lt (fv 4) (fe_ix hr (fv 3) fe_int))))) (fss_one (fs_set nd_moves_to_fit (i := 3) rfl (by first | exact Or.inl rfl | exact Or.inr rfl) (fe_tup (fa_cons (fv 4) (fa_cons (fv 5) fa_nil))))) fss_nil)))) (fss_one (fs_ret (fv 3)))))))
def st_joins_by_free : Stmt := top 14
def nm_joins_by_free : List Str := [("rows" : Str), ("size" : Str), ("spot" : Str), ("rest" : Str), ("first" : Str), ("long" : Str)]
theorem nd_joins_by_free : nm_joins_by_free.Nodup := by decide +kernel
abbrev t_joins_by_free_0 : M Bool := (mTest (mChain2 leF ltF (mVar 4) (mBin ixF (mBin ixF (mVar 0) (mVar 2)) (mC (.int 0))) (mBin addF (mVar 4) (mVar 5))))
def m_joins_by_free : MS := (mSeq (mExpr (mCall 2 [] F_check_rows (mCons (mVar 0) (mCons (mVar 1) mNil)))) (mSeq (mIfS (mNot (mTest (mChain2 leF ltF (mC (.int 0)) (mVar 2) (mCB lenC (m1 (mVar 0)))))) (mRaise 0) mSkip) (mSeq (mSet 3 (mBin addF (mVal (mCBL listC (m1 (mSl slF (mVar 0) mNoPart (mPart (mVar 2)))))) (mVal (mCBL listC (m1 (mSl slF (mVar 0) (mPart (mBin addF (mVar 2) (mC (.int 1)))) mNoPart)))))) (mRet (mBin ixF (mVal (mLc [4, 5] (mIt (mCall 2 [] F_gaps_between (mCons (mVar 3) (mCons (mVar 1) mNil)))) (mgTup [(mgName 4), (mgName 5)]) t_joins_by_free_0 (mVar 5))) (mC (.int 0)))))))
def F_joins_by_free : Fn := runF 6 m_joins_by_free
structure T_joins_by_free (P : Program) (w : World) (K : PySem.W.Frag) (mg : Str → Option Value) (base : Heap) (Γ : Sta) : Prop where
  nb : NB mg
  x_GapError : ∀ {X : Cx}, X.K = K → X.mg = mg → Gl X "GapError" → ExcOk X Γ 0 "GapError"
  f_check_rows : Fnd P w K mg base Γ "check_rows" 6 2 F_check_rows
  f_gaps_between : Fnd P w K mg base Γ "gaps_between" 7 2 F_gaps_between
theorem d_joins_by_free {P : Program} {w : World} {K : PySem.W.Frag} {mg : Str → Option Value} {base : Heap} {cls : Nat → Addr} {Tt : List (Addr × Str)} {lm : Nat → Addr → Addr → HO} {lq : Str} (T : T_joins_by_free P w K mg base ⟨K, cls, Tt, lm, lq⟩) {f : Addr} {cdv : Value} (A : Around) (outer : List Env) (s : Shared) (H : Hp) (E : XK) (hr : Room 7 (A.deeper (envOfC "joins_by_free" (defScope st_joins_by_free) s.heap.objs.size f cdv))) :
    FSs (defCx P w K mg base nm_joins_by_free "joins_by_free" st_joins_by_free f cdv A outer s H E) ⟨K, cls, Tt, lm, lq⟩ E (defBody st_joins_by_free) m_joins_by_free :=
  (fss_cons (fs_expr (fe_fn T.f_check_rows hr (passes_call (takes_of rfl rfl rfl rfl) fun _ _ _ _ h => h) (fa_cons (fv 0) (fa_cons (fv 1) fa_nil)))) (fss_cons (fs_if (ft_not (ft_chain2 op_le op_lt ops_le ops_lt fe_int (fv 2) (fe_len T.nb (fv 0)))) (fss_one (fs_raise rfl (takes_of rfl rfl rfl rfl) (T.x_GapError rfl rfl rfl))) fss_nil) (fss_cons (fs_set nd_joins_by_free (i := 3) rfl (by first | exact Or.inl rfl | exact Or.inr rfl) (fe_op op_addAll ops_add (fe_val (fl_list1 T.nb (fe_slice (fv 0) fo_none (fo_some (fv 2))))) (fe_val (fl_list1 T.nb (fe_slice (fv 0) (fo_some (fe_op op_addAll ops_add (fv 2) fe_int)) fo_none))))) (fss_one (fs_ret (fe_ix hr (fe_val (fl_lc (own := [("first", 4), ("long", 5)]) rfl nd_joins_by_free (fi_seq (fe_fn T.f_gaps_between hr (passes_call (takes_of rfl rfl rfl rfl) fun _ _ _ _ h => h) (fa_cons (fv 3) (fa_cons (fv 1) fa_nil)))) (show BlkOk nm_joins_by_free (defScope st_joins_by_free) _ [("first", 4), ("long", 5)] from ⟨rfl, by decide +kernel, by decide +kernel, by decide +kernel, by decide +kernel⟩) (fun s H C cl fp => (fg_tup rfl (fgs_cons (fg_name nd_joins_by_free (i := 4) rfl (by first | exact Or.inl rfl | exact Or.inr rfl)) (fgs_cons (fg_name nd_joins_by_free (i := 5) rfl (by first | exact Or.inl rfl | exact Or.inr rfl)) fgs_nil)))) (fun s H C cl fp => (fts_one (ft_chain2 op_le op_lt ops_le ops_lt (fv 4) (fe_ix hr (fe_ix hr (fv 0) (fv 2)) fe_int) (fe_op op_addAll ops_add (fv 4) (fv 5))))) (fun s H C cl fp => (fv 5)))) fe_int))))))
def st_waste_of_lines : Stmt := top 16
def nm_waste_of_lines : List Str := [("sizes" : Str), ("line" : Str), ("more" : Str)]
theorem nd_waste_of_lines : nm_waste_of_lines.Nodup := by decide +kernel
abbrev e_waste_of_lines_0 : M D := (mBin modF (mBin subF (mC (.int 0)) (mVar 0)) (mVar 1))
def m_waste_of_lines : MS := (mSeq (mIfS (mOr (mTest (mBin ltF (mVar 1) (mC (.int 1)))) (mTest (mGx [0] [none] (mIt (mVar 0)) (mgName 0) mYes (mBin ltF (mVar 0) (mC (.int 1))) (anyF true)))) (mRaise 0) mSkip) (mSeq (mSet 2 (mGx [0] [none, some 1] (mIt (mVar 0)) (mgName 0) mYes e_waste_of_lines_0 (sumF 0))) (mRet (mTup (mCons (mVar 2) (mCons (mIf (mTest (mBin gtF (mCB lenC (m1 (mVar 0))) (mC (.int 0)))) (mBin divF (mBin mulF (mC (.int 1000)) (mVar 2)) (mCB sumC (m1 (mVar 0)))) (mC (.int 0))) mNil))))))
def F_waste_of_lines : Fn := runF 3 m_waste_of_lines
structure T_waste_of_lines (P : Program) (w : World) (K : PySem.W.Frag) (mg : Str → Option Value) (base : Heap) (Γ : Sta) : Prop where
  nb : NB mg
  x_GapError : ∀ {X : Cx}, X.K = K → X.mg = mg → Gl X "GapError" → ExcOk X Γ 0 "GapError"
theorem d_waste_of_lines {P : Program} {w : World} {K : PySem.W.Frag} {mg : Str → Option Value} {base : Heap} {cls : Nat → Addr} {Tt : List (Addr × Str)} {lm : Nat → Addr → Addr → HO} {lq : Str} (T : T_waste_of_lines P w K mg base ⟨K, cls, Tt, lm, lq⟩) {f : Addr} {cdv : Value} (GT : ∀ A outer s H E, GxT (defCx P w K mg base nm_waste_of_lines "waste_of_lines" st_waste_of_lines f cdv A outer s H E) ⟨K, cls, Tt, lm, lq⟩) (A : Around) (outer : List Env) (s : Shared) (H : Hp) (E : XK) (hr : Room 5 (A.deeper (envOfC "waste_of_lines" (defScope st_waste_of_lines) s.heap.objs.size f cdv))) :
    FSs (defCx P w K mg base nm_waste_of_lines "waste_of_lines" st_waste_of_lines f cdv A outer s H E) ⟨K, cls, Tt, lm, lq⟩ E (defBody st_waste_of_lines) m_waste_of_lines :=
  (fss_cons (fs_if (PW.pt (fw_or (ft_cmp op_lt ops_lt (fv 1) fe_int) (fw_or1 (ft_val (fe_anyG (k := 0) (own := [0]) T.nb (GT _ _ _ _ _) hr (gx_by (show gxB (defScope st_waste_of_lines) _ nm_waste_of_lines ["size"] [none] = true from by decide +kernel)) (fi_seq (fv 0)) ⟨fun A s H C code fp hq => (fg_name (show List.Nodup (["size"] : List Str) from by decide +kernel) (i := 0) rfl (by first | exact Or.inl rfl | exact Or.inr rfl)), fun A s H C code fp hq => fts_nil, fun A s H C code fp hq => (fe_cmp op_lt ops_lt (fv 0) fe_int)⟩))))) (fss_one (fs_raise rfl (takes_of rfl rfl rfl rfl) (T.x_GapError rfl rfl rfl))) fss_nil) (fss_cons (fs_set nd_waste_of_lines (i := 2) rfl (by first | exact Or.inl rfl | exact Or.inr rfl) (fe_sumG (k := 0) (own := [0]) T.nb (GT _ _ _ _ _) hr (gx_by (show gxB (defScope st_waste_of_lines) _ nm_waste_of_lines ["size", "line"] [none, some 1] = true from by decide +kernel)) (fi_seq (fv 0)) ⟨fun A s H C code fp hq => (fg_name (show List.Nodup (["size", "line"] : List Str) from by decide +kernel) (i := 0) rfl (by first | exact Or.inl rfl | exact Or.inr rfl)), fun A s H C code fp hq => fts_nil, fun A s H C code fp hq => (fe_op op_mod ops_mod (fe_op op_sub ops_sub fe_int (fv 0)) (fv 1))⟩)) (fss_one (fs_ret (fe_tup (fa_cons (fv 2) (fa_cons (fe_if (ft_cmp op_gt ops_gt (fe_len T.nb (fv 0)) fe_int) (fe_op op_fdiv ops_div (fe_op op_mulAll ops_mul fe_int (fv 2)) (fe_sum1 T.nb rfl (fv 0))) fe_int) fa_nil)))))))
def st_look_back : Stmt := top 17
def nm_look_back : List Str := [("looks" : Str), ("found" : Str), ("most" : Str), ("place" : Str), ("rows" : Str), ("size" : Str), ("share" : Str)]
theorem nd_look_back : nm_look_back.Nodup := by decide +kernel
abbrev b_look_back_0 : MS := (mSeq (mSet 6 (mCall 2 [] F_parted_share (mCons (mVar 4) (mCons (mVar 5) mNil)))) (mSeq (mAug 1 iaddF (mIf (mTest (mBin gtF (mVar 6) (mVar 2))) (mVal (mLst (mCons (mTup (mCons (mVar 3) (mCons (mVar 6) mNil))) mNil))) (mBox (mLst mNil)))) (mSet 2 (mCB max2C (m2 (mVar 2) (mVar 6))))))
def m_look_back : MS := (mSeq (mPar2 1 2 (mCons (mBox (mLst mNil)) (mCons (mBin subF (mC (.int 0)) (mC (.int 1))) mNil))) (mSeq (mFor (mEnumA (mCons (mVar 0) mNil)) (mgTup [(mgName 3), (mgTup [(mgName 4), (mgName 5)])]) b_look_back_0) (mRet (mCB tupC (m1 (mVar 1))))))
def F_look_back : Fn := runF 7 m_look_back
structure T_look_back (P : Program) (w : World) (K : PySem.W.Frag) (mg : Str → Option Value) (base : Heap) (Γ : Sta) : Prop where
  nb : NB mg
  f_parted_share : Fnd P w K mg base Γ "parted_share" 8 2 F_parted_share
theorem d_look_back {P : Program} {w : World} {K : PySem.W.Frag} {mg : Str → Option Value} {base : Heap} {cls : Nat → Addr} {Tt : List (Addr × Str)} {lm : Nat → Addr → Addr → HO} {lq : Str} (T : T_look_back P w K mg base ⟨K, cls, Tt, lm, lq⟩) {f : Addr} {cdv : Value} (A : Around) (outer : List Env) (s : Shared) (H : Hp) (E : XK) (hr : Room 8 (A.deeper (envOfC "look_back" (defScope st_look_back) s.heap.objs.size f cdv))) :
    FSs (defCx P w K mg base nm_look_back "look_back" st_look_back f cdv A outer s H E) ⟨K, cls, Tt, lm, lq⟩ E (defBody st_look_back) m_look_back :=
  (fss_cons (fs_par2 rfl nd_look_back (i := 1) rfl (j := 2) rfl (by decide) rfl rfl (fa_cons (fe_box (fl_lst fa_nil)) (fa_cons (fe_op op_sub ops_sub fe_int fe_int) fa_nil))) (fss_cons (fs_for (passes_of rfl) rfl (fi_enumA rfl (T.nb _ (by decide)) (fa_cons (fv 0) fa_nil)) (fg_tup rfl (fgs_cons (fg_name nd_look_back (i := 3) rfl (by first | exact Or.inl rfl | exact Or.inr rfl)) (fgs_cons (fg_tup rfl (fgs_cons (fg_name nd_look_back (i := 4) rfl (by first | exact Or.inl rfl | exact Or.inr rfl)) (fgs_cons (fg_name nd_look_back (i := 5) rfl (by first | exact Or.inl rfl | exact Or.inr rfl)) fgs_nil))) fgs_nil))) (fss_cons (fs_set nd_look_back (i := 6) rfl (by first | exact Or.inl rfl | exact Or.inr rfl) (fe_fn T.f_parted_share hr (passes_call (takes_of rfl rfl rfl rfl) fun _ _ _ _ h => h) (fa_cons (fv 4) (fa_cons (fv 5) fa_nil)))) (fss_cons (fs_aug op_iaddAll ins_add nd_look_back (j := 1) rfl (by first | exact Or.inl rfl | exact Or.inr rfl) (fe_if (ft_cmp op_gt ops_gt (fv 6) (fv 2)) (fe_val (fl_lst (fa_cons (fe_tup (fa_cons (fv 3) (fa_cons (fv 6) fa_nil))) fa_nil))) (fe_box (fl_lst fa_nil)))) (fss_one (fs_set nd_look_back (i := 2) rfl (by first | exact Or.inl rfl | exact Or.inr rfl) (fe_max2 T.nb rfl (fv 2) (fv 6))))))) (fss_one (fs_ret (fe_tup1 T.nb (fv 1))))))
def st__law_dice : Stmt := top 19
def nm__law_dice : List Str := [("cell" : Str)]
theorem nd__law_dice : nm__law_dice.Nodup := by decide +kernel
def m__law_dice : MS := (mSeq (mIfS (mTest (mChain2 ltF ltF (mBin subF (mC (.int 0)) (mC (.int 10))) (mVar 0) (mC (.int 10)))) (mRet (mBox (mLst (mCons (mCB absC (m1 (mVar 0))) (mCons (mC (.int 0)) (mCons (mC (.int 2)) mNil)))))) mSkip) (mRet (mBox (mLst (mCons (mVar 0) (mCons (mBin addF (mC (.int 1)) (mBin modF (mCB intC (m1 (mVar 0))) (mC (.int 1009)))) (mCons (mCB intC (m1 (mBin geF (mVar 0) (mBin powF (mC (.int 10)) (mC (.int 18)))))) mNil)))))))
def F__law_dice : Fn := runF 1 m__law_dice
structure T__law_dice (P : Program) (w : World) (K : PySem.W.Frag) (mg : Str → Option Value) (base : Heap) (Γ : Sta) : Prop where
  nb : NB mg
theorem d__law_dice {P : Program} {w : World} {K : PySem.W.Frag} {mg : Str → Option Value} {base : Heap} {cls : Nat → Addr} {Tt : List (Addr × Str)} {lm : Nat → Addr → Addr → HO} {lq : Str} (T : T__law_dice P w K mg base ⟨K, cls, Tt, lm, lq⟩) {f : Addr} {cdv : Value} (A : Around) (outer : List Env) (s : Shared) (H : Hp) (E : XK) (hr : Room 0 (A.deeper (envOfC "_law_dice" (defScope st__law_dice) s.heap.objs.size f cdv))) :
    FSs (defCx P w K mg base nm__law_dice "_law_dice" st__law_dice f cdv A outer s H E) ⟨K, cls, Tt, lm, lq⟩ E (defBody st__law_dice) m__law_dice :=
  (fss_cons (fs_if (ft_chain2 op_lt op_lt ops_lt ops_lt (fe_op op_sub ops_sub fe_int fe_int) (fv 0) fe_int) (fss_one (fs_ret (fe_box (fl_lst (fa_cons (fe_abs T.nb (fv 0)) (fa_cons fe_int (fa_cons fe_int fa_nil))))))) fss_nil) (fss_one (fs_ret (fe_box (fl_lst (fa_cons (fv 0) (fa_cons (fe_op op_addAll ops_add fe_int (fe_op op_mod ops_mod (fe_int1 T.nb (fv 0)) fe_int)) (fa_cons (fe_int1 T.nb (fe_cmp op_ge ops_ge (fv 0) (fe_op op_pow ops_pow fe_int fe_int))) fa_nil))))))))
def st__law_roll : Stmt := top 20
def nm__law_roll : List Str := [("dice" : Str), ("many" : Str), ("found" : Str)]
theorem nd__law_roll : nm__law_roll.Nodup := by decide +kernel
def m__law_roll : MS := (mSeq (mIfS (mOr (mTest (mBin eqF (mBin ixF (mVar 0) (mC (.int 2))) (mC (.int 2)))) (mAnd (mTest (mBin eqF (mBin ixF (mVar 0) (mC (.int 2))) (mC (.int 1)))) (mTest (mBin gtF (mBin ixF (mVar 0) (mC (.int 0))) (mC (.int 0)))))) (mSeq (mSet 2 (mBin modF (mCB intC (m1 (mBin ixF (mVar 0) (mC (.int 0))))) (mVar 1))) (mSeq (mSetSub setF (mVar 0) (mC (.int 0)) (mBin divF (mBin ixF (mVar 0) (mC (.int 0))) (mVar 1))) (mRet (mVar 2)))) mSkip) (mSeq (mSetSub setF (mVar 0) (mC (.int 2)) (mC (.int 0))) (mSeq (mIfS (mTest (mBin gtF (mVar 1) (mC (.int 100000000)))) mBadS mSkip) (mSeq (mSetSub setF (mVar 0) (mC (.int 0)) (mBin modF (mCB intC (m1 (mBin addF (mBin addF (mBin mulF (mBin ixF (mVar 0) (mC (.int 0))) (mC (.int 48271))) (mBin mulF (mBin ixF (mVar 0) (mC (.int 1))) (mC (.int 69621)))) (mC (.int 11))))) (mC (.int 2147483647)))) (mSeq (mSetSub setF (mVar 0) (mC (.int 1)) (mBin addF (mBin ixF (mVar 0) (mC (.int 1))) (mC (.int 1)))) (mRet (mBin modF (mCB intC (m1 (mBin divF (mBin ixF (mVar 0) (mC (.int 0))) (mC (.int 7))))) (mVar 1))))))))
def F__law_roll : Fn := runF 3 m__law_roll
structure T__law_roll (P : Program) (w : World) (K : PySem.W.Frag) (mg : Str → Option Value) (base : Heap) (Γ : Sta) : Prop where
  nb : NB mg
theorem d__law_roll {P : Program} {w : World} {K : PySem.W.Frag} {mg : Str → Option Value} {base : Heap} {cls : Nat → Addr} {Tt : List (Addr × Str)} {lm : Nat → Addr → Addr → HO} {lq : Str} (T : T__law_roll P w K mg base ⟨K, cls, Tt, lm, lq⟩) {f : Addr} {cdv : Value} (A : Around) (outer : List Env) (s : Shared) (H : Hp) (E : XK) (hr : Room 1 (A.deeper (envOfC "_law_roll" (defScope st__law_roll) s.heap.objs.size f cdv))) :
    FSs (defCx P w K mg base nm__law_roll "_law_roll" st__law_roll f cdv A outer s H E) ⟨K, cls, Tt, lm, lq⟩ E (defBody st__law_roll) m__law_roll :=
  (fss_cons (fs_if (PW.pt (fw_or (ft_cmp (op_eqD (un64 hr)) ops_eq (fe_ix hr (fv 0) fe_int) fe_int) (fw_or1 (PW.pt (fw_and (ft_cmp (op_eqD (un64 hr)) ops_eq (fe_ix hr (fv 0) fe_int) fe_int) (fw_and1 (ft_cmp op_gt ops_gt (fe_ix hr (fv 0) fe_int) fe_int))))))) (fss_cons (fs_set nd__law_roll (i := 2) rfl (by first | exact Or.inl rfl | exact Or.inr rfl) (fe_op op_mod ops_mod (fe_int1 T.nb (fe_ix hr (fv 0) fe_int)) (fv 1))) (fss_cons (fs_setSub hr (fv 0) fe_int (fe_op op_fdiv ops_div (fe_ix hr (fv 0) fe_int) (fv 1))) (fss_one (fs_ret (fv 2))))) fss_nil) (fss_cons (fs_setSub hr (fv 0) fe_int fe_int) (fss_cons (fs_if (ft_cmp op_gt ops_gt (fv 1) fe_int) fss_bad fss_nil) (fss_cons (fs_setSub hr (fv 0) fe_int (fe_op op_mod ops_mod (fe_int1 T.nb (fe_op op_addAll ops_add (fe_op op_addAll ops_add (fe_op op_mulAll ops_mul (fe_ix hr (fv 0) fe_int) fe_int) (fe_op op_mulAll ops_mul (fe_ix hr (fv 0) fe_int) fe_int)) fe_int)) fe_int)) (fss_cons (fs_setSub hr (fv 0) fe_int (fe_op op_addAll ops_add (fe_ix hr (fv 0) fe_int) fe_int)) (fss_one (fs_ret (fe_op op_mod ops_mod (fe_int1 T.nb (fe_op op_fdiv ops_div (fe_ix hr (fv 0) fe_int) fe_int)) (fv 1)))))))))
def st__law_rounds : Stmt := top 21
def nm__law_rounds : List Str := [("script" : Str), ("most" : Str), ("cells" : Str), ("cell" : Str)]
theorem nd__law_rounds : nm__law_rounds.Nodup := by decide +kernel
abbrev e__law_rounds_0 : M D := (mCall 1 [] F__law_dice (mCons (mVar 3) mNil))
def m__law_rounds : MS := (mSeq (mSet 2 (mSl slF (mVar 0) mNoPart (mPart (mVar 1)))) (mSeq (mIfS (mTest (mBin eqF (mVar 2) (mVal (mLst mNil)))) (mSet 2 (mVal (mLst (mCons (mC (.int 0)) mNil)))) mSkip) (mRet (mVal (mLc [3] (mIt (mVar 2)) (mgName 3) mYes e__law_rounds_0)))))
def F__law_rounds : Fn := runF 4 m__law_rounds
structure T__law_rounds (P : Program) (w : World) (K : PySem.W.Frag) (mg : Str → Option Value) (base : Heap) (Γ : Sta) : Prop where
  nb : NB mg
  f__law_dice : Fnd P w K mg base Γ "_law_dice" 1 1 F__law_dice
theorem d__law_rounds {P : Program} {w : World} {K : PySem.W.Frag} {mg : Str → Option Value} {base : Heap} {cls : Nat → Addr} {Tt : List (Addr × Str)} {lm : Nat → Addr → Addr → HO} {lq : Str} (T : T__law_rounds P w K mg base ⟨K, cls, Tt, lm, lq⟩) {f : Addr} {cdv : Value} (A : Around) (outer : List Env) (s : Shared) (H : Hp) (E : XK) (hr : Room 1 (A.deeper (envOfC "_law_rounds" (defScope st__law_rounds) s.heap.objs.size f cdv))) :
    FSs (defCx P w K mg base nm__law_rounds "_law_rounds" st__law_rounds f cdv A outer s H E) ⟨K, cls, Tt, lm, lq⟩ E (defBody st__law_rounds) m__law_rounds :=
  (fss_cons (fs_set nd__law_rounds (i := 2) rfl (by first | exact Or.inl rfl | exact Or.inr rfl) (fe_slice (fv 0) fo_none (fo_some (fv 1)))) (fss_cons (fs_if (ft_cmp (op_eqD (un64 hr)) ops_eq (fv 2) (fe_val (fl_lst fa_nil))) (fss_one (fs_set nd__law_rounds (i := 2) rfl (by first | exact Or.inl rfl | exact Or.inr rfl) (fe_val (fl_lst (fa_cons fe_int fa_nil))))) fss_nil) (fss_one (fs_ret (fe_val (fl_lc (own := [("cell", 3)]) rfl nd__law_rounds (fi_seq (fv 2)) (show BlkOk nm__law_rounds (defScope st__law_rounds) _ [("cell", 3)] from ⟨rfl, by decide +kernel, by decide +kernel, by decide +kernel, by decide +kernel⟩) (fun s H C cl fp => (fg_name nd__law_rounds (i := 3) rfl (by first | exact Or.inl rfl | exact Or.inr rfl))) (fun s H C cl fp => fts_nil) (fun s H C cl fp => (fe_fn T.f__law_dice hr passE0 (fa_cons (fv 3) fa_nil)))))))))
def st__law_rooms : Stmt := top 23
def nm__law_rooms : List Str := [("dice" : Str), ("size" : Str), ("rows" : Str), ("here" : Str), ("long" : Str)]
theorem nd__law_rooms : nm__law_rooms.Nodup := by decide +kernel
abbrev t__law_rooms_0 : M Bool := (mAnd (mTest (mBin ltF (mBin addF (mVar 3) (mC (.int 1))) (mVar 1))) (mTest (mBin ltF (mCB lenC (m1 (mVar 2))) (mC (.int 7)))))
abbrev b__law_rooms_1 : MS := (mSeq (mSet 4 (mBin addF (mC (.int 1)) (mCall 2 [] F__law_roll (mCons (mVar 0) (mCons (mC (.int 5)) mNil))))) (mSeq (mSet 2 (mBin addF (mVar 2) (mBin mulF (mVal (mLst (mCons (mTup (mCons (mVar 3) (mCons (mVar 4) mNil))) mNil))) (mCB intC (m1 (mBin leF (mBin addF (mVar 3) (mVar 4)) (mVar 1))))))) (mSet 3 (mBin addF (mBin addF (mVar 3) (mVar 4)) (mCall 2 [] F__law_roll (mCons (mVar 0) (mCons (mC (.int 5)) mNil)))))))
def m__law_rooms : MS := (mSeq (mPar2 2 3 (mCons (mVal (mLst mNil)) (mCons (mCall 2 [] F__law_roll (mCons (mVar 0) (mCons (mC (.int 4)) mNil))) mNil))) (mSeq (mWhile 64 t__law_rooms_0 b__law_rooms_1) (mRet (mVar 2))))
def F__law_rooms : Fn := runF 5 m__law_rooms
structure T__law_rooms (P : Program) (w : World) (K : PySem.W.Frag) (mg : Str → Option Value) (base : Heap) (Γ : Sta) : Prop where
  nb : NB mg
  f__law_roll : Fnd P w K mg base Γ "_law_roll" 2 2 F__law_roll
theorem d__law_rooms {P : Program} {w : World} {K : PySem.W.Frag} {mg : Str → Option Value} {base : Heap} {cls : Nat → Addr} {Tt : List (Addr × Str)} {lm : Nat → Addr → Addr → HO} {lq : Str} (T : T__law_rooms P w K mg base ⟨K, cls, Tt, lm, lq⟩) {f : Addr} {cdv : Value} (A : Around) (outer : List Env) (s : Shared) (H : Hp) (E : XK) (hr : Room 2 (A.deeper (envOfC "_law_rooms" (defScope st__law_rooms) s.heap.objs.size f cdv))) :
    FSs (defCx P w K mg base nm__law_rooms "_law_rooms" st__law_rooms f cdv A outer s H E) ⟨K, cls, Tt, lm, lq⟩ E (defBody st__law_rooms) m__law_rooms :=
  (fss_cons (fs_par2 rfl nd__law_rooms (i := 2) rfl (j := 3) rfl (by decide) rfl rfl (fa_cons (fe_val (fl_lst fa_nil)) (fa_cons (fe_fn T.f__law_roll hr (passes_call (takes_of rfl rfl rfl rfl) fun _ _ _ _ h => h) (fa_cons (fv 0) (fa_cons fe_int fa_nil))) fa_nil))) (fss_cons (fs_while (n := 64) (passes_of rfl) (PW.pt (fw_and (ft_cmp op_lt ops_lt (fe_op op_addAll ops_add (fv 3) fe_int) (fv 1)) (fw_and1 (ft_cmp op_lt ops_lt (fe_len T.nb (fv 2)) fe_int)))) (fss_cons (fs_set nd__law_rooms (i := 4) rfl (by first | exact Or.inl rfl | exact Or.inr rfl) (fe_op op_addAll ops_add fe_int (fe_fn T.f__law_roll hr (passes_call (takes_of rfl rfl rfl rfl) fun _ _ _ _ h => h) (fa_cons (fv 0) (fa_cons fe_int fa_nil))))) (fss_cons (fs_set nd__law_rooms (i := 2) rfl (by first | exact Or.inl rfl | exact Or.inr rfl) (fe_op op_addAll ops_add (fv 2) (fe_op op_mulAll ops_mul (fe_val (fl_lst (fa_cons (fe_tup (fa_cons (fv 3) (fa_cons (fv 4) fa_nil))) fa_nil))) (fe_int1 T.nb (fe_cmp op_le ops_le (fe_op op_addAll ops_add (fv 3) (fv 4)) (fv 1)))))) (fss_one (fs_set nd__law_rooms (i := 3) rfl (by first | exact Or.inl rfl | exact Or.inr rfl) (fe_op op_addAll ops_add (fe_op op_addAll ops_add (fv 3) (fv 4)) (fe_fn T.f__law_roll hr (passes_call (takes_of rfl rfl rfl rfl) fun _ _ _ _ h => h) (fa_cons (fv 0) (fa_cons fe_int fa_nil))))))))) (fss_one (fs_ret (fv 2)))))
def st__law_gaps : Stmt := top 24
def nm__law_gaps : List Str := [("rows" : Str), ("size" : Str), ("used" : Str), ("free" : Str), ("firsts" : Str), ("first" : Str), ("long" : Str), ("cell" : Str)]
theorem nd__law_gaps : nm__law_gaps.Nodup := by decide +kernel
abbrev e__law_gaps_0 : M D := (mVal (mRgL (mCons (mVar 5) (mCons (mBin addF (mVar 5) (mVar 6)) mNil))))
abbrev t__law_gaps_1 : M Bool := (mTest (mBin (inF true) (mVar 7) (mVar 2)))
abbrev t__law_gaps_2 : M Bool := (mTest (mBin (inF true) (mBin subF (mVar 7) (mC (.int 1))) (mVar 3)))
abbrev t__law_gaps_3 : M Bool := (mTest (mBin (inF true) (mVar 7) (mVar 3)))
abbrev e__law_gaps_4 : M D := (mTup (mCons (mVar 5) (mCons (mBin subF (mCB minC (m1 (mVal (mLc [7] (mRng2 (mCons (mVar 5) (mCons (mBin addF (mVar 1) (mC (.int 1))) mNil))) (mgName 7) t__law_gaps_3 (mVar 7))))) (mVar 5)) mNil)))
def m__law_gaps : MS := (mSeq (mSet 2 (mCB sum2C (m2 (mVal (mLc [5, 6] (mIt (mVar 0)) (mgTup [(mgName 5), (mgName 6)]) mYes e__law_gaps_0)) (mVal (mLst mNil))))) (mSeq (mSet 3 (mVal (mLc [7] (mRng1 (mCons (mVar 1) mNil)) (mgName 7) t__law_gaps_1 (mVar 7)))) (mSeq (mSet 4 (mVal (mLc [7] (mIt (mVar 3)) (mgName 7) t__law_gaps_2 (mVar 7)))) (mRet (mVal (mLc [5] (mIt (mVar 4)) (mgName 5) mYes e__law_gaps_4))))))
def F__law_gaps : Fn := runF 8 m__law_gaps
structure T__law_gaps (P : Program) (w : World) (K : PySem.W.Frag) (mg : Str → Option Value) (base : Heap) (Γ : Sta) : Prop where
  nb : NB mg
theorem d__law_gaps {P : Program} {w : World} {K : PySem.W.Frag} {mg : Str → Option Value} {base : Heap} {cls : Nat → Addr} {Tt : List (Addr × Str)} {lm : Nat → Addr → Addr → HO} {lq : Str} (T : T__law_gaps P w K mg base ⟨K, cls, Tt, lm, lq⟩) {f : Addr} {cdv : Value} (A : Around) (outer : List Env) (s : Shared) (H : Hp) (E : XK) (hr : Room 0 (A.deeper (envOfC "_law_gaps" (defScope st__law_gaps) s.heap.objs.size f cdv))) :
    FSs (defCx P w K mg base nm__law_gaps "_law_gaps" st__law_gaps f cdv A outer s H E) ⟨K, cls, Tt, lm, lq⟩ E (defBody st__law_gaps) m__law_gaps :=
  (fss_cons (fs_set nd__law_gaps (i := 2) rfl (by first | exact Or.inl rfl | exact Or.inr rfl) (fe_sum2 T.nb rfl (fe_val (fl_lc (own := [("first", 5), ("long", 6)]) rfl nd__law_gaps (fi_seq (fv 0)) (show BlkOk nm__law_gaps (defScope st__law_gaps) _ [("first", 5), ("long", 6)] from ⟨rfl, by decide +kernel, by decide +kernel, by decide +kernel, by decide +kernel⟩) (fun s H C cl fp => (fg_tup rfl (fgs_cons (fg_name nd__law_gaps (i := 5) rfl (by first | exact Or.inl rfl | exact Or.inr rfl)) (fgs_cons (fg_name nd__law_gaps (i := 6) rfl (by first | exact Or.inl rfl | exact Or.inr rfl)) fgs_nil)))) (fun s H C cl fp => fts_nil) (fun s H C cl fp => (fe_val (fl_listRg rfl rfl (T.nb _ (by decide)) (frg_2 rfl (T.nb _ (by decide)) (fv 5) (fe_op op_addAll ops_add (fv 5) (fv 6)))))))) (fe_val (fl_lst fa_nil)))) (fss_cons (fs_set nd__law_gaps (i := 3) rfl (by first | exact Or.inl rfl | exact Or.inr rfl) (fe_val (fl_lc (own := [("cell", 7)]) rfl nd__law_gaps (fi_range1 rfl (T.nb _ (by decide)) (fa_cons (fv 1) fa_nil)) (show BlkOk nm__law_gaps (defScope st__law_gaps) _ [("cell", 7)] from ⟨rfl, by decide +kernel, by decide +kernel, by decide +kernel, by decide +kernel⟩) (fun s H C cl fp => (fg_name nd__law_gaps (i := 7) rfl (by first | exact Or.inl rfl | exact Or.inr rfl))) (fun s H C cl fp => (fts_one (ft_cmp (op_notinAll hr) (ops_in true) (fv 7) (fv 2)))) (fun s H C cl fp => (fv 7))))) (fss_cons (fs_setLc (own := [("cell", 7)]) rfl nd__law_gaps (i := 4) rfl rfl (sw_true rfl rfl rfl rfl) (fi_seq (fv 3)) (show BlkOk nm__law_gaps (defScope st__law_gaps) _ [("cell", 7)] from ⟨rfl, by decide +kernel, by decide +kernel, by decide +kernel, by decide +kernel⟩) (fun s H C cl fp => (fg_name nd__law_gaps (i := 7) rfl (by first | exact Or.inl rfl | exact Or.inr rfl))) (fun s H C cl fp => (fts_one (ft_cmp (op_notinAll hr) (ops_in true) (fe_op op_sub ops_sub (fv 7) fe_int) (fv 3)))) (fun s H C cl fp => (fv 7))) (fss_one (fs_ret (fe_val (fl_lc (own := [("first", 5)]) rfl nd__law_gaps (fi_seq (fv 4)) (show BlkOk nm__law_gaps (defScope st__law_gaps) _ [("first", 5)] from ⟨rfl, by decide +kernel, by decide +kernel, by decide +kernel, by decide +kernel⟩) (fun s H C cl fp => (fg_name nd__law_gaps (i := 5) rfl (by first | exact Or.inl rfl | exact Or.inr rfl))) (fun s H C cl fp => fts_nil) (fun s H C cl fp => (fe_tup (fa_cons (fv 5) (fa_cons (fe_op op_sub ops_sub (fe_min1 T.nb rfl (fe_val (fl_lc (own := [("cell", 7)]) rfl nd__law_gaps (fi_range2 rfl (T.nb _ (by decide)) (fa_cons (fv 5) (fa_cons (fe_op op_addAll ops_add (fv 1) fe_int) fa_nil))) (blk_by rfl) (fun s H C cl fp => (fg_name nd__law_gaps (i := 7) rfl (by first | exact Or.inl rfl | exact Or.inr rfl))) (fun s H C cl fp => (fts_one (ft_cmp (op_notinAll hr) (ops_in true) (fv 7) (fv 3)))) (fun s H C cl fp => (fv 7))))) (fv 5)) fa_nil)))))))))))
def st__law_share : Stmt := top 25
def nm__law_share : List Str := [("rows" : Str), ("size" : Str), ("sizes" : Str), ("first" : Str), ("long" : Str)]
theorem nd__law_share : nm__law_share.Nodup := by decide +kernel
def m__law_share : MS := (mSeq (mSet 2 (mVal (mLc [3, 4] (mIt (mCall 2 [] F__law_gaps (mCons (mVar 0) (mCons (mVar 1) mNil)))) (mgTup [(mgName 3), (mgName 4)]) mYes (mVar 4)))) (mRet (mIf (mTest (mBin neF (mVar 2) (mVal (mLst mNil)))) (mBin divF (mBin mulF (mC (.int 1000)) (mBin subF (mCB sumC (m1 (mVar 2))) (mCB maxC (m1 (mVar 2))))) (mCB sumC (m1 (mVar 2)))) (mC (.int 0)))))
def F__law_share : Fn := runF 5 m__law_share
structure T__law_share (P : Program) (w : World) (K : PySem.W.Frag) (mg : Str → Option Value) (base : Heap) (Γ : Sta) : Prop where
  nb : NB mg
  f__law_gaps : Fnd P w K mg base Γ "_law_gaps" 1 2 F__law_gaps
theorem d__law_share {P : Program} {w : World} {K : PySem.W.Frag} {mg : Str → Option Value} {base : Heap} {cls : Nat → Addr} {Tt : List (Addr × Str)} {lm : Nat → Addr → Addr → HO} {lq : Str} (T : T__law_share P w K mg base ⟨K, cls, Tt, lm, lq⟩) {f : Addr} {cdv : Value} (A : Around) (outer : List Env) (s : Shared) (H : Hp) (E : XK) (hr : Room 1 (A.deeper (envOfC "_law_share" (defScope st__law_share) s.heap.objs.size f cdv))) :
    FSs (defCx P w K mg base nm__law_share "_law_share" st__law_share f cdv A outer s H E) ⟨K, cls, Tt, lm, lq⟩ E (defBody st__law_share) m__law_share :=
  (fss_cons (fs_setLc (own := [("first", 3), ("long", 4)]) rfl nd__law_share (i := 2) rfl rfl (sw_true rfl rfl rfl rfl) (fi_seq (fe_fn T.f__law_gaps hr (passes_call (takes_of rfl rfl rfl rfl) fun _ _ _ _ h => h) (fa_cons (fv 0) (fa_cons (fv 1) fa_nil)))) (show BlkOk nm__law_share (defScope st__law_share) _ [("first", 3), ("long", 4)] from ⟨rfl, by decide +kernel, by decide +kernel, by decide +kernel, by decide +kernel⟩) (fun s H C cl fp => (fg_tup rfl (fgs_cons (fg_name nd__law_share (i := 3) rfl (by first | exact Or.inl rfl | exact Or.inr rfl)) (fgs_cons (fg_name nd__law_share (i := 4) rfl (by first | exact Or.inl rfl | exact Or.inr rfl)) fgs_nil)))) (fun s H C cl fp => fts_nil) (fun s H C cl fp => (fv 4))) (fss_one (fs_ret (fe_if (ft_cmp (op_neD (un64 hr)) ops_ne (fv 2) (fe_val (fl_lst fa_nil))) (fe_op op_fdiv ops_div (fe_op op_mulAll ops_mul fe_int (fe_op op_sub ops_sub (fe_sum1 T.nb rfl (fv 2)) (fe_max1 T.nb rfl (fv 2)))) (fe_sum1 T.nb rfl (fv 2))) fe_int))))
def st__law_map : Stmt := top 26
def nm__law_map : List Str := [("rows" : Str), ("size" : Str), ("wide" : Str), ("used" : Str), ("found" : Str), ("here" : Str), ("k" : Str), ("end" : Str), ("many" : Str), ("first" : Str), ("long" : Str), ("cell" : Str)]
theorem nd__law_map : nm__law_map.Nodup := by decide +kernel
abbrev e__law_map_0 : M D := (mVal (mRgL (mCons (mVar 9) (mCons (mBin addF (mVar 9) (mVar 10)) mNil))))
abbrev t__law_map_1 : M Bool := (mTest (mBin (inF false) (mVar 11) (mVar 3)))
abbrev b__law_map_2 : MS := (mSeq (mSet 7 (mBin addF (mBin addF (mVar 5) (mBin divF (mVar 1) (mVar 2))) (mCB intC (m1 (mBin ltF (mVar 6) (mBin modF (mVar 1) (mVar 2))))))) (mSeq (mSet 8 (mCB lenC (m1 (mVal (mLc [11] (mRng2 (mCons (mVar 5) (mCons (mVar 7) mNil))) (mgName 11) t__law_map_1 (mVar 11)))))) (mSeq (mSet 4 (mBin addF (mVar 4) (mIf (mTest (mBin eqF (mVar 8) (mC (.int 0)))) (mC (.str ".")) (mIf (mTest (mBin eqF (mVar 8) (mBin subF (mVar 7) (mVar 5)))) (mC (.str "#")) (mC (.str "+")))))) (mSet 5 (mVar 7)))))
def m__law_map : MS := (mSeq (mAsg (mgTup [(mgName 3), (mgName 4), (mgName 5)]) (mTup (mCons (mCB sum2C (m2 (mVal (mLc [9, 10] (mIt (mVar 0)) (mgTup [(mgName 9), (mgName 10)]) mYes e__law_map_0)) (mVal (mLst mNil)))) (mCons (mC (.str "")) (mCons (mC (.int 0)) mNil))))) (mSeq (mFor (mRng1 (mCons (mVar 2) mNil)) (mgName 6) b__law_map_2) (mRet (mVar 4))))
def F__law_map : Fn := runF 12 m__law_map
structure T__law_map (P : Program) (w : World) (K : PySem.W.Frag) (mg : Str → Option Value) (base : Heap) (Γ : Sta) : Prop where
  nb : NB mg
theorem d__law_map {P : Program} {w : World} {K : PySem.W.Frag} {mg : Str → Option Value} {base : Heap} {cls : Nat → Addr} {Tt : List (Addr × Str)} {lm : Nat → Addr → Addr → HO} {lq : Str} (T : T__law_map P w K mg base ⟨K, cls, Tt, lm, lq⟩) {f : Addr} {cdv : Value} (A : Around) (outer : List Env) (s : Shared) (H : Hp) (E : XK) (hr : Room 0 (A.deeper (envOfC "_law_map" (defScope st__law_map) s.heap.objs.size f cdv))) :
    FSs (defCx P w K mg base nm__law_map "_law_map" st__law_map f cdv A outer s H E) ⟨K, cls, Tt, lm, lq⟩ E (defBody st__law_map) m__law_map :=
  (fss_cons (fs_asg (fe_tup (fa_cons (fe_sum2 T.nb rfl (fe_val (fl_lc (own := [("first", 9), ("long", 10)]) rfl nd__law_map (fi_seq (fv 0)) (show BlkOk nm__law_map (defScope st__law_map) _ [("first", 9), ("long", 10)] from ⟨rfl, by decide +kernel, by decide +kernel, by decide +kernel, by decide +kernel⟩) (fun s H C cl fp => (fg_tup rfl (fgs_cons (fg_name nd__law_map (i := 9) rfl (by first | exact Or.inl rfl | exact Or.inr rfl)) (fgs_cons (fg_name nd__law_map (i := 10) rfl (by first | exact Or.inl rfl | exact Or.inr rfl)) fgs_nil)))) (fun s H C cl fp => fts_nil) (fun s H C cl fp => (fe_val (fl_listRg rfl rfl (T.nb _ (by decide)) (frg_2 rfl (T.nb _ (by decide)) (fv 9) (fe_op op_addAll ops_add (fv 9) (fv 10)))))))) (fe_val (fl_lst fa_nil))) (fa_cons fe_str (fa_cons fe_int fa_nil)))) (fg_tup rfl (fgs_cons (fg_name nd__law_map (i := 3) rfl (by first | exact Or.inl rfl | exact Or.inr rfl)) (fgs_cons (fg_name nd__law_map (i := 4) rfl (by first | exact Or.inl rfl | exact Or.inr rfl)) (fgs_cons (fg_name nd__law_map (i := 5) rfl (by first | exact Or.inl rfl | exact Or.inr rfl)) fgs_nil))))) (fss_cons (fs_for (passes_of rfl) rfl (fi_range1 rfl (T.nb _ (by decide)) (fa_cons (fv 2) fa_nil)) (fg_name nd__law_map (i := 6) rfl (by first | exact Or.inl rfl | exact Or.inr rfl)) (fss_cons (fs_set nd__law_map (i := 7) rfl (by first | exact Or.inl rfl | exact Or.inr rfl) (fe_op op_addAll ops_add (fe_op op_addAll ops_add (fv 5) (fe_op op_fdiv ops_div (fv 1) (fv 2))) (fe_int1 T.nb (fe_cmp op_lt ops_lt (fv 6) (fe_op op_mod ops_mod (fv 1) (fv 2)))))) (fss_cons (fs_set nd__law_map (i := 8) rfl (by first | exact Or.inl rfl | exact Or.inr rfl) (fe_len T.nb (fe_val (fl_lc (own := [("cell", 11)]) rfl nd__law_map (fi_range2 rfl (T.nb _ (by decide)) (fa_cons (fv 5) (fa_cons (fv 7) fa_nil))) (show BlkOk nm__law_map (defScope st__law_map) _ [("cell", 11)] from ⟨rfl, by decide +kernel, by decide +kernel, by decide +kernel, by decide +kernel⟩) (fun s H C cl fp => (fg_name nd__law_map (i := 11) rfl (by first | exact Or.inl rfl | exact Or.inr rfl))) (fun s H C cl fp => (fts_one (ft_cmp (op_inAll hr) (ops_in false) (fv 11) (fv 3)))) (fun s H C cl fp => (fv 11)))))) (fss_cons (fs_set nd__law_map (i := 4) rfl (by first | exact Or.inl rfl | exact Or.inr rfl) (fe_op op_addAll ops_add (fv 4) (fe_if (ft_cmp (op_eqD (un64 hr)) ops_eq (fv 8) fe_int) fe_str (fe_if (ft_cmp (op_eqD (un64 hr)) ops_eq (fv 8) (fe_op op_sub ops_sub (fv 7) (fv 5))) fe_str fe_str)))) (fss_one (fs_set nd__law_map (i := 5) rfl (by first | exact Or.inl rfl | exact Or.inr rfl) (fv 7))))))) (fss_one (fs_ret (fv 4)))))
def st_best_to_free : Stmt := top 15
def nm_best_to_free : List Str := [("rows" : Str), ("size" : Str), ("ask" : Str), ("found" : Str), ("start" : Str), ("end" : Str), ("rest" : Str), ("many" : Str), ("whole" : Str)]
theorem nd_best_to_free : nm_best_to_free.Nodup := by decide +kernel
abbrev b_best_to_free_0 : MS := (mSeq (mSet 6 (mBin addF (mVal (mCBL listC (m1 (mSl slF (mVar 0) mNoPart (mPart (mVar 4)))))) (mVal (mCBL listC (m1 (mSl slF (mVar 0) (mPart (mVar 5)) mNoPart)))))) (mIfS (mTest (mGx [0, 1] [none, none, some 2] (mIt (mCall 2 [] F_gaps_between (mCons (mVar 6) (mCons (mVar 1) mNil)))) (mgTup [(mgName 0), (mgName 1)]) mYes (mBin geF (mVar 1) (mVar 2)) (anyF true))) (mExpr (mBM appendMF (mVar 3) (m1 (mTup (mCons (mBin subF (mVar 5) (mVar 4)) (mCons (mGx [0] [none] (mIt (mSl slF (mVar 0) (mPart (mVar 4)) (mPart (mVar 5)))) (mgName 0) mYes (mBin ixF (mVar 0) (mC (.int 1))) (sumF 0)) (mCons (mVar 4) mNil))))))) mSkip))
abbrev b_best_to_free_1 : MS := (mFor (mRng2 (mCons (mBin addF (mVar 4) (mC (.int 1))) (mCons (mBin addF (mCB lenC (m1 (mVar 0))) (mC (.int 1))) mNil))) (mgName 5) b_best_to_free_0)
def m_best_to_free : MS := (mSeq (mIfS (mTest (mBin ltF (mVar 2) (mC (.int 1)))) (mRaise 0) mSkip) (mSeq (mIfS (mTest (mGx [0, 1] [none, none, some 2] (mIt (mCall 2 [] F_gaps_between (mCons (mVar 0) (mCons (mVar 1) mNil)))) (mgTup [(mgName 0), (mgName 1)]) mYes (mBin geF (mVar 1) (mVar 2)) (anyF true))) (mRet (mTup mNil)) mSkip) (mSeq (mSet 3 (mBox (mLst mNil))) (mSeq (mFor (mRng1 (mCons (mCB lenC (m1 (mVar 0))) mNil)) (mgName 4) b_best_to_free_1) (mSeq (mIfS (mTest (mBin eqF (mVar 3) (mBox (mLst mNil)))) (mRet (mC .non)) mSkip) (mSeq (mAsg (mgTup [(mgName 7), (mgName 8), (mgName 4)]) (mCB minTC (m1 (mVar 3)))) (mRet (mRgT (mCons (mVar 4) (mCons (mBin addF (mVar 4) (mVar 7)) mNil))))))))))
def F_best_to_free : Fn := runF 9 m_best_to_free
structure T_best_to_free (P : Program) (w : World) (K : PySem.W.Frag) (mg : Str → Option Value) (base : Heap) (Γ : Sta) : Prop where
  nb : NB mg
  x_GapError : ∀ {X : Cx}, X.K = K → X.mg = mg → Gl X "GapError" → ExcOk X Γ 0 "GapError"
  f_gaps_between : Fnd P w K mg base Γ "gaps_between" 7 2 F_gaps_between
theorem d_best_to_free {P : Program} {w : World} {K : PySem.W.Frag} {mg : Str → Option Value} {base : Heap} {cls : Nat → Addr} {Tt : List (Addr × Str)} {lm : Nat → Addr → Addr → HO} {lq : Str} (T : T_best_to_free P w K mg base ⟨K, cls, Tt, lm, lq⟩) {f : Addr} {cdv : Value} (GT : ∀ A outer s H E, GxT (defCx P w K mg base nm_best_to_free "best_to_free" st_best_to_free f cdv A outer s H E) ⟨K, cls, Tt, lm, lq⟩) (A : Around) (outer : List Env) (s : Shared) (H : Hp) (E : XK) (hr : Room 7 (A.deeper (envOfC "best_to_free" (defScope st_best_to_free) s.heap.objs.size f cdv))) :
    FSs (defCx P w K mg base nm_best_to_free "best_to_free" st_best_to_free f cdv A outer s H E) ⟨K, cls, Tt, lm, lq⟩ E (defBody st_best_to_free) m_best_to_free :=
  (fss_cons (fs_if (ft_cmp op_lt ops_lt (fv 2) fe_int) (fss_one (fs_raise rfl (takes_of rfl rfl rfl rfl) (T.x_GapError rfl rfl rfl))) fss_nil) (fss_cons (fs_if (ft_val (fe_anyG (k := 0) (own := [0, 1]) T.nb (GT _ _ _ _ _) hr (gx_by (show gxB (defScope st_best_to_free) _ nm_best_to_free ["first", "long", "ask"] [none, none, some 2] = true from by decide +kernel)) (fi_seq (fe_fn T.f_gaps_between hr (passes_call (takes_of rfl rfl rfl rfl) fun _ _ _ _ h => h) (fa_cons (fv 0) (fa_cons (fv 1) fa_nil)))) ⟨fun A s H C code fp hq => (fg_tup rfl (fgs_cons (fg_name (show List.Nodup (["first", "long", "ask"] : List Str) from by decide +kernel) (i := 0) rfl (by first | exact Or.inl rfl | exact Or.inr rfl)) (fgs_cons (fg_name (show List.Nodup (["first", "long", "ask"] : List Str) from by decide +kernel) (i := 1) rfl (by first | exact Or.inl rfl | exact Or.inr rfl)) fgs_nil))), fun A s H C code fp hq => fts_nil, fun A s H C code fp hq => (fe_cmp op_ge ops_ge (fv 1) (fv 2))⟩)) (fss_one (fs_ret (fe_tup fa_nil))) fss_nil) (fss_cons (fs_set nd_best_to_free (i := 3) rfl (by first | exact Or.inl rfl | exact Or.inr rfl) (fe_box (fl_lst fa_nil))) (fss_cons (fs_for (passes_of rfl) rfl (fi_range1 rfl (T.nb _ (by decide)) (fa_cons (fe_len T.nb (fv 0)) fa_nil)) (fg_name nd_best_to_free (i := 4) rfl (by first | exact Or.inl rfl | exact Or.inr rfl)) (fss_one (fs_for (passes_of rfl) rfl (fi_range2 rfl (T.nb _ (by decide)) (fa_cons (fe_op op_addAll ops_add (fv 4) fe_int) (fa_cons (fe_op op_addAll ops_add (fe_len T.nb (fv 0)) fe_int) fa_nil))) (fg_name nd_best_to_free (i := 5) rfl (by first | exact Or.inl rfl | exact Or.inr rfl)) (fss_cons (fs_set nd_best_to_free (i := 6) rfl (by first | exact Or.inl rfl | exact Or.inr rfl) (fe_op op_addAll ops_add (fe_val (fl_list1 T.nb (fe_slice (fv 0) fo_none (fo_some (fv 4))))) (fe_val (fl_list1 T.nb (fe_slice (fv 0) (fo_some (fv 5)) fo_none))))) (fss_one (fs_if (ft_val (fe_anyG (k := 0) (own := [0, 1]) T.nb (GT _ _ _ _ _) hr (gx_by (show gxB (defScope st_best_to_free) _ nm_best_to_free ["first", "long", "ask"] [none, none, some 2] = true from by decide +kernel)) (fi_seq (fe_fn T.f_gaps_between hr (passes_call (takes_of rfl rfl rfl rfl) fun _ _ _ _ h => h) (fa_cons (fv 6) (fa_cons (fv 1) fa_nil)))) ⟨fun A s H C code fp hq => (fg_tup rfl (fgs_cons (fg_name (show List.Nodup (["first", "long", "ask"] : List Str) from by decide +kernel) (i := 0) rfl (by first | exact Or.inl rfl | exact Or.inr rfl)) (fgs_cons (fg_name (show List.Nodup (["first", "long", "ask"] : List Str) from by decide +kernel) (i := 1) rfl (by first | exact Or.inl rfl | exact Or.inr rfl)) fgs_nil))), fun A s H C code fp hq => fts_nil, fun A s H C code fp hq => (fe_cmp op_ge ops_ge (fv 1) (fv 2))⟩)) (fss_one (fs_expr (fe_append (fv 3) (fe_tup (fa_cons (fe_op op_sub ops_sub (fv 5) (fv 4)) (fa_cons (fe_sumG (k := 0) (own := [0]) T.nb (GT _ _ _ _ _) hr (gx_by (show gxB (defScope st_best_to_free) _ nm_best_to_free ["row"] [none] = true from by decide +kernel)) (fi_seq (fe_slice (fv 0) (fo_some (fv 4)) (fo_some (fv 5)))) ⟨fun A s H C code fp hq => (fg_name (show List.Nodup (["row"] : List Str) from by decide +kernel) (i := 0) rfl (by first | exact Or.inl rfl | exact Or.inr rfl)), fun A s H C code fp hq => fts_nil, fun A s H C code fp hq => (fe_ix hq (fv 0) fe_int)⟩) (fa_cons (fv 4) fa_nil))))))) fss_nil)))))) (fss_cons (fs_if (ft_cmp (op_eqD (un64 hr)) ops_eq (fv 3) (fe_box (fl_lst fa_nil))) (fss_one (fs_ret fe_non)) fss_nil) (fss_cons (fs_asg (fe_minT T.nb rfl hr (fv 3)) (fg_tup rfl (fgs_cons (fg_name nd_best_to_free (i := 7) rfl (by first | exact Or.inl rfl | exact Or.inr rfl)) (fgs_cons (fg_name nd_best_to_free (i := 8) rfl (by first | exact Or.inl rfl | exact Or.inr rfl)) (fgs_cons (fg_name nd_best_to_free (i := 4) rfl (by first | exact Or.inl rfl | exact Or.inr rfl)) fgs_nil))))) (fss_one (fs_ret (fe_tupRg rfl rfl (T.nb _ (by decide)) (frg_2 rfl (T.nb _ (by decide)) (fv 4) (fe_op op_addAll ops_add (fv 4) (fv 7))))))))))))
def st__law_plain : Stmt := top 27
def nm__law_plain : List Str := [("told" : Str), ("bad" : Str), ("rows" : Str), ("f" : Str)]
theorem nd__law_plain : nm__law_plain.Nodup := by decide +kernel
def b__law_plain_0 : M D := (mCall 2 [] F_check_rows (mCons (mTup mNil) (mCons (mC (.int 0)) mNil)))
def b__law_plain_1 : M D := (mCall 2 [] F_check_rows (mCons (mTup mNil) (mCons (mC (.int 2001)) mNil)))
def b__law_plain_2 : M D := (mCall 2 [] F_check_rows (mCons (mTup (mCons (mTup (mCons (mUn negF (mC (.int 1))) (mCons (mC (.int 1)) mNil))) mNil)) (mCons (mC (.int 5)) mNil)))
def b__law_plain_3 : M D := (mCall 2 [] F_check_rows (mCons (mTup (mCons (mTup (mCons (mC (.int 0)) (mCons (mC (.int 0)) mNil))) mNil)) (mCons (mC (.int 5)) mNil)))
def b__law_plain_4 : M D := (mCall 2 [] F_check_rows (mCons (mTup (mCons (mTup (mCons (mC (.int 4)) (mCons (mC (.int 2)) mNil))) mNil)) (mCons (mC (.int 5)) mNil)))
def b__law_plain_5 : M D := (mCall 2 [] F_check_rows (mCons (mTup (mCons (mTup (mCons (mC (.int 0)) (mCons (mC (.int 2)) mNil))) (mCons (mTup (mCons (mC (.int 1)) (mCons (mC (.int 2)) mNil))) mNil))) (mCons (mC (.int 5)) mNil)))
def b__law_plain_6 : M D := (mCall 2 [] F_gaps_between (mCons (mTup (mCons (mTup (mCons (mC (.int 4)) (mCons (mC (.int 2)) mNil))) mNil)) (mCons (mC (.int 5)) mNil)))
def b__law_plain_7 : M D := (mCall 2 [] F_parted_share (mCons (mTup mNil) (mCons (mC (.int 0)) mNil)))
def b__law_plain_8 : M D := (mCall 2 [] F_even_share (mCons (mTup mNil) (mCons (mC (.int 0)) mNil)))
def b__law_plain_9 : M D := (mCall 2 [] F_gap_counts (mCons (mTup mNil) (mCons (mC (.int 0)) mNil)))
def b__law_plain_10 : M D := (mCall 3 [] F_cannot_fit (mCons (mTup mNil) (mCons (mC (.int 5)) (mCons (mTup (mCons (mC (.int 0)) mNil)) mNil))))
def b__law_plain_11 : M D := (mCall 3 [] F_how_many_fit (mCons (mTup mNil) (mCons (mC (.int 5)) (mCons (mC (.int 0)) mNil))))
def b__law_plain_12 : M D := (mCall 3 [] F_map_text (mCons (mTup mNil) (mCons (mC (.int 5)) (mCons (mC (.int 0)) mNil))))
def b__law_plain_13 : M D := (mCall 3 [] F_map_text (mCons (mTup mNil) (mCons (mC (.int 5)) (mCons (mC (.int 6)) mNil))))
def b__law_plain_14 : M D := (mCall 3 [] F_moves_to_fit (mCons (mTup mNil) (mCons (mC (.int 5)) (mCons (mC (.int 0)) mNil))))
def b__law_plain_15 : M D := (mCall 3 [] F_joins_by_free (mCons (mVar 2) (mCons (mC (.int 24)) (mCons (mC (.int 3)) mNil))))
def b__law_plain_16 : M D := (mCall 3 [] F_joins_by_free (mCons (mVar 2) (mCons (mC (.int 24)) (mCons (mUn negF (mC (.int 1))) mNil))))
def b__law_plain_17 : M D := (mCall 3 [] F_best_to_free (mCons (mTup mNil) (mCons (mC (.int 5)) (mCons (mC (.int 0)) mNil))))
def b__law_plain_18 : M D := (mCall 2 [] F_waste_of_lines (mCons (mTup (mCons (mC (.int 1)) mNil)) (mCons (mC (.int 0)) mNil)))
def b__law_plain_19 : M D := (mCall 2 [] F_waste_of_lines (mCons (mTup (mCons (mC (.int 0)) mNil)) (mCons (mC (.int 1)) mNil)))
def b__law_plain_20 : M D := (mCall 1 [] F_look_back (mCons (mTup (mCons (mTup (mCons (mTup mNil) (mCons (mC (.int 0)) mNil))) mNil)) mNil))
def bods__law_plain : List (M D) := [b__law_plain_0, b__law_plain_1, b__law_plain_2, b__law_plain_3, b__law_plain_4, b__law_plain_5, b__law_plain_6, b__law_plain_7, b__law_plain_8, b__law_plain_9, b__law_plain_10, b__law_plain_11, b__law_plain_12, b__law_plain_13, b__law_plain_14, b__law_plain_15, b__law_plain_16, b__law_plain_17, b__law_plain_18, b__law_plain_19, b__law_plain_20]
def rows__law_plain : List LamRow := lamRows (defBody st__law_plain)
abbrev t__law_plain_0 : M Bool := (mTest (mBin neF (mToldB [3] 0 "GapError" (bodN bods__law_plain) (mVar 3)) (mC (.str "GapError"))))
def m__law_plain : MS := (mSeq (mSet 2 (mTup (mCons (mTup (mCons (mC (.int 2)) (mCons (mC (.int 3)) mNil))) (mCons (mTup (mCons (mC (.int 8)) (mCons (mC (.int 2)) mNil))) (mCons (mTup (mCons (mC (.int 14)) (mCons (mC (.int 4)) mNil))) mNil))))) (mSeq (mSet 0 (mVal (mLst (mCons (mCall 2 [] F_gaps_between (mCons (mVar 2) (mCons (mC (.int 24)) mNil))) (mCons (mCall 2 [] F_parted_share (mCons (mVar 2) (mCons (mC (.int 24)) mNil))) (mCons (mCall 2 [] F_even_share (mCons (mVar 2) (mCons (mC (.int 24)) mNil))) (mCons (mCall 2 [] F_gap_counts (mCons (mVar 2) (mCons (mC (.int 24)) mNil))) (mCons (mCall 3 [] F_cannot_fit (mCons (mVar 2) (mCons (mC (.int 24)) (mCons (mTup (mCons (mC (.int 3)) (mCons (mC (.int 7)) (mCons (mC (.int 20)) mNil)))) mNil)))) mNil)))))))) (mSeq (mSet 0 (mBin addF (mVar 0) (mVal (mLst (mCons (mCall 3 [] F_how_many_fit (mCons (mVar 2) (mCons (mC (.int 24)) (mCons (mC (.int 3)) mNil)))) (mCons (mCall 3 [] F_map_text (mCons (mVar 2) (mCons (mC (.int 24)) (mCons (mC (.int 8)) mNil)))) (mCons (mCall 3 [] F_moves_to_fit (mCons (mVar 2) (mCons (mC (.int 24)) (mCons (mC (.int 8)) mNil)))) (mCons (mCall 3 [] F_joins_by_free (mCons (mVar 2) (mCons (mC (.int 24)) (mCons (mC (.int 1)) mNil)))) (mCons (mCall 3 [] F_best_to_free (mCons (mVar 2) (mCons (mC (.int 24)) (mCons (mC (.int 9)) mNil)))) mNil))))))))) (mSeq (mSet 0 (mBin addF (mVar 0) (mVal (mLst (mCons (mCall 2 [] F_waste_of_lines (mCons (mTup (mCons (mC (.int 5)) (mCons (mC (.int 8)) (mCons (mC (.int 3)) mNil)))) (mCons (mC (.int 4)) mNil))) (mCons (mCall 1 [] F_look_back (mCons (mTup (mCons (mTup (mCons (mVar 2) (mCons (mC (.int 24)) mNil))) (mCons (mTup (mCons (mTup mNil) (mCons (mC (.int 24)) mNil))) (mCons (mTup (mCons (mSl slF (mVar 2) mNoPart (mPart (mC (.int 2)))) (mCons (mC (.int 24)) mNil))) mNil)))) mNil)) (mCons (mCall 2 [] F_check_rows (mCons (mVar 2) (mCons (mC (.int 24)) mNil))) (mCons (mCall 2 [] F_parted_share (mCons (mTup (mCons (mTup (mCons (mC (.int 0)) (mCons (mC (.int 2)) mNil))) mNil)) (mCons (mC (.int 2)) mNil))) mNil)))))))) (mSeq (mSet 0 (mBin addF (mVar 0) (mVal (mLst (mCons (mCall 2 [] F_even_share (mCons (mTup (mCons (mTup (mCons (mC (.int 0)) (mCons (mC (.int 2)) mNil))) mNil)) (mCons (mC (.int 2)) mNil))) (mCons (mCall 3 [] F_best_to_free (mCons (mTup mNil) (mCons (mC (.int 5)) (mCons (mC (.int 6)) mNil)))) (mCons (mCall 3 [] F_moves_to_fit (mCons (mTup mNil) (mCons (mC (.int 5)) (mCons (mC (.int 6)) mNil)))) (mCons (mCall 2 [] F_waste_of_lines (mCons (mTup mNil) (mCons (mC (.int 4)) mNil))) (mCons (mCall 3 [] F_best_to_free (mCons (mTup mNil) (mCons (mC (.int 5)) (mCons (mC (.int 5)) mNil)))) mNil))))))))) (mSeq (mSet 1 (mVal (mLst (mCons (mC (.lam 0)) (mCons (mC (.lam 1)) (mCons (mC (.lam 2)) (mCons (mC (.lam 3)) mNil))))))) (mSeq (mSet 1 (mBin addF (mVar 1) (mVal (mLst (mCons (mC (.lam 4)) (mCons (mC (.lam 5)) (mCons (mC (.lam 6)) (mCons (mC (.lam 7)) mNil)))))))) (mSeq (mSet 1 (mBin addF (mVar 1) (mVal (mLst (mCons (mC (.lam 8)) (mCons (mC (.lam 9)) (mCons (mC (.lam 10)) (mCons (mC (.lam 11)) mNil)))))))) (mSeq (mSet 1 (mBin addF (mVar 1) (mVal (mLst (mCons (mC (.lam 12)) (mCons (mC (.lam 13)) (mCons (mC (.lam 14)) (mCons (mC (.lam 15)) mNil)))))))) (mSeq (mSet 1 (mBin addF (mVar 1) (mVal (mLst (mCons (mC (.lam 16)) (mCons (mC (.lam 17)) (mCons (mC (.lam 18)) (mCons (mC (.lam 19)) mNil)))))))) (mSeq (mSet 1 (mBin addF (mVar 1) (mVal (mLst (mCons (mC (.lam 20)) mNil))))) (mSeq (mIfS (mOr (mTest (mBin neF (mVal (mLc [3] (mIt (mVar 1)) (mgName 3) t__law_plain_0 (mC (.int 1)))) (mVal (mLst mNil)))) (mTest (mBin neF (mC (.int 2000)) (mC (.int 2000))))) (mRet (mC (.bl false))) mSkip) (mRet (mBin eqLF (mVar 0) (mVal (mLst (mCons (mTup (mCons (mTup (mCons (mC (.int 0)) (mCons (mC (.int 2)) mNil))) (mCons (mTup (mCons (mC (.int 5)) (mCons (mC (.int 3)) mNil))) (mCons (mTup (mCons (mC (.int 10)) (mCons (mC (.int 4)) mNil))) (mCons (mTup (mCons (mC (.int 18)) (mCons (mC (.int 6)) mNil))) mNil))))) (mCons (mC (.int 600)) (mCons (mC (.int 711)) (mCons (mDisp [((mC (.int 2)), (mC (.int 2))), ((mC (.int 4)), (mC (.int 2)))]) (mCons (mTup (mCons (mC (.int 7)) mNil)) (mCons (mC (.int 4)) (mCons (mC (.str "+++++#..")) (mCons (mTup (mCons (mC (.int 2)) (mCons (mC (.int 5)) mNil))) (mCons (mC (.int 9)) (mCons (mTup (mCons (mC (.int 1)) mNil)) (mCons (mTup (mCons (mC (.int 4)) (mCons (mC (.int 250)) mNil))) (mCons (mTup (mCons (mTup (mCons (mC (.int 0)) (mCons (mC (.int 600)) mNil))) mNil)) (mCons (mC .non) (mCons (mC (.int 0)) (mCons (mC (.int 0)) (mCons (mC .non) (mCons (mC .non) (mCons (mTup (mCons (mC (.int 0)) (mCons (mC (.int 0)) mNil))) (mCons (mTup mNil) mNil)))))))))))))))))))))))))))))))))))
def F__law_plain : Fn := frF (runF 4 m__law_plain)
structure T__law_plain (P : Program) (w : World) (K : PySem.W.Frag) (mg : Str → Option Value) (base : Heap) (Γ : Sta) : Prop where
  nb : NB mg
  c_MOST_CELLS : ∃ t, mg "MOST_CELLS" = some (.int 2000 t)
  f_best_to_free : Fnd P w K mg base Γ "best_to_free" 8 3 F_best_to_free
  f_cannot_fit : Fnd P w K mg base Γ "cannot_fit" 8 3 F_cannot_fit
  f_check_rows : Fnd P w K mg base Γ "check_rows" 6 2 F_check_rows
  f_even_share : Fnd P w K mg base Γ "even_share" 8 2 F_even_share
  f_gap_counts : Fnd P w K mg base Γ "gap_counts" 8 2 F_gap_counts
  f_gaps_between : Fnd P w K mg base Γ "gaps_between" 7 2 F_gaps_between
  f_how_many_fit : Fnd P w K mg base Γ "how_many_fit" 8 3 F_how_many_fit
  f_joins_by_free : Fnd P w K mg base Γ "joins_by_free" 8 3 F_joins_by_free
  f_look_back : Fnd P w K mg base Γ "look_back" 9 1 F_look_back
  f_map_text : Fnd P w K mg base Γ "map_text" 7 3 F_map_text
  f_moves_to_fit : Fnd P w K mg base Γ "moves_to_fit" 7 3 F_moves_to_fit
  f_parted_share : Fnd P w K mg base Γ "parted_share" 8 2 F_parted_share
  f_waste_of_lines : Fnd P w K mg base Γ "waste_of_lines" 6 2 F_waste_of_lines
theorem d__law_plain {P : Program} {w : World} {K : PySem.W.Frag} {mg : Str → Option Value} {base : Heap} {cls : Nat → Addr} {Tt : List (Addr × Str)} (T : ∀ lm lq, T__law_plain P w K mg base ⟨K, cls, Tt, lm, lq⟩) {f : Addr} {cdv : Value} (LT : ∀ A outer s H E lm lq, LmT (defCx P w K mg base nm__law_plain "_law_plain" st__law_plain f cdv A outer s H E) ⟨K, cls, Tt, lm, lq⟩) (TD : ToldD K mg st__law_told (cls 0) "GapError") (A : Around) (outer : List Env) (s : Shared) (H : Hp) (E : XK) (hr : Room 11 (A.deeper (envOfC "_law_plain" (defScope st__law_plain) s.heap.objs.size f cdv))) :
    FSs (defCx P w K mg base nm__law_plain "_law_plain" st__law_plain f cdv A outer s H E) ⟨K, cls, Tt, lamsHO ((defCx P w K mg base nm__law_plain "_law_plain" st__law_plain f cdv A outer s H E).env.qual ++ "<lambda>") (defCx P w K mg base nm__law_plain "_law_plain" st__law_plain f cdv A outer s H E).env.cells rows__law_plain, (defCx P w K mg base nm__law_plain "_law_plain" st__law_plain f cdv A outer s H E).env.qual ++ "<lambda>"⟩ E (defBody st__law_plain) m__law_plain :=
  by
  have T := T (lamsHO ((defCx P w K mg base nm__law_plain "_law_plain" st__law_plain f cdv A outer s H E).env.qual ++ "<lambda>") (defCx P w K mg base nm__law_plain "_law_plain" st__law_plain f cdv A outer s H E).env.cells rows__law_plain) ((defCx P w K mg base nm__law_plain "_law_plain" st__law_plain f cdv A outer s H E).env.qual ++ "<lambda>")
  have LB : LamBs (defCx P w K mg base nm__law_plain "_law_plain" st__law_plain f cdv A outer s H E) ⟨K, cls, Tt, lamsHO ((defCx P w K mg base nm__law_plain "_law_plain" st__law_plain f cdv A outer s H E).env.qual ++ "<lambda>") (defCx P w K mg base nm__law_plain "_law_plain" st__law_plain f cdv A outer s H E).env.cells rows__law_plain, (defCx P w K mg base nm__law_plain "_law_plain" st__law_plain f cdv A outer s H E).env.qual ++ "<lambda>"⟩ 9 rows__law_plain (bodN bods__law_plain) := lamBs_of (rows := rows__law_plain) (ms := bods__law_plain) (.cons ⟨LamX.lamS_by rfl, fun _ _ _ _ _ => rfl, fun A outer s H E f c' hr2 => (fe_fn T.f_check_rows hr2 (passes_call (takes_of rfl rfl rfl rfl) fun _ _ _ _ h => h) (fa_cons (fe_tup fa_nil) (fa_cons fe_int fa_nil)))⟩
    (.cons ⟨LamX.lamS_by rfl, fun _ _ _ _ _ => rfl, fun A outer s H E f c' hr2 => (fe_fn T.f_check_rows hr2 (passes_call (takes_of rfl rfl rfl rfl) fun _ _ _ _ h => h) (fa_cons (fe_tup fa_nil) (fa_cons fe_int fa_nil)))⟩
    (.cons ⟨LamX.lamS_by rfl, fun _ _ _ _ _ => rfl, fun A outer s H E f c' hr2 => (fe_fn T.f_check_rows hr2 (passes_call (takes_of rfl rfl rfl rfl) fun _ _ _ _ h => h) (fa_cons (fe_tup (fa_cons (fe_tup (fa_cons (fe_un un_neg uns_neg fe_int) (fa_cons fe_int fa_nil))) fa_nil)) (fa_cons fe_int fa_nil)))⟩
    (.cons ⟨LamX.lamS_by rfl, fun _ _ _ _ _ => rfl, fun A outer s H E f c' hr2 => (fe_fn T.f_check_rows hr2 (passes_call (takes_of rfl rfl rfl rfl) fun _ _ _ _ h => h) (fa_cons (fe_tup (fa_cons (fe_tup (fa_cons fe_int (fa_cons fe_int fa_nil))) fa_nil)) (fa_cons fe_int fa_nil)))⟩
    (.cons ⟨LamX.lamS_by rfl, fun _ _ _ _ _ => rfl, fun A outer s H E f c' hr2 => (fe_fn T.f_check_rows hr2 (passes_call (takes_of rfl rfl rfl rfl) fun _ _ _ _ h => h) (fa_cons (fe_tup (fa_cons (fe_tup (fa_cons fe_int (fa_cons fe_int fa_nil))) fa_nil)) (fa_cons fe_int fa_nil)))⟩
    (.cons ⟨LamX.lamS_by rfl, fun _ _ _ _ _ => rfl, fun A outer s H E f c' hr2 => (fe_fn T.f_check_rows hr2 (passes_call (takes_of rfl rfl rfl rfl) fun _ _ _ _ h => h) (fa_cons (fe_tup (fa_cons (fe_tup (fa_cons fe_int (fa_cons fe_int fa_nil))) (fa_cons (fe_tup (fa_cons fe_int (fa_cons fe_int fa_nil))) fa_nil))) (fa_cons fe_int fa_nil)))⟩
    (.cons ⟨LamX.lamS_by rfl, fun _ _ _ _ _ => rfl, fun A outer s H E f c' hr2 => (fe_fn T.f_gaps_between hr2 (passes_call (takes_of rfl rfl rfl rfl) fun _ _ _ _ h => h) (fa_cons (fe_tup (fa_cons (fe_tup (fa_cons fe_int (fa_cons fe_int fa_nil))) fa_nil)) (fa_cons fe_int fa_nil)))⟩
    (.cons ⟨LamX.lamS_by rfl, fun _ _ _ _ _ => rfl, fun A outer s H E f c' hr2 => (fe_fn T.f_parted_share hr2 (passes_call (takes_of rfl rfl rfl rfl) fun _ _ _ _ h => h) (fa_cons (fe_tup fa_nil) (fa_cons fe_int fa_nil)))⟩
    (.cons ⟨LamX.lamS_by rfl, fun _ _ _ _ _ => rfl, fun A outer s H E f c' hr2 => (fe_fn T.f_even_share hr2 (passes_call (takes_of rfl rfl rfl rfl) fun _ _ _ _ h => h) (fa_cons (fe_tup fa_nil) (fa_cons fe_int fa_nil)))⟩
    (.cons ⟨LamX.lamS_by rfl, fun _ _ _ _ _ => rfl, fun A outer s H E f c' hr2 => (fe_fn T.f_gap_counts hr2 (passes_call (takes_of rfl rfl rfl rfl) fun _ _ _ _ h => h) (fa_cons (fe_tup fa_nil) (fa_cons fe_int fa_nil)))⟩
    (.cons ⟨LamX.lamS_by rfl, fun _ _ _ _ _ => rfl, fun A outer s H E f c' hr2 => (fe_fn T.f_cannot_fit hr2 (passes_call (takes_of rfl rfl rfl rfl) fun _ _ _ _ h => h) (fa_cons (fe_tup fa_nil) (fa_cons fe_int (fa_cons (fe_tup (fa_cons fe_int fa_nil)) fa_nil))))⟩
    (.cons ⟨LamX.lamS_by rfl, fun _ _ _ _ _ => rfl, fun A outer s H E f c' hr2 => (fe_fn T.f_how_many_fit hr2 (passes_call (takes_of rfl rfl rfl rfl) fun _ _ _ _ h => h) (fa_cons (fe_tup fa_nil) (fa_cons fe_int (fa_cons fe_int fa_nil))))⟩
    (.cons ⟨LamX.lamS_by rfl, fun _ _ _ _ _ => rfl, fun A outer s H E f c' hr2 => (fe_fn T.f_map_text hr2 (passes_call (takes_of rfl rfl rfl rfl) fun _ _ _ _ h => h) (fa_cons (fe_tup fa_nil) (fa_cons fe_int (fa_cons fe_int fa_nil))))⟩
    (.cons ⟨LamX.lamS_by rfl, fun _ _ _ _ _ => rfl, fun A outer s H E f c' hr2 => (fe_fn T.f_map_text hr2 (passes_call (takes_of rfl rfl rfl rfl) fun _ _ _ _ h => h) (fa_cons (fe_tup fa_nil) (fa_cons fe_int (fa_cons fe_int fa_nil))))⟩
    (.cons ⟨LamX.lamS_by rfl, fun _ _ _ _ _ => rfl, fun A outer s H E f c' hr2 => (fe_fn T.f_moves_to_fit hr2 (passes_call (takes_of rfl rfl rfl rfl) fun _ _ _ _ h => h) (fa_cons (fe_tup fa_nil) (fa_cons fe_int (fa_cons fe_int fa_nil))))⟩
    (.cons ⟨LamX.lamS_by rfl, fun _ _ _ _ _ => rfl, fun A outer s H E f c' hr2 => (fe_fn T.f_joins_by_free hr2 (passes_call (takes_of rfl rfl rfl rfl) fun _ _ _ _ h => h) (fa_cons (fv 2) (fa_cons fe_int (fa_cons fe_int fa_nil))))⟩
    (.cons ⟨LamX.lamS_by rfl, fun _ _ _ _ _ => rfl, fun A outer s H E f c' hr2 => (fe_fn T.f_joins_by_free hr2 (passes_call (takes_of rfl rfl rfl rfl) fun _ _ _ _ h => h) (fa_cons (fv 2) (fa_cons fe_int (fa_cons (fe_un un_neg uns_neg fe_int) fa_nil))))⟩
    (.cons ⟨LamX.lamS_by rfl, fun _ _ _ _ _ => rfl, fun A outer s H E f c' hr2 => (fe_fn T.f_best_to_free hr2 (passes_call (takes_of rfl rfl rfl rfl) fun _ _ _ _ h => h) (fa_cons (fe_tup fa_nil) (fa_cons fe_int (fa_cons fe_int fa_nil))))⟩
    (.cons ⟨LamX.lamS_by rfl, fun _ _ _ _ _ => rfl, fun A outer s H E f c' hr2 => (fe_fn T.f_waste_of_lines hr2 (passes_call (takes_of rfl rfl rfl rfl) fun _ _ _ _ h => h) (fa_cons (fe_tup (fa_cons fe_int fa_nil)) (fa_cons fe_int fa_nil)))⟩
    (.cons ⟨LamX.lamS_by rfl, fun _ _ _ _ _ => rfl, fun A outer s H E f c' hr2 => (fe_fn T.f_waste_of_lines hr2 (passes_call (takes_of rfl rfl rfl rfl) fun _ _ _ _ h => h) (fa_cons (fe_tup (fa_cons fe_int fa_nil)) (fa_cons fe_int fa_nil)))⟩
    (.cons ⟨LamX.lamS_by rfl, fun _ _ _ _ _ => rfl, fun A outer s H E f c' hr2 => (fe_fn T.f_look_back hr2 (passes_call (takes_of rfl rfl rfl rfl) fun _ _ _ _ h => h) (fa_cons (fe_tup (fa_cons (fe_tup (fa_cons (fe_tup fa_nil) (fa_cons fe_int fa_nil))) fa_nil)) fa_nil))⟩
    .nil)))))))))))))))))))))
  exact (fss_cons (fs_set nd__law_plain (i := 2) rfl (by first | exact Or.inl rfl | exact Or.inr rfl) (fe_tup (fa_cons (fe_tup (fa_cons fe_int (fa_cons fe_int fa_nil))) (fa_cons (fe_tup (fa_cons fe_int (fa_cons fe_int fa_nil))) (fa_cons (fe_tup (fa_cons fe_int (fa_cons fe_int fa_nil))) fa_nil))))) (fss_cons (fs_set nd__law_plain (i := 0) rfl (by first | exact Or.inl rfl | exact Or.inr rfl) (fe_val (fl_lst (fa_cons (fe_fn T.f_gaps_between hr (passes_call (takes_of rfl rfl rfl rfl) fun _ _ _ _ h => h) (fa_cons (fv 2) (fa_cons fe_int fa_nil))) (fa_cons (fe_fn T.f_parted_share hr (passes_call (takes_of rfl rfl rfl rfl) fun _ _ _ _ h => h) (fa_cons (fv 2) (fa_cons fe_int fa_nil))) (fa_cons (fe_fn T.f_even_share hr (passes_call (takes_of rfl rfl rfl rfl) fun _ _ _ _ h => h) (fa_cons (fv 2) (fa_cons fe_int fa_nil))) (fa_cons (fe_fn T.f_gap_counts hr (passes_call (takes_of rfl rfl rfl rfl) fun _ _ _ _ h => h) (fa_cons (fv 2) (fa_cons fe_int fa_nil))) (fa_cons (fe_fn T.f_cannot_fit hr (passes_call (takes_of rfl rfl rfl rfl) fun _ _ _ _ h => h) (fa_cons (fv 2) (fa_cons fe_int (fa_cons (fe_tup (fa_cons fe_int (fa_cons fe_int (fa_cons fe_int fa_nil)))) fa_nil)))) fa_nil)))))))) (fss_cons (fs_set nd__law_plain (i := 0) rfl (by first | exact Or.inl rfl | exact Or.inr rfl) (fe_op op_addAll ops_add (fv 0) (fe_val (fl_lst (fa_cons (fe_fn T.f_how_many_fit hr (passes_call (takes_of rfl rfl rfl rfl) fun _ _ _ _ h => h) (fa_cons (fv 2) (fa_cons fe_int (fa_cons fe_int fa_nil)))) (fa_cons (fe_fn T.f_map_text hr (passes_call (takes_of rfl rfl rfl rfl) fun _ _ _ _ h => h) (fa_cons (fv 2) (fa_cons fe_int (fa_cons fe_int fa_nil)))) (fa_cons (fe_fn T.f_moves_to_fit hr (passes_call (takes_of rfl rfl rfl rfl) fun _ _ _ _ h => h) (fa_cons (fv 2) (fa_cons fe_int (fa_cons fe_int fa_nil)))) (fa_cons (fe_fn T.f_joins_by_free hr (passes_call (takes_of rfl rfl rfl rfl) fun _ _ _ _ h => h) (fa_cons (fv 2) (fa_cons fe_int (fa_cons fe_int fa_nil)))) (fa_cons (fe_fn T.f_best_to_free hr (passes_call (takes_of rfl rfl rfl rfl) fun _ _ _ _ h => h) (fa_cons (fv 2) (fa_cons fe_int (fa_cons fe_int fa_nil)))) fa_nil))))))))) (fss_cons (fs_set nd__law_plain (i := 0) rfl (by first | exact Or.inl rfl | exact Or.inr rfl) (fe_op op_addAll ops_add (fv 0) (fe_val (fl_lst (fa_cons (fe_fn T.f_waste_of_lines hr (passes_call (takes_of rfl rfl rfl rfl) fun _ _ _ _ h => h) (fa_cons (fe_tup (fa_cons fe_int (fa_cons fe_int (fa_cons fe_int fa_nil)))) (fa_cons fe_int fa_nil))) (fa_cons (fe_fn T.f_look_back hr (passes_call (takes_of rfl rfl rfl rfl) fun _ _ _ _ h => h) (fa_cons (fe_tup (fa_cons (fe_tup (fa_cons (fv 2) (fa_cons fe_int fa_nil))) (fa_cons (fe_tup (fa_cons (fe_tup fa_nil) (fa_cons fe_int fa_nil))) (fa_cons (fe_tup (fa_cons (fe_slice (fv 2) fo_none (fo_some fe_int)) (fa_cons fe_int fa_nil))) fa_nil)))) fa_nil)) (fa_cons (fe_fn T.f_check_rows hr (passes_call (takes_of rfl rfl rfl rfl) fun _ _ _ _ h => h) (fa_cons (fv 2) (fa_cons fe_int fa_nil))) (fa_cons (fe_fn T.f_parted_share hr (passes_call (takes_of rfl rfl rfl rfl) fun _ _ _ _ h => h) (fa_cons (fe_tup (fa_cons (fe_tup (fa_cons fe_int (fa_cons fe_int fa_nil))) fa_nil)) (fa_cons fe_int fa_nil))) fa_nil)))))))) (fss_cons (fs_set nd__law_plain (i := 0) rfl (by first | exact Or.inl rfl | exact Or.inr rfl) (fe_op op_addAll ops_add (fv 0) (fe_val (fl_lst (fa_cons (fe_fn T.f_even_share hr (passes_call (takes_of rfl rfl rfl rfl) fun _ _ _ _ h => h) (fa_cons (fe_tup (fa_cons (fe_tup (fa_cons fe_int (fa_cons fe_int fa_nil))) fa_nil)) (fa_cons fe_int fa_nil))) (fa_cons (fe_fn T.f_best_to_free hr (passes_call (takes_of rfl rfl rfl rfl) fun _ _ _ _ h => h) (fa_cons (fe_tup fa_nil) (fa_cons fe_int (fa_cons fe_int fa_nil)))) (fa_cons (fe_fn T.f_moves_to_fit hr (passes_call (takes_of rfl rfl rfl rfl) fun _ _ _ _ h => h) (fa_cons (fe_tup fa_nil) (fa_cons fe_int (fa_cons fe_int fa_nil)))) (fa_cons (fe_fn T.f_waste_of_lines hr (passes_call (takes_of rfl rfl rfl rfl) fun _ _ _ _ h => h) (fa_cons (fe_tup fa_nil) (fa_cons fe_int fa_nil))) (fa_cons (fe_fn T.f_best_to_free hr (passes_call (takes_of rfl rfl rfl rfl) fun _ _ _ _ h => h) (fa_cons (fe_tup fa_nil) (fa_cons fe_int (fa_cons fe_int fa_nil)))) fa_nil))))))))) (fss_cons (fs_set nd__law_plain (i := 1) rfl (by first | exact Or.inl rfl | exact Or.inr rfl) (fe_val (fl_lst (fa_cons (fe_lam (LT _ _ _ _ _ _ _) (LamX.lamS_by rfl) rfl rfl rfl) (fa_cons (fe_lam (LT _ _ _ _ _ _ _) (LamX.lamS_by rfl) rfl rfl rfl) (fa_cons (fe_lam (LT _ _ _ _ _ _ _) (LamX.lamS_by rfl) rfl rfl rfl) (fa_cons (fe_lam (LT _ _ _ _ _ _ _) (LamX.lamS_by rfl) rfl rfl rfl) fa_nil))))))) (fss_cons (fs_set nd__law_plain (i := 1) rfl (by first | exact Or.inl rfl | exact Or.inr rfl) (fe_op op_addAll ops_add (fv 1) (fe_val (fl_lst (fa_cons (fe_lam (LT _ _ _ _ _ _ _) (LamX.lamS_by rfl) rfl rfl rfl) (fa_cons (fe_lam (LT _ _ _ _ _ _ _) (LamX.lamS_by rfl) rfl rfl rfl) (fa_cons (fe_lam (LT _ _ _ _ _ _ _) (LamX.lamS_by rfl) rfl rfl rfl) (fa_cons (fe_lam (LT _ _ _ _ _ _ _) (LamX.lamS_by rfl) rfl rfl rfl) fa_nil)))))))) (fss_cons (fs_set nd__law_plain (i := 1) rfl (by first | exact Or.inl rfl | exact Or.inr rfl) (fe_op op_addAll ops_add (fv 1) (fe_val (fl_lst (fa_cons (fe_lam (LT _ _ _ _ _ _ _) (LamX.lamS_by rfl) rfl rfl rfl) (fa_cons (fe_lam (LT _ _ _ _ _ _ _) (LamX.lamS_by rfl) rfl rfl rfl) (fa_cons (fe_lam (LT _ _ _ _ _ _ _) (LamX.lamS_by rfl) rfl rfl rfl) (fa_cons (fe_lam (LT _ _ _ _ _ _ _) (LamX.lamS_by rfl) rfl rfl rfl) fa_nil)))))))) (fss_cons (fs_set nd__law_plain (i := 1) rfl (by first | exact Or.inl rfl | exact Or.inr rfl) (fe_op op_addAll ops_add (fv 1) (fe_val (fl_lst (fa_cons (fe_lam (LT _ _ _ _ _ _ _) (LamX.lamS_by rfl) rfl rfl rfl) (fa_cons (fe_lam (LT _ _ _ _ _ _ _) (LamX.lamS_by rfl) rfl rfl rfl) (fa_cons (fe_lam (LT _ _ _ _ _ _ _) (LamX.lamS_by rfl) rfl rfl rfl) (fa_cons (fe_lam (LT _ _ _ _ _ _ _) (LamX.lamS_by rfl) rfl rfl rfl) fa_nil)))))))) (fss_cons (fs_set nd__law_plain (i := 1) rfl (by first | exact Or.inl rfl | exact Or.inr rfl) (fe_op op_addAll ops_add (fv 1) (fe_val (fl_lst (fa_cons (fe_lam (LT _ _ _ _ _ _ _) (LamX.lamS_by rfl) rfl rfl rfl) (fa_cons (fe_lam (LT _ _ _ _ _ _ _) (LamX.lamS_by rfl) rfl rfl rfl) (fa_cons (fe_lam (LT _ _ _ _ _ _ _) (LamX.lamS_by rfl) rfl rfl rfl) (fa_cons (fe_lam (LT _ _ _ _ _ _ _) (LamX.lamS_by rfl) rfl rfl rfl) fa_nil)))))))) (fss_cons (fs_set nd__law_plain (i := 1) rfl (by first | exact Or.inl rfl | exact Or.inr rfl) (fe_op op_addAll ops_add (fv 1) (fe_val (fl_lst (fa_cons (fe_lam (LT _ _ _ _ _ _ _) (LamX.lamS_by rfl) rfl rfl rfl) fa_nil))))) (fss_cons (fs_if (PW.pt (fw_or (ft_cmp (op_neD (un64 hr)) ops_ne (fe_val (fl_lcT (own := [("f", 3)]) rfl nd__law_plain (fi_seq (fv 1)) (show BlkOk nm__law_plain (defScope st__law_plain) _ [("f", 3)] from ⟨rfl, by decide +kernel, by decide +kernel, by decide +kernel, by decide +kernel⟩) (fun s H C cl fp => (fg_name nd__law_plain (i := 3) rfl (by first | exact Or.inl rfl | exact Or.inr rfl))) (fun pins σ s H C cl fp B => (pts_told (op_neD (un64 hr)) ops_ne (pe_toldB B TD rfl rfl rfl LB hr (fv 3)) fe_str)) (fun s H C cl fp => fe_int))) (fe_val (fl_lst fa_nil))) (fw_or1 (ft_cmp (op_neD (un64 hr)) ops_ne (fe_globE T.c_MOST_CELLS) fe_int)))) (fss_one (fs_ret fe_bl)) fss_nil) (fss_one (fs_ret (fe_cmp (op_eqI (un65 hr)) ops_eqL (fv 0) (fe_val (fl_lst (fa_cons (fe_tup (fa_cons (fe_tup (fa_cons fe_int (fa_cons fe_int fa_nil))) (fa_cons (fe_tup (fa_cons fe_int (fa_cons fe_int fa_nil))) (fa_cons (fe_tup (fa_cons fe_int (fa_cons fe_int fa_nil))) (fa_cons (fe_tup (fa_cons fe_int (fa_cons fe_int fa_nil))) fa_nil))))) (fa_cons fe_int (fa_cons fe_int (fa_cons (fe_disp (fps_cons fe_int fe_int (fps_cons fe_int fe_int fps_nil))) (fa_cons (fe_tup (fa_cons fe_int fa_nil)) (fa_cons fe_int (fa_cons fe_str (fa_cons (fe_tup (fa_cons fe_int (fa_cons fe_int fa_nil))) (fa_cons fe_int (fa_cons (fe_tup (fa_cons fe_int fa_nil)) (fa_cons (fe_tup (fa_cons fe_int (fa_cons fe_int fa_nil))) (fa_cons (fe_tup (fa_cons (fe_tup (fa_cons fe_int (fa_cons fe_int fa_nil))) fa_nil)) (fa_cons fe_non (fa_cons fe_int (fa_cons fe_int (fa_cons fe_non (fa_cons fe_non (fa_cons (fe_tup (fa_cons fe_int (fa_cons fe_int fa_nil))) (fa_cons (fe_tup fa_nil) fa_nil))))))))))))))))))))))))))))))))))))
def st_law : Stmt := top 28
def nm_law : List Str := [("script" : Str), ("dice" : Str), ("size" : Str), ("rows" : Str), ("gaps" : Str), ("sizes" : Str), ("asks" : Str), ("ask" : Str), ("whole" : Str), ("classes" : Str), ("squares" : Str), ("even" : Str), ("counts" : Str), ("start" : Str), ("moves" : Str), ("spot" : Str), ("rest" : Str), ("ways" : Str), ("end" : Str), ("fits" : Str), ("best" : Str), ("due" : Str), ("line" : Str), ("looks" : Str), ("more" : Str), ("shares" : Str), ("first" : Str), ("long" : Str), ("k" : Str), ("part" : Str), ("one" : Str), ("some" : Str), ("share" : Str)]
theorem nd_law : nm_law.Nodup := by decide +kernel
abbrev e_law_0 : M D := (mBin addF (mC (.int 1)) (mCall 2 [] F__law_roll (mCons (mVar 1) (mCons (mC (.int 12)) mNil))))
abbrev e_law_1 : M D := (mCB maxC (m1 (mVal (mLc [29] (mIt (mVal (mLst (mCons (mC (.int 1)) (mCons (mC (.int 2)) (mCons (mC (.int 4)) (mCons (mC (.int 8)) (mCons (mC (.int 16)) (mCons (mC (.int 32)) mNil))))))))) (mgName 29) (mTest (mBin leF (mVar 29) (mVar 27))) (mVar 29)))))
abbrev t_law_2 : M Bool := (mTest (mBin (inF false) (mVar 29) (mVar 9)))
abbrev e_law_3 : M D := (mTup (mCons (mVar 29) (mCons (mBM countMF (mVar 9) (m1 (mVar 29))) mNil)))
abbrev t_law_4 : M Bool := (mAnd (mTest (mBin leF (mVar 30) (mVar 8))) (mTest (mBin eqF (mVal (mLc [27] (mIt (mVar 5)) (mgName 27) (mTest (mBin geF (mVar 27) (mVar 30))) (mVar 27))) (mVal (mLst mNil)))))
abbrev t_law_5 : M Bool := (mAnd (mTest (mBin ltF (mVar 26) (mBin addF (mVar 13) (mVar 7)))) (mTest (mBin ltF (mVar 13) (mBin addF (mVar 26) (mVar 27)))))
abbrev e_law_6 : M D := (mTup (mCons (mCB sumC (m1 (mVal (mLc [26, 27] (mIt (mVar 3)) (mgTup [(mgName 26), (mgName 27)]) t_law_5 (mVar 27))))) (mCons (mVar 13) mNil)))
abbrev t_law_7 : M Bool := (mTest (mChain2 leF ltF (mVar 26) (mBin ixF (mBin ixF (mVar 3) (mVar 15)) (mC (.int 0))) (mBin addF (mVar 26) (mVar 27))))
abbrev b_law_8 : MS := (mSeq (mSet 16 (mBin addF (mSl slF (mVar 3) mNoPart (mPart (mVar 15))) (mSl slF (mVar 3) (mPart (mBin addF (mVar 15) (mC (.int 1)))) mNoPart))) (mIfS (mTest (mBin neF (mCall 3 [] F_joins_by_free (mCons (mVar 3) (mCons (mVar 2) (mCons (mVar 15) mNil)))) (mBin ixF (mVal (mLc [26, 27] (mIt (mCall 2 [] F__law_gaps (mCons (mVar 16) (mCons (mVar 2) mNil)))) (mgTup [(mgName 26), (mgName 27)]) t_law_7 (mVar 27))) (mC (.int 0))))) (mRet (mC (.bl false))) mSkip))
abbrev b_law_9 : MS := (mSeq (mSet 19 (mBin neF (mVal (mLc [26, 27] (mIt (mCall 2 [] F__law_gaps (mCons (mBin addF (mSl slF (mVar 3) mNoPart (mPart (mVar 13))) (mSl slF (mVar 3) (mPart (mVar 18)) mNoPart)) (mCons (mVar 2) mNil)))) (mgTup [(mgName 26), (mgName 27)]) (mTest (mBin geF (mVar 27) (mVar 7))) (mC (.int 1)))) (mVal (mLst mNil)))) (mSet 17 (mBin addF (mVar 17) (mBin mulF (mVal (mLst (mCons (mTup (mCons (mBin subF (mVar 18) (mVar 13)) (mCons (mCB sumC (m1 (mVal (mLc [26, 27] (mIt (mSl slF (mVar 3) (mPart (mVar 13)) (mPart (mVar 18)))) (mgTup [(mgName 26), (mgName 27)]) mYes (mVar 27))))) (mCons (mVar 13) mNil)))) mNil))) (mCB intC (m1 (mVar 19)))))))
abbrev b_law_10 : MS := (mFor (mRng2 (mCons (mBin addF (mVar 13) (mC (.int 1))) (mCons (mBin addF (mCB lenC (m1 (mVar 3))) (mC (.int 1))) mNil))) (mgName 18) b_law_9)
abbrev e_law_11 : M D := (mTup (mCons (mCall 2 [] F__law_rooms (mCons (mVar 1) (mCons (mC (.int 20)) mNil))) (mCons (mC (.int 20)) mNil)))
abbrev t_law_12 : M Bool := (mTest (mBin eqF (mBin modF (mBin addF (mVar 30) (mVar 28)) (mVar 22)) (mC (.int 0))))
abbrev e_law_13 : M D := (mBin ixF (mVal (mLc [28] (mRng1 (mCons (mVar 22) mNil)) (mgName 28) t_law_12 (mVar 28))) (mC (.int 0)))
abbrev e_law_14 : M D := (mCall 2 [] F__law_share (mCons (mVar 31) (mCons (mVar 27) mNil)))
abbrev t_law_15 : M Bool := (mTest (mBin eqF (mVal (mLc [30] (mIt (mSl slF (mVar 25) mNoPart (mPart (mVar 28)))) (mgName 30) (mTest (mBin geF (mVar 30) (mVar 32))) (mVar 30))) (mVal (mLst mNil))))
abbrev e_law_16 : M D := (mTup (mCons (mVar 28) (mCons (mVar 32) mNil)))
abbrev b_law_17 : MS := (mSeq (mSet 2 (mBin addF (mC (.int 6)) (mCall 2 [] F__law_roll (mCons (mVar 1) (mCons (mC (.int 30)) mNil))))) (mSeq (mSet 3 (mCall 2 [] F__law_rooms (mCons (mVar 1) (mCons (mVar 2) mNil)))) (mSeq (mSet 4 (mCall 2 [] F__law_gaps (mCons (mVar 3) (mCons (mVar 2) mNil)))) (mSeq (mAsg (mgTup [(mgName 5), (mgName 6), (mgName 7)]) (mTup (mCons (mVal (mLc [26, 27] (mIt (mVar 4)) (mgTup [(mgName 26), (mgName 27)]) mYes (mVar 27))) (mCons (mVal (mLc [28] (mRng1 (mCons (mC (.int 4)) mNil)) (mgName 28) mYes e_law_0)) (mCons (mBin addF (mC (.int 1)) (mCall 2 [] F__law_roll (mCons (mVar 1) (mCons (mC (.int 10)) mNil)))) mNil))))) (mSeq (mSet 8 (mCB sumC (m1 (mVar 5)))) (mSeq (mSet 9 (mVal (mLc [27] (mIt (mVar 5)) (mgName 27) mYes e_law_1))) (mSeq (mSet 10 (mBin mulF (mC (.int 1000)) (mBin subF (mBin mulF (mVar 8) (mVar 8)) (mCB sumC (m1 (mVal (mLc [27] (mIt (mVar 5)) (mgName 27) mYes (mBin mulF (mVar 27) (mVar 27))))))))) (mSeq (mSet 11 (mIf (mTest (mBin gtF (mVar 8) (mC (.int 0)))) (mBin divF (mVar 10) (mBin mulF (mVar 8) (mVar 8))) (mC (.int 0)))) (mSeq (mSet 12 (mVal (mLc [29] (mIt (mVal (mLst (mCons (mC (.int 1)) (mCons (mC (.int 2)) (mCons (mC (.int 4)) (mCons (mC (.int 8)) (mCons (mC (.int 16)) (mCons (mC (.int 32)) mNil))))))))) (mgName 29) t_law_2 e_law_3))) (mSeq (mIfS (mOr (mTest (mBin neF (mVal (mCBL listC (m1 (mCall 2 [] F_gaps_between (mCons (mVar 3) (mCons (mVar 2) mNil)))))) (mVar 4))) (mTest (mBin neF (mCall 2 [] F_parted_share (mCons (mVar 3) (mCons (mVar 2) mNil))) (mCall 2 [] F__law_share (mCons (mVar 3) (mCons (mVar 2) mNil)))))) (mRet (mC (.bl false))) mSkip) (mSeq (mIfS (mOr (mTest (mBin neF (mCall 2 [] F_even_share (mCons (mVar 3) (mCons (mVar 2) mNil))) (mVar 11))) (mTest (mBin neF (mVal (mListItems (mCall 2 [] F_gap_counts (mCons (mVar 3) (mCons (mVar 2) mNil))))) (mVar 12)))) (mRet (mC (.bl false))) mSkip) (mSeq (mIfS (mTest (mBin neF (mVal (mCBL listC (m1 (mCall 3 [] F_cannot_fit (mCons (mVar 3) (mCons (mVar 2) (mCons (mVar 6) mNil))))))) (mVal (mLc [30] (mIt (mVar 6)) (mgName 30) t_law_4 (mVar 30))))) (mRet (mC (.bl false))) mSkip) (mSeq (mIfS (mTest (mBin neF (mCall 3 [] F_how_many_fit (mCons (mVar 3) (mCons (mVar 2) (mCons (mVar 7) mNil)))) (mCB sumC (m1 (mVal (mLc [27] (mIt (mVar 5)) (mgName 27) mYes (mBin divF (mVar 27) (mVar 7)))))))) (mRet (mC (.bl false))) mSkip) (mSeq (mIfS (mTest (mBin neF (mCall 3 [] F_map_text (mCons (mVar 3) (mCons (mVar 2) (mCons (mBin addF (mC (.int 1)) (mBin modF (mVar 7) (mVar 2))) mNil)))) (mCall 3 [] F__law_map (mCons (mVar 3) (mCons (mVar 2) (mCons (mBin addF (mC (.int 1)) (mBin modF (mVar 7) (mVar 2))) mNil)))))) (mRet (mC (.bl false))) mSkip) (mSeq (mSet 14 (mVal (mLc [13] (mRng1 (mCons (mBin addF (mBin subF (mVar 2) (mVar 7)) (mC (.int 1))) mNil)) (mgName 13) mYes e_law_6))) (mSeq (mIfS (mTest (mBin neF (mCall 3 [] F_moves_to_fit (mCons (mVar 3) (mCons (mVar 2) (mCons (mVar 7) mNil)))) (mIf (mTest (mBin neF (mVar 14) (mVal (mLst mNil)))) (mCB minTC (m1 (mVar 14))) (mC .non)))) (mRet (mC (.bl false))) mSkip) (mSeq (mFor (mRng1 (mCons (mCB lenC (m1 (mVar 3))) mNil)) (mgName 15) b_law_8) (mSeq (mSet 17 (mVal (mLst mNil))) (mSeq (mFor (mRng1 (mCons (mCB lenC (m1 (mVar 3))) mNil)) (mgName 13) b_law_10) (mSeq (mSet 20 (mIf (mTest (mBin neF (mVar 17) (mVal (mLst mNil)))) (mCB minTC (m1 (mVar 17))) (mC .non))) (mSeq (mSet 21 (mIf (mTest (mBin neF (mVal (mLc [27] (mIt (mVar 5)) (mgName 27) (mTest (mBin geF (mVar 27) (mVar 7))) (mVar 27))) (mVal (mLst mNil)))) (mTup mNil) (mIf (mTest (mBin isNF (mVar 20) (mC .non))) (mC .non) (mRgT (mCons (mBin ixF (mVar 20) (mC (.int 2))) (mCons (mBin addF (mBin ixF (mVar 20) (mC (.int 2))) (mBin ixF (mVar 20) (mC (.int 0)))) mNil)))))) (mSeq (mIfS (mTest (mBin neF (mCall 3 [] F_best_to_free (mCons (mVar 3) (mCons (mVar 2) (mCons (mVar 7) mNil)))) (mVar 21))) (mRet (mC (.bl false))) mSkip) (mSeq (mAsg (mgTup [(mgName 22), (mgName 23)]) (mTup (mCons (mBin addF (mC (.int 1)) (mCall 2 [] F__law_roll (mCons (mVar 1) (mCons (mC (.int 8)) mNil)))) (mCons (mVal (mLc [28] (mRng1 (mCons (mCall 2 [] F__law_roll (mCons (mVar 1) (mCons (mC (.int 4)) mNil))) mNil)) (mgName 28) mYes e_law_11)) mNil)))) (mSeq (mSet 24 (mCB sumC (m1 (mVal (mLc [30] (mIt (mVar 6)) (mgName 30) mYes e_law_13))))) (mSeq (mSet 25 (mVal (mLc [31, 27] (mIt (mVar 23)) (mgTup [(mgName 31), (mgName 27)]) mYes e_law_14))) (mSeq (mIfS (mTest (mBin neF (mCall 2 [] F_waste_of_lines (mCons (mVar 6) (mCons (mVar 22) mNil))) (mTup (mCons (mVar 24) (mCons (mBin divF (mBin mulF (mC (.int 1000)) (mVar 24)) (mCB sumC (m1 (mVar 6)))) mNil))))) (mRet (mC (.bl false))) mSkip) (mIfS (mTest (mBin neF (mVal (mCBL listC (m1 (mCall 1 [] F_look_back (mCons (mVar 23) mNil))))) (mVal (mLc [28, 32] (mEnumA (mCons (mVar 25) mNil)) (mgTup [(mgName 28), (mgName 32)]) t_law_15 e_law_16)))) (mRet (mC (.bl false))) mSkip)))))))))))))))))))))))))))
def m_law : MS := (mSeq (mFor (mIt (mCall 2 [] F__law_rounds (mCons (mVar 0) (mCons (mC (.int 1)) mNil)))) (mgName 1) b_law_17) (mRet (mCall 0 [] F__law_plain mNil)))
def F_law : Fn := runF 33 m_law
structure T_law (P : Program) (w : World) (K : PySem.W.Frag) (mg : Str → Option Value) (base : Heap) (Γ : Sta) : Prop where
  nb : NB mg
  f__law_gaps : Fnd P w K mg base Γ "_law_gaps" 1 2 F__law_gaps
  f__law_map : Fnd P w K mg base Γ "_law_map" 1 3 F__law_map
  f__law_plain : Fnd P w K mg base Γ "_law_plain" 12 0 F__law_plain
  f__law_roll : Fnd P w K mg base Γ "_law_roll" 2 2 F__law_roll
  f__law_rooms : Fnd P w K mg base Γ "_law_rooms" 3 2 F__law_rooms
  f__law_rounds : Fnd P w K mg base Γ "_law_rounds" 2 2 F__law_rounds
  f__law_share : Fnd P w K mg base Γ "_law_share" 2 2 F__law_share
  f_best_to_free : Fnd P w K mg base Γ "best_to_free" 8 3 F_best_to_free
  f_cannot_fit : Fnd P w K mg base Γ "cannot_fit" 8 3 F_cannot_fit
  f_even_share : Fnd P w K mg base Γ "even_share" 8 2 F_even_share
  f_gap_counts : Fnd P w K mg base Γ "gap_counts" 8 2 F_gap_counts
  f_gaps_between : Fnd P w K mg base Γ "gaps_between" 7 2 F_gaps_between
  f_how_many_fit : Fnd P w K mg base Γ "how_many_fit" 8 3 F_how_many_fit
  f_joins_by_free : Fnd P w K mg base Γ "joins_by_free" 8 3 F_joins_by_free
  f_look_back : Fnd P w K mg base Γ "look_back" 9 1 F_look_back
  f_map_text : Fnd P w K mg base Γ "map_text" 7 3 F_map_text
  f_moves_to_fit : Fnd P w K mg base Γ "moves_to_fit" 7 3 F_moves_to_fit
  f_parted_share : Fnd P w K mg base Γ "parted_share" 8 2 F_parted_share
  f_waste_of_lines : Fnd P w K mg base Γ "waste_of_lines" 6 2 F_waste_of_lines
theorem d_law {P : Program} {w : World} {K : PySem.W.Frag} {mg : Str → Option Value} {base : Heap} {cls : Nat → Addr} {Tt : List (Addr × Str)} {lm : Nat → Addr → Addr → HO} {lq : Str} (T : T_law P w K mg base ⟨K, cls, Tt, lm, lq⟩) {f : Addr} {cdv : Value} (A : Around) (outer : List Env) (s : Shared) (H : Hp) (E : XK) (hr : Room 12 (A.deeper (envOfC "law" (defScope st_law) s.heap.objs.size f cdv))) :
    FSs (defCx P w K mg base nm_law "law" st_law f cdv A outer s H E) ⟨K, cls, Tt, lm, lq⟩ E (defBody st_law) m_law :=
  (fss_cons (fs_for (passes_of rfl) rfl (fi_seq (fe_fn T.f__law_rounds hr (passes_call (takes_of rfl rfl rfl rfl) fun _ _ _ _ h => h) (fa_cons (fv 0) (fa_cons fe_int fa_nil)))) (fg_name nd_law (i := 1) rfl (by first | exact Or.inl rfl | exact Or.inr rfl)) (fss_cons (fs_set nd_law (i := 2) rfl (by first | exact Or.inl rfl | exact Or.inr rfl) (fe_op op_addAll ops_add fe_int (fe_fn T.f__law_roll hr (passes_call (takes_of rfl rfl rfl rfl) fun _ _ _ _ h => h) (fa_cons (fv 1) (fa_cons fe_int fa_nil))))) (fss_cons (fs_set nd_law (i := 3) rfl (by first | exact Or.inl rfl | exact Or.inr rfl) (fe_fn T.f__law_rooms hr (passes_call (takes_of rfl rfl rfl rfl) fun _ _ _ _ h => h) (fa_cons (fv 1) (fa_cons (fv 2) fa_nil)))) (fss_cons (fs_set nd_law (i := 4) rfl (by first | exact Or.inl rfl | exact Or.inr rfl) (fe_fn T.f__law_gaps hr (passes_call (takes_of rfl rfl rfl rfl) fun _ _ _ _ h => h) (fa_cons (fv 3) (fa_cons (fv 2) fa_nil)))) (fss_cons (fs_asg (fe_tup (fa_cons (fe_val (fl_lc (own := [("first", 26), ("long", 27)]) rfl nd_law (fi_seq (fv 4)) (show BlkOk nm_law (defScope st_law) _ [("first", 26), ("long", 27)] from ⟨rfl, by decide +kernel, by decide +kernel, by decide +kernel, by decide +kernel⟩) (fun s H C cl fp => (fg_tup rfl (fgs_cons (fg_name nd_law (i := 26) rfl (by first | exact Or.inl rfl | exact Or.inr rfl)) (fgs_cons (fg_name nd_law (i := 27) rfl (by first | exact Or.inl rfl | exact Or.inr rfl)) fgs_nil)))) (fun s H C cl fp => fts_nil) (fun s H C cl fp => (fv 27)))) (fa_cons (fe_val (fl_lc (own := [("k", 28)]) rfl nd_law (fi_range1 rfl (T.nb _ (by decide)) (fa_cons fe_int fa_nil)) (show BlkOk nm_law (defScope st_law) _ [("k", 28)] from ⟨rfl, by decide +kernel, by decide +kernel, by decide +kernel, by decide +kernel⟩) (fun s H C cl fp => (fg_name nd_law (i := 28) rfl (by first | exact Or.inl rfl | exact Or.inr rfl))) (fun s H C cl fp => fts_nil) (fun s H C cl fp => (fe_op op_addAll ops_add fe_int (fe_fn T.f__law_roll hr passE0 (fa_cons (fv 1) (fa_cons fe_int fa_nil))))))) (fa_cons (fe_op op_addAll ops_add fe_int (fe_fn T.f__law_roll hr (passes_call (takes_of rfl rfl rfl rfl) fun _ _ _ _ h => h) (fa_cons (fv 1) (fa_cons fe_int fa_nil)))) fa_nil)))) (fg_tup rfl (fgs_cons (fg_name nd_law (i := 5) rfl (by first | exact Or.inl rfl | exact Or.inr rfl)) (fgs_cons (fg_name nd_law (i := 6) rfl (by first | exact Or.inl rfl | exact Or.inr rfl)) (fgs_cons (fg_name nd_law (i := 7) rfl (by first | exact Or.inl rfl | exact Or.inr rfl)) fgs_nil))))) (fss_cons (fs_set nd_law (i := 8) rfl (by first | exact Or.inl rfl | exact Or.inr rfl) (fe_sum1 T.nb rfl (fv 5))) (fss_cons (fs_set nd_law (i := 9) rfl (by first | exact Or.inl rfl | exact Or.inr rfl) (fe_val (fl_lc (own := [("long", 27)]) rfl nd_law (fi_seq (fv 5)) (show BlkOk nm_law (defScope st_law) _ [("long", 27)] from ⟨rfl, by decide +kernel, by decide +kernel, by decide +kernel, by decide +kernel⟩) (fun s H C cl fp => (fg_name nd_law (i := 27) rfl (by first | exact Or.inl rfl | exact Or.inr rfl))) (fun s H C cl fp => fts_nil) (fun s H C cl fp => (fe_max1 T.nb rfl (fe_val (fl_lc (own := [("part", 29)]) rfl nd_law (fi_seq (fe_val (fl_lst (fa_cons fe_int (fa_cons fe_int (fa_cons fe_int (fa_cons fe_int (fa_cons fe_int (fa_cons fe_int fa_nil))))))))) (blk_by rfl) (fun s H C cl fp => (fg_name nd_law (i := 29) rfl (by first | exact Or.inl rfl | exact Or.inr rfl))) (fun s H C cl fp => (fts_one (ft_cmp op_le ops_le (fv 29) (fv 27)))) (fun s H C cl fp => (fv 29))))))))) (fss_cons (fs_set nd_law (i := 10) rfl (by first | exact Or.inl rfl | exact Or.inr rfl) (fe_op op_mulAll ops_mul fe_int (fe_op op_sub ops_sub (fe_op op_mulAll ops_mul (fv 8) (fv 8)) (fe_sum1 T.nb rfl (fe_val (fl_lc (own := [("long", 27)]) rfl nd_law (fi_seq (fv 5)) (show BlkOk nm_law (defScope st_law) _ [("long", 27)] from ⟨rfl, by decide +kernel, by decide +kernel, by decide +kernel, by decide +kernel⟩) (fun s H C cl fp => (fg_name nd_law (i := 27) rfl (by first | exact Or.inl rfl | exact Or.inr rfl))) (fun s H C cl fp => fts_nil) (fun s H C cl fp => (fe_op op_mulAll ops_mul (fv 27) (fv 27))))))))) (fss_cons (fs_set nd_law (i := 11) rfl (by first | exact Or.inl rfl | exact Or.inr rfl) (fe_if (ft_cmp op_gt ops_gt (fv 8) fe_int) (fe_op op_fdiv ops_div (fv 10) (fe_op op_mulAll ops_mul (fv 8) (fv 8))) fe_int)) (fss_cons (fs_setLc (own := [("part", 29)]) rfl nd_law (i := 12) rfl rfl (sw_true rfl rfl rfl rfl) (fi_seq (fe_val (fl_lst (fa_cons fe_int (fa_cons fe_int (fa_cons fe_int (fa_cons fe_int (fa_cons fe_int (fa_cons fe_int fa_nil))))))))) (show BlkOk nm_law (defScope st_law) _ [("part", 29)] from ⟨rfl, by decide +kernel, by decide +kernel, by decide +kernel, by decide +kernel⟩) (fun s H C cl fp => (fg_name nd_law (i := 29) rfl (by first | exact Or.inl rfl | exact Or.inr rfl))) (fun s H C cl fp => (fts_one (ft_cmp (op_inAll hr) (ops_in false) (fv 29) (fv 9)))) (fun s H C cl fp => (fe_tup (fa_cons (fv 29) (fa_cons (fe_count (fv 9) (fv 29)) fa_nil))))) (fss_cons (fs_if (PW.pt (fw_or (ft_cmp (op_neD (un64 hr)) ops_ne (fe_val (fl_list1 T.nb (fe_fn T.f_gaps_between hr (passes_call (takes_of rfl rfl rfl rfl) fun _ _ _ _ h => h) (fa_cons (fv 3) (fa_cons (fv 2) fa_nil))))) (fv 4)) (fw_or1 (ft_cmp (op_neD (un64 hr)) ops_ne (fe_fn T.f_parted_share hr (passes_call (takes_of rfl rfl rfl rfl) fun _ _ _ _ h => h) (fa_cons (fv 3) (fa_cons (fv 2) fa_nil))) (fe_fn T.f__law_share hr (passes_call (takes_of rfl rfl rfl rfl) fun _ _ _ _ h => h) (fa_cons (fv 3) (fa_cons (fv 2) fa_nil))))))) (fss_one (fs_ret fe_bl)) fss_nil) (fss_cons (fs_if (PW.pt (fw_or (ft_cmp (op_neD (un64 hr)) ops_ne (fe_fn T.f_even_share hr (passes_call (takes_of rfl rfl rfl rfl) fun _ _ _ _ h => h) (fa_cons (fv 3) (fa_cons (fv 2) fa_nil))) (fv 11)) (fw_or1 (ft_cmp (op_neD (un64 hr)) ops_ne (fe_val (fl_listItems T.nb rfl (fe_fn T.f_gap_counts hr (passes_call (takes_of rfl rfl rfl rfl) fun _ _ _ _ h => h) (fa_cons (fv 3) (fa_cons (fv 2) fa_nil))))) (fv 12))))) (fss_one (fs_ret fe_bl)) fss_nil) (fss_cons (fs_if (ft_cmp (op_neD (un64 hr)) ops_ne (fe_val (fl_list1 T.nb (fe_fn T.f_cannot_fit hr (passes_call (takes_of rfl rfl rfl rfl) fun _ _ _ _ h => h) (fa_cons (fv 3) (fa_cons (fv 2) (fa_cons (fv 6) fa_nil)))))) (fe_val (fl_lc (own := [("one", 30)]) rfl nd_law (fi_seq (fv 6)) (show BlkOk nm_law (defScope st_law) _ [("one", 30)] from ⟨rfl, by decide +kernel, by decide +kernel, by decide +kernel, by decide +kernel⟩) (fun s H C cl fp => (fg_name nd_law (i := 30) rfl (by first | exact Or.inl rfl | exact Or.inr rfl))) (fun s H C cl fp => (fts_one (PW.pt (fw_and (ft_cmp op_le ops_le (fv 30) (fv 8)) (fw_and1 (ft_cmp (op_eqD (un64 hr)) ops_eq (fe_val (fl_lc (own := [("long", 27)]) rfl nd_law (fi_seq (fv 5)) (blk_by rfl) (fun s H C cl fp => (fg_name nd_law (i := 27) rfl (by first | exact Or.inl rfl | exact Or.inr rfl))) (fun s H C cl fp => (fts_one (ft_cmp op_ge ops_ge (fv 27) (fv 30)))) (fun s H C cl fp => (fv 27)))) (fe_val (fl_lst fa_nil)))))))) (fun s H C cl fp => (fv 30))))) (fss_one (fs_ret fe_bl)) fss_nil) (fss_cons (fs_if (ft_cmp (op_neD (un64 hr)) ops_ne (fe_fn T.f_how_many_fit hr (passes_call (takes_of rfl rfl rfl rfl) fun _ _ _ _ h => h) (fa_cons (fv 3) (fa_cons (fv 2) (fa_cons (fv 7) fa_nil)))) (fe_sum1 T.nb rfl (fe_val (fl_lc (own := [("long", 27)]) rfl nd_law (fi_seq (fv 5)) (show BlkOk nm_law (defScope st_law) _ [("long", 27)] from ⟨rfl, by decide +kernel, by decide +kernel, by decide +kernel, by decide +kernel⟩) (fun s H C cl fp => (fg_name nd_law (i := 27) rfl (by first | exact Or.inl rfl | exact Or.inr rfl))) (fun s H C cl fp => fts_nil) (fun s H C cl fp => (fe_op op_fdiv ops_div (fv 27) (fv 7))))))) (fss_one (fs_ret fe_bl)) fss_nil) (fss_cons (fs_if (ft_cmp (op_neD (un64 hr)) ops_ne (fe_fn T.f_map_text hr (passes_call (takes_of rfl rfl rfl rfl) fun _ _ _ _ h => h) (fa_cons (fv 3) (fa_cons (fv 2) (fa_cons (fe_op op_addAll ops_add fe_int (fe_op op_mod ops_mod (fv 7) (fv 2))) fa_nil)))) (fe_fn T.f__law_map hr (passes_call (takes_of rfl rfl rfl rfl) fun _ _ _ _ h => h) (fa_cons (fv 3) (fa_cons (fv 2) (fa_cons (fe_op op_addAll ops_add fe_int (fe_op op_mod ops_mod (fv 7) (fv 2))) fa_nil))))) (fss_one (fs_ret fe_bl)) fss_nil) (fss_cons (fs_setLc (own := [("start", 13)]) rfl nd_law (i := 14) rfl rfl (sw_true rfl rfl rfl rfl) (fi_range1 rfl (T.nb _ (by decide)) (fa_cons (fe_op op_addAll ops_add (fe_op op_sub ops_sub (fv 2) (fv 7)) fe_int) fa_nil)) (show BlkOk nm_law (defScope st_law) _ [("start", 13)] from ⟨rfl, by decide +kernel, by decide +kernel, by decide +kernel, by decide +kernel⟩) (fun s H C cl fp => (fg_name nd_law (i := 13) rfl (by first | exact Or.inl rfl | exact Or.inr rfl))) (fun s H C cl fp => fts_nil) (fun s H C cl fp => (fe_tup (fa_cons (fe_sum1 T.nb rfl (fe_val (fl_lc (own := [("first", 26), ("long", 27)]) rfl nd_law (fi_seq (fv 3)) (blk_by rfl) (fun s H C cl fp => (fg_tup rfl (fgs_cons (fg_name nd_law (i := 26) rfl (by first | exact Or.inl rfl | exact Or.inr rfl)) (fgs_cons (fg_name nd_law (i := 27) rfl (by first | exact Or.inl rfl | exact Or.inr rfl)) fgs_nil)))) (fun s H C cl fp => (fts_one (PW.pt (fw_and (ft_cmp op_lt ops_lt (fv 26) (fe_op op_addAll ops_add (fv 13) (fv 7))) (fw_and1 (ft_cmp op_lt ops_lt (fv 13) (fe_op op_addAll ops_add (fv 26) (fv 27)))))))) (fun s H C cl fp => (fv 27))))) (fa_cons (fv 13) fa_nil))))) (fss_cons (fs_if (ft_cmp (op_neD (un64 hr)) ops_ne (fe_fn T.f_moves_to_fit hr (passes_call (takes_of rfl rfl rfl rfl) fun _ _ _ _ h => h) (fa_cons (fv 3) (fa_cons (fv 2) (fa_cons (fv 7) fa_nil)))) (fe_if (ft_cmp (op_neD (un64 hr)) ops_ne (fv 14) (fe_val (fl_lst fa_nil))) (fe_minT T.nb rfl hr (fv 14)) fe_non)) (fss_one (fs_ret fe_bl)) fss_nil) (fss_cons (fs_for (passes_of rfl) rfl (fi_range1 rfl (T.nb _ (by decide)) (fa_cons (fe_len T.nb (fv 3)) fa_nil)) (fg_name nd_law (i := 15) rfl (by first | exact Or.inl rfl | exact Or.inr rfl)) (fss_cons (fs_set nd_law (i := 16) rfl (by first | exact Or.inl rfl | exact Or.inr rfl) (fe_op op_addAll ops_add (fe_slice (fv 3) fo_none (fo_some (fv 15))) (fe_slice (fv 3) (fo_some (fe_op op_addAll ops_add (fv 15) fe_int)) fo_none))) (fss_one (fs_if (ft_cmp (op_neD (un64 hr)) ops_ne (fe_fn T.f_joins_by_free hr (passes_call (takes_of rfl rfl rfl rfl) fun _ _ _ _ h => h) (fa_cons (fv 3) (fa_cons (fv 2) (fa_cons (fv 15) fa_nil)))) (fe_ix hr (fe_val (fl_lc (own := [("first", 26), ("long", 27)]) rfl nd_law (fi_seq (fe_fn T.f__law_gaps hr (passes_call (takes_of rfl rfl rfl rfl) fun _ _ _ _ h => h) (fa_cons (fv 16) (fa_cons (fv 2) fa_nil)))) (show BlkOk nm_law (defScope st_law) _ [("first", 26), ("long", 27)] from ⟨rfl, by decide +kernel, by decide +kernel, by decide +kernel, by decide +kernel⟩) (fun s H C cl fp => (fg_tup rfl (fgs_cons (fg_name nd_law (i := 26) rfl (by first | exact Or.inl rfl | exact Or.inr rfl)) (fgs_cons (fg_name nd_law (i := 27) rfl (by first | exact Or.inl rfl | exact Or.inr rfl)) fgs_nil)))) (fun s H C cl fp => (fts_one (ft_chain2 op_le op_lt ops_le ops_lt (fv 26) (fe_ix hr (fe_ix hr (fv 3) (fv 15)) fe_int) (fe_op op_addAll ops_add (fv 26) (fv 27))))) (fun s H C cl fp => (fv 27)))) fe_int)) (fss_one (fs_ret fe_bl)) fss_nil)))) (fss_cons (fs_set nd_law (i := 17) rfl (by first | exact Or.inl rfl | exact Or.inr rfl) (fe_val (fl_lst fa_nil))) (fss_cons (fs_for (passes_of rfl) rfl (fi_range1 rfl (T.nb _ (by decide)) (fa_cons (fe_len T.nb (fv 3)) fa_nil)) (fg_name nd_law (i := 13) rfl (by first | exact Or.inl rfl | exact Or.inr rfl)) (fss_one (fs_for (passes_of rfl) rfl (fi_range2 rfl (T.nb _ (by decide)) (fa_cons (fe_op op_addAll ops_add (fv 13) fe_int) (fa_cons (fe_op op_addAll ops_add (fe_len T.nb (fv 3)) fe_int) fa_nil))) (fg_name nd_law (i := 18) rfl (by first | exact Or.inl rfl | exact Or.inr rfl)) (fss_cons (fs_set nd_law (i := 19) rfl (by first | exact Or.inl rfl | exact Or.inr rfl) (fe_cmp (op_neD (un64 hr)) ops_ne (fe_val (fl_lc (own := [("first", 26), ("long", 27)]) rfl nd_law (fi_seq (fe_fn T.f__law_gaps hr (passes_call (takes_of rfl rfl rfl rfl) fun _ _ _ _ h => h) (fa_cons (fe_op op_addAll ops_add (fe_slice (fv 3) fo_none (fo_some (fv 13))) (fe_slice (fv 3) (fo_some (fv 18)) fo_none)) (fa_cons (fv 2) fa_nil)))) (show BlkOk nm_law (defScope st_law) _ [("first", 26), ("long", 27)] from ⟨rfl, by decide +kernel, by decide +kernel, by decide +kernel, by decide +kernel⟩) (fun s H C cl fp => (fg_tup rfl (fgs_cons (fg_name nd_law (i := 26) rfl (by first | exact Or.inl rfl | exact Or.inr rfl)) (fgs_cons (fg_name nd_law (i := 27) rfl (by first | exact Or.inl rfl | exact Or.inr rfl)) fgs_nil)))) (fun s H C cl fp => (fts_one (ft_cmp op_ge ops_ge (fv 27) (fv 7)))) (fun s H C cl fp => fe_int))) (fe_val (fl_lst fa_nil)))) (fss_one (fs_set nd_law (i := 17) rfl (by first | exact Or.inl rfl | exact Or.inr rfl) (fe_op op_addAll ops_add (fv 17) (fe_op op_mulAll ops_mul (fe_val (fl_lst (fa_cons (fe_tup (fa_cons (fe_op op_sub ops_sub (fv 18) (fv 13)) (fa_cons (fe_sum1 T.nb rfl (fe_val (fl_lc (own := [("first", 26), ("long", 27)]) rfl nd_law (fi_seq (fe_slice (fv 3) (fo_some (fv 13)) (fo_some (fv 18)))) (show BlkOk nm_law (defScope st_law) _ [("first", 26), ("long", 27)] from ⟨rfl, by decide +kernel, by decide +kernel, by decide +kernel, by decide +kernel⟩) (fun s H C cl fp => (fg_tup rfl (fgs_cons (fg_name nd_law (i := 26) rfl (by first | exact Or.inl rfl | exact Or.inr rfl)) (fgs_cons (fg_name nd_law (i := 27) rfl (by first | exact Or.inl rfl | exact Or.inr rfl)) fgs_nil)))) (fun s H C cl fp => fts_nil) (fun s H C cl fp => (fv 27))))) (fa_cons (fv 13) fa_nil)))) fa_nil))) (fe_int1 T.nb (fv 19)))))))))) (fss_cons (fs_set nd_law (i := 20) rfl (by first | exact Or.inl rfl | exact Or.inr rfl) (fe_if (ft_cmp (op_neD (un64 hr)) ops_ne (fv 17) (fe_val (fl_lst fa_nil))) (fe_minT T.nb rfl hr (fv 17)) fe_non)) (fss_cons (fs_set nd_law (i := 21) rfl (by first | exact Or.inl rfl | exact Or.inr rfl) (fe_if (ft_cmp (op_neD (un64 hr)) ops_ne (fe_val (fl_lc (own := [("long", 27)]) rfl nd_law (fi_seq (fv 5)) (show BlkOk nm_law (defScope st_law) _ [("long", 27)] from ⟨rfl, by decide +kernel, by decide +kernel, by decide +kernel, by decide +kernel⟩) (fun s H C cl fp => (fg_name nd_law (i := 27) rfl (by first | exact Or.inl rfl | exact Or.inr rfl))) (fun s H C cl fp => (fts_one (ft_cmp op_ge ops_ge (fv 27) (fv 7)))) (fun s H C cl fp => (fv 27)))) (fe_val (fl_lst fa_nil))) (fe_tup fa_nil) (fe_if (ft_cmp op_isN ops_isN (fv 20) fe_non) fe_non (fe_tupRg rfl rfl (T.nb _ (by decide)) (frg_2 rfl (T.nb _ (by decide)) (fe_ix hr (fv 20) fe_int) (fe_op op_addAll ops_add (fe_ix hr (fv 20) fe_int) (fe_ix hr (fv 20) fe_int))))))) (fss_cons (fs_if (ft_cmp (op_neD (un64 hr)) ops_ne (fe_fn T.f_best_to_free hr (passes_call (takes_of rfl rfl rfl rfl) fun _ _ _ _ h => h) (fa_cons (fv 3) (fa_cons (fv 2) (fa_cons (fv 7) fa_nil)))) (fv 21)) (fss_one (fs_ret fe_bl)) fss_nil) (fss_cons (fs_asg (fe_tup (fa_cons (fe_op op_addAll ops_add fe_int (fe_fn T.f__law_roll hr (passes_call (takes_of rfl rfl rfl rfl) fun _ _ _ _ h => h) (fa_cons (fv 1) (fa_cons fe_int fa_nil)))) (fa_cons (fe_val (fl_lc (own := [("k", 28)]) rfl nd_law (fi_range1 rfl (T.nb _ (by decide)) (fa_cons (fe_fn T.f__law_roll hr (passes_call (takes_of rfl rfl rfl rfl) fun _ _ _ _ h => h) (fa_cons (fv 1) (fa_cons fe_int fa_nil))) fa_nil)) (show BlkOk nm_law (defScope st_law) _ [("k", 28)] from ⟨rfl, by decide +kernel, by decide +kernel, by decide +kernel, by decide +kernel⟩) (fun s H C cl fp => (fg_name nd_law (i := 28) rfl (by first | exact Or.inl rfl | exact Or.inr rfl))) (fun s H C cl fp => fts_nil) (fun s H C cl fp => (fe_tup (fa_cons (fe_fn T.f__law_rooms hr passE0 (fa_cons (fv 1) (fa_cons fe_int fa_nil))) (fa_cons fe_int fa_nil)))))) fa_nil))) (fg_tup rfl (fgs_cons (fg_name nd_law (i := 22) rfl (by first | exact Or.inl rfl | exact Or.inr rfl)) (fgs_cons (fg_name nd_law (i := 23) rfl (by first | exact Or.inl rfl | exact Or.inr rfl)) fgs_nil)))) (fss_cons (fs_set nd_law (i := 24) rfl (by first | exact Or.inl rfl | exact Or.inr rfl) (fe_sum1 T.nb rfl (fe_val (fl_lc (own := [("one", 30)]) rfl nd_law (fi_seq (fv 6)) (show BlkOk nm_law (defScope st_law) _ [("one", 30)] from ⟨rfl, by decide +kernel, by decide +kernel, by decide +kernel, by decide +kernel⟩) (fun s H C cl fp => (fg_name nd_law (i := 30) rfl (by first | exact Or.inl rfl | exact Or.inr rfl))) (fun s H C cl fp => fts_nil) (fun s H C cl fp => (fe_ix hr (fe_val (fl_lc (own := [("k", 28)]) rfl nd_law (fi_range1 rfl (T.nb _ (by decide)) (fa_cons (fv 22) fa_nil)) (blk_by rfl) (fun s H C cl fp => (fg_name nd_law (i := 28) rfl (by first | exact Or.inl rfl | exact Or.inr rfl))) (fun s H C cl fp => (fts_one (ft_cmp (op_eqD (un64 hr)) ops_eq (fe_op op_mod ops_mod (fe_op op_addAll ops_add (fv 30) (fv 28)) (fv 22)) fe_int))) (fun s H C cl fp => (fv 28)))) fe_int)))))) (fss_cons (fs_set nd_law (i := 25) rfl (by first | exact Or.inl rfl | exact Or.inr rfl) (fe_val (fl_lc (own := [("some", 31), ("long", 27)]) rfl nd_law (fi_seq (fv 23)) (show BlkOk nm_law (defScope st_law) _ [("some", 31), ("long", 27)] from ⟨rfl, by decide +kernel, by decide +kernel, by decide +kernel, by decide +kernel⟩) (fun s H C cl fp => (fg_tup rfl (fgs_cons (fg_name nd_law (i := 31) rfl (by first | exact Or.inl rfl | exact Or.inr rfl)) (fgs_cons (fg_name nd_law (i := 27) rfl (by first | exact Or.inl rfl | exact Or.inr rfl)) fgs_nil)))) (fun s H C cl fp => fts_nil) (fun s H C cl fp => (fe_fn T.f__law_share hr passE0 (fa_cons (fv 31) (fa_cons (fv 27) fa_nil))))))) (fss_cons (fs_if (ft_cmp (op_neD (un64 hr)) ops_ne (fe_fn T.f_waste_of_lines hr (passes_call (takes_of rfl rfl rfl rfl) fun _ _ _ _ h => h) (fa_cons (fv 6) (fa_cons (fv 22) fa_nil))) (fe_tup (fa_cons (fv 24) (fa_cons (fe_op op_fdiv ops_div (fe_op op_mulAll ops_mul fe_int (fv 24)) (fe_sum1 T.nb rfl (fv 6))) fa_nil)))) (fss_one (fs_ret fe_bl)) fss_nil) (fss_one (fs_if (ft_cmp (op_neD (un64 hr)) ops_ne (fe_val (fl_list1 T.nb (fe_fn T.f_look_back hr (passes_call (takes_of rfl rfl rfl rfl) fun _ _ _ _ h => h) (fa_cons (fv 23) fa_nil)))) (fe_val (fl_lc (own := [("k", 28), ("share", 32)]) rfl nd_law (fi_enumA rfl (T.nb _ (by decide)) (fa_cons (fv 25) fa_nil)) (show BlkOk nm_law (defScope st_law) _ [("k", 28), ("share", 32)] from ⟨rfl, by decide +kernel, by decide +kernel, by decide +kernel, by decide +kernel⟩) (fun s H C cl fp => (fg_tup rfl (fgs_cons (fg_name nd_law (i := 28) rfl (by first | exact Or.inl rfl | exact Or.inr rfl)) (fgs_cons (fg_name nd_law (i := 32) rfl (by first | exact Or.inl rfl | exact Or.inr rfl)) fgs_nil)))) (fun s H C cl fp => (fts_one (ft_cmp (op_eqD (un64 hr)) ops_eq (fe_val (fl_lc (own := [("one", 30)]) rfl nd_law (fi_seq (fe_slice (fv 25) fo_none (fo_some (fv 28)))) (blk_by rfl) (fun s H C cl fp => (fg_name nd_law (i := 30) rfl (by first | exact Or.inl rfl | exact Or.inr rfl))) (fun s H C cl fp => (fts_one (ft_cmp op_ge ops_ge (fv 30) (fv 32)))) (fun s H C cl fp => (fv 30)))) (fe_val (fl_lst fa_nil))))) (fun s H C cl fp => (fe_tup (fa_cons (fv 28) (fa_cons (fv 32) fa_nil))))))) (fss_one (fs_ret fe_bl)) fss_nil))))))))))))))))))))))))))))) (fss_one (fs_ret (fe_fn0 T.f__law_plain hr (passes_call (takes_of rfl rfl rfl rfl) fun _ _ _ _ h => h)))))
end K16

/-! plain law: gaps of rows -/
set_option linter.all false
namespace K16
abbrev Row := Int × Int
def rI (a b : Int) : List Int := (List.range (b - a).toNat).map fun (i : Nat) => a + i
theorem mem_rI {a b c : Int} : c ∈ rI a b ↔ a ≤ c ∧ c < b := by
  unfold rI
  simp only [List.mem_map, List.mem_range]
  constructor
  · rintro ⟨i, h, rfl⟩; omega
  · rintro ⟨h1, h2⟩; exact ⟨(c - a).toNat, by omega, by omega⟩
theorem rI_nil {a b : Int} (h : b ≤ a) : rI a b = [] := by
  unfold rI
  rw [show (b - a).toNat = 0 by omega]; rfl
theorem rI_cons {a b : Int} (h : a < b) : rI a b = a :: rI (a + 1) b := by
  unfold rI
  rw [show (b - a).toNat = (b - (a + 1)).toNat + 1 by omega, List.range_succ_eq_map]
  simp only [List.map_cons, List.map_map]
  congr 1
  · simp
  · apply List.map_congr_left
    intro i _
    simp only [Function.comp]
    omega
theorem rI_len (a b : Int) : (rI a b).length = (b - a).toNat := by simp [rI]
theorem rI_app_aux (c : Int) : ∀ (n : Nat) (a b : Int), (b - a).toNat = n → a ≤ b → b ≤ c → rI a c = rI a b ++ rI b c
  | 0, a, b, h, h1, h2 => by
    have : a = b := by omega
    subst this
    rw [rI_nil (Int.le_refl a)]; rfl
  | n + 1, a, b, h, h1, h2 => by
    rw [rI_cons (show a < c by omega), rI_cons (show a < b by omega), rI_app_aux c n (a + 1) b (by omega) (by omega) h2]; rfl
theorem rI_app {a b c : Int} (h1 : a ≤ b) (h2 : b ≤ c) : rI a c = rI a b ++ rI b c := rI_app_aux c _ a b rfl h1 h2

/-- rows one behind another, from here on -/
def Chain (size : Int) : Int → List Row → Prop
  | here, [] => here ≤ size
  | here, p :: r => here ≤ p.1 ∧ 1 ≤ p.2 ∧ Chain size (p.1 + p.2) r
theorem Chain.le {size : Int} : ∀ {here : Int} {rs : List Row}, Chain size here rs → here ≤ size
  | _, [], h => h
  | _, p :: r, ⟨h1, h2, h3⟩ => by have := h3.le; omega
theorem Chain.mono {size here here' : Int} (hh : here' ≤ here) : ∀ {rs : List Row}, Chain size here rs → Chain size here' rs
  | [], h => Int.le_trans hh h
  | p :: r, ⟨h1, h2, h3⟩ => ⟨Int.le_trans hh h1, h2, h3⟩
theorem Chain.each {size : Int} : ∀ {here : Int} {rs : List Row}, Chain size here rs → ∀ p ∈ rs, here ≤ p.1 ∧ 1 ≤ p.2 ∧ p.1 + p.2 ≤ size
  | _, [], _, p, hp => by cases hp
  | here, q :: r, ⟨h1, h2, h3⟩, p, hp => by
    rcases List.mem_cons.mp hp with rfl | hp
    · exact ⟨h1, h2, h3.le⟩
    · obtain ⟨a, b, c⟩ := h3.each p hp
      exact ⟨by omega, b, c⟩
theorem Chain.apart {size : Int} : ∀ {here : Int} {rs : List Row}, Chain size here rs → ∀ q ∈ rs.zip (rs.drop 1), q.1.1 + q.1.2 ≤ q.2.1
  | _, [], _, p, hp => by simp at hp
  | _, [a], _, p, hp => by simp at hp
  | here, a :: b :: r, ⟨h1, h2, h3⟩, q, hq => by
    rw [show (a :: b :: r).zip ((a :: b :: r).drop 1) = (a, b) :: (b :: r).zip ((b :: r).drop 1) by simp] at hq
    rcases List.mem_cons.mp hq with rfl | hq
    · exact h3.1
    · exact h3.apart q hq
theorem Chain.sub {size : Int} : ∀ {rs rs' : List Row} {here : Int}, rs'.Sublist rs → Chain size here rs → Chain size here rs' := by
  intro rs rs' here s
  induction s generalizing here with
  | slnil => exact id
  | cons a s ih => intro h; exact ih (Chain.mono (by have := h.1; have := h.2.1; omega) h.2.2)
  | cons_cons a s ih => intro h; exact ⟨h.1, h.2.1, ih h.2.2⟩
theorem Chain.snoc {size : Int} : ∀ {rs : List Row} {here f l : Int}, Chain size here rs → (∀ p ∈ rs, p.1 + p.2 ≤ f) → here ≤ f → 1 ≤ l → f + l ≤ size → Chain size here (rs ++ [(f, l)])
  | [], here, f, l, h, _, h1, h2, h3 => ⟨h1, h2, h3⟩
  | p :: r, here, f, l, h, ha, h1, h2, h3 => ⟨h.1, h.2.1, h.2.2.snoc (fun q hq => ha q (List.mem_cons_of_mem _ hq)) (ha p List.mem_cons_self) h2 h3⟩

/-- the gaps, told from here on -/
def G (size : Int) : Int → List Row → List Row
  | here, [] => if here < size then [(here, size - here)] else []
  | here, p :: r => (if here < p.1 then [(here, p.1 - here)] else []) ++ G size (p.1 + p.2) r
theorem G_each {size : Int} : ∀ {here : Int} {rs : List Row}, Chain size here rs → ∀ q ∈ G size here rs, here ≤ q.1 ∧ 1 ≤ q.2 ∧ q.1 + q.2 ≤ size
  | here, [], h, q, hq => by
    unfold G at hq
    split at hq <;> simp at hq
    subst hq
    exact ⟨Int.le_refl _, by dsimp only; omega, by dsimp only; omega⟩
  | here, p :: r, ⟨h1, h2, h3⟩, q, hq => by
    unfold G at hq
    rcases List.mem_append.mp hq with hq | hq
    · split at hq <;> simp at hq
      subst hq
      have := h3.le
      exact ⟨Int.le_refl _, by dsimp only; omega, by dsimp only; omega⟩
    · obtain ⟨a, b, c⟩ := G_each h3 q hq
      exact ⟨by omega, b, c⟩
theorem G_len {size : Int} : ∀ {here : Int} {rs : List Row}, (G size here rs).length ≤ rs.length + 1
  | here, [] => by unfold G; split <;> simp
  | here, p :: r => by
    unfold G
    have := @G_len size (p.1 + p.2) r
    split <;> simp <;> omega

def minI : List Int → Int
  | [] => 0
  | a :: r => r.foldl min a
theorem foldl_min_le : ∀ (l : List Int) (a : Int), (∀ x ∈ l, a ≤ x) → l.foldl min a = a
  | [], a, _ => rfl
  | x :: r, a, h => by
    rw [List.foldl_cons, show min a x = a by have := h x List.mem_cons_self; omega]
    exact foldl_min_le r a fun y hy => h y (List.mem_cons_of_mem _ hy)
def usedL (rs : List Row) : List Int := (rs.map fun p => rI p.1 (p.1 + p.2)).flatten
theorem mem_used {rs : List Row} {c : Int} : c ∈ usedL rs ↔ ∃ p ∈ rs, p.1 ≤ c ∧ c < p.1 + p.2 := by
  unfold usedL
  rw [List.mem_flatten]
  constructor
  · rintro ⟨l, hl, hc⟩
    obtain ⟨p, hp, rfl⟩ := List.mem_map.mp hl
    exact ⟨p, hp, mem_rI.mp hc⟩
  · rintro ⟨p, hp, hc⟩
    exact ⟨_, List.mem_map.mpr ⟨p, hp, rfl⟩, mem_rI.mpr hc⟩
def freeL (rs : List Row) (size : Int) : List Int := (rI 0 size).filter fun c => !decide (c ∈ usedL rs)
def firstsL (rs : List Row) (size : Int) : List Int := (freeL rs size).filter fun c => !decide (c - 1 ∈ freeL rs size)
def lawGaps (rs : List Row) (size : Int) : List Row := (firstsL rs size).map fun f => (f, minI ((rI f (size + 1)).filter fun c => !decide (c ∈ freeL rs size)) - f)

theorem seg_min {size here f : Int} {fr : Int → Bool} (hf : here ≤ f) (hs : f ≤ size) (h1 : ∀ c, here ≤ c → c < f → fr c = true) (h2 : fr f = false) :
    minI ((rI here (size + 1)).filter fun c => !fr c) = f := by
  rw [rI_app hf (by omega : f ≤ size + 1), List.filter_append]
  rw [show (rI here f).filter (fun c => !fr c) = [] from List.filter_eq_nil_iff.mpr fun c hc => by
    obtain ⟨a, b⟩ := mem_rI.mp hc
    simp [h1 c a b]]
  rw [rI_cons (by omega : f < size + 1), List.nil_append, List.filter_cons, h2]
  simp only [Bool.not_false, if_true, minI]
  exact foldl_min_le _ _ fun x hx => by
    have := mem_rI.mp (List.mem_filter.mp hx).1
    omega
theorem seg_first {here f : Int} {fr : Int → Bool} (h1 : ∀ c, here ≤ c → c < f → fr c = true) (h0 : fr (here - 1) = false) :
    ((rI here f).filter fr).filter (fun c => !fr (c - 1)) = if here < f then [here] else [] := by
  split
  · rename_i h
    rw [rI_cons h, List.filter_cons, h1 here (Int.le_refl _) h]
    simp only [if_true, List.filter_cons, h0, Bool.not_false]
    congr 1
    rw [List.filter_eq_nil_iff]
    intro c hc
    have := mem_rI.mp (List.mem_filter.mp hc).1
    simp [h1 (c - 1) (by omega) (by omega)]
  · rename_i h
    rw [rI_nil (by omega)]; rfl
theorem gaps_seg {size : Int} (fr : Int → Bool) (hsz : fr size = false) : ∀ (rs : List Row) (here : Int), Chain size here rs →
    (∀ c, here ≤ c → c < size → (fr c = true ↔ ∀ p ∈ rs, ¬ (p.1 ≤ c ∧ c < p.1 + p.2))) → fr (here - 1) = false →
    (((rI here size).filter fr).filter (fun c => !fr (c - 1))).map (fun f => ((f, minI ((rI f (size + 1)).filter fun c => !fr c) - f) : Row)) = G size here rs
  | [], here, hc, h1, h0 => by
    have h2 : ∀ c, here ≤ c → c < size → fr c = true := fun c a b => (h1 c a b).mpr fun p hp => by cases hp
    rw [seg_first h2 h0]
    unfold G
    split
    · simp only [List.map_cons, List.map_nil]
      rw [seg_min hc (Int.le_refl _) h2 hsz]
    · rfl
  | p :: r, here, ⟨c1, c2, c3⟩, h1, h0 => by
    have hle := c3.le
    have hr : ∀ q ∈ r, p.1 + p.2 ≤ q.1 := fun q hq => (c3.each q hq).1
    have h2 : ∀ c, here ≤ c → c < p.1 → fr c = true := fun c a b => (h1 c a (by omega)).mpr fun q hq => by
      rcases List.mem_cons.mp hq with rfl | hq
      · omega
      · have := hr q hq; omega
    have h3 : ∀ c, p.1 ≤ c → c < p.1 + p.2 → fr c = false := fun c a b => by
      rw [Bool.eq_false_iff]
      intro h
      exact (h1 c (by omega) (by omega)).mp h p List.mem_cons_self ⟨a, b⟩
    rw [rI_app c1 (by omega : p.1 ≤ size), rI_app (show p.1 ≤ p.1 + p.2 by omega) hle]
    simp only [List.filter_append, List.map_append]
    rw [seg_first h2 h0, show (rI p.1 (p.1 + p.2)).filter fr = [] from List.filter_eq_nil_iff.mpr fun c hc => by
      obtain ⟨a, b⟩ := mem_rI.mp hc
      simp [h3 c a b]]
    rw [gaps_seg fr hsz r (p.1 + p.2) c3 (fun c a b => by
      rw [h1 c (by omega) b]
      constructor
      · intro h q hq; exact h q (List.mem_cons_of_mem _ hq)
      · intro h q hq
        rcases List.mem_cons.mp hq with rfl | hq
        · omega
        · exact h q hq) (h3 _ (by omega) (by omega))]
    simp only [List.filter_nil, List.map_nil, List.nil_append]
    conv => rhs; unfold G
    congr 1
    split
    · simp only [List.map_cons, List.map_nil]
      rw [seg_min c1 (by omega) h2 (h3 _ (Int.le_refl _) (by omega))]
    · rfl
theorem mem_free {rs : List Row} {size c : Int} : c ∈ freeL rs size ↔ (0 ≤ c ∧ c < size) ∧ ∀ p ∈ rs, ¬ (p.1 ≤ c ∧ c < p.1 + p.2) := by
  unfold freeL
  rw [List.mem_filter, mem_rI]
  simp only [Bool.not_eq_true', decide_eq_false_iff_not, mem_used]
  constructor
  · rintro ⟨a, b⟩; exact ⟨a, fun p hp h => b ⟨p, hp, h⟩⟩
  · rintro ⟨a, b⟩; exact ⟨a, fun ⟨p, hp, h⟩ => b p hp h⟩
theorem lawGaps_eq {rs : List Row} {size : Int} (h : Chain size 0 rs) : lawGaps rs size = G size 0 rs := by
  have key := gaps_seg (fun c => decide (c ∈ freeL rs size)) (by simp [mem_free]) rs 0 h (fun c a b => by
    simp only [decide_eq_true_eq, mem_free]
    exact ⟨fun h => h.2, fun h => ⟨⟨a, b⟩, h⟩⟩) (by simp [mem_free])
  rw [← key]
  unfold lawGaps firstsL
  congr 2
  rw [show (rI 0 size).filter (fun c => decide (c ∈ freeL rs size)) = freeL rs size from ?_]
  conv => rhs; unfold freeL
  apply List.filter_congr
  intro c hc
  unfold freeL
  simp [List.mem_filter, hc]

/-! the map's counts -/
def ov (a b : Int) (p : Row) : Int := max 0 (min b (p.1 + p.2) - max a p.1)
theorem count_seg_aux (x y : Int) : ∀ (n : Nat) (a b : Int), (b - a).toNat = n → (((rI a b).filter fun c => decide (x ≤ c ∧ c < y)).length : Int) = max 0 (min b y - max a x)
  | 0, a, b, h => by rw [rI_nil (by omega)]; simp; omega
  | n + 1, a, b, h => by
    rw [rI_cons (by omega), List.filter_cons]
    have ih := count_seg_aux x y n (a + 1) b (by omega)
    split
    · rename_i hh
      simp at hh
      rw [List.length_cons, Int.natCast_add, ih]; simp; omega
    · rename_i hh
      simp at hh
      rw [ih]; omega
theorem count_used {size : Int} (a b : Int) : ∀ {rs : List Row} {here : Int}, Chain size here rs → (((rI a b).filter fun c => decide (c ∈ usedL rs)).length : Int) = (rs.map (ov a b)).sum
  | [], here, _ => by simp [usedL]
  | p :: r, here, ⟨h1, h2, h3⟩ => by
    have ih := count_used a b h3
    have key : ∀ l : List Int, (l.filter fun c => decide (c ∈ usedL (p :: r))).length = (l.filter fun c => decide (p.1 ≤ c ∧ c < p.1 + p.2)).length + (l.filter fun c => decide (c ∈ usedL r)).length := by
      intro l
      induction l with
      | nil => rfl
      | cons x t iht =>
        simp only [List.filter_cons]
        by_cases hx : p.1 ≤ x ∧ x < p.1 + p.2
        · have hn : x ∉ usedL r := fun hm => by
            obtain ⟨q, hq, e⟩ := mem_used.mp hm
            have := (h3.each q hq).1
            omega
          have hu : x ∈ usedL (p :: r) := mem_used.mpr ⟨p, List.mem_cons_self, hx⟩
          simp only [hx, hn, hu, decide_true, decide_false, if_true, Bool.false_eq_true, if_false, List.length_cons, iht, and_self]
          omega
        · by_cases hm : x ∈ usedL r
          · have hu : x ∈ usedL (p :: r) := by
              obtain ⟨q, hq, e⟩ := mem_used.mp hm
              exact mem_used.mpr ⟨q, List.mem_cons_of_mem _ hq, e⟩
            simp only [hx, hm, hu, decide_true, decide_false, if_true, Bool.false_eq_true, if_false, List.length_cons, iht]
            omega
          · have hu : x ∉ usedL (p :: r) := fun h => by
              obtain ⟨q, hq, e⟩ := mem_used.mp h
              rcases List.mem_cons.mp hq with rfl | hq
              · exact hx e
              · exact hm (mem_used.mpr ⟨q, hq, e⟩)
            simp only [hx, hm, hu, decide_false, Bool.false_eq_true, if_false, iht]
    rw [key, Int.natCast_add, count_seg_aux _ _ _ a b rfl, ih]
    simp [ov]
end K16

set_option linter.all false
namespace K16
/-! a place in a gap once its row is out -/
theorem gap_of {size : Int} {p : Row} {b : List Row} : ∀ {a : List Row} {here : Int}, Chain size here (a ++ p :: b) → ∃ q ∈ G size here (a ++ b), q.1 ≤ p.1 ∧ p.1 < q.1 + q.2
  | [], here, ⟨h1, h2, h3⟩ => by
    cases b with
    | nil =>
      have : p.1 + p.2 ≤ size := h3
      refine ⟨(here, size - here), ?_, h1, ?_⟩
      · simp only [List.nil_append, G]
        rw [if_pos (by omega)]; simp
      · dsimp only; omega
    | cons q r =>
      have := h3.1
      refine ⟨(here, q.1 - here), ?_, h1, ?_⟩
      · simp only [List.nil_append, G]
        rw [if_pos (by omega)]; simp
      · dsimp only; omega
  | x :: a, here, ⟨h1, h2, h3⟩ => by
    obtain ⟨q, hq, e⟩ := gap_of h3
    refine ⟨q, ?_, e⟩
    rw [List.cons_append, G]
    exact List.mem_append_right _ hq
/-! what is lacking to a line -/
theorem first_waste {line one : Int} (h : 1 ≤ line) : ∃ t, (rI 0 line).filter (fun k => decide ((one + k) % line = 0)) = ((0 - one) % line) :: t := by
  have hm0 : 0 ≤ (0 - one) % line := Int.emod_nonneg _ (by omega)
  have hm1 : (0 - one) % line < line := Int.emod_lt_of_pos _ (by omega)
  have hz : (one + (0 - one) % line) % line = 0 := by
    rw [Int.add_emod_emod, show one + (0 - one) = 0 by omega]
    rfl
  generalize (0 - one) % line = m at *
  rw [rI_app hm0 (Int.le_of_lt hm1), List.filter_append, show (rI 0 m).filter (fun k => decide ((one + k) % line = 0)) = [] from List.filter_eq_nil_iff.mpr fun k hk => by
    obtain ⟨a, b⟩ := mem_rI.mp hk
    simp only [decide_eq_true_eq]
    intro hk
    have d1 := Int.dvd_of_emod_eq_zero hz
    have d2 := Int.dvd_of_emod_eq_zero hk
    have d3 := Int.dvd_sub d1 d2
    have := Int.le_of_dvd (by omega) d3
    omega]
  rw [rI_cons hm1, List.filter_cons]
  simp [hz]
/-! the least sum, first -/
def bestOf (w : Int → Int) : Option Row → List Int → Option Row
  | b, [] => b
  | none, s :: r => bestOf w (some (w s, s)) r
  | some q, s :: r => bestOf w (if w s < q.1 then some (w s, s) else some q) r
/-! classes -/
def cls (n : Int) : Int := if 32 ≤ n then 32 else if 16 ≤ n then 16 else if 8 ≤ n then 8 else if 4 ≤ n then 4 else if 2 ≤ n then 2 else 1
theorem cls_mem (n : Int) : cls n ∈ ([1, 2, 4, 8, 16, 32] : List Int) := by
  unfold cls
  repeat' split
  all_goals simp
/-- a key's count one more -/
def up (kvs : List (Int × Int)) (k : Int) : List (Int × Int) := if kvs.any (fun p => decide (p.1 = k)) then kvs.map (fun p => if p.1 = k then (p.1, p.2 + 1) else p) else kvs ++ [(k, 1)]
structure Cnt (kvs : List (Int × Int)) (cs : List Int) : Prop where
  nd : (kvs.map (·.1)).Nodup
  mem : ∀ k, k ∈ kvs.map (·.1) ↔ k ∈ cs
  cnt : ∀ p ∈ kvs, p.2 = (cs.count p.1 : Nat)
theorem Cnt.nil : Cnt [] [] := ⟨by simp, by simp, by simp⟩
theorem Cnt.up {kvs : List (Int × Int)} {cs : List Int} (h : Cnt kvs cs) (k : Int) : Cnt (up kvs k) (cs ++ [k]) := by
  unfold K16.up
  split
  · rename_i hk
    have e : (kvs.map (fun p => if p.1 = k then (p.1, p.2 + 1) else p)).map (·.1) = kvs.map (·.1) := by
      rw [List.map_map]
      apply List.map_congr_left
      intro p hp
      simp only [Function.comp]
      split <;> rfl
    have hkm : k ∈ cs := by
      simp only [List.any_eq_true, decide_eq_true_eq] at hk
      obtain ⟨p, hp, rfl⟩ := hk
      exact (h.mem _).mp (List.mem_map.mpr ⟨p, hp, rfl⟩)
    refine ⟨e ▸ h.nd, fun j => ?_, fun p hp => ?_⟩
    · rw [e, h.mem]
      simp only [List.mem_append, List.mem_singleton]
      exact ⟨.inl, fun x => x.elim id fun y => y ▸ hkm⟩
    · obtain ⟨q, hq, rfl⟩ := List.mem_map.mp hp
      have := h.cnt q hq
      split
      · rename_i e; simp [this, e, List.count_append]
      · rename_i e; rw [this, List.count_append, List.count_singleton]; simp [Ne.symm e]
  · rename_i hk
    have hkn : k ∉ kvs.map (·.1) := fun hm => by
      obtain ⟨p, hp, rfl⟩ := List.mem_map.mp hm
      exact hk (List.any_eq_true.mpr ⟨p, hp, by simp⟩)
    have hkc : k ∉ cs := fun hm => hkn ((h.mem k).mpr hm)
    refine ⟨?_, fun j => ?_, fun p hp => ?_⟩
    · rw [List.map_append, List.nodup_append]
      exact ⟨h.nd, by simp, fun a ha b hb => by
        simp at hb
        rintro rfl
        subst hb
        exact hkn ha⟩
    · rw [List.map_append, List.mem_append, List.mem_append, h.mem]; simp
    · rcases List.mem_append.mp hp with hp | hp
      · have := h.cnt p hp
        have hne : p.1 ≠ k := fun e => hkn (e ▸ List.mem_map.mpr ⟨p, hp, rfl⟩)
        rw [this, List.count_append, List.count_singleton]
        simp [Ne.symm hne]
      · simp at hp
        subst hp
        simp [List.count_append, List.count_eq_zero_of_not_mem hkc]
theorem perm_of_nodup {l m : List Int} (h1 : l.Nodup) (h2 : m.Nodup) (h : ∀ a, a ∈ l ↔ a ∈ m) : l.Perm m := (List.perm_ext_iff_of_nodup h1 h2).mpr (fun {a} => h a)
theorem keys_perm {kvs : List (Int × Int)} {cs : List Int} (h : Cnt kvs cs) (hc : ∀ c ∈ cs, c ∈ ([1, 2, 4, 8, 16, 32] : List Int)) : (([1, 2, 4, 8, 16, 32] : List Int).filter fun k => decide (k ∈ cs)).Perm (kvs.map (·.1)) := by
  refine perm_of_nodup (List.Pairwise.filter _ (by decide)) h.nd fun a => ?_
  rw [List.mem_filter, h.mem, decide_eq_true_eq]
  exact ⟨fun x => x.2, fun x => ⟨hc a x, x⟩⟩
/-! shares looked back at -/
def maxI : List Int → Int
  | [] => 0
  | a :: r => r.foldl max a
theorem foldl_max_ge : ∀ (l : List Int) (a : Int), a ≤ l.foldl max a ∧ (∀ x ∈ l, x ≤ l.foldl max a)
  | [], a => ⟨Int.le_refl _, fun x hx => by cases hx⟩
  | y :: r, a => by
    obtain ⟨h1, h2⟩ := foldl_max_ge r (max a y)
    rw [List.foldl_cons]
    refine ⟨by omega, fun x hx => ?_⟩
    rcases List.mem_cons.mp hx with rfl | hx
    · omega
    · exact h2 x hx
theorem foldl_max_lt : ∀ (l : List Int) (a m : Int), a < m → (∀ x ∈ l, x < m) → l.foldl max a < m
  | [], a, m, h, _ => h
  | y :: r, a, m, h, hl => by
    rw [List.foldl_cons]
    exact foldl_max_lt r _ m (by have := hl y List.mem_cons_self; omega) fun x hx => hl x (List.mem_cons_of_mem _ hx)
theorem max_lt_iff (l : List Int) (a m : Int) : l.foldl max a < m ↔ a < m ∧ ∀ x ∈ l, x < m :=
  ⟨fun h => by obtain ⟨h1, h2⟩ := foldl_max_ge l a; exact ⟨by omega, fun x hx => by have := h2 x hx; omega⟩, fun h => foldl_max_lt l a m h.1 h.2⟩
theorem fits_test (sizes : List Int) (ask : Int) (h : 1 ≤ ask) : decide (maxI (sizes ++ [0]) < ask) = decide ((sizes.filter fun l => decide (ask ≤ l)) = []) := by
  rw [decide_eq_decide, List.filter_eq_nil_iff]
  cases sizes with
  | nil => simp [maxI]; omega
  | cons a r =>
    simp only [List.cons_append, maxI, max_lt_iff, decide_eq_true_eq]
    constructor
    · rintro ⟨h1, h2⟩ x hx
      rcases List.mem_cons.mp hx with rfl | hx
      · omega
      · have := h2 x (List.mem_append_left _ hx); omega
    · intro hh
      refine ⟨by have := hh a List.mem_cons_self; omega, fun x hx => ?_⟩
      rcases List.mem_append.mp hx with hx | hx
      · have := hh x (List.mem_cons_of_mem _ hx); omega
      · simp at hx; omega
def share (sizes : List Int) : Int := if sizes = [] then 0 else 1000 * (sizes.sum - maxI sizes) / sizes.sum
theorem sum_nonneg : ∀ {l : List Int}, (∀ x ∈ l, 0 ≤ x) → 0 ≤ l.sum
  | [], _ => by simp
  | a :: r, h => by
    rw [List.sum_cons]
    have := h a List.mem_cons_self
    have := @sum_nonneg r fun x hx => h x (List.mem_cons_of_mem _ hx)
    omega
theorem mem_le_sum : ∀ {l : List Int}, (∀ x ∈ l, 0 ≤ x) → ∀ x ∈ l, x ≤ l.sum
  | a :: r, h, x, hx => by
    rw [List.sum_cons]
    have h0 := h a List.mem_cons_self
    have h1 := @sum_nonneg r fun x hx => h x (List.mem_cons_of_mem _ hx)
    rcases List.mem_cons.mp hx with rfl | hx
    · omega
    · have := mem_le_sum (fun x hx => h x (List.mem_cons_of_mem _ hx)) x hx
      omega
theorem max_mem : ∀ {a : Int} {r : List Int}, r.foldl max a ∈ a :: r
  | a, [] => by simp
  | a, b :: r => by
    rw [List.foldl_cons]
    have := @max_mem (max a b) r
    rcases List.mem_cons.mp this with h | h
    · rw [h]
      by_cases hab : a ≤ b
      · rw [show max a b = b by omega]; simp
      · rw [show max a b = a by omega]; simp
    · simp [h]
theorem share_nonneg {sizes : List Int} (h : ∀ x ∈ sizes, 0 ≤ x) : 0 ≤ share sizes := by
  unfold share
  split
  · omega
  · rename_i hn
    cases sizes with
    | nil => exact absurd rfl hn
    | cons a r =>
      have h1 := mem_le_sum h (maxI (a :: r)) max_mem
      have h2 := sum_nonneg h
      exact Int.ediv_nonneg (by omega) h2
/-- found while looking -/
def lookF : Int → Nat → List Int → List Row
  | _, _, [] => []
  | most, k, s :: r => (if most < s then [((k : Int), s)] else []) ++ lookF (max most s) (k + 1) r
theorem lookF_eq : ∀ (r pre : List Int) (most : Int), (∀ s, most < s ↔ (∀ x ∈ pre, x < s) ∧ -1 < s) → (∀ x ∈ r, 0 ≤ x) →
    lookF most pre.length r = ((r.zipIdx pre.length).filter fun q => decide ((((pre ++ r).take q.2).filter fun one => decide (q.1 ≤ one)) = [])).map fun q => ((q.2 : Int), q.1)
  | [], pre, most, _, _ => by simp [lookF]
  | s :: r, pre, most, h, hr => by
    have ih := lookF_eq r (pre ++ [s]) (max most s) (fun t => by
      have := h t
      simp only [List.mem_append, List.mem_singleton]
      constructor
      · intro hh
        have h1 := this.mp (by omega)
        exact ⟨fun x hx => hx.elim (h1.1 x) fun e => by omega, h1.2⟩
      · rintro ⟨h1, h2⟩
        have h3 := this.mpr ⟨fun x hx => h1 x (.inl hx), h2⟩
        have := h1 s (.inr rfl)
        omega) fun x hx => hr x (List.mem_cons_of_mem _ hx)
    simp only [List.length_append, List.length_singleton, List.append_assoc, List.singleton_append] at ih
    simp only [lookF, ih, List.zipIdx_cons, List.filter_cons]
    have e : (most < s) ↔ (((pre ++ s :: r).take pre.length).filter fun one => decide (s ≤ one)) = [] := by
      rw [h s, List.filter_eq_nil_iff, List.take_left' rfl]
      have := hr s List.mem_cons_self
      constructor
      · rintro ⟨h1, _⟩ x hx; have := h1 x hx; simp; omega
      · intro hh; exact ⟨fun x hx => by have := hh x hx; simp at this; omega, by omega⟩
    by_cases hm : most < s
    · have h1 := e.mp hm
      rw [if_pos hm, if_pos (by simpa using h1)]; rfl
    · have h1 := fun x => hm (e.mpr x)
      rw [if_neg hm, if_neg (by simpa using h1)]; rfl
end K16

set_option maxRecDepth 100000
namespace K16
open PySem Fx
def isTrue : R D → Bool
  | .ok (.bl true) _ => true
  | _ => false
theorem plain_c : isTrue (runF 4 m__law_plain [] []) = true := by decide +kernel
theorem plain_true (hs : HS) : F__law_plain [] hs = .ok (.bl true) hs := by
  have h := plain_c
  unfold F__law_plain frF
  simp only [D.pures, if_true]
  cases e : runF 4 m__law_plain [] [] with
  | ok d h2 =>
    rw [e] at h
    cases d with
    | bl b => cases b with
      | true => rfl
      | false => cases h
    | _ => cases h
  | _ => rw [e] at h; cases h
end K16

set_option Elab.async false
set_option linter.all false
set_option maxRecDepth 100000
set_option maxHeartbeats 1000000
namespace K16
open PySem Fx
theorem sz : sizeLine = 16777216 := Eq.trans (b := 2 ^ 24) rfl rfl
def pD (p : Row) : D := .tup [.int p.1, .int p.2]
def rowsD (rs : List Row) : D := .lst (rs.map pD)
structure Ok1 (rs : List Row) (size : Int) : Prop where
  s1 : 1 ≤ size
  s2 : size ≤ 100
  len : rs.length ≤ 10
  ch : Chain size 0 rs
theorem add_str {hs : HS} {i j : Str} (h : i.length + j.length ≤ 16777216) : addF hs (.str i) (.str j) = some (.str (i ++ j)) := if_pos h
theorem iadd_str {hs : HS} {i j : Str} (h : i.length + j.length ≤ 16777216) : iaddF hs (.str i) (.str j) = some (.str (i ++ j), hs) := if_pos h
theorem max2_int {hs : HS} {i j : Int} : max2C hs [.int i, .int j] = some (.int (max i j)) := by
  show some (D.int (if j > i then j else i)) = _
  congr 2
  split <;> omega
theorem min2_int {hs : HS} {i j : Int} : min2C hs [.int i, .int j] = some (.int (min i j)) := by
  show some (D.int (if j < i then j else i)) = _
  congr 2
  split <;> omega
theorem int_int {hs : HS} {i : Int} : intC hs [.int i] = some (.int i) := rfl
theorem int_bl {hs : HS} {b : Bool} : intC hs [.bl b] = some (.int (if b then 1 else 0)) := rfl
theorem f_check {rs : List Row} {size : Int} (hs : HS) (ok : Ok1 rs size) : F_check_rows [rowsD rs, .int size] hs = .ok .non hs := by
  have h1 := ok.s1
  have h2 := ok.s2
  have e1 : decide (1 ≤ size) = true := decide_eq_true ok.s1
  have e2 : decide (size ≤ 2000) = true := decide_eq_true (by omega)
  simp [F_check_rows, m_check_rows, mGx, ap_seq, ap_set, ap_ret, ap_expr, ap_ifS, ap_skip, ap_raise, ap_aug, ap_setSub, toS_some, toS_ok, bind_ok, of_some, ap_c, ap_var, ap_bin, ap_test, asB_bl, ap_if, ap_and, ap_or, ap_not, ap_andV, ap_orV, ap_notV, ap_nil, ap_cons, ap_tup, ap_lst, ap_val, ap_box, ap_cb, ap_cbl, ap_call, ap_for, ap_lc, ap_it, ap_yes, ap_sl, ap_noPart, ap_part, part_int, ap_chain2, then_t, then_f, ap_rng1, ap_rng2, ap_rgL, ap_rgT, ap_asg, ap_zip, ap_enumA, ap_par2, add_int, sub_int, lt_int, le_int, gt_int, ge_int, eq_int, ne_int, max2_int, min2_int, int_int, int_bl, it_lst, it_tup, seq_lst, any_lst, any_tup, nox_ok, runF, startL, wipeL, capL, putL, m1, m2, sz, e1, e2, rowsD]
  rw [gx_go (enc := pD) (p := fun _ => true) (q := fun _ => .bl false) rs ?_]
  · rw [← rowsD, any_outs (q := fun _ => false)]
    simp [ofP_some, mGx, ap_seq, ap_set, ap_ret, ap_expr, ap_ifS, ap_skip, ap_raise, ap_aug, ap_setSub, toS_some, toS_ok, bind_ok, of_some, ap_c, ap_var, ap_bin, ap_test, asB_bl, ap_if, ap_and, ap_or, ap_not, ap_andV, ap_orV, ap_notV, ap_nil, ap_cons, ap_tup, ap_lst, ap_val, ap_box, ap_cb, ap_cbl, ap_call, ap_for, ap_lc, ap_it, ap_yes, ap_sl, ap_noPart, ap_part, part_int, ap_chain2, then_t, then_f, ap_rng1, ap_rng2, ap_rgL, ap_rgT, ap_asg, ap_zip, ap_enumA, ap_par2, add_int, sub_int, lt_int, le_int, gt_int, ge_int, eq_int, ne_int, max2_int, min2_int, int_int, int_bl, it_lst, it_tup, seq_lst, any_lst, any_tup, nox_ok, runF, startL, wipeL, capL, putL, m1, m2, sz, rowsD]
    rw [sl_from _ (by decide)]
    simp [mGx, ap_seq, ap_set, ap_ret, ap_expr, ap_ifS, ap_skip, ap_raise, ap_aug, ap_setSub, toS_some, toS_ok, bind_ok, of_some, ap_c, ap_var, ap_bin, ap_test, asB_bl, ap_if, ap_and, ap_or, ap_not, ap_andV, ap_orV, ap_notV, ap_nil, ap_cons, ap_tup, ap_lst, ap_val, ap_box, ap_cb, ap_cbl, ap_call, ap_for, ap_lc, ap_it, ap_yes, ap_sl, ap_noPart, ap_part, part_int, ap_chain2, then_t, then_f, ap_rng1, ap_rng2, ap_rgL, ap_rgT, ap_asg, ap_zip, ap_enumA, ap_par2, add_int, sub_int, lt_int, le_int, gt_int, ge_int, eq_int, ne_int, max2_int, min2_int, int_int, int_bl, it_lst, it_tup, seq_lst, any_lst, any_tup, nox_ok, runF, startL, wipeL, capL, putL, m1, m2, sz]
    rw [show (D.lst (List.map pD rs)) = rowsD rs from rfl]
    rw [← List.map_tail, zip_map]
    rw [gx_go (enc := fun q : Row × Row => .tup [pD q.1, pD q.2]) (p := fun _ => true) (q := fun _ => .bl false) _ ?_]
    · rw [any_outs (q := fun _ => false)]
      simp [ofP_some, mGx, ap_seq, ap_set, ap_ret, ap_expr, ap_ifS, ap_skip, ap_raise, ap_aug, ap_setSub, toS_some, toS_ok, bind_ok, of_some, ap_c, ap_var, ap_bin, ap_test, asB_bl, ap_if, ap_and, ap_or, ap_not, ap_andV, ap_orV, ap_notV, ap_nil, ap_cons, ap_tup, ap_lst, ap_val, ap_box, ap_cb, ap_cbl, ap_call, ap_for, ap_lc, ap_it, ap_yes, ap_sl, ap_noPart, ap_part, part_int, ap_chain2, then_t, then_f, ap_rng1, ap_rng2, ap_rgL, ap_rgT, ap_asg, ap_zip, ap_enumA, ap_par2, add_int, sub_int, lt_int, le_int, gt_int, ge_int, eq_int, ne_int, max2_int, min2_int, int_int, int_bl, it_lst, it_tup, seq_lst, any_lst, any_tup, nox_ok, runF, startL, wipeL, capL, putL, m1, m2, sz]
    · intro q hq
      have := ok.ch.apart q (by simpa using hq)
      have e1 : decide (q.2.1 < q.1.1 + q.1.2) = false := decide_eq_false (by omega)
      exact ⟨_, rfl, rfl, rfl, fun _ => by simp [mGx, ap_seq, ap_set, ap_ret, ap_expr, ap_ifS, ap_skip, ap_raise, ap_aug, ap_setSub, toS_some, toS_ok, bind_ok, of_some, ap_c, ap_var, ap_bin, ap_test, asB_bl, ap_if, ap_and, ap_or, ap_not, ap_andV, ap_orV, ap_notV, ap_nil, ap_cons, ap_tup, ap_lst, ap_val, ap_box, ap_cb, ap_cbl, ap_call, ap_for, ap_lc, ap_it, ap_yes, ap_sl, ap_noPart, ap_part, part_int, ap_chain2, then_t, then_f, ap_rng1, ap_rng2, ap_rgL, ap_rgT, ap_asg, ap_zip, ap_enumA, ap_par2, add_int, sub_int, lt_int, le_int, gt_int, ge_int, eq_int, ne_int, max2_int, min2_int, int_int, int_bl, it_lst, it_tup, seq_lst, any_lst, any_tup, nox_ok, runF, startL, wipeL, capL, putL, m1, m2, sz, pD, ix_tup, e1]⟩
  · intro x hx
    obtain ⟨h1, h2, h3⟩ := ok.ch.each x hx
    have e1 : decide (x.1 < 0) = false := decide_eq_false (by omega)
    have e2 : decide (x.2 < 1) = false := decide_eq_false (by omega)
    have e3 : decide (size < x.1 + x.2) = false := decide_eq_false (by omega)
    exact ⟨_, rfl, rfl, rfl, fun _ => by simp [mGx, ap_seq, ap_set, ap_ret, ap_expr, ap_ifS, ap_skip, ap_raise, ap_aug, ap_setSub, toS_some, toS_ok, bind_ok, of_some, ap_c, ap_var, ap_bin, ap_test, asB_bl, ap_if, ap_and, ap_or, ap_not, ap_andV, ap_orV, ap_notV, ap_nil, ap_cons, ap_tup, ap_lst, ap_val, ap_box, ap_cb, ap_cbl, ap_call, ap_for, ap_lc, ap_it, ap_yes, ap_sl, ap_noPart, ap_part, part_int, ap_chain2, then_t, then_f, ap_rng1, ap_rng2, ap_rgL, ap_rgT, ap_asg, ap_zip, ap_enumA, ap_par2, add_int, sub_int, lt_int, le_int, gt_int, ge_int, eq_int, ne_int, max2_int, min2_int, int_int, int_bl, it_lst, it_tup, seq_lst, any_lst, any_tup, nox_ok, runF, startL, wipeL, capL, putL, m1, m2, sz, e1, e2, e3]⟩
end K16

set_option Elab.async false
set_option linter.all false
set_option maxRecDepth 100000
set_option maxHeartbeats 1000000
namespace K16
open PySem Fx
section
variable {rs : List Row} {size : Int} {hs : HS}
theorem it_rows : itF hs (rowsD rs) = some (rs.map pD, none) := rfl
theorem seq_rows : seqL hs (rowsD rs) = some (rs.map pD) := rfl
theorem any_rows : anyL hs (rowsD rs) = some (rs.map pD) := rfl
end
theorem b_gaps {rs : List Row} {size here : Int} {hs e : HS} {acc : List Row} {a b : Option D} {x : Row} (hl : acc.length ≤ 20) : ∃ e', b_gaps_between_0 [some (rowsD rs), some (.int size), some (.ref hs.length), some (.int here), some (.int x.1), some (.int x.2)] (hs ++ (.lst (acc.map pD) :: e)) =
    .nx [some (rowsD rs), some (.int size), some (.ref hs.length), some (.int (x.1 + x.2)), some (.int x.1), some (.int x.2)] (hs ++ (.lst ((acc ++ if here < x.1 then [(here, x.1 - here)] else []).map pD) :: e')) := by
  by_cases hc : here < x.1
  · exact ⟨e, by simp [b_gaps_between_0, mGx, ap_seq, ap_set, ap_ret, ap_expr, ap_ifS, ap_skip, ap_raise, ap_aug, ap_setSub, toS_some, toS_ok, bind_ok, of_some, ap_c, ap_var, ap_bin, ap_test, asB_bl, ap_if, ap_and, ap_or, ap_not, ap_andV, ap_orV, ap_notV, ap_nil, ap_cons, ap_tup, ap_lst, ap_val, ap_box, ap_cb, ap_cbl, ap_call, ap_for, ap_lc, ap_it, ap_yes, ap_sl, ap_noPart, ap_part, part_int, ap_chain2, then_t, then_f, ap_rng1, ap_rng2, ap_rgL, ap_rgT, ap_asg, ap_zip, ap_enumA, ap_par2, add_int, sub_int, lt_int, le_int, gt_int, ge_int, eq_int, ne_int, max2_int, min2_int, int_int, int_bl, it_lst, it_tup, seq_lst, any_lst, any_tup, nox_ok, runF, startL, wipeL, capL, putL, m1, m2, sz, iadd_ref lst_at_new, hc, seqL, show acc.length ≤ 16777215 by omega, set_new, pD]⟩
  · exact ⟨e ++ [.lst []], by simp [b_gaps_between_0, mGx, ap_seq, ap_set, ap_ret, ap_expr, ap_ifS, ap_skip, ap_raise, ap_aug, ap_setSub, toS_some, toS_ok, bind_ok, of_some, ap_c, ap_var, ap_bin, ap_test, asB_bl, ap_if, ap_and, ap_or, ap_not, ap_andV, ap_orV, ap_notV, ap_nil, ap_cons, ap_tup, ap_lst, ap_val, ap_box, ap_cb, ap_cbl, ap_call, ap_for, ap_lc, ap_it, ap_yes, ap_sl, ap_noPart, ap_part, part_int, ap_chain2, then_t, then_f, ap_rng1, ap_rng2, ap_rgL, ap_rgT, ap_asg, ap_zip, ap_enumA, ap_par2, add_int, sub_int, lt_int, le_int, gt_int, ge_int, eq_int, ne_int, max2_int, min2_int, int_int, int_bl, it_lst, it_tup, seq_lst, any_lst, any_tup, nox_ok, runF, startL, wipeL, capL, putL, m1, m2, sz, iadd_ref lst_at_new, hc, seqL, lst_at_new2, show acc.length ≤ 16777216 by omega, set_new]⟩
theorem f_gaps {rs : List Row} {size : Int} (hs : HS) (ok : Ok1 rs size) : ∃ e, F_gaps_between [rowsD rs, .int size] hs = .ok (.tup ((G size 0 rs).map pD)) (hs ++ e) := by
  have hlen : (G size 0 rs).length ≤ 11 := by
    have := @G_len size 0 rs
    have := ok.len
    omega
  have key := for_go (enc := pD) (tg := mgTup [mgName 4, mgName 5]) (body := b_gaps_between_0) (hs0 := hs ++ [.lst []]) (xs0 := rs)
    (fun pre ls hs' => ∃ here acc a b e, ls = [some (rowsD rs), some (.int size), some (.ref hs.length), some (.int here), a, b] ∧ hs' = hs ++ (.lst (acc.map pD) :: e) ∧
      ∀ post, rs = pre ++ post → acc ++ G size here post = G size 0 rs ∧ Chain size here post)
    (fun pre x post ls hs' e0 ⟨here, acc, a, b, e, e1, e2, hI⟩ => by
      obtain ⟨h1, h2⟩ := hI _ e0
      subst e1
      subst e2
      obtain ⟨e', hb⟩ := @b_gaps rs size here hs e acc a b x (by rw [← h1] at hlen; simp at hlen; omega)
      refine ⟨_, rfl, _, _, .inl hb, _, _, _, _, _, rfl, rfl, fun post' e3 => ?_⟩
      rw [e0] at e3
      simp at e3
      subst e3
      exact ⟨by rw [← h1]; simp [G], h2.2.2⟩)
    rs [] [some (rowsD rs), some (.int size), some (.ref hs.length), some (.int 0), none, none] (hs ++ [.lst []]) rfl ⟨0, [], none, none, [], rfl, rfl, fun post e => by simp at e; subst e; exact ⟨rfl, ok.ch⟩⟩
  obtain ⟨ls, h2, e1, here, acc, a, b, e, rfl, rfl, hI⟩ := key
  obtain ⟨h1, h2⟩ := hI [] (by simp)
  have hl : acc.length ≤ 11 := by rw [← h1] at hlen; simp at hlen; omega
  simp [F_gaps_between, m_gaps_between, mGx, ap_seq, ap_set, ap_ret, ap_expr, ap_ifS, ap_skip, ap_raise, ap_aug, ap_setSub, toS_some, toS_ok, bind_ok, of_some, ap_c, ap_var, ap_bin, ap_test, asB_bl, ap_if, ap_and, ap_or, ap_not, ap_andV, ap_orV, ap_notV, ap_nil, ap_cons, ap_tup, ap_lst, ap_val, ap_box, ap_cb, ap_cbl, ap_call, ap_for, ap_lc, ap_it, ap_yes, ap_sl, ap_noPart, ap_part, part_int, ap_chain2, then_t, then_f, ap_rng1, ap_rng2, ap_rgL, ap_rgT, ap_asg, ap_zip, ap_enumA, ap_par2, add_int, sub_int, lt_int, le_int, gt_int, ge_int, eq_int, ne_int, max2_int, min2_int, int_int, int_bl, it_lst, it_tup, seq_lst, any_lst, any_tup, nox_ok, runF, startL, wipeL, capL, putL, m1, m2, sz, f_check hs ok, it_rows, e1]
  rw [← h1]
  by_cases hc : here < size
  · exact ⟨.lst (acc.map pD) :: e, by
      simp [hc, mGx, ap_seq, ap_set, ap_ret, ap_expr, ap_ifS, ap_skip, ap_raise, ap_aug, ap_setSub, toS_some, toS_ok, bind_ok, of_some, ap_c, ap_var, ap_bin, ap_test, asB_bl, ap_if, ap_and, ap_or, ap_not, ap_andV, ap_orV, ap_notV, ap_nil, ap_cons, ap_tup, ap_lst, ap_val, ap_box, ap_cb, ap_cbl, ap_call, ap_for, ap_lc, ap_it, ap_yes, ap_sl, ap_noPart, ap_part, part_int, ap_chain2, then_t, then_f, ap_rng1, ap_rng2, ap_rgL, ap_rgT, ap_asg, ap_zip, ap_enumA, ap_par2, add_int, sub_int, lt_int, le_int, gt_int, ge_int, eq_int, ne_int, max2_int, min2_int, int_int, int_bl, it_lst, it_tup, seq_lst, any_lst, any_tup, nox_ok, runF, startL, wipeL, capL, putL, m1, m2, sz, add_seq (seq_ref lst_at_new) seq_lst, show acc.length ≤ 16777215 by omega, tupC_any any_lst, G, pD]⟩
  · exact ⟨.lst (acc.map pD) :: (e ++ [.lst []]), by
      simp [hc, mGx, ap_seq, ap_set, ap_ret, ap_expr, ap_ifS, ap_skip, ap_raise, ap_aug, ap_setSub, toS_some, toS_ok, bind_ok, of_some, ap_c, ap_var, ap_bin, ap_test, asB_bl, ap_if, ap_and, ap_or, ap_not, ap_andV, ap_orV, ap_notV, ap_nil, ap_cons, ap_tup, ap_lst, ap_val, ap_box, ap_cb, ap_cbl, ap_call, ap_for, ap_lc, ap_it, ap_yes, ap_sl, ap_noPart, ap_part, part_int, ap_chain2, then_t, then_f, ap_rng1, ap_rng2, ap_rgL, ap_rgT, ap_asg, ap_zip, ap_enumA, ap_par2, add_int, sub_int, lt_int, le_int, gt_int, ge_int, eq_int, ne_int, max2_int, min2_int, int_int, int_bl, it_lst, it_tup, seq_lst, any_lst, any_tup, nox_ok, runF, startL, wipeL, capL, putL, m1, m2, sz, add_seq (seq_ref lst_at_new) (seq_ref lst_at_new2), show acc.length ≤ 16777216 by omega, tupC_any any_lst, G]⟩
end K16

set_option Elab.async false
set_option linter.all false
set_option maxRecDepth 100000
set_option maxHeartbeats 1000000
namespace K16
open PySem Fx
theorem rng_rI (a b : Int) : rngD a (b - a).toNat = (rI a b).map D.int := by
  simp [rngD, rI]
theorem rng_rI0 (b : Int) : rngD 0 b.toNat = (rI 0 b).map D.int := by
  simp [rngD, rI]
theorem lstsOf_map {α : Type} {hs : HS} (f : α → List D) (xs : List α) : lstsOf hs (xs.map fun x => .lst (f x)) = some (xs.map f) := by
  induction xs with
  | nil => rfl
  | cons a r ih => simp [lstsOf, seqL, ih]
theorem sum2_lst {α : Type} {hs : HS} (f : α → List D) (xs : List α) (h : (xs.map f).flatten.length ≤ 16777216) : sum2C hs [.lst (xs.map fun x => .lst (f x)), .lst []] = some (.lst (xs.map f).flatten) := by
  simp only [sum2C, seqL, Option.bind_some, lstsOf_map, show sizeLine = 16777216 from rfl, h, if_true]
theorem minL_map (l : List Int) (h : l ≠ []) : minL l = some (minI l) := by
  cases l with
  | nil => exact absurd rfl h
  | cons a r => rfl
theorem minC_lst {hs : HS} (l : List Int) (h : l ≠ []) : minC hs [.lst (l.map D.int)] = some (.int (minI l)) := by
  simp only [minC, seqL, Option.bind_some, asInts_map, minL_map l h, Option.map_some]
theorem maxC_lst {hs : HS} (l : List Int) (h : l ≠ []) : maxC hs [.lst (l.map D.int)] = some (.int (maxI l)) := by
  cases l with
  | nil => exact absurd rfl h
  | cons a r => simp only [maxC, seqL, Option.bind_some, asInts_map, maxL, Option.map_some]; rfl
theorem used_len : ∀ {rs : List Row} {size here : Int}, Chain size here rs → 0 ≤ here → ((usedL rs).length : Int) ≤ size - here
  | [], size, here, h, h0 => by
    have : here ≤ size := h
    simp [usedL]; omega
  | p :: r, size, here, ⟨h1, h2, h3⟩, h0 => by
    have := used_len h3 (by omega)
    have e : usedL (p :: r) = rI p.1 (p.1 + p.2) ++ usedL r := rfl
    rw [e, List.length_append, rI_len, Int.natCast_add]
    omega
theorem used_map (rs : List Row) : (rs.map fun x => (rI x.1 (x.1 + x.2)).map D.int).flatten = (usedL rs).map D.int := by
  unfold usedL
  rw [List.map_flatten, List.map_map]
  rfl
theorem f_lawgaps {rs : List Row} {size : Int} (hs : HS) (ok : Ok1 rs size) : F__law_gaps [rowsD rs, .int size] hs = .ok (.lst ((G size 0 rs).map pD)) hs := by
  have h1 := ok.s1
  have h2 := ok.s2
  have h3 := ok.len
  have hu := used_len ok.ch (Int.le_refl 0)
  have hf : (freeL rs size).length ≤ 100 := Nat.le_trans (List.length_filter_le _ _) (by rw [rI_len]; omega)
  have hf2 : (firstsL rs size).length ≤ 100 := Nat.le_trans (List.length_filter_le _ _) hf
  simp [F__law_gaps, m__law_gaps, mGx, ap_seq, ap_set, ap_ret, ap_expr, ap_ifS, ap_skip, ap_raise, ap_aug, ap_setSub, toS_some, toS_ok, bind_ok, of_some, ap_c, ap_var, ap_bin, ap_test, asB_bl, ap_if, ap_and, ap_or, ap_not, ap_andV, ap_orV, ap_notV, ap_nil, ap_cons, ap_tup, ap_lst, ap_val, ap_box, ap_cb, ap_cbl, ap_call, ap_for, ap_lc, ap_it, ap_yes, ap_sl, ap_noPart, ap_part, part_int, ap_chain2, then_t, then_f, ap_rng1, ap_rng2, ap_rgL, ap_rgT, ap_asg, ap_zip, ap_enumA, ap_par2, add_int, sub_int, lt_int, le_int, gt_int, ge_int, eq_int, ne_int, max2_int, min2_int, int_int, int_bl, it_lst, it_tup, seq_lst, any_lst, any_tup, nox_ok, runF, startL, wipeL, capL, putL, m1, m2, sz, it_rows]
  rw [lc_all (enc := pD) (q := fun x => .lst ((rI x.1 (x.1 + x.2)).map D.int)) rs [] ?_ (by simp; omega)]
  · simp [mGx, ap_seq, ap_set, ap_ret, ap_expr, ap_ifS, ap_skip, ap_raise, ap_aug, ap_setSub, toS_some, toS_ok, bind_ok, of_some, ap_c, ap_var, ap_bin, ap_test, asB_bl, ap_if, ap_and, ap_or, ap_not, ap_andV, ap_orV, ap_notV, ap_nil, ap_cons, ap_tup, ap_lst, ap_val, ap_box, ap_cb, ap_cbl, ap_call, ap_for, ap_lc, ap_it, ap_yes, ap_sl, ap_noPart, ap_part, part_int, ap_chain2, then_t, then_f, ap_rng1, ap_rng2, ap_rgL, ap_rgT, ap_asg, ap_zip, ap_enumA, ap_par2, add_int, sub_int, lt_int, le_int, gt_int, ge_int, eq_int, ne_int, max2_int, min2_int, int_int, int_bl, it_lst, it_tup, seq_lst, any_lst, any_tup, nox_ok, runF, startL, wipeL, capL, putL, m1, m2, sz]
    rw [sum2_lst _ _ (by rw [used_map]; simp; omega), used_map]
    simp [mGx, ap_seq, ap_set, ap_ret, ap_expr, ap_ifS, ap_skip, ap_raise, ap_aug, ap_setSub, toS_some, toS_ok, bind_ok, of_some, ap_c, ap_var, ap_bin, ap_test, asB_bl, ap_if, ap_and, ap_or, ap_not, ap_andV, ap_orV, ap_notV, ap_nil, ap_cons, ap_tup, ap_lst, ap_val, ap_box, ap_cb, ap_cbl, ap_call, ap_for, ap_lc, ap_it, ap_yes, ap_sl, ap_noPart, ap_part, part_int, ap_chain2, then_t, then_f, ap_rng1, ap_rng2, ap_rgL, ap_rgT, ap_asg, ap_zip, ap_enumA, ap_par2, add_int, sub_int, lt_int, le_int, gt_int, ge_int, eq_int, ne_int, max2_int, min2_int, int_int, int_bl, it_lst, it_tup, seq_lst, any_lst, any_tup, nox_ok, runF, startL, wipeL, capL, putL, m1, m2, sz, rng1_int (show -(2 ^ 62) ≤ size ∧ size < 2 ^ 62 by omega), rng_rI0]
    rw [lc_go (enc := D.int) (p := fun c => !decide (c ∈ usedL rs)) (q := D.int) (rI 0 size) [] ?_ (by simp [sz, rI_len]; omega)]
    · simp only [List.nil_append]
      rw [show (rI 0 size).filter (fun c => !decide (c ∈ usedL rs)) = freeL rs size from rfl]
      simp [mGx, ap_seq, ap_set, ap_ret, ap_expr, ap_ifS, ap_skip, ap_raise, ap_aug, ap_setSub, toS_some, toS_ok, bind_ok, of_some, ap_c, ap_var, ap_bin, ap_test, asB_bl, ap_if, ap_and, ap_or, ap_not, ap_andV, ap_orV, ap_notV, ap_nil, ap_cons, ap_tup, ap_lst, ap_val, ap_box, ap_cb, ap_cbl, ap_call, ap_for, ap_lc, ap_it, ap_yes, ap_sl, ap_noPart, ap_part, part_int, ap_chain2, then_t, then_f, ap_rng1, ap_rng2, ap_rgL, ap_rgT, ap_asg, ap_zip, ap_enumA, ap_par2, add_int, sub_int, lt_int, le_int, gt_int, ge_int, eq_int, ne_int, max2_int, min2_int, int_int, int_bl, it_lst, it_tup, seq_lst, any_lst, any_tup, nox_ok, runF, startL, wipeL, capL, putL, m1, m2, sz]
      rw [lc_go (enc := D.int) (p := fun c => !decide (c - 1 ∈ freeL rs size)) (q := D.int) (freeL rs size) [] ?_ (by simp [sz]; omega)]
      · simp only [List.nil_append]
        rw [show (freeL rs size).filter (fun c => !decide (c - 1 ∈ freeL rs size)) = firstsL rs size from rfl]
        simp [mGx, ap_seq, ap_set, ap_ret, ap_expr, ap_ifS, ap_skip, ap_raise, ap_aug, ap_setSub, toS_some, toS_ok, bind_ok, of_some, ap_c, ap_var, ap_bin, ap_test, asB_bl, ap_if, ap_and, ap_or, ap_not, ap_andV, ap_orV, ap_notV, ap_nil, ap_cons, ap_tup, ap_lst, ap_val, ap_box, ap_cb, ap_cbl, ap_call, ap_for, ap_lc, ap_it, ap_yes, ap_sl, ap_noPart, ap_part, part_int, ap_chain2, then_t, then_f, ap_rng1, ap_rng2, ap_rgL, ap_rgT, ap_asg, ap_zip, ap_enumA, ap_par2, add_int, sub_int, lt_int, le_int, gt_int, ge_int, eq_int, ne_int, max2_int, min2_int, int_int, int_bl, it_lst, it_tup, seq_lst, any_lst, any_tup, nox_ok, runF, startL, wipeL, capL, putL, m1, m2, sz]
        rw [lc_all (enc := D.int) (q := fun f => pD (f, minI ((rI f (size + 1)).filter fun c => !decide (c ∈ freeL rs size)) - f)) (firstsL rs size) [] ?_ (by simp; omega)]
        · simp [mGx, ap_seq, ap_set, ap_ret, ap_expr, ap_ifS, ap_skip, ap_raise, ap_aug, ap_setSub, toS_some, toS_ok, bind_ok, of_some, ap_c, ap_var, ap_bin, ap_test, asB_bl, ap_if, ap_and, ap_or, ap_not, ap_andV, ap_orV, ap_notV, ap_nil, ap_cons, ap_tup, ap_lst, ap_val, ap_box, ap_cb, ap_cbl, ap_call, ap_for, ap_lc, ap_it, ap_yes, ap_sl, ap_noPart, ap_part, part_int, ap_chain2, then_t, then_f, ap_rng1, ap_rng2, ap_rgL, ap_rgT, ap_asg, ap_zip, ap_enumA, ap_par2, add_int, sub_int, lt_int, le_int, gt_int, ge_int, eq_int, ne_int, max2_int, min2_int, int_int, int_bl, it_lst, it_tup, seq_lst, any_lst, any_tup, nox_ok, runF, startL, wipeL, capL, putL, m1, m2, sz]
          rw [← lawGaps_eq ok.ch]
          simp [lawGaps]
        · intro f hf'
          have hfm := mem_free.mp (List.mem_filter.mp hf').1
          refine ⟨_, rfl, rfl, rfl, fun _ => ?_⟩
          simp [mGx, ap_seq, ap_set, ap_ret, ap_expr, ap_ifS, ap_skip, ap_raise, ap_aug, ap_setSub, toS_some, toS_ok, bind_ok, of_some, ap_c, ap_var, ap_bin, ap_test, asB_bl, ap_if, ap_and, ap_or, ap_not, ap_andV, ap_orV, ap_notV, ap_nil, ap_cons, ap_tup, ap_lst, ap_val, ap_box, ap_cb, ap_cbl, ap_call, ap_for, ap_lc, ap_it, ap_yes, ap_sl, ap_noPart, ap_part, part_int, ap_chain2, then_t, then_f, ap_rng1, ap_rng2, ap_rgL, ap_rgT, ap_asg, ap_zip, ap_enumA, ap_par2, add_int, sub_int, lt_int, le_int, gt_int, ge_int, eq_int, ne_int, max2_int, min2_int, int_int, int_bl, it_lst, it_tup, seq_lst, any_lst, any_tup, nox_ok, runF, startL, wipeL, capL, putL, m1, m2, sz, rng2_int (show -(2 ^ 62) ≤ f ∧ f < 2 ^ 62 by omega) (show -(2 ^ 62) ≤ size + 1 ∧ size + 1 < 2 ^ 62 by omega), rng_rI]
          rw [lc_go (enc := D.int) (p := fun c => !decide (c ∈ freeL rs size)) (q := D.int) (rI f (size + 1)) [] ?_ (by simp [sz, rI_len]; omega)]
          · simp [mGx, ap_seq, ap_set, ap_ret, ap_expr, ap_ifS, ap_skip, ap_raise, ap_aug, ap_setSub, toS_some, toS_ok, bind_ok, of_some, ap_c, ap_var, ap_bin, ap_test, asB_bl, ap_if, ap_and, ap_or, ap_not, ap_andV, ap_orV, ap_notV, ap_nil, ap_cons, ap_tup, ap_lst, ap_val, ap_box, ap_cb, ap_cbl, ap_call, ap_for, ap_lc, ap_it, ap_yes, ap_sl, ap_noPart, ap_part, part_int, ap_chain2, then_t, then_f, ap_rng1, ap_rng2, ap_rgL, ap_rgT, ap_asg, ap_zip, ap_enumA, ap_par2, add_int, sub_int, lt_int, le_int, gt_int, ge_int, eq_int, ne_int, max2_int, min2_int, int_int, int_bl, it_lst, it_tup, seq_lst, any_lst, any_tup, nox_ok, runF, startL, wipeL, capL, putL, m1, m2, sz]
            rw [minC_lst _ ?_]
            · simp [mGx, ap_seq, ap_set, ap_ret, ap_expr, ap_ifS, ap_skip, ap_raise, ap_aug, ap_setSub, toS_some, toS_ok, bind_ok, of_some, ap_c, ap_var, ap_bin, ap_test, asB_bl, ap_if, ap_and, ap_or, ap_not, ap_andV, ap_orV, ap_notV, ap_nil, ap_cons, ap_tup, ap_lst, ap_val, ap_box, ap_cb, ap_cbl, ap_call, ap_for, ap_lc, ap_it, ap_yes, ap_sl, ap_noPart, ap_part, part_int, ap_chain2, then_t, then_f, ap_rng1, ap_rng2, ap_rgL, ap_rgT, ap_asg, ap_zip, ap_enumA, ap_par2, add_int, sub_int, lt_int, le_int, gt_int, ge_int, eq_int, ne_int, max2_int, min2_int, int_int, int_bl, it_lst, it_tup, seq_lst, any_lst, any_tup, nox_ok, runF, startL, wipeL, capL, putL, m1, m2, sz, pD]
            · intro hn
              rw [List.filter_eq_nil_iff] at hn
              have := hn size (mem_rI.mpr (by omega))
              simp [mem_free] at this
          · intro c _
            exact ⟨_, rfl, rfl, by simp [mGx, ap_seq, ap_set, ap_ret, ap_expr, ap_ifS, ap_skip, ap_raise, ap_aug, ap_setSub, toS_some, toS_ok, bind_ok, of_some, ap_c, ap_var, ap_bin, ap_test, asB_bl, ap_if, ap_and, ap_or, ap_not, ap_andV, ap_orV, ap_notV, ap_nil, ap_cons, ap_tup, ap_lst, ap_val, ap_box, ap_cb, ap_cbl, ap_call, ap_for, ap_lc, ap_it, ap_yes, ap_sl, ap_noPart, ap_part, part_int, ap_chain2, then_t, then_f, ap_rng1, ap_rng2, ap_rgL, ap_rgT, ap_asg, ap_zip, ap_enumA, ap_par2, add_int, sub_int, lt_int, le_int, gt_int, ge_int, eq_int, ne_int, max2_int, min2_int, int_int, int_bl, it_lst, it_tup, seq_lst, any_lst, any_tup, nox_ok, runF, startL, wipeL, capL, putL, m1, m2, sz, in_ints, ng], fun _ => by simp [mGx, ap_seq, ap_set, ap_ret, ap_expr, ap_ifS, ap_skip, ap_raise, ap_aug, ap_setSub, toS_some, toS_ok, bind_ok, of_some, ap_c, ap_var, ap_bin, ap_test, asB_bl, ap_if, ap_and, ap_or, ap_not, ap_andV, ap_orV, ap_notV, ap_nil, ap_cons, ap_tup, ap_lst, ap_val, ap_box, ap_cb, ap_cbl, ap_call, ap_for, ap_lc, ap_it, ap_yes, ap_sl, ap_noPart, ap_part, part_int, ap_chain2, then_t, then_f, ap_rng1, ap_rng2, ap_rgL, ap_rgT, ap_asg, ap_zip, ap_enumA, ap_par2, add_int, sub_int, lt_int, le_int, gt_int, ge_int, eq_int, ne_int, max2_int, min2_int, int_int, int_bl, it_lst, it_tup, seq_lst, any_lst, any_tup, nox_ok, runF, startL, wipeL, capL, putL, m1, m2, sz]⟩
      · intro c _
        exact ⟨_, rfl, rfl, by simp [mGx, ap_seq, ap_set, ap_ret, ap_expr, ap_ifS, ap_skip, ap_raise, ap_aug, ap_setSub, toS_some, toS_ok, bind_ok, of_some, ap_c, ap_var, ap_bin, ap_test, asB_bl, ap_if, ap_and, ap_or, ap_not, ap_andV, ap_orV, ap_notV, ap_nil, ap_cons, ap_tup, ap_lst, ap_val, ap_box, ap_cb, ap_cbl, ap_call, ap_for, ap_lc, ap_it, ap_yes, ap_sl, ap_noPart, ap_part, part_int, ap_chain2, then_t, then_f, ap_rng1, ap_rng2, ap_rgL, ap_rgT, ap_asg, ap_zip, ap_enumA, ap_par2, add_int, sub_int, lt_int, le_int, gt_int, ge_int, eq_int, ne_int, max2_int, min2_int, int_int, int_bl, it_lst, it_tup, seq_lst, any_lst, any_tup, nox_ok, runF, startL, wipeL, capL, putL, m1, m2, sz, in_ints, ng], fun _ => by simp [mGx, ap_seq, ap_set, ap_ret, ap_expr, ap_ifS, ap_skip, ap_raise, ap_aug, ap_setSub, toS_some, toS_ok, bind_ok, of_some, ap_c, ap_var, ap_bin, ap_test, asB_bl, ap_if, ap_and, ap_or, ap_not, ap_andV, ap_orV, ap_notV, ap_nil, ap_cons, ap_tup, ap_lst, ap_val, ap_box, ap_cb, ap_cbl, ap_call, ap_for, ap_lc, ap_it, ap_yes, ap_sl, ap_noPart, ap_part, part_int, ap_chain2, then_t, then_f, ap_rng1, ap_rng2, ap_rgL, ap_rgT, ap_asg, ap_zip, ap_enumA, ap_par2, add_int, sub_int, lt_int, le_int, gt_int, ge_int, eq_int, ne_int, max2_int, min2_int, int_int, int_bl, it_lst, it_tup, seq_lst, any_lst, any_tup, nox_ok, runF, startL, wipeL, capL, putL, m1, m2, sz]⟩
    · intro c _
      exact ⟨_, rfl, rfl, by simp [mGx, ap_seq, ap_set, ap_ret, ap_expr, ap_ifS, ap_skip, ap_raise, ap_aug, ap_setSub, toS_some, toS_ok, bind_ok, of_some, ap_c, ap_var, ap_bin, ap_test, asB_bl, ap_if, ap_and, ap_or, ap_not, ap_andV, ap_orV, ap_notV, ap_nil, ap_cons, ap_tup, ap_lst, ap_val, ap_box, ap_cb, ap_cbl, ap_call, ap_for, ap_lc, ap_it, ap_yes, ap_sl, ap_noPart, ap_part, part_int, ap_chain2, then_t, then_f, ap_rng1, ap_rng2, ap_rgL, ap_rgT, ap_asg, ap_zip, ap_enumA, ap_par2, add_int, sub_int, lt_int, le_int, gt_int, ge_int, eq_int, ne_int, max2_int, min2_int, int_int, int_bl, it_lst, it_tup, seq_lst, any_lst, any_tup, nox_ok, runF, startL, wipeL, capL, putL, m1, m2, sz, in_ints, ng], fun _ => by simp [mGx, ap_seq, ap_set, ap_ret, ap_expr, ap_ifS, ap_skip, ap_raise, ap_aug, ap_setSub, toS_some, toS_ok, bind_ok, of_some, ap_c, ap_var, ap_bin, ap_test, asB_bl, ap_if, ap_and, ap_or, ap_not, ap_andV, ap_orV, ap_notV, ap_nil, ap_cons, ap_tup, ap_lst, ap_val, ap_box, ap_cb, ap_cbl, ap_call, ap_for, ap_lc, ap_it, ap_yes, ap_sl, ap_noPart, ap_part, part_int, ap_chain2, then_t, then_f, ap_rng1, ap_rng2, ap_rgL, ap_rgT, ap_asg, ap_zip, ap_enumA, ap_par2, add_int, sub_int, lt_int, le_int, gt_int, ge_int, eq_int, ne_int, max2_int, min2_int, int_int, int_bl, it_lst, it_tup, seq_lst, any_lst, any_tup, nox_ok, runF, startL, wipeL, capL, putL, m1, m2, sz]⟩
  · intro x hx
    obtain ⟨g1, g2, g3⟩ := ok.ch.each x hx
    refine ⟨_, rfl, rfl, rfl, fun _ => ?_⟩
    simp [mGx, ap_seq, ap_set, ap_ret, ap_expr, ap_ifS, ap_skip, ap_raise, ap_aug, ap_setSub, toS_some, toS_ok, bind_ok, of_some, ap_c, ap_var, ap_bin, ap_test, asB_bl, ap_if, ap_and, ap_or, ap_not, ap_andV, ap_orV, ap_notV, ap_nil, ap_cons, ap_tup, ap_lst, ap_val, ap_box, ap_cb, ap_cbl, ap_call, ap_for, ap_lc, ap_it, ap_yes, ap_sl, ap_noPart, ap_part, part_int, ap_chain2, then_t, then_f, ap_rng1, ap_rng2, ap_rgL, ap_rgT, ap_asg, ap_zip, ap_enumA, ap_par2, add_int, sub_int, lt_int, le_int, gt_int, ge_int, eq_int, ne_int, max2_int, min2_int, int_int, int_bl, it_lst, it_tup, seq_lst, any_lst, any_tup, nox_ok, runF, startL, wipeL, capL, putL, m1, m2, sz, rgO_ok (show -(2 ^ 20) ≤ x.1 by omega) (by omega) (show -(2 ^ 20) ≤ x.1 + x.2 by omega) (by omega), rng_rI]
end K16

set_option Elab.async false
set_option linter.all false
set_option maxRecDepth 100000
set_option maxHeartbeats 1000000
namespace K16
open PySem Fx
def Z (rs : List Row) (size : Int) : List Int := (G size 0 rs).map (·.2)
theorem G_sum {size : Int} : ∀ {rs : List Row} {here : Int}, Chain size here rs → ((G size here rs).map (·.2)).sum ≤ size - here
  | [], here, h => by
    have : here ≤ size := h
    unfold G
    split <;> simp <;> omega
  | p :: r, here, ⟨h1, h2, h3⟩ => by
    have := G_sum h3
    unfold G
    split <;> simp <;> omega
structure OkZ (z : List Int) : Prop where
  each : ∀ x ∈ z, 1 ≤ x ∧ x ≤ 100
  len : z.length ≤ 11
  sum : z.sum ≤ 100
  nn : 0 ≤ z.sum
theorem Z_ok {rs : List Row} {size : Int} (ok : Ok1 rs size) : OkZ (Z rs size) where
  each x hx := by
    obtain ⟨p, hp, rfl⟩ := List.mem_map.mp hx
    have := G_each ok.ch p hp
    have := ok.s2
    omega
  len := by
    have := @G_len size 0 rs
    have := ok.len
    simp [Z]; omega
  sum := by
    have := G_sum ok.ch
    have := ok.s2
    unfold Z; omega
  nn := sum_nonneg fun x hx => by
    obtain ⟨p, hp, rfl⟩ := List.mem_map.mp hx
    have := G_each ok.ch p hp
    omega
theorem Z_map (rs : List Row) (size : Int) : (G size 0 rs).map (fun x => D.int x.2) = (Z rs size).map D.int := by
  simp [Z]
theorem pl_ints {ns : List Int} : (D.lst (ns.map D.int)).pl 8 = true := by
  simp only [D.pl]
  rw [pls_map fun _ _ => rfl]
  rfl
theorem OkZ.pos {z : List Int} (h : OkZ z) (hz : z ≠ []) : 1 ≤ z.sum := by
  cases z with
  | nil => exact absurd rfl hz
  | cons a r =>
    have h1 := h.each a List.mem_cons_self
    have := @sum_nonneg r fun x hx => by have := h.each x (List.mem_cons_of_mem _ hx); omega
    rw [List.sum_cons]; omega
theorem f_share {rs : List Row} {size : Int} (hs : HS) (ok : Ok1 rs size) : ∃ e, F_parted_share [rowsD rs, .int size] hs = .ok (.int (share (Z rs size))) (hs ++ e) := by
  obtain ⟨e, he⟩ := f_gaps hs ok
  have oz := Z_ok ok
  refine ⟨e, ?_⟩
  have hl := oz.len
  have hl' : (G size 0 rs).length ≤ 11 := by simpa [Z] using hl
  simp [F_parted_share, m_parted_share, mGx, ap_seq, ap_set, ap_ret, ap_expr, ap_ifS, ap_skip, ap_raise, ap_aug, ap_setSub, toS_some, toS_ok, bind_ok, of_some, ap_c, ap_var, ap_bin, ap_test, asB_bl, ap_if, ap_and, ap_or, ap_not, ap_andV, ap_orV, ap_notV, ap_nil, ap_cons, ap_tup, ap_lst, ap_val, ap_box, ap_cb, ap_cbl, ap_call, ap_for, ap_lc, ap_it, ap_yes, ap_sl, ap_noPart, ap_part, part_int, ap_chain2, then_t, then_f, ap_rng1, ap_rng2, ap_rgL, ap_rgT, ap_asg, ap_zip, ap_enumA, ap_par2, add_int, sub_int, lt_int, le_int, gt_int, ge_int, eq_int, ne_int, max2_int, min2_int, int_int, int_bl, it_lst, it_tup, seq_lst, any_lst, any_tup, nox_ok, runF, startL, wipeL, capL, putL, m1, m2, sz, he]
  rw [lc_all (enc := pD) (q := fun x => .int x.2) _ [] ?_ (by simp; omega)]
  · simp only [List.nil_append, Z_map]
    simp [mGx, ap_seq, ap_set, ap_ret, ap_expr, ap_ifS, ap_skip, ap_raise, ap_aug, ap_setSub, toS_some, toS_ok, bind_ok, of_some, ap_c, ap_var, ap_bin, ap_test, asB_bl, ap_if, ap_and, ap_or, ap_not, ap_andV, ap_orV, ap_notV, ap_nil, ap_cons, ap_tup, ap_lst, ap_val, ap_box, ap_cb, ap_cbl, ap_call, ap_for, ap_lc, ap_it, ap_yes, ap_sl, ap_noPart, ap_part, part_int, ap_chain2, then_t, then_f, ap_rng1, ap_rng2, ap_rgL, ap_rgT, ap_asg, ap_zip, ap_enumA, ap_par2, add_int, sub_int, lt_int, le_int, gt_int, ge_int, eq_int, ne_int, max2_int, min2_int, int_int, int_bl, it_lst, it_tup, seq_lst, any_lst, any_tup, nox_ok, runF, startL, wipeL, capL, putL, m1, m2, sz, ne_nil pl_ints]
    by_cases hz : Z rs size = []
    · simp [hz, share, mGx, ap_seq, ap_set, ap_ret, ap_expr, ap_ifS, ap_skip, ap_raise, ap_aug, ap_setSub, toS_some, toS_ok, bind_ok, of_some, ap_c, ap_var, ap_bin, ap_test, asB_bl, ap_if, ap_and, ap_or, ap_not, ap_andV, ap_orV, ap_notV, ap_nil, ap_cons, ap_tup, ap_lst, ap_val, ap_box, ap_cb, ap_cbl, ap_call, ap_for, ap_lc, ap_it, ap_yes, ap_sl, ap_noPart, ap_part, part_int, ap_chain2, then_t, then_f, ap_rng1, ap_rng2, ap_rgL, ap_rgT, ap_asg, ap_zip, ap_enumA, ap_par2, add_int, sub_int, lt_int, le_int, gt_int, ge_int, eq_int, ne_int, max2_int, min2_int, int_int, int_bl, it_lst, it_tup, seq_lst, any_lst, any_tup, nox_ok, runF, startL, wipeL, capL, putL, m1, m2, sz]
    · have h1 := oz.pos hz
      have h2 := oz.sum
      simp [hz, share, mGx, ap_seq, ap_set, ap_ret, ap_expr, ap_ifS, ap_skip, ap_raise, ap_aug, ap_setSub, toS_some, toS_ok, bind_ok, of_some, ap_c, ap_var, ap_bin, ap_test, asB_bl, ap_if, ap_and, ap_or, ap_not, ap_andV, ap_orV, ap_notV, ap_nil, ap_cons, ap_tup, ap_lst, ap_val, ap_box, ap_cb, ap_cbl, ap_call, ap_for, ap_lc, ap_it, ap_yes, ap_sl, ap_noPart, ap_part, part_int, ap_chain2, then_t, then_f, ap_rng1, ap_rng2, ap_rgL, ap_rgT, ap_asg, ap_zip, ap_enumA, ap_par2, add_int, sub_int, lt_int, le_int, gt_int, ge_int, eq_int, ne_int, max2_int, min2_int, int_int, int_bl, it_lst, it_tup, seq_lst, any_lst, any_tup, nox_ok, runF, startL, wipeL, capL, putL, m1, m2, sz, sumC_lst, maxC_lst _ hz, mul_int, div_int (show 0 < (Z rs size).sum ∧ (Z rs size).sum < 1073741824 by omega)]
  · intro x hx
    exact ⟨_, rfl, rfl, rfl, fun _ => by simp [mGx, ap_seq, ap_set, ap_ret, ap_expr, ap_ifS, ap_skip, ap_raise, ap_aug, ap_setSub, toS_some, toS_ok, bind_ok, of_some, ap_c, ap_var, ap_bin, ap_test, asB_bl, ap_if, ap_and, ap_or, ap_not, ap_andV, ap_orV, ap_notV, ap_nil, ap_cons, ap_tup, ap_lst, ap_val, ap_box, ap_cb, ap_cbl, ap_call, ap_for, ap_lc, ap_it, ap_yes, ap_sl, ap_noPart, ap_part, part_int, ap_chain2, then_t, then_f, ap_rng1, ap_rng2, ap_rgL, ap_rgT, ap_asg, ap_zip, ap_enumA, ap_par2, add_int, sub_int, lt_int, le_int, gt_int, ge_int, eq_int, ne_int, max2_int, min2_int, int_int, int_bl, it_lst, it_tup, seq_lst, any_lst, any_tup, nox_ok, runF, startL, wipeL, capL, putL, m1, m2, sz]⟩
theorem f_lawshare {rs : List Row} {size : Int} (hs : HS) (ok : Ok1 rs size) : F__law_share [rowsD rs, .int size] hs = .ok (.int (share (Z rs size))) hs := by
  have he := f_lawgaps hs ok
  have oz := Z_ok ok
  have hl := oz.len
  have hl' : (G size 0 rs).length ≤ 11 := by simpa [Z] using hl
  simp [F__law_share, m__law_share, mGx, ap_seq, ap_set, ap_ret, ap_expr, ap_ifS, ap_skip, ap_raise, ap_aug, ap_setSub, toS_some, toS_ok, bind_ok, of_some, ap_c, ap_var, ap_bin, ap_test, asB_bl, ap_if, ap_and, ap_or, ap_not, ap_andV, ap_orV, ap_notV, ap_nil, ap_cons, ap_tup, ap_lst, ap_val, ap_box, ap_cb, ap_cbl, ap_call, ap_for, ap_lc, ap_it, ap_yes, ap_sl, ap_noPart, ap_part, part_int, ap_chain2, then_t, then_f, ap_rng1, ap_rng2, ap_rgL, ap_rgT, ap_asg, ap_zip, ap_enumA, ap_par2, add_int, sub_int, lt_int, le_int, gt_int, ge_int, eq_int, ne_int, max2_int, min2_int, int_int, int_bl, it_lst, it_tup, seq_lst, any_lst, any_tup, nox_ok, runF, startL, wipeL, capL, putL, m1, m2, sz, he]
  rw [lc_all (enc := pD) (q := fun x => .int x.2) _ [] ?_ (by simp; omega)]
  · simp only [List.nil_append, Z_map]
    simp [mGx, ap_seq, ap_set, ap_ret, ap_expr, ap_ifS, ap_skip, ap_raise, ap_aug, ap_setSub, toS_some, toS_ok, bind_ok, of_some, ap_c, ap_var, ap_bin, ap_test, asB_bl, ap_if, ap_and, ap_or, ap_not, ap_andV, ap_orV, ap_notV, ap_nil, ap_cons, ap_tup, ap_lst, ap_val, ap_box, ap_cb, ap_cbl, ap_call, ap_for, ap_lc, ap_it, ap_yes, ap_sl, ap_noPart, ap_part, part_int, ap_chain2, then_t, then_f, ap_rng1, ap_rng2, ap_rgL, ap_rgT, ap_asg, ap_zip, ap_enumA, ap_par2, add_int, sub_int, lt_int, le_int, gt_int, ge_int, eq_int, ne_int, max2_int, min2_int, int_int, int_bl, it_lst, it_tup, seq_lst, any_lst, any_tup, nox_ok, runF, startL, wipeL, capL, putL, m1, m2, sz, ne_nil pl_ints]
    by_cases hz : Z rs size = []
    · simp [hz, share, mGx, ap_seq, ap_set, ap_ret, ap_expr, ap_ifS, ap_skip, ap_raise, ap_aug, ap_setSub, toS_some, toS_ok, bind_ok, of_some, ap_c, ap_var, ap_bin, ap_test, asB_bl, ap_if, ap_and, ap_or, ap_not, ap_andV, ap_orV, ap_notV, ap_nil, ap_cons, ap_tup, ap_lst, ap_val, ap_box, ap_cb, ap_cbl, ap_call, ap_for, ap_lc, ap_it, ap_yes, ap_sl, ap_noPart, ap_part, part_int, ap_chain2, then_t, then_f, ap_rng1, ap_rng2, ap_rgL, ap_rgT, ap_asg, ap_zip, ap_enumA, ap_par2, add_int, sub_int, lt_int, le_int, gt_int, ge_int, eq_int, ne_int, max2_int, min2_int, int_int, int_bl, it_lst, it_tup, seq_lst, any_lst, any_tup, nox_ok, runF, startL, wipeL, capL, putL, m1, m2, sz]
    · have h1 := oz.pos hz
      have h2 := oz.sum
      simp [hz, share, mGx, ap_seq, ap_set, ap_ret, ap_expr, ap_ifS, ap_skip, ap_raise, ap_aug, ap_setSub, toS_some, toS_ok, bind_ok, of_some, ap_c, ap_var, ap_bin, ap_test, asB_bl, ap_if, ap_and, ap_or, ap_not, ap_andV, ap_orV, ap_notV, ap_nil, ap_cons, ap_tup, ap_lst, ap_val, ap_box, ap_cb, ap_cbl, ap_call, ap_for, ap_lc, ap_it, ap_yes, ap_sl, ap_noPart, ap_part, part_int, ap_chain2, then_t, then_f, ap_rng1, ap_rng2, ap_rgL, ap_rgT, ap_asg, ap_zip, ap_enumA, ap_par2, add_int, sub_int, lt_int, le_int, gt_int, ge_int, eq_int, ne_int, max2_int, min2_int, int_int, int_bl, it_lst, it_tup, seq_lst, any_lst, any_tup, nox_ok, runF, startL, wipeL, capL, putL, m1, m2, sz, sumC_lst, maxC_lst _ hz, mul_int, div_int (show 0 < (Z rs size).sum ∧ (Z rs size).sum < 1073741824 by omega)]
  · intro x hx
    exact ⟨_, rfl, rfl, rfl, fun _ => by simp [mGx, ap_seq, ap_set, ap_ret, ap_expr, ap_ifS, ap_skip, ap_raise, ap_aug, ap_setSub, toS_some, toS_ok, bind_ok, of_some, ap_c, ap_var, ap_bin, ap_test, asB_bl, ap_if, ap_and, ap_or, ap_not, ap_andV, ap_orV, ap_notV, ap_nil, ap_cons, ap_tup, ap_lst, ap_val, ap_box, ap_cb, ap_cbl, ap_call, ap_for, ap_lc, ap_it, ap_yes, ap_sl, ap_noPart, ap_part, part_int, ap_chain2, then_t, then_f, ap_rng1, ap_rng2, ap_rgL, ap_rgT, ap_asg, ap_zip, ap_enumA, ap_par2, add_int, sub_int, lt_int, le_int, gt_int, ge_int, eq_int, ne_int, max2_int, min2_int, int_int, int_bl, it_lst, it_tup, seq_lst, any_lst, any_tup, nox_ok, runF, startL, wipeL, capL, putL, m1, m2, sz]⟩
def evenV (z : List Int) : Int := if 0 < z.sum then 1000 * (z.sum * z.sum - (z.map fun l => l * l).sum) / (z.sum * z.sum) else 0
theorem sq_le {x : Int} (h : 0 ≤ x) (h' : x ≤ 100) : 0 ≤ x * x ∧ x * x ≤ 10000 := by
  have h1 := Int.mul_nonneg h h
  have h2 := Int.mul_le_mul h' h' h (by omega)
  omega
theorem f_even {rs : List Row} {size : Int} (hs : HS) (ok : Ok1 rs size) : ∃ e, F_even_share [rowsD rs, .int size] hs = .ok (.int (evenV (Z rs size))) (hs ++ e) := by
  obtain ⟨e, he⟩ := f_gaps hs ok
  have oz := Z_ok ok
  refine ⟨e, ?_⟩
  have hl := oz.len
  have hl' : (G size 0 rs).length ≤ 11 := by simpa [Z] using hl
  have h1 := oz.nn
  have h2 := oz.sum
  have hsq := sq_le h1 h2
  simp [F_even_share, m_even_share, mGx, ap_seq, ap_set, ap_ret, ap_expr, ap_ifS, ap_skip, ap_raise, ap_aug, ap_setSub, toS_some, toS_ok, bind_ok, of_some, ap_c, ap_var, ap_bin, ap_test, asB_bl, ap_if, ap_and, ap_or, ap_not, ap_andV, ap_orV, ap_notV, ap_nil, ap_cons, ap_tup, ap_lst, ap_val, ap_box, ap_cb, ap_cbl, ap_call, ap_for, ap_lc, ap_it, ap_yes, ap_sl, ap_noPart, ap_part, part_int, ap_chain2, then_t, then_f, ap_rng1, ap_rng2, ap_rgL, ap_rgT, ap_asg, ap_zip, ap_enumA, ap_par2, add_int, sub_int, lt_int, le_int, gt_int, ge_int, eq_int, ne_int, max2_int, min2_int, int_int, int_bl, it_lst, it_tup, seq_lst, any_lst, any_tup, nox_ok, runF, startL, wipeL, capL, putL, m1, m2, sz, he]
  rw [lc_all (enc := pD) (q := fun x => .int x.2) _ [] ?_ (by simp; omega)]
  · simp only [List.nil_append, Z_map]
    simp [mGx, ap_seq, ap_set, ap_ret, ap_expr, ap_ifS, ap_skip, ap_raise, ap_aug, ap_setSub, toS_some, toS_ok, bind_ok, of_some, ap_c, ap_var, ap_bin, ap_test, asB_bl, ap_if, ap_and, ap_or, ap_not, ap_andV, ap_orV, ap_notV, ap_nil, ap_cons, ap_tup, ap_lst, ap_val, ap_box, ap_cb, ap_cbl, ap_call, ap_for, ap_lc, ap_it, ap_yes, ap_sl, ap_noPart, ap_part, part_int, ap_chain2, then_t, then_f, ap_rng1, ap_rng2, ap_rgL, ap_rgT, ap_asg, ap_zip, ap_enumA, ap_par2, add_int, sub_int, lt_int, le_int, gt_int, ge_int, eq_int, ne_int, max2_int, min2_int, int_int, int_bl, it_lst, it_tup, seq_lst, any_lst, any_tup, nox_ok, runF, startL, wipeL, capL, putL, m1, m2, sz, sumC_lst]
    by_cases hz : 0 < (Z rs size).sum
    · have hp := Int.mul_pos hz hz
      simp [hz, evenV, mGx, ap_seq, ap_set, ap_ret, ap_expr, ap_ifS, ap_skip, ap_raise, ap_aug, ap_setSub, toS_some, toS_ok, bind_ok, of_some, ap_c, ap_var, ap_bin, ap_test, asB_bl, ap_if, ap_and, ap_or, ap_not, ap_andV, ap_orV, ap_notV, ap_nil, ap_cons, ap_tup, ap_lst, ap_val, ap_box, ap_cb, ap_cbl, ap_call, ap_for, ap_lc, ap_it, ap_yes, ap_sl, ap_noPart, ap_part, part_int, ap_chain2, then_t, then_f, ap_rng1, ap_rng2, ap_rgL, ap_rgT, ap_asg, ap_zip, ap_enumA, ap_par2, add_int, sub_int, lt_int, le_int, gt_int, ge_int, eq_int, ne_int, max2_int, min2_int, int_int, int_bl, it_lst, it_tup, seq_lst, any_lst, any_tup, nox_ok, runF, startL, wipeL, capL, putL, m1, m2, sz, mul_int (show -(2 ^ 64) < (Z rs size).sum ∧ (Z rs size).sum < 2 ^ 64 ∨ _ from .inl (by omega))]
      rw [gx_all (enc := D.int) (q := fun l => .int (l * l)) (Z rs size) ?_]
      · rw [sum_go (fun l => l * l) (Z rs size) 0 10000 (fun x hx => by have := oz.each x hx; exact sq_le (by omega) (by omega)) (by omega) (by omega) (by omega) (by omega)]
        simp [ofP_some, mGx, ap_seq, ap_set, ap_ret, ap_expr, ap_ifS, ap_skip, ap_raise, ap_aug, ap_setSub, toS_some, toS_ok, bind_ok, of_some, ap_c, ap_var, ap_bin, ap_test, asB_bl, ap_if, ap_and, ap_or, ap_not, ap_andV, ap_orV, ap_notV, ap_nil, ap_cons, ap_tup, ap_lst, ap_val, ap_box, ap_cb, ap_cbl, ap_call, ap_for, ap_lc, ap_it, ap_yes, ap_sl, ap_noPart, ap_part, part_int, ap_chain2, then_t, then_f, ap_rng1, ap_rng2, ap_rgL, ap_rgT, ap_asg, ap_zip, ap_enumA, ap_par2, add_int, sub_int, lt_int, le_int, gt_int, ge_int, eq_int, ne_int, max2_int, min2_int, int_int, int_bl, it_lst, it_tup, seq_lst, any_lst, any_tup, nox_ok, runF, startL, wipeL, capL, putL, m1, m2, sz, mul_int]
        rw [div_int (by omega)]
        simp [mGx, ap_seq, ap_set, ap_ret, ap_expr, ap_ifS, ap_skip, ap_raise, ap_aug, ap_setSub, toS_some, toS_ok, bind_ok, of_some, ap_c, ap_var, ap_bin, ap_test, asB_bl, ap_if, ap_and, ap_or, ap_not, ap_andV, ap_orV, ap_notV, ap_nil, ap_cons, ap_tup, ap_lst, ap_val, ap_box, ap_cb, ap_cbl, ap_call, ap_for, ap_lc, ap_it, ap_yes, ap_sl, ap_noPart, ap_part, part_int, ap_chain2, then_t, then_f, ap_rng1, ap_rng2, ap_rgL, ap_rgT, ap_asg, ap_zip, ap_enumA, ap_par2, add_int, sub_int, lt_int, le_int, gt_int, ge_int, eq_int, ne_int, max2_int, min2_int, int_int, int_bl, it_lst, it_tup, seq_lst, any_lst, any_tup, nox_ok, runF, startL, wipeL, capL, putL, m1, m2, sz]
      · intro x hx
        have := oz.each x hx
        exact ⟨_, rfl, rfl, rfl, fun _ => by simp [mGx, ap_seq, ap_set, ap_ret, ap_expr, ap_ifS, ap_skip, ap_raise, ap_aug, ap_setSub, toS_some, toS_ok, bind_ok, of_some, ap_c, ap_var, ap_bin, ap_test, asB_bl, ap_if, ap_and, ap_or, ap_not, ap_andV, ap_orV, ap_notV, ap_nil, ap_cons, ap_tup, ap_lst, ap_val, ap_box, ap_cb, ap_cbl, ap_call, ap_for, ap_lc, ap_it, ap_yes, ap_sl, ap_noPart, ap_part, part_int, ap_chain2, then_t, then_f, ap_rng1, ap_rng2, ap_rgL, ap_rgT, ap_asg, ap_zip, ap_enumA, ap_par2, add_int, sub_int, lt_int, le_int, gt_int, ge_int, eq_int, ne_int, max2_int, min2_int, int_int, int_bl, it_lst, it_tup, seq_lst, any_lst, any_tup, nox_ok, runF, startL, wipeL, capL, putL, m1, m2, sz, mul_int (show -(2 ^ 64) < x ∧ x < 2 ^ 64 ∨ -(2 ^ 64) < x ∧ x < 2 ^ 64 from .inl (by omega))]⟩
    · simp [hz, evenV, mGx, ap_seq, ap_set, ap_ret, ap_expr, ap_ifS, ap_skip, ap_raise, ap_aug, ap_setSub, toS_some, toS_ok, bind_ok, of_some, ap_c, ap_var, ap_bin, ap_test, asB_bl, ap_if, ap_and, ap_or, ap_not, ap_andV, ap_orV, ap_notV, ap_nil, ap_cons, ap_tup, ap_lst, ap_val, ap_box, ap_cb, ap_cbl, ap_call, ap_for, ap_lc, ap_it, ap_yes, ap_sl, ap_noPart, ap_part, part_int, ap_chain2, then_t, then_f, ap_rng1, ap_rng2, ap_rgL, ap_rgT, ap_asg, ap_zip, ap_enumA, ap_par2, add_int, sub_int, lt_int, le_int, gt_int, ge_int, eq_int, ne_int, max2_int, min2_int, int_int, int_bl, it_lst, it_tup, seq_lst, any_lst, any_tup, nox_ok, runF, startL, wipeL, capL, putL, m1, m2, sz]
  · intro x hx
    exact ⟨_, rfl, rfl, rfl, fun _ => by simp [mGx, ap_seq, ap_set, ap_ret, ap_expr, ap_ifS, ap_skip, ap_raise, ap_aug, ap_setSub, toS_some, toS_ok, bind_ok, of_some, ap_c, ap_var, ap_bin, ap_test, asB_bl, ap_if, ap_and, ap_or, ap_not, ap_andV, ap_orV, ap_notV, ap_nil, ap_cons, ap_tup, ap_lst, ap_val, ap_box, ap_cb, ap_cbl, ap_call, ap_for, ap_lc, ap_it, ap_yes, ap_sl, ap_noPart, ap_part, part_int, ap_chain2, then_t, then_f, ap_rng1, ap_rng2, ap_rgL, ap_rgT, ap_asg, ap_zip, ap_enumA, ap_par2, add_int, sub_int, lt_int, le_int, gt_int, ge_int, eq_int, ne_int, max2_int, min2_int, int_int, int_bl, it_lst, it_tup, seq_lst, any_lst, any_tup, nox_ok, runF, startL, wipeL, capL, putL, m1, m2, sz]⟩
end K16

set_option Elab.async false
set_option linter.all false
set_option maxRecDepth 100000
set_option maxHeartbeats 1000000
namespace K16
open PySem Fx
def fitT (z asks : List Int) : List Int := asks.filter fun a => decide (maxI (z ++ [0]) < a) && decide (a ≤ z.sum)
theorem f_cannot {rs : List Row} {size : Int} {asks : List Int} (hs : HS) (ok : Ok1 rs size) (ha : ∀ a ∈ asks, 1 ≤ a) (hn : asks.length ≤ 10) : ∃ e, F_cannot_fit [rowsD rs, .int size, .lst (asks.map D.int)] hs = .ok (.tup ((fitT (Z rs size) asks).map D.int)) (hs ++ e) := by
  obtain ⟨e, he⟩ := f_gaps hs ok
  have oz := Z_ok ok
  refine ⟨e, ?_⟩
  have hl := oz.len
  have hl' : (G size 0 rs).length ≤ 11 := by simpa [Z] using hl
  simp [F_cannot_fit, m_cannot_fit, mGx, ap_seq, ap_set, ap_ret, ap_expr, ap_ifS, ap_skip, ap_raise, ap_aug, ap_setSub, toS_some, toS_ok, bind_ok, of_some, ap_c, ap_var, ap_bin, ap_test, asB_bl, ap_if, ap_and, ap_or, ap_not, ap_andV, ap_orV, ap_notV, ap_nil, ap_cons, ap_tup, ap_lst, ap_val, ap_box, ap_cb, ap_cbl, ap_call, ap_for, ap_lc, ap_it, ap_yes, ap_sl, ap_noPart, ap_part, part_int, ap_chain2, then_t, then_f, ap_rng1, ap_rng2, ap_rgL, ap_rgT, ap_asg, ap_zip, ap_enumA, ap_par2, add_int, sub_int, lt_int, le_int, gt_int, ge_int, eq_int, ne_int, max2_int, min2_int, int_int, int_bl, it_lst, it_tup, seq_lst, any_lst, any_tup, nox_ok, runF, startL, wipeL, capL, putL, m1, m2, sz, he]
  rw [lc_all (enc := pD) (q := fun x => .int x.2) _ [] ?_ (by simp; omega)]
  · simp only [List.nil_append, Z_map]
    simp [mGx, ap_seq, ap_set, ap_ret, ap_expr, ap_ifS, ap_skip, ap_raise, ap_aug, ap_setSub, toS_some, toS_ok, bind_ok, of_some, ap_c, ap_var, ap_bin, ap_test, asB_bl, ap_if, ap_and, ap_or, ap_not, ap_andV, ap_orV, ap_notV, ap_nil, ap_cons, ap_tup, ap_lst, ap_val, ap_box, ap_cb, ap_cbl, ap_call, ap_for, ap_lc, ap_it, ap_yes, ap_sl, ap_noPart, ap_part, part_int, ap_chain2, then_t, then_f, ap_rng1, ap_rng2, ap_rgL, ap_rgT, ap_asg, ap_zip, ap_enumA, ap_par2, add_int, sub_int, lt_int, le_int, gt_int, ge_int, eq_int, ne_int, max2_int, min2_int, int_int, int_bl, it_lst, it_tup, seq_lst, any_lst, any_tup, nox_ok, runF, startL, wipeL, capL, putL, m1, m2, sz]
    rw [gx_all (enc := D.int) (q := fun l => .bl (decide (l < 1))) asks ?_]
    · rw [any_outs (q := fun l => decide (l < 1))]
      have hany : asks.any (fun l => decide (l < 1)) = false := by
        rw [List.any_eq_false]
        intro a h
        have := ha a h
        simp; omega
      simp [ofP_some, mGx, ap_seq, ap_set, ap_ret, ap_expr, ap_ifS, ap_skip, ap_raise, ap_aug, ap_setSub, toS_some, toS_ok, bind_ok, of_some, ap_c, ap_var, ap_bin, ap_test, asB_bl, ap_if, ap_and, ap_or, ap_not, ap_andV, ap_orV, ap_notV, ap_nil, ap_cons, ap_tup, ap_lst, ap_val, ap_box, ap_cb, ap_cbl, ap_call, ap_for, ap_lc, ap_it, ap_yes, ap_sl, ap_noPart, ap_part, part_int, ap_chain2, then_t, then_f, ap_rng1, ap_rng2, ap_rgL, ap_rgT, ap_asg, ap_zip, ap_enumA, ap_par2, add_int, sub_int, lt_int, le_int, gt_int, ge_int, eq_int, ne_int, max2_int, min2_int, int_int, int_bl, it_lst, it_tup, seq_lst, any_lst, any_tup, nox_ok, runF, startL, wipeL, capL, putL, m1, m2, sz, hany]
      rw [gx_go (enc := D.int) (p := fun a => decide (maxI (Z rs size ++ [0]) < a) && decide (a ≤ (Z rs size).sum)) (q := D.int) asks ?_]
      · rw [tup_outs _ _ (Nat.le_trans (List.length_filter_le _ _) (by omega))]
        simp [ofP_some, mGx, ap_seq, ap_set, ap_ret, ap_expr, ap_ifS, ap_skip, ap_raise, ap_aug, ap_setSub, toS_some, toS_ok, bind_ok, of_some, ap_c, ap_var, ap_bin, ap_test, asB_bl, ap_if, ap_and, ap_or, ap_not, ap_andV, ap_orV, ap_notV, ap_nil, ap_cons, ap_tup, ap_lst, ap_val, ap_box, ap_cb, ap_cbl, ap_call, ap_for, ap_lc, ap_it, ap_yes, ap_sl, ap_noPart, ap_part, part_int, ap_chain2, then_t, then_f, ap_rng1, ap_rng2, ap_rgL, ap_rgT, ap_asg, ap_zip, ap_enumA, ap_par2, add_int, sub_int, lt_int, le_int, gt_int, ge_int, eq_int, ne_int, max2_int, min2_int, int_int, int_bl, it_lst, it_tup, seq_lst, any_lst, any_tup, nox_ok, runF, startL, wipeL, capL, putL, m1, m2, sz, fitT]
      · intro a h
        refine ⟨_, rfl, rfl, ?_, fun _ => by simp [mGx, ap_seq, ap_set, ap_ret, ap_expr, ap_ifS, ap_skip, ap_raise, ap_aug, ap_setSub, toS_some, toS_ok, bind_ok, of_some, ap_c, ap_var, ap_bin, ap_test, asB_bl, ap_if, ap_and, ap_or, ap_not, ap_andV, ap_orV, ap_notV, ap_nil, ap_cons, ap_tup, ap_lst, ap_val, ap_box, ap_cb, ap_cbl, ap_call, ap_for, ap_lc, ap_it, ap_yes, ap_sl, ap_noPart, ap_part, part_int, ap_chain2, then_t, then_f, ap_rng1, ap_rng2, ap_rgL, ap_rgT, ap_asg, ap_zip, ap_enumA, ap_par2, add_int, sub_int, lt_int, le_int, gt_int, ge_int, eq_int, ne_int, max2_int, min2_int, int_int, int_bl, it_lst, it_tup, seq_lst, any_lst, any_tup, nox_ok, runF, startL, wipeL, capL, putL, m1, m2, sz]⟩
        simp [mGx, ap_seq, ap_set, ap_ret, ap_expr, ap_ifS, ap_skip, ap_raise, ap_aug, ap_setSub, toS_some, toS_ok, bind_ok, of_some, ap_c, ap_var, ap_bin, ap_test, asB_bl, ap_if, ap_and, ap_or, ap_not, ap_andV, ap_orV, ap_notV, ap_nil, ap_cons, ap_tup, ap_lst, ap_val, ap_box, ap_cb, ap_cbl, ap_call, ap_for, ap_lc, ap_it, ap_yes, ap_sl, ap_noPart, ap_part, part_int, ap_chain2, then_t, then_f, ap_rng1, ap_rng2, ap_rgL, ap_rgT, ap_asg, ap_zip, ap_enumA, ap_par2, add_int, sub_int, lt_int, le_int, gt_int, ge_int, eq_int, ne_int, max2_int, min2_int, int_int, int_bl, it_lst, it_tup, seq_lst, any_lst, any_tup, nox_ok, runF, startL, wipeL, capL, putL, m1, m2, sz, add_lst, show (Z rs size).length + 1 ≤ 16777216 by omega]
        rw [show (Z rs size).map D.int ++ [D.int 0] = (Z rs size ++ [0]).map D.int by simp]
        rw [maxC_lst _ (by simp)]
        simp [mGx, ap_seq, ap_set, ap_ret, ap_expr, ap_ifS, ap_skip, ap_raise, ap_aug, ap_setSub, toS_some, toS_ok, bind_ok, of_some, ap_c, ap_var, ap_bin, ap_test, asB_bl, ap_if, ap_and, ap_or, ap_not, ap_andV, ap_orV, ap_notV, ap_nil, ap_cons, ap_tup, ap_lst, ap_val, ap_box, ap_cb, ap_cbl, ap_call, ap_for, ap_lc, ap_it, ap_yes, ap_sl, ap_noPart, ap_part, part_int, ap_chain2, then_t, then_f, ap_rng1, ap_rng2, ap_rgL, ap_rgT, ap_asg, ap_zip, ap_enumA, ap_par2, add_int, sub_int, lt_int, le_int, gt_int, ge_int, eq_int, ne_int, max2_int, min2_int, int_int, int_bl, it_lst, it_tup, seq_lst, any_lst, any_tup, nox_ok, runF, startL, wipeL, capL, putL, m1, m2, sz]
        by_cases h1 : maxI (Z rs size ++ [0]) < a
        · simp [h1, mGx, ap_seq, ap_set, ap_ret, ap_expr, ap_ifS, ap_skip, ap_raise, ap_aug, ap_setSub, toS_some, toS_ok, bind_ok, of_some, ap_c, ap_var, ap_bin, ap_test, asB_bl, ap_if, ap_and, ap_or, ap_not, ap_andV, ap_orV, ap_notV, ap_nil, ap_cons, ap_tup, ap_lst, ap_val, ap_box, ap_cb, ap_cbl, ap_call, ap_for, ap_lc, ap_it, ap_yes, ap_sl, ap_noPart, ap_part, part_int, ap_chain2, then_t, then_f, ap_rng1, ap_rng2, ap_rgL, ap_rgT, ap_asg, ap_zip, ap_enumA, ap_par2, add_int, sub_int, lt_int, le_int, gt_int, ge_int, eq_int, ne_int, max2_int, min2_int, int_int, int_bl, it_lst, it_tup, seq_lst, any_lst, any_tup, nox_ok, runF, startL, wipeL, capL, putL, m1, m2, sz, sumC_lst]
        · simp [h1, mGx, ap_seq, ap_set, ap_ret, ap_expr, ap_ifS, ap_skip, ap_raise, ap_aug, ap_setSub, toS_some, toS_ok, bind_ok, of_some, ap_c, ap_var, ap_bin, ap_test, asB_bl, ap_if, ap_and, ap_or, ap_not, ap_andV, ap_orV, ap_notV, ap_nil, ap_cons, ap_tup, ap_lst, ap_val, ap_box, ap_cb, ap_cbl, ap_call, ap_for, ap_lc, ap_it, ap_yes, ap_sl, ap_noPart, ap_part, part_int, ap_chain2, then_t, then_f, ap_rng1, ap_rng2, ap_rgL, ap_rgT, ap_asg, ap_zip, ap_enumA, ap_par2, add_int, sub_int, lt_int, le_int, gt_int, ge_int, eq_int, ne_int, max2_int, min2_int, int_int, int_bl, it_lst, it_tup, seq_lst, any_lst, any_tup, nox_ok, runF, startL, wipeL, capL, putL, m1, m2, sz]
    · intro a h
      exact ⟨_, rfl, rfl, rfl, fun _ => by simp [mGx, ap_seq, ap_set, ap_ret, ap_expr, ap_ifS, ap_skip, ap_raise, ap_aug, ap_setSub, toS_some, toS_ok, bind_ok, of_some, ap_c, ap_var, ap_bin, ap_test, asB_bl, ap_if, ap_and, ap_or, ap_not, ap_andV, ap_orV, ap_notV, ap_nil, ap_cons, ap_tup, ap_lst, ap_val, ap_box, ap_cb, ap_cbl, ap_call, ap_for, ap_lc, ap_it, ap_yes, ap_sl, ap_noPart, ap_part, part_int, ap_chain2, then_t, then_f, ap_rng1, ap_rng2, ap_rgL, ap_rgT, ap_asg, ap_zip, ap_enumA, ap_par2, add_int, sub_int, lt_int, le_int, gt_int, ge_int, eq_int, ne_int, max2_int, min2_int, int_int, int_bl, it_lst, it_tup, seq_lst, any_lst, any_tup, nox_ok, runF, startL, wipeL, capL, putL, m1, m2, sz]⟩
  · intro x hx
    exact ⟨_, rfl, rfl, rfl, fun _ => by simp [mGx, ap_seq, ap_set, ap_ret, ap_expr, ap_ifS, ap_skip, ap_raise, ap_aug, ap_setSub, toS_some, toS_ok, bind_ok, of_some, ap_c, ap_var, ap_bin, ap_test, asB_bl, ap_if, ap_and, ap_or, ap_not, ap_andV, ap_orV, ap_notV, ap_nil, ap_cons, ap_tup, ap_lst, ap_val, ap_box, ap_cb, ap_cbl, ap_call, ap_for, ap_lc, ap_it, ap_yes, ap_sl, ap_noPart, ap_part, part_int, ap_chain2, then_t, then_f, ap_rng1, ap_rng2, ap_rgL, ap_rgT, ap_asg, ap_zip, ap_enumA, ap_par2, add_int, sub_int, lt_int, le_int, gt_int, ge_int, eq_int, ne_int, max2_int, min2_int, int_int, int_bl, it_lst, it_tup, seq_lst, any_lst, any_tup, nox_ok, runF, startL, wipeL, capL, putL, m1, m2, sz]⟩
theorem f_many {rs : List Row} {size ask : Int} (hs : HS) (ok : Ok1 rs size) (ha : 1 ≤ ask) (hb : ask ≤ 100) : ∃ e, F_how_many_fit [rowsD rs, .int size, .int ask] hs = .ok (.int ((Z rs size).map fun l => l / ask).sum) (hs ++ e) := by
  obtain ⟨e, he⟩ := f_gaps hs ok
  have oz := Z_ok ok
  refine ⟨e, ?_⟩
  have hl := oz.len
  have hl' : (G size 0 rs).length ≤ 11 := by simpa [Z] using hl
  simp [F_how_many_fit, m_how_many_fit, mGx, ap_seq, ap_set, ap_ret, ap_expr, ap_ifS, ap_skip, ap_raise, ap_aug, ap_setSub, toS_some, toS_ok, bind_ok, of_some, ap_c, ap_var, ap_bin, ap_test, asB_bl, ap_if, ap_and, ap_or, ap_not, ap_andV, ap_orV, ap_notV, ap_nil, ap_cons, ap_tup, ap_lst, ap_val, ap_box, ap_cb, ap_cbl, ap_call, ap_for, ap_lc, ap_it, ap_yes, ap_sl, ap_noPart, ap_part, part_int, ap_chain2, then_t, then_f, ap_rng1, ap_rng2, ap_rgL, ap_rgT, ap_asg, ap_zip, ap_enumA, ap_par2, add_int, sub_int, lt_int, le_int, gt_int, ge_int, eq_int, ne_int, max2_int, min2_int, int_int, int_bl, it_lst, it_tup, seq_lst, any_lst, any_tup, nox_ok, runF, startL, wipeL, capL, putL, m1, m2, sz, he, show ¬ ask < 1 by omega]
  rw [gx_all (enc := pD) (q := fun x => .int (x.2 / ask)) _ ?_]
  · rw [sum_go (fun x : Row => x.2 / ask) (G size 0 rs) 0 100 (fun x hx => by
      have := oz.each x.2 (List.mem_map.mpr ⟨x, hx, rfl⟩)
      have h1 := Int.ediv_nonneg (show 0 ≤ x.2 by omega) (show 0 ≤ ask by omega)
      have h2 := Int.ediv_le_self ask (show 0 ≤ x.2 by omega)
      omega) (by omega) (by omega) (by omega) (by omega)]
    simp [ofP_some, mGx, ap_seq, ap_set, ap_ret, ap_expr, ap_ifS, ap_skip, ap_raise, ap_aug, ap_setSub, toS_some, toS_ok, bind_ok, of_some, ap_c, ap_var, ap_bin, ap_test, asB_bl, ap_if, ap_and, ap_or, ap_not, ap_andV, ap_orV, ap_notV, ap_nil, ap_cons, ap_tup, ap_lst, ap_val, ap_box, ap_cb, ap_cbl, ap_call, ap_for, ap_lc, ap_it, ap_yes, ap_sl, ap_noPart, ap_part, part_int, ap_chain2, then_t, then_f, ap_rng1, ap_rng2, ap_rgL, ap_rgT, ap_asg, ap_zip, ap_enumA, ap_par2, add_int, sub_int, lt_int, le_int, gt_int, ge_int, eq_int, ne_int, max2_int, min2_int, int_int, int_bl, it_lst, it_tup, seq_lst, any_lst, any_tup, nox_ok, runF, startL, wipeL, capL, putL, m1, m2, sz, Z, Function.comp_def]
  · intro x hx
    exact ⟨_, rfl, rfl, rfl, fun _ => by simp [mGx, ap_seq, ap_set, ap_ret, ap_expr, ap_ifS, ap_skip, ap_raise, ap_aug, ap_setSub, toS_some, toS_ok, bind_ok, of_some, ap_c, ap_var, ap_bin, ap_test, asB_bl, ap_if, ap_and, ap_or, ap_not, ap_andV, ap_orV, ap_notV, ap_nil, ap_cons, ap_tup, ap_lst, ap_val, ap_box, ap_cb, ap_cbl, ap_call, ap_for, ap_lc, ap_it, ap_yes, ap_sl, ap_noPart, ap_part, part_int, ap_chain2, then_t, then_f, ap_rng1, ap_rng2, ap_rgL, ap_rgT, ap_asg, ap_zip, ap_enumA, ap_par2, add_int, sub_int, lt_int, le_int, gt_int, ge_int, eq_int, ne_int, max2_int, min2_int, int_int, int_bl, it_lst, it_tup, seq_lst, any_lst, any_tup, nox_ok, runF, startL, wipeL, capL, putL, m1, m2, sz, div_int (show 0 < ask ∧ ask < 1073741824 by omega)]⟩
end K16

set_option Elab.async false
set_option linter.all false
set_option maxRecDepth 100000
set_option maxHeartbeats 1000000
namespace K16
open PySem L2 Fx
section
variable {r s d f : Option D} {long : Int} {hs : HS}
theorem wstep (n : Nat) (p : Int) (hp : -(2 ^ 64) < p ∧ p < 2 ^ 64) : whD t_gap_counts_0 (mAug 5 (pureI mulIF) (mC (.int 2))) (n + 1) [r, s, d, f, some (.int long), some (.int p)] hs =
    if 2 * p ≤ long then whD t_gap_counts_0 (mAug 5 (pureI mulIF) (mC (.int 2))) n [r, s, d, f, some (.int long), some (.int (p * 2))] hs else .nx [r, s, d, f, some (.int long), some (.int p)] hs := by
  have e : mulIF hs (.int p) (.int 2) = some (.int (p * 2)) := if_pos (.inl hp)
  rw [whD]
  simp [t_gap_counts_0, mGx, ap_seq, ap_set, ap_ret, ap_expr, ap_ifS, ap_skip, ap_raise, ap_aug, ap_setSub, toS_some, toS_ok, bind_ok, of_some, ap_c, ap_var, ap_bin, ap_test, asB_bl, ap_if, ap_and, ap_or, ap_not, ap_andV, ap_orV, ap_notV, ap_nil, ap_cons, ap_tup, ap_lst, ap_val, ap_box, ap_cb, ap_cbl, ap_call, ap_for, ap_lc, ap_it, ap_yes, ap_sl, ap_noPart, ap_part, part_int, ap_chain2, then_t, then_f, ap_rng1, ap_rng2, ap_rgL, ap_rgT, ap_asg, ap_zip, ap_enumA, ap_par2, add_int, sub_int, lt_int, le_int, gt_int, ge_int, eq_int, ne_int, max2_int, min2_int, int_int, int_bl, it_lst, it_tup, seq_lst, any_lst, any_tup, nox_ok, runF, startL, wipeL, capL, putL, m1, m2, sz, mul_int, pureI, e]
theorem wcls (h : 1 ≤ long) (h' : long ≤ 63) : whD t_gap_counts_0 (mAug 5 (pureI mulIF) (mC (.int 2))) 64 [r, s, d, f, some (.int long), some (.int 1)] hs = .nx [r, s, d, f, some (.int long), some (.int (cls long))] hs := by
  rw [wstep 63 1 (by omega), wstep 62 _ (by omega), wstep 61 _ (by omega), wstep 60 _ (by omega), wstep 59 _ (by omega), wstep 58 _ (by omega)]
  unfold cls
  repeat' split
  all_goals first | omega | rfl
end
def kvD (kvs : List (Int × Int)) : List (Key × D) := kvs.map fun p => (.inl p.1, .int p.2)
theorem lk_kv : ∀ (kvs : List (Int × Int)) (k : Int), lk (kvD kvs) (.inl k) = (kvs.find? fun p => decide (p.1 = k)).map fun p => .int p.2
  | [], k => rfl
  | p :: r, k => by
    have ih := lk_kv r k
    unfold lk kvD at ih ⊢
    simp only [List.map_cons, List.find?_cons]
    by_cases h : p.1 = k
    · simp [h]
    · have h' : ¬ ((Sum.inl p.1 : Key) = .inl k) := fun e => h (Sum.inl.inj e)
      simp only [h, h', decide_false]
      exact ih
theorem Cnt.lk {kvs : List (Int × Int)} {cs : List Int} (h : Cnt kvs cs) (k : Int) : (lk (kvD kvs) (.inl k)).getD (.int 0) = .int (cs.count k : Nat) ∧ ((Fx.lk (kvD kvs) (.inl k)).isSome = kvs.any fun p => decide (p.1 = k)) := by
  rw [lk_kv]
  cases hf : kvs.find? fun p => decide (p.1 = k) with
  | none =>
    rw [List.find?_eq_none] at hf
    have hk : k ∉ cs := fun hm => by
      obtain ⟨p, hp, e⟩ := List.mem_map.mp ((h.mem k).mpr hm)
      exact hf p hp (by simp [e])
    refine ⟨by simp [List.count_eq_zero_of_not_mem hk], ?_⟩
    symm
    rw [Option.map_none, Option.isSome_none, List.any_eq_false]
    exact hf
  | some p =>
    have hp := List.mem_of_find?_eq_some hf
    have hk := List.find?_some hf
    simp at hk
    refine ⟨by simp [h.cnt p hp, hk], ?_⟩
    symm
    rw [Option.map_some, Option.isSome_some, List.any_eq_true]
    exact ⟨p, hp, by simp [hk]⟩
theorem Cnt.put {kvs : List (Int × Int)} {cs : List Int} (h : Cnt kvs cs) (k : Int) : putD (kvD kvs) (.inl k) (.int ((cs.count k : Nat) + 1)) = kvD (K16.up kvs k) := by
  unfold putD K16.up
  rw [(h.lk k).2]
  split
  · unfold kvD
    rw [List.map_map, List.map_map]
    apply List.map_congr_left
    intro p hp
    have := h.cnt p hp
    simp only [Function.comp]
    by_cases e : p.1 = k
    · subst e; simp [this]
    · have h' : ¬ ((Sum.inl p.1 : Key) = .inl k) := fun x => e (Sum.inl.inj x)
      simp only [e, h', if_false]
  · rename_i hn
    have hk : k ∉ cs := fun hm => by
      obtain ⟨p, hp, e⟩ := List.mem_map.mp ((h.mem k).mpr hm)
      exact hn (List.any_eq_true.mpr ⟨p, hp, by simp [e]⟩)
    simp [kvD, List.count_eq_zero_of_not_mem hk]
theorem dget2_ok {md mk mx : M D} {ls : LS} {hs : HS} {n : Nat} {kvs : List (Key × D)} {k x : D} {kk : Key} (h1 : md ls hs = .ok (.ref n) hs) (h2 : dctAt hs n = some kvs) (h3 : mk ls hs = .ok k hs) (h4 : mx ls hs = .ok x hs) (h5 : k.key = some kk) :
    mDGet2 md mk mx ls hs = .ok ((lk kvs kk).getD x) hs := by
  simp [mDGet2, h1, bind_ok, h2, h3, h4, h5]
theorem dct_at_new {h e : HS} {b : Bool} {kvs : List (Key × D)} : dctAt (h ++ (.dct b kvs :: e)) h.length = some kvs := by
  unfold dctAt
  simp
theorem lst_at_dct {h e : HS} {b : Bool} {kvs : List (Key × D)} : lstAt (h ++ (.dct b kvs :: e)) h.length = none := by
  unfold lstAt
  simp
theorem opn_at_new {h e : HS} {kvs : List (Key × D)} : opnAt (h ++ (.dct false kvs :: e)) h.length = some kvs := by
  unfold opnAt
  simp
theorem set_dct_new {h e : HS} {a b : Ob} : (h ++ (a :: e)).set h.length b = h ++ (b :: e) := by
  rw [List.set_append_right _ _ (Nat.le_refl _)]
  simp
theorem set_d {hs : HS} {n : Nat} {i : Int} {v : D} {kvs : List (Key × D)} (h1 : lstAt hs n = none) (h2 : opnAt hs n = some kvs) (h3 : kvs.length < 16777216) : setF hs (.ref n) (.int i) v = some (hs.set n (.dct false (putD kvs (.inl i) v))) := by
  simp [setF, orS, setLF, setDF, h1, h2, D.key, sz, h3]
theorem ix_dct {hs : HS} {n : Nat} {i : Int} {d : D} {kvs : List (Key × D)} (h1 : lstAt hs n = none) (h2 : dctAt hs n = some kvs) (h3 : lk kvs (.inl i) = some d) : ixF hs (.ref n) (.int i) = some d := by
  simp [ixF, orF, ixSeq, ixDct, seqT, h1, h2, D.key, h3]
theorem b_counts {rs0 size0 a : Option D} {long : Int} {hs e : HS} {kvs : List (Int × Int)} {cs : List Int} {c : Option D} (h : Cnt kvs cs) (hl : kvs.length ≤ 100) (h1 : 1 ≤ long) (h2 : long ≤ 63) :
    b_gap_counts_1 [rs0, size0, some (.ref hs.length), a, some (.int long), c] (hs ++ (.dct false (kvD kvs) :: e)) =
      .nx [rs0, size0, some (.ref hs.length), a, some (.int long), some (.int (cls long))] (hs ++ (.dct false (kvD (up kvs (cls long))) :: e)) := by
  have hl' : (kvD kvs).length < 16777216 := by simp [kvD]; omega
  simp [b_gap_counts_1, mGx, ap_seq, ap_set, ap_ret, ap_expr, ap_ifS, ap_skip, ap_raise, ap_aug, ap_setSub, toS_some, toS_ok, bind_ok, of_some, ap_c, ap_var, ap_bin, ap_test, asB_bl, ap_if, ap_and, ap_or, ap_not, ap_andV, ap_orV, ap_notV, ap_nil, ap_cons, ap_tup, ap_lst, ap_val, ap_box, ap_cb, ap_cbl, ap_call, ap_for, ap_lc, ap_it, ap_yes, ap_sl, ap_noPart, ap_part, part_int, ap_chain2, then_t, then_f, ap_rng1, ap_rng2, ap_rgL, ap_rgT, ap_asg, ap_zip, ap_enumA, ap_par2, add_int, sub_int, lt_int, le_int, gt_int, ge_int, eq_int, ne_int, max2_int, min2_int, int_int, int_bl, it_lst, it_tup, seq_lst, any_lst, any_tup, nox_ok, runF, startL, wipeL, capL, putL, m1, m2, sz, mWhile, wcls h1 h2]
  rw [dget2_ok (kk := .inl (cls long)) rfl dct_at_new rfl rfl rfl, (h.lk _).1]
  simp [mGx, ap_seq, ap_set, ap_ret, ap_expr, ap_ifS, ap_skip, ap_raise, ap_aug, ap_setSub, toS_some, toS_ok, bind_ok, of_some, ap_c, ap_var, ap_bin, ap_test, asB_bl, ap_if, ap_and, ap_or, ap_not, ap_andV, ap_orV, ap_notV, ap_nil, ap_cons, ap_tup, ap_lst, ap_val, ap_box, ap_cb, ap_cbl, ap_call, ap_for, ap_lc, ap_it, ap_yes, ap_sl, ap_noPart, ap_part, part_int, ap_chain2, then_t, then_f, ap_rng1, ap_rng2, ap_rgL, ap_rgT, ap_asg, ap_zip, ap_enumA, ap_par2, add_int, sub_int, lt_int, le_int, gt_int, ge_int, eq_int, ne_int, max2_int, min2_int, int_int, int_bl, it_lst, it_tup, seq_lst, any_lst, any_tup, nox_ok, runF, startL, wipeL, capL, putL, m1, m2, sz, set_d lst_at_dct opn_at_new hl', set_dct_new]
  rw [← Cnt.put h]
end K16

set_option Elab.async false
set_option linter.all false
set_option maxRecDepth 100000
set_option maxHeartbeats 1000000
namespace K16
open PySem L2 Fx
theorem lk_none {kvs : List (Key × D)} {k : Key} (h : k ∉ kvs.map (·.1)) : lk kvs k = none := by
  unfold lk
  rw [Option.map_eq_none_iff, List.find?_eq_none]
  intro p hp e
  exact h (List.mem_map.mpr ⟨p, hp, by simpa using e⟩)
theorem dc_ints {own : List Nat} {tg : MG} {ek ev : M D} {hs hs0 : HS} {ls : LS} {v : Int → D} : ∀ (xs : List Int) (acc : List (Key × D)), xs.Nodup → (∀ x ∈ xs, (Sum.inl x : Key) ∉ acc.map (·.1)) → acc.length + xs.length < 16777216 →
    (∀ x ∈ xs, ∃ ps, tg (.int x) = some ps ∧ (ps.all fun p => decide (p.1 ∈ own)) = true ∧ ek (putL ls ps) hs = .ok (.int x) hs ∧ ev (putL ls ps) hs = .ok (v x) hs) →
    dcD own tg mYes ek ev none hs0 ls (xs.map D.int) acc hs = .ok (acc ++ xs.map fun x => (.inl x, v x)) hs
  | [], acc, _, _, _, _ => by simp [dcD, guardOk]
  | x :: r, acc, hn, ha, hl, h => by
    obtain ⟨ps, h1, h2, h3, h4⟩ := h x List.mem_cons_self
    rw [List.nodup_cons] at hn
    rw [List.length_cons] at hl
    have hp : putD acc (.inl x) (v x) = acc ++ [(.inl x, v x)] := by
      unfold putD
      rw [lk_none (ha x List.mem_cons_self)]
      rfl
    simp only [List.map_cons, dcD, guardOk, if_true, h1, h2, ap_yes, nox_ok, bind_ok, h3, h4, D.key]
    rw [if_pos (show acc.length < sizeLine by rw [sz]; omega), hp, dc_ints r _ hn.2 (fun y hy => by
      rw [List.map_append, List.mem_append]
      rintro (hm | hm)
      · exact ha y (List.mem_cons_of_mem _ hy) hm
      · simp at hm; subst hm; exact hn.1 hy) (by simp; omega) (fun y hy => h y (List.mem_cons_of_mem _ hy))]
    simp
def CL (z : List Int) : List (Int × Int) := (([1, 2, 4, 8, 16, 32] : List Int).filter fun k => decide (k ∈ z.map cls)).map fun k => (k, ((z.map cls).count k : Nat))
theorem keysI_kv (kvs : List (Int × Int)) : keysI (kvD kvs) = some (kvs.map (·.1)) := by
  induction kvs with
  | nil => rfl
  | cons p r ih =>
    have e : kvD (p :: r) = (.inl p.1, .int p.2) :: kvD r := rfl
    rw [e]
    simp [keysI, ih]
theorem f_counts {rs : List Row} {size : Int} (hs : HS) (ok : Ok1 rs size) (h35 : size ≤ 35) : ∃ e n, F_gap_counts [rowsD rs, .int size] hs = .ok (.ref n) (hs ++ e) ∧ opnD (hs ++ e) n = some (kvD (CL (Z rs size))) := by
  obtain ⟨e, he⟩ := f_gaps (hs ++ [.dct false []]) ok
  have oz := Z_ok ok
  have hl := oz.len
  have key := for_go (enc := pD) (tg := mgTup [mgName 3, mgName 4]) (body := b_gap_counts_1) (hs0 := hs ++ .dct false [] :: e) (xs0 := G size 0 rs)
    (fun pre ls hs' => ∃ kvs a b c, ls = [some (rowsD rs), some (.int size), some (.ref hs.length), a, b, c] ∧ hs' = hs ++ (.dct false (kvD kvs) :: e) ∧ Cnt kvs (pre.map fun p => cls p.2) ∧ kvs.length ≤ pre.length)
    (fun pre x post ls hs' e0 ⟨kvs, a, b, c, e1, e2, hC, hL⟩ => by
      subst e1
      subst e2
      have hx := G_each ok.ch x (by rw [e0]; simp)
      have hp : pre.length ≤ 11 := by
        have : (G size 0 rs).length ≤ 11 := by simpa [Z] using hl
        rw [e0] at this; simp at this; omega
      refine ⟨_, rfl, _, _, .inl (b_counts hC (by omega) (by omega) (by omega)), _, _, _, _, rfl, rfl, ?_, ?_⟩
      · rw [List.map_append]; exact hC.up _
      · rw [List.length_append]
        unfold K16.up
        split <;> simp <;> omega)
    (G size 0 rs) [] [some (rowsD rs), some (.int size), some (.ref hs.length), none, none, none] (hs ++ .dct false [] :: e) rfl ⟨[], none, none, none, rfl, rfl, Cnt.nil, by simp⟩
  obtain ⟨ls, h2, e1, kvs, a, b, c, rfl, rfl, hC, hL⟩ := key
  have hg : (G size 0 rs).length ≤ 11 := by simpa [Z] using hl
  have hz : (G size 0 rs).map (fun p => cls p.2) = (Z rs size).map cls := by simp [Z]
  rw [hz] at hC
  have hk := keys_perm hC (fun c hc => by obtain ⟨x, _, rfl⟩ := List.mem_map.mp hc; exact cls_mem x)
  have hs2 : sortI (kvs.map (·.1)) = ([1, 2, 4, 8, 16, 32] : List Int).filter fun k => decide (k ∈ (Z rs size).map cls) :=
    (sortI_uniq hk (List.Pairwise.filter _ (by decide))).symm
  have hlen : (kvs.map (·.1)).length < 64 := by rw [List.length_map]; omega
  have hsd : sortedDC (hs ++ .dct false (kvD kvs) :: e) [.ref hs.length] = some ((([1, 2, 4, 8, 16, 32] : List Int).filter fun k => decide (k ∈ (Z rs size).map cls)).map .int) := by
    simp only [sortedDC, dct_at_new, Option.bind_some, keysI_kv, hlen, if_true, hs2]
  have hd := dc_ints (own := [5]) (tg := mgName 5) (ek := mVar 5) (ev := mBin ixF (mVar 2) (mVar 5)) (hs := hs ++ .dct false (kvD kvs) :: e) (hs0 := hs ++ .dct false (kvD kvs) :: e) (ls := wipeL [some (rowsD rs), some (.int size), some (.ref hs.length), a, b, c] [5]) (v := fun k => .int (((Z rs size).map cls).count k : Nat))
    (([1, 2, 4, 8, 16, 32] : List Int).filter fun k => decide (k ∈ (Z rs size).map cls)) [] (List.Pairwise.filter _ (by decide)) (by simp) (by have := List.length_filter_le (fun k => decide (k ∈ (Z rs size).map cls)) ([1, 2, 4, 8, 16, 32] : List Int); simp at this ⊢; omega)
    (fun x hx => by
      have hxm : x ∈ (Z rs size).map cls := by simpa using (List.mem_filter.mp hx).2
      refine ⟨_, rfl, rfl, by simp [mGx, ap_seq, ap_set, ap_ret, ap_expr, ap_ifS, ap_skip, ap_raise, ap_aug, ap_setSub, toS_some, toS_ok, bind_ok, of_some, ap_c, ap_var, ap_bin, ap_test, asB_bl, ap_if, ap_and, ap_or, ap_not, ap_andV, ap_orV, ap_notV, ap_nil, ap_cons, ap_tup, ap_lst, ap_val, ap_box, ap_cb, ap_cbl, ap_call, ap_for, ap_lc, ap_it, ap_yes, ap_sl, ap_noPart, ap_part, part_int, ap_chain2, then_t, then_f, ap_rng1, ap_rng2, ap_rgL, ap_rgT, ap_asg, ap_zip, ap_enumA, ap_par2, add_int, sub_int, lt_int, le_int, gt_int, ge_int, eq_int, ne_int, max2_int, min2_int, int_int, int_bl, it_lst, it_tup, seq_lst, any_lst, any_tup, nox_ok, runF, startL, wipeL, capL, putL, m1, m2, sz], ?_⟩
      simp [mGx, ap_seq, ap_set, ap_ret, ap_expr, ap_ifS, ap_skip, ap_raise, ap_aug, ap_setSub, toS_some, toS_ok, bind_ok, of_some, ap_c, ap_var, ap_bin, ap_test, asB_bl, ap_if, ap_and, ap_or, ap_not, ap_andV, ap_orV, ap_notV, ap_nil, ap_cons, ap_tup, ap_lst, ap_val, ap_box, ap_cb, ap_cbl, ap_call, ap_for, ap_lc, ap_it, ap_yes, ap_sl, ap_noPart, ap_part, part_int, ap_chain2, then_t, then_f, ap_rng1, ap_rng2, ap_rgL, ap_rgT, ap_asg, ap_zip, ap_enumA, ap_par2, add_int, sub_int, lt_int, le_int, gt_int, ge_int, eq_int, ne_int, max2_int, min2_int, int_int, int_bl, it_lst, it_tup, seq_lst, any_lst, any_tup, nox_ok, runF, startL, wipeL, capL, putL, m1, m2, sz]
      have h1 := (hC.lk x).1
      have h2 := (hC.lk x).2
      obtain ⟨p, hp, hpx⟩ := List.mem_map.mp ((hC.mem x).mpr hxm)
      have h3 : (lk (kvD kvs) (.inl x)).isSome = true := by
        rw [h2, List.any_eq_true]
        exact ⟨p, hp, by simp [hpx]⟩
      obtain ⟨d, hd⟩ := Option.isSome_iff_exists.mp h3
      rw [hd] at h1
      rw [ix_dct lst_at_dct dct_at_new hd]
      simp at h1
      simp [of_some, h1])
  refine ⟨.dct false (kvD kvs) :: (e ++ [.dct false (kvD (CL (Z rs size)))]), hs.length + (e.length + 1), ?_, ?_⟩
  · have e' : hs ++ [Ob.dct false []] ++ e = hs ++ .dct false [] :: e := by simp
    rw [e'] at he
    simp [F_gap_counts, m_gap_counts, mDNew, mDc, mGx, ap_seq, ap_set, ap_ret, ap_expr, ap_ifS, ap_skip, ap_raise, ap_aug, ap_setSub, toS_some, toS_ok, bind_ok, of_some, ap_c, ap_var, ap_bin, ap_test, asB_bl, ap_if, ap_and, ap_or, ap_not, ap_andV, ap_orV, ap_notV, ap_nil, ap_cons, ap_tup, ap_lst, ap_val, ap_box, ap_cb, ap_cbl, ap_call, ap_for, ap_lc, ap_it, ap_yes, ap_sl, ap_noPart, ap_part, part_int, ap_chain2, then_t, then_f, ap_rng1, ap_rng2, ap_rgL, ap_rgT, ap_asg, ap_zip, ap_enumA, ap_par2, add_int, sub_int, lt_int, le_int, gt_int, ge_int, eq_int, ne_int, max2_int, min2_int, int_int, int_bl, it_lst, it_tup, seq_lst, any_lst, any_tup, nox_ok, runF, startL, wipeL, capL, putL, m1, m2, sz, he, e1, hsd]
    simp only [mGx, ap_seq, ap_set, ap_ret, ap_expr, ap_ifS, ap_skip, ap_raise, ap_aug, ap_setSub, toS_some, toS_ok, bind_ok, of_some, ap_c, ap_var, ap_bin, ap_test, asB_bl, ap_if, ap_and, ap_or, ap_not, ap_andV, ap_orV, ap_notV, ap_nil, ap_cons, ap_tup, ap_lst, ap_val, ap_box, ap_cb, ap_cbl, ap_call, ap_for, ap_lc, ap_it, ap_yes, ap_sl, ap_noPart, ap_part, part_int, ap_chain2, then_t, then_f, ap_rng1, ap_rng2, ap_rgL, ap_rgT, ap_asg, ap_zip, ap_enumA, ap_par2, add_int, sub_int, lt_int, le_int, gt_int, ge_int, eq_int, ne_int, max2_int, min2_int, int_int, int_bl, it_lst, it_tup, seq_lst, any_lst, any_tup, nox_ok, runF, startL, wipeL, capL, putL, m1, m2, sz] at hd
    rw [List.set] at hd
    simp at hd
    rw [hd]
    simp [bind_ok, CL, kvD, toS_ok]
  · unfold opnD
    rw [show hs ++ Ob.dct false (kvD kvs) :: (e ++ [.dct false (kvD (CL (Z rs size)))]) = (hs ++ Ob.dct false (kvD kvs) :: e) ++ [.dct false (kvD (CL (Z rs size)))] by simp, List.getElem?_append_right (by simp)]
    simp
end K16

set_option Elab.async false
set_option linter.all false
set_option maxRecDepth 100000
set_option maxHeartbeats 1000000
namespace K16
open PySem L2 Fx
def mark (n span : Int) : Str := if n = 0 then "." else if n = span then "#" else "+"
theorem mark_len (n span : Int) : (mark n span).length = 1 := by
  unfold mark
  split
  · rfl
  · split <;> rfl
theorem mark_ok (n span : Int) : PyData.strOk (mark n span) = true := by
  unfold mark
  split
  · decide +kernel
  · split <;> decide +kernel
theorem ok_app {s t : Str} (h : PyData.strOk s = true) (h' : PyData.strOk t = true) : PyData.strOk (s ++ t) = true := by
  unfold PyData.strOk at *
  rw [Str.cps_append]
  simp_all
def nextE (size wide here t : Int) : Int := here + size / wide + (if t < size % wide then 1 else 0)
def mapStep (rs : List Row) (size wide : Int) (q : Str × Int) (t : Int) : Str × Int := (q.1 ++ mark ((rs.map (ov q.2 (nextE size wide q.2 t))).sum) (nextE size wide q.2 t - q.2), nextE size wide q.2 t)
def mapS (rs : List Row) (size wide : Int) (ts : List Int) : Str × Int := ts.foldl (mapStep rs size wide) ("", 0)
theorem mapS_snoc (rs : List Row) (size wide : Int) (ts : List Int) (t : Int) : mapS rs size wide (ts ++ [t]) = mapStep rs size wide (mapS rs size wide ts) t := by
  unfold mapS
  rw [List.foldl_append]; rfl
theorem next_le {size wide here t : Int} (h1 : 1 ≤ size) (h2 : size ≤ 100) (h3 : 1 ≤ wide) : here ≤ nextE size wide here t ∧ nextE size wide here t ≤ here + 101 := by
  have h1 := Int.ediv_nonneg (show 0 ≤ size by omega) (show 0 ≤ wide by omega)
  have h2 := Int.ediv_le_self wide (show 0 ≤ size by omega)
  unfold nextE
  split <;> omega
theorem mapS_ok {rs : List Row} {size wide : Int} (h1 : 1 ≤ size) (h2 : size ≤ 100) (h3 : 1 ≤ wide) (ts : List Int) : (mapS rs size wide ts).1.length ≤ ts.length ∧ PyData.strOk (mapS rs size wide ts).1 = true ∧ 0 ≤ (mapS rs size wide ts).2 ∧ (mapS rs size wide ts).2 ≤ 101 * ts.length := by
  have gen : ∀ (ts : List Int) (q : Str × Int), PyData.strOk q.1 = true → 0 ≤ q.2 → (ts.foldl (mapStep rs size wide) q).1.length ≤ q.1.length + ts.length ∧ PyData.strOk (ts.foldl (mapStep rs size wide) q).1 = true ∧ 0 ≤ (ts.foldl (mapStep rs size wide) q).2 ∧ (ts.foldl (mapStep rs size wide) q).2 ≤ q.2 + 101 * ts.length := by
    intro ts
    induction ts with
    | nil => intro q h h0; simp [h, h0]
    | cons t r ih =>
      intro q h h0
      have hn := @next_le size wide q.2 t h1 h2 h3
      obtain ⟨a, b, c, d⟩ := ih (mapStep rs size wide q t) (ok_app h (mark_ok _ _)) (by unfold mapStep; dsimp only; omega)
      rw [List.foldl_cons]
      refine ⟨?_, b, c, ?_⟩
      · have e : (mapStep rs size wide q t).1.length = q.1.length + 1 := by
          unfold mapStep
          rw [Str.length_append, mark_len]
        rw [e] at a
        simp; omega
      · unfold mapStep at d
        dsimp only at d
        simp
        unfold mapStep
        omega
  have := gen ts ("", 0) (by decide +kernel) (by decide)
  rw [show (("", 0) : Str × Int).1.length = 0 from rfl] at this
  unfold mapS
  simpa using this
theorem ov_le (a b : Int) (p : Row) (h : 0 ≤ p.2) : 0 ≤ ov a b p ∧ ov a b p ≤ p.2 := by
  unfold ov; omega
theorem b_map {rs : List Row} {size wide here t : Int} {s : Str} {u en : Option D} (hs : HS) (ok : Ok1 rs size) (h1 : 1 ≤ wide) (h2 : wide ≤ 100) (hl : s.length ≤ 100) : ∃ u', b_map_text_1 [some (rowsD rs), some (.int size), some (.int wide), some (.str s), some (.int t), u, en, some (.int here)] hs =
    .nx [some (rowsD rs), some (.int size), some (.int wide), some (.str (mapStep rs size wide (s, here) t).1), some (.int t), u', some (.int (nextE size wide here t)), some (.int (mapStep rs size wide (s, here) t).2)] hs := by
  have s1 := ok.s1
  have s2 := ok.s2
  have s3 := ok.len
  refine ⟨some (.int ((rs.map (ov here (nextE size wide here t))).sum)), ?_⟩
  have hi : (if t < size % wide then D.int 1 else D.int 0) = .int (if t < size % wide then 1 else 0) := by split <;> rfl
  have hm := mark_len ((rs.map (ov here (nextE size wide here t))).sum) (nextE size wide here t - here)
  simp [b_map_text_1, mGx, ap_seq, ap_set, ap_ret, ap_expr, ap_ifS, ap_skip, ap_raise, ap_aug, ap_setSub, toS_some, toS_ok, bind_ok, of_some, ap_c, ap_var, ap_bin, ap_test, asB_bl, ap_if, ap_and, ap_or, ap_not, ap_andV, ap_orV, ap_notV, ap_nil, ap_cons, ap_tup, ap_lst, ap_val, ap_box, ap_cb, ap_cbl, ap_call, ap_for, ap_lc, ap_it, ap_yes, ap_sl, ap_noPart, ap_part, part_int, ap_chain2, then_t, then_f, ap_rng1, ap_rng2, ap_rgL, ap_rgT, ap_asg, ap_zip, ap_enumA, ap_par2, add_int, sub_int, lt_int, le_int, gt_int, ge_int, eq_int, ne_int, max2_int, min2_int, int_int, int_bl, it_lst, it_tup, seq_lst, any_lst, any_tup, nox_ok, runF, startL, wipeL, capL, putL, m1, m2, sz, div_int (show 0 < wide ∧ wide < 1073741824 by omega), mod_int (show 0 < wide by omega)]
  rw [show (if t < size % wide then R.ok (D.int 1) hs else R.ok (D.int 0) hs) = R.ok (.int (if t < size % wide then 1 else 0)) hs by split <;> rfl]
  simp only [mGx, ap_seq, ap_set, ap_ret, ap_expr, ap_ifS, ap_skip, ap_raise, ap_aug, ap_setSub, toS_some, toS_ok, bind_ok, of_some, ap_c, ap_var, ap_bin, ap_test, asB_bl, ap_if, ap_and, ap_or, ap_not, ap_andV, ap_orV, ap_notV, ap_nil, ap_cons, ap_tup, ap_lst, ap_val, ap_box, ap_cb, ap_cbl, ap_call, ap_for, ap_lc, ap_it, ap_yes, ap_sl, ap_noPart, ap_part, part_int, ap_chain2, then_t, then_f, ap_rng1, ap_rng2, ap_rgL, ap_rgT, ap_asg, ap_zip, ap_enumA, ap_par2, add_int, sub_int, lt_int, le_int, gt_int, ge_int, eq_int, ne_int, max2_int, min2_int, int_int, int_bl, it_lst, it_tup, seq_lst, any_lst, any_tup, nox_ok, runF, startL, wipeL, capL, putL, m1, m2, sz]
  rw [show here + size / wide + (if t < size % wide then 1 else 0) = nextE size wide here t from rfl]
  simp [mGx, ap_seq, ap_set, ap_ret, ap_expr, ap_ifS, ap_skip, ap_raise, ap_aug, ap_setSub, toS_some, toS_ok, bind_ok, of_some, ap_c, ap_var, ap_bin, ap_test, asB_bl, ap_if, ap_and, ap_or, ap_not, ap_andV, ap_orV, ap_notV, ap_nil, ap_cons, ap_tup, ap_lst, ap_val, ap_box, ap_cb, ap_cbl, ap_call, ap_for, ap_lc, ap_it, ap_yes, ap_sl, ap_noPart, ap_part, part_int, ap_chain2, then_t, then_f, ap_rng1, ap_rng2, ap_rgL, ap_rgT, ap_asg, ap_zip, ap_enumA, ap_par2, add_int, sub_int, lt_int, le_int, gt_int, ge_int, eq_int, ne_int, max2_int, min2_int, int_int, int_bl, it_lst, it_tup, seq_lst, any_lst, any_tup, nox_ok, runF, startL, wipeL, capL, putL, m1, m2, sz, it_rows]
  rw [gx_all (enc := pD) (q := fun p => .int (ov here (nextE size wide here t) p)) rs ?_]
  · rw [sum_go (ov here (nextE size wide here t)) rs 0 100 (fun p hp => by
      obtain ⟨g1, g2, g3⟩ := ok.ch.each p hp
      have := ov_le here (nextE size wide here t) p (by omega)
      omega) (by omega) (by omega) (by omega) (by omega)]
    simp [ofP_some, mGx, ap_seq, ap_set, ap_ret, ap_expr, ap_ifS, ap_skip, ap_raise, ap_aug, ap_setSub, toS_some, toS_ok, bind_ok, of_some, ap_c, ap_var, ap_bin, ap_test, asB_bl, ap_if, ap_and, ap_or, ap_not, ap_andV, ap_orV, ap_notV, ap_nil, ap_cons, ap_tup, ap_lst, ap_val, ap_box, ap_cb, ap_cbl, ap_call, ap_for, ap_lc, ap_it, ap_yes, ap_sl, ap_noPart, ap_part, part_int, ap_chain2, then_t, then_f, ap_rng1, ap_rng2, ap_rgL, ap_rgT, ap_asg, ap_zip, ap_enumA, ap_par2, add_int, sub_int, lt_int, le_int, gt_int, ge_int, eq_int, ne_int, max2_int, min2_int, int_int, int_bl, it_lst, it_tup, seq_lst, any_lst, any_tup, nox_ok, runF, startL, wipeL, capL, putL, m1, m2, sz]
    generalize hq : (rs.map (ov here (nextE size wide here t))).sum = q at hm ⊢
    have hfin : ∀ (d : Str), iaddF hs (.str s) (.str d) = if s.length + d.length ≤ sizeLine then some (.str (s ++ d), hs) else none := fun _ => rfl
    simp only [mapStep, hq]
    unfold mark at hm ⊢
    by_cases c1 : q = 0
    · simp only [c1, if_true] at hm ⊢
      simp [mGx, ap_seq, ap_set, ap_ret, ap_expr, ap_ifS, ap_skip, ap_raise, ap_aug, ap_setSub, toS_some, toS_ok, bind_ok, of_some, ap_c, ap_var, ap_bin, ap_test, asB_bl, ap_if, ap_and, ap_or, ap_not, ap_andV, ap_orV, ap_notV, ap_nil, ap_cons, ap_tup, ap_lst, ap_val, ap_box, ap_cb, ap_cbl, ap_call, ap_for, ap_lc, ap_it, ap_yes, ap_sl, ap_noPart, ap_part, part_int, ap_chain2, then_t, then_f, ap_rng1, ap_rng2, ap_rgL, ap_rgT, ap_asg, ap_zip, ap_enumA, ap_par2, add_int, sub_int, lt_int, le_int, gt_int, ge_int, eq_int, ne_int, max2_int, min2_int, int_int, int_bl, it_lst, it_tup, seq_lst, any_lst, any_tup, nox_ok, runF, startL, wipeL, capL, putL, m1, m2, sz, hfin, hm]
      rw [if_pos (by omega)]
      simp [mGx, ap_seq, ap_set, ap_ret, ap_expr, ap_ifS, ap_skip, ap_raise, ap_aug, ap_setSub, toS_some, toS_ok, bind_ok, of_some, ap_c, ap_var, ap_bin, ap_test, asB_bl, ap_if, ap_and, ap_or, ap_not, ap_andV, ap_orV, ap_notV, ap_nil, ap_cons, ap_tup, ap_lst, ap_val, ap_box, ap_cb, ap_cbl, ap_call, ap_for, ap_lc, ap_it, ap_yes, ap_sl, ap_noPart, ap_part, part_int, ap_chain2, then_t, then_f, ap_rng1, ap_rng2, ap_rgL, ap_rgT, ap_asg, ap_zip, ap_enumA, ap_par2, add_int, sub_int, lt_int, le_int, gt_int, ge_int, eq_int, ne_int, max2_int, min2_int, int_int, int_bl, it_lst, it_tup, seq_lst, any_lst, any_tup, nox_ok, runF, startL, wipeL, capL, putL, m1, m2, sz]
    · by_cases c2 : q = nextE size wide here t - here
      · simp only [c1, c2, if_true, if_false] at hm ⊢
        simp only [← c2, c1, if_false] at hm ⊢
        simp [mGx, ap_seq, ap_set, ap_ret, ap_expr, ap_ifS, ap_skip, ap_raise, ap_aug, ap_setSub, toS_some, toS_ok, bind_ok, of_some, ap_c, ap_var, ap_bin, ap_test, asB_bl, ap_if, ap_and, ap_or, ap_not, ap_andV, ap_orV, ap_notV, ap_nil, ap_cons, ap_tup, ap_lst, ap_val, ap_box, ap_cb, ap_cbl, ap_call, ap_for, ap_lc, ap_it, ap_yes, ap_sl, ap_noPart, ap_part, part_int, ap_chain2, then_t, then_f, ap_rng1, ap_rng2, ap_rgL, ap_rgT, ap_asg, ap_zip, ap_enumA, ap_par2, add_int, sub_int, lt_int, le_int, gt_int, ge_int, eq_int, ne_int, max2_int, min2_int, int_int, int_bl, it_lst, it_tup, seq_lst, any_lst, any_tup, nox_ok, runF, startL, wipeL, capL, putL, m1, m2, sz, hfin, hm, c1]
        rw [if_pos (by omega)]
        simp [mGx, ap_seq, ap_set, ap_ret, ap_expr, ap_ifS, ap_skip, ap_raise, ap_aug, ap_setSub, toS_some, toS_ok, bind_ok, of_some, ap_c, ap_var, ap_bin, ap_test, asB_bl, ap_if, ap_and, ap_or, ap_not, ap_andV, ap_orV, ap_notV, ap_nil, ap_cons, ap_tup, ap_lst, ap_val, ap_box, ap_cb, ap_cbl, ap_call, ap_for, ap_lc, ap_it, ap_yes, ap_sl, ap_noPart, ap_part, part_int, ap_chain2, then_t, then_f, ap_rng1, ap_rng2, ap_rgL, ap_rgT, ap_asg, ap_zip, ap_enumA, ap_par2, add_int, sub_int, lt_int, le_int, gt_int, ge_int, eq_int, ne_int, max2_int, min2_int, int_int, int_bl, it_lst, it_tup, seq_lst, any_lst, any_tup, nox_ok, runF, startL, wipeL, capL, putL, m1, m2, sz]
      · simp only [c1, c2, if_true, if_false] at hm ⊢
        simp [mGx, ap_seq, ap_set, ap_ret, ap_expr, ap_ifS, ap_skip, ap_raise, ap_aug, ap_setSub, toS_some, toS_ok, bind_ok, of_some, ap_c, ap_var, ap_bin, ap_test, asB_bl, ap_if, ap_and, ap_or, ap_not, ap_andV, ap_orV, ap_notV, ap_nil, ap_cons, ap_tup, ap_lst, ap_val, ap_box, ap_cb, ap_cbl, ap_call, ap_for, ap_lc, ap_it, ap_yes, ap_sl, ap_noPart, ap_part, part_int, ap_chain2, then_t, then_f, ap_rng1, ap_rng2, ap_rgL, ap_rgT, ap_asg, ap_zip, ap_enumA, ap_par2, add_int, sub_int, lt_int, le_int, gt_int, ge_int, eq_int, ne_int, max2_int, min2_int, int_int, int_bl, it_lst, it_tup, seq_lst, any_lst, any_tup, nox_ok, runF, startL, wipeL, capL, putL, m1, m2, sz, hfin, hm, c1, c2]
        rw [if_pos (by omega)]
        simp [mGx, ap_seq, ap_set, ap_ret, ap_expr, ap_ifS, ap_skip, ap_raise, ap_aug, ap_setSub, toS_some, toS_ok, bind_ok, of_some, ap_c, ap_var, ap_bin, ap_test, asB_bl, ap_if, ap_and, ap_or, ap_not, ap_andV, ap_orV, ap_notV, ap_nil, ap_cons, ap_tup, ap_lst, ap_val, ap_box, ap_cb, ap_cbl, ap_call, ap_for, ap_lc, ap_it, ap_yes, ap_sl, ap_noPart, ap_part, part_int, ap_chain2, then_t, then_f, ap_rng1, ap_rng2, ap_rgL, ap_rgT, ap_asg, ap_zip, ap_enumA, ap_par2, add_int, sub_int, lt_int, le_int, gt_int, ge_int, eq_int, ne_int, max2_int, min2_int, int_int, int_bl, it_lst, it_tup, seq_lst, any_lst, any_tup, nox_ok, runF, startL, wipeL, capL, putL, m1, m2, sz]
  · intro x hx
    exact ⟨_, rfl, rfl, rfl, fun _ => by simp [mGx, ap_seq, ap_set, ap_ret, ap_expr, ap_ifS, ap_skip, ap_raise, ap_aug, ap_setSub, toS_some, toS_ok, bind_ok, of_some, ap_c, ap_var, ap_bin, ap_test, asB_bl, ap_if, ap_and, ap_or, ap_not, ap_andV, ap_orV, ap_notV, ap_nil, ap_cons, ap_tup, ap_lst, ap_val, ap_box, ap_cb, ap_cbl, ap_call, ap_for, ap_lc, ap_it, ap_yes, ap_sl, ap_noPart, ap_part, part_int, ap_chain2, then_t, then_f, ap_rng1, ap_rng2, ap_rgL, ap_rgT, ap_asg, ap_zip, ap_enumA, ap_par2, add_int, sub_int, lt_int, le_int, gt_int, ge_int, eq_int, ne_int, max2_int, min2_int, int_int, int_bl, it_lst, it_tup, seq_lst, any_lst, any_tup, nox_ok, runF, startL, wipeL, capL, putL, m1, m2, sz, ov]⟩
theorem f_map {rs : List Row} {size wide : Int} (hs : HS) (ok : Ok1 rs size) (h1 : 1 ≤ wide) (h2 : wide ≤ size) : F_map_text [rowsD rs, .int size, .int wide] hs = .ok (.str (mapS rs size wide (rI 0 wide)).1) hs := by
  have s1 := ok.s1
  have s2 := ok.s2
  have key := for_go (enc := D.int) (tg := mgName 4) (body := b_map_text_1) (hs0 := hs) (xs0 := rI 0 wide)
    (fun pre ls hs' => ∃ a b c, ls = [some (rowsD rs), some (.int size), some (.int wide), some (.str (mapS rs size wide pre).1), a, b, c, some (.int (mapS rs size wide pre).2)] ∧ hs' = hs)
    (fun pre x post ls hs' e0 ⟨a, b, c, e1, e2⟩ => by
      subst e1
      subst e2
      have hp : pre.length ≤ 100 := by
        have : (rI 0 wide).length ≤ 100 := by rw [rI_len]; omega
        rw [e0] at this; simp at this; omega
      obtain ⟨g1, g2, g3, g4⟩ := @mapS_ok rs size wide s1 s2 h1 pre
      obtain ⟨u', hb⟩ := @b_map rs size wide (mapS rs size wide pre).2 x (mapS rs size wide pre).1 b c hs' ok h1 (by omega) (by omega)
      rw [show mapStep rs size wide ((mapS rs size wide pre).1, (mapS rs size wide pre).2) x = mapS rs size wide (pre ++ [x]) from (mapS_snoc ..).symm] at hb
      exact ⟨_, rfl, _, _, .inl hb, _, _, _, rfl, rfl⟩)
    (rI 0 wide) [] [some (rowsD rs), some (.int size), some (.int wide), some (.str ""), none, none, none, some (.int 0)] hs rfl ⟨none, none, none, rfl, rfl⟩
  obtain ⟨ls, hs2, e1, a, b, c, rfl, rfl⟩ := key
  have d1 : decide (1 ≤ wide) = true := decide_eq_true h1
  have d2 : decide (wide ≤ size) = true := decide_eq_true h2
  simp [F_map_text, m_map_text, mGx, ap_seq, ap_set, ap_ret, ap_expr, ap_ifS, ap_skip, ap_raise, ap_aug, ap_setSub, toS_some, toS_ok, bind_ok, of_some, ap_c, ap_var, ap_bin, ap_test, asB_bl, ap_if, ap_and, ap_or, ap_not, ap_andV, ap_orV, ap_notV, ap_nil, ap_cons, ap_tup, ap_lst, ap_val, ap_box, ap_cb, ap_cbl, ap_call, ap_for, ap_lc, ap_it, ap_yes, ap_sl, ap_noPart, ap_part, part_int, ap_chain2, then_t, then_f, ap_rng1, ap_rng2, ap_rgL, ap_rgT, ap_asg, ap_zip, ap_enumA, ap_par2, add_int, sub_int, lt_int, le_int, gt_int, ge_int, eq_int, ne_int, max2_int, min2_int, int_int, int_bl, it_lst, it_tup, seq_lst, any_lst, any_tup, nox_ok, runF, startL, wipeL, capL, putL, m1, m2, sz, f_check hs2 ok, d1, d2, mgTup, mgGo, mgName, rng1_int (show -(2 ^ 62) ≤ wide ∧ wide < 2 ^ 62 by omega), rng_rI0]
  simp [e1, mGx, ap_seq, ap_set, ap_ret, ap_expr, ap_ifS, ap_skip, ap_raise, ap_aug, ap_setSub, toS_some, toS_ok, bind_ok, of_some, ap_c, ap_var, ap_bin, ap_test, asB_bl, ap_if, ap_and, ap_or, ap_not, ap_andV, ap_orV, ap_notV, ap_nil, ap_cons, ap_tup, ap_lst, ap_val, ap_box, ap_cb, ap_cbl, ap_call, ap_for, ap_lc, ap_it, ap_yes, ap_sl, ap_noPart, ap_part, part_int, ap_chain2, then_t, then_f, ap_rng1, ap_rng2, ap_rgL, ap_rgT, ap_asg, ap_zip, ap_enumA, ap_par2, add_int, sub_int, lt_int, le_int, gt_int, ge_int, eq_int, ne_int, max2_int, min2_int, int_int, int_bl, it_lst, it_tup, seq_lst, any_lst, any_tup, nox_ok, runF, startL, wipeL, capL, putL, m1, m2, sz]
theorem usedL_all (rs : List Row) : (usedL rs).map D.int = (rs.map fun x => (rI x.1 (x.1 + x.2)).map D.int).flatten := (used_map rs).symm
theorem b_lawmap {rs : List Row} {size wide here t : Int} {s : Str} {u en g1 g2 g3 : Option D} (hs : HS) (ok : Ok1 rs size) (h1 : 1 ≤ wide) (h2 : wide ≤ 100) (hl : s.length ≤ 100) (hh : 0 ≤ here) (hh' : here ≤ 100000) : ∃ u', b__law_map_2 [some (rowsD rs), some (.int size), some (.int wide), some (.lst ((usedL rs).map D.int)), some (.str s), some (.int here), some (.int t), u, en, g1, g2, g3] hs =
    .nx [some (rowsD rs), some (.int size), some (.int wide), some (.lst ((usedL rs).map D.int)), some (.str (mapStep rs size wide (s, here) t).1), some (.int (mapStep rs size wide (s, here) t).2), some (.int t), some (.int (nextE size wide here t)), u', g1, g2, g3] hs := by
  have s1 := ok.s1
  have s2 := ok.s2
  have s3 := ok.len
  have hn := @next_le size wide here t s1 s2 h1
  refine ⟨some (.int ((rs.map (ov here (nextE size wide here t))).sum)), ?_⟩
  have hm := mark_len ((rs.map (ov here (nextE size wide here t))).sum) (nextE size wide here t - here)
  simp [b__law_map_2, mGx, ap_seq, ap_set, ap_ret, ap_expr, ap_ifS, ap_skip, ap_raise, ap_aug, ap_setSub, toS_some, toS_ok, bind_ok, of_some, ap_c, ap_var, ap_bin, ap_test, asB_bl, ap_if, ap_and, ap_or, ap_not, ap_andV, ap_orV, ap_notV, ap_nil, ap_cons, ap_tup, ap_lst, ap_val, ap_box, ap_cb, ap_cbl, ap_call, ap_for, ap_lc, ap_it, ap_yes, ap_sl, ap_noPart, ap_part, part_int, ap_chain2, then_t, then_f, ap_rng1, ap_rng2, ap_rgL, ap_rgT, ap_asg, ap_zip, ap_enumA, ap_par2, add_int, sub_int, lt_int, le_int, gt_int, ge_int, eq_int, ne_int, max2_int, min2_int, int_int, int_bl, it_lst, it_tup, seq_lst, any_lst, any_tup, nox_ok, runF, startL, wipeL, capL, putL, m1, m2, sz, div_int (show 0 < wide ∧ wide < 1073741824 by omega), mod_int (show 0 < wide by omega)]
  rw [show here + size / wide + (if t < size % wide then 1 else 0) = nextE size wide here t from rfl]
  simp [mGx, ap_seq, ap_set, ap_ret, ap_expr, ap_ifS, ap_skip, ap_raise, ap_aug, ap_setSub, toS_some, toS_ok, bind_ok, of_some, ap_c, ap_var, ap_bin, ap_test, asB_bl, ap_if, ap_and, ap_or, ap_not, ap_andV, ap_orV, ap_notV, ap_nil, ap_cons, ap_tup, ap_lst, ap_val, ap_box, ap_cb, ap_cbl, ap_call, ap_for, ap_lc, ap_it, ap_yes, ap_sl, ap_noPart, ap_part, part_int, ap_chain2, then_t, then_f, ap_rng1, ap_rng2, ap_rgL, ap_rgT, ap_asg, ap_zip, ap_enumA, ap_par2, add_int, sub_int, lt_int, le_int, gt_int, ge_int, eq_int, ne_int, max2_int, min2_int, int_int, int_bl, it_lst, it_tup, seq_lst, any_lst, any_tup, nox_ok, runF, startL, wipeL, capL, putL, m1, m2, sz, rng2_int (show -(2 ^ 62) ≤ here ∧ here < 2 ^ 62 by omega) (show -(2 ^ 62) ≤ nextE size wide here t ∧ nextE size wide here t < 2 ^ 62 by omega), rng_rI]
  rw [lc_go (enc := D.int) (p := fun c => decide (c ∈ usedL rs)) (q := D.int) (rI here (nextE size wide here t)) [] ?_ (by simp [sz, rI_len]; omega)]
  · have hc := count_used here (nextE size wide here t) ok.ch
    have hlen : ∀ ds : List D, (ds.length : Int) = (rs.map (ov here (nextE size wide here t))).sum → lenC hs [.lst ds] = some (.int (rs.map (ov here (nextE size wide here t))).sum) := fun ds h => by rw [len_lst, h]
    simp only [List.nil_append, bind_ok]
    rw [hlen _ (by rw [List.length_map]; exact hc)]
    simp [mGx, ap_seq, ap_set, ap_ret, ap_expr, ap_ifS, ap_skip, ap_raise, ap_aug, ap_setSub, toS_some, toS_ok, bind_ok, of_some, ap_c, ap_var, ap_bin, ap_test, asB_bl, ap_if, ap_and, ap_or, ap_not, ap_andV, ap_orV, ap_notV, ap_nil, ap_cons, ap_tup, ap_lst, ap_val, ap_box, ap_cb, ap_cbl, ap_call, ap_for, ap_lc, ap_it, ap_yes, ap_sl, ap_noPart, ap_part, part_int, ap_chain2, then_t, then_f, ap_rng1, ap_rng2, ap_rgL, ap_rgT, ap_asg, ap_zip, ap_enumA, ap_par2, add_int, sub_int, lt_int, le_int, gt_int, ge_int, eq_int, ne_int, max2_int, min2_int, int_int, int_bl, it_lst, it_tup, seq_lst, any_lst, any_tup, nox_ok, runF, startL, wipeL, capL, putL, m1, m2, sz]
    generalize hq : (rs.map (ov here (nextE size wide here t))).sum = q at hm ⊢
    have hfin : ∀ (d : Str), addF hs (.str s) (.str d) = if s.length + d.length ≤ sizeLine then some (.str (s ++ d)) else none := fun _ => rfl
    simp only [mapStep, hq]
    unfold mark at hm ⊢
    by_cases c1 : q = 0
    · simp only [c1, if_true] at hm ⊢
      simp [mGx, ap_seq, ap_set, ap_ret, ap_expr, ap_ifS, ap_skip, ap_raise, ap_aug, ap_setSub, toS_some, toS_ok, bind_ok, of_some, ap_c, ap_var, ap_bin, ap_test, asB_bl, ap_if, ap_and, ap_or, ap_not, ap_andV, ap_orV, ap_notV, ap_nil, ap_cons, ap_tup, ap_lst, ap_val, ap_box, ap_cb, ap_cbl, ap_call, ap_for, ap_lc, ap_it, ap_yes, ap_sl, ap_noPart, ap_part, part_int, ap_chain2, then_t, then_f, ap_rng1, ap_rng2, ap_rgL, ap_rgT, ap_asg, ap_zip, ap_enumA, ap_par2, add_int, sub_int, lt_int, le_int, gt_int, ge_int, eq_int, ne_int, max2_int, min2_int, int_int, int_bl, it_lst, it_tup, seq_lst, any_lst, any_tup, nox_ok, runF, startL, wipeL, capL, putL, m1, m2, sz, hfin, hm]
      rw [if_pos (by omega)]
      simp [mGx, ap_seq, ap_set, ap_ret, ap_expr, ap_ifS, ap_skip, ap_raise, ap_aug, ap_setSub, toS_some, toS_ok, bind_ok, of_some, ap_c, ap_var, ap_bin, ap_test, asB_bl, ap_if, ap_and, ap_or, ap_not, ap_andV, ap_orV, ap_notV, ap_nil, ap_cons, ap_tup, ap_lst, ap_val, ap_box, ap_cb, ap_cbl, ap_call, ap_for, ap_lc, ap_it, ap_yes, ap_sl, ap_noPart, ap_part, part_int, ap_chain2, then_t, then_f, ap_rng1, ap_rng2, ap_rgL, ap_rgT, ap_asg, ap_zip, ap_enumA, ap_par2, add_int, sub_int, lt_int, le_int, gt_int, ge_int, eq_int, ne_int, max2_int, min2_int, int_int, int_bl, it_lst, it_tup, seq_lst, any_lst, any_tup, nox_ok, runF, startL, wipeL, capL, putL, m1, m2, sz]
    · by_cases c2 : q = nextE size wide here t - here
      · simp only [c1, c2, if_true, if_false] at hm ⊢
        simp only [← c2, c1, if_false] at hm ⊢
        simp [mGx, ap_seq, ap_set, ap_ret, ap_expr, ap_ifS, ap_skip, ap_raise, ap_aug, ap_setSub, toS_some, toS_ok, bind_ok, of_some, ap_c, ap_var, ap_bin, ap_test, asB_bl, ap_if, ap_and, ap_or, ap_not, ap_andV, ap_orV, ap_notV, ap_nil, ap_cons, ap_tup, ap_lst, ap_val, ap_box, ap_cb, ap_cbl, ap_call, ap_for, ap_lc, ap_it, ap_yes, ap_sl, ap_noPart, ap_part, part_int, ap_chain2, then_t, then_f, ap_rng1, ap_rng2, ap_rgL, ap_rgT, ap_asg, ap_zip, ap_enumA, ap_par2, add_int, sub_int, lt_int, le_int, gt_int, ge_int, eq_int, ne_int, max2_int, min2_int, int_int, int_bl, it_lst, it_tup, seq_lst, any_lst, any_tup, nox_ok, runF, startL, wipeL, capL, putL, m1, m2, sz, hfin, hm, c1]
        rw [if_pos (by omega)]
        simp [mGx, ap_seq, ap_set, ap_ret, ap_expr, ap_ifS, ap_skip, ap_raise, ap_aug, ap_setSub, toS_some, toS_ok, bind_ok, of_some, ap_c, ap_var, ap_bin, ap_test, asB_bl, ap_if, ap_and, ap_or, ap_not, ap_andV, ap_orV, ap_notV, ap_nil, ap_cons, ap_tup, ap_lst, ap_val, ap_box, ap_cb, ap_cbl, ap_call, ap_for, ap_lc, ap_it, ap_yes, ap_sl, ap_noPart, ap_part, part_int, ap_chain2, then_t, then_f, ap_rng1, ap_rng2, ap_rgL, ap_rgT, ap_asg, ap_zip, ap_enumA, ap_par2, add_int, sub_int, lt_int, le_int, gt_int, ge_int, eq_int, ne_int, max2_int, min2_int, int_int, int_bl, it_lst, it_tup, seq_lst, any_lst, any_tup, nox_ok, runF, startL, wipeL, capL, putL, m1, m2, sz]
      · simp only [c1, c2, if_true, if_false] at hm ⊢
        simp [mGx, ap_seq, ap_set, ap_ret, ap_expr, ap_ifS, ap_skip, ap_raise, ap_aug, ap_setSub, toS_some, toS_ok, bind_ok, of_some, ap_c, ap_var, ap_bin, ap_test, asB_bl, ap_if, ap_and, ap_or, ap_not, ap_andV, ap_orV, ap_notV, ap_nil, ap_cons, ap_tup, ap_lst, ap_val, ap_box, ap_cb, ap_cbl, ap_call, ap_for, ap_lc, ap_it, ap_yes, ap_sl, ap_noPart, ap_part, part_int, ap_chain2, then_t, then_f, ap_rng1, ap_rng2, ap_rgL, ap_rgT, ap_asg, ap_zip, ap_enumA, ap_par2, add_int, sub_int, lt_int, le_int, gt_int, ge_int, eq_int, ne_int, max2_int, min2_int, int_int, int_bl, it_lst, it_tup, seq_lst, any_lst, any_tup, nox_ok, runF, startL, wipeL, capL, putL, m1, m2, sz, hfin, hm, c1, c2]
        rw [if_pos (by omega)]
        simp [mGx, ap_seq, ap_set, ap_ret, ap_expr, ap_ifS, ap_skip, ap_raise, ap_aug, ap_setSub, toS_some, toS_ok, bind_ok, of_some, ap_c, ap_var, ap_bin, ap_test, asB_bl, ap_if, ap_and, ap_or, ap_not, ap_andV, ap_orV, ap_notV, ap_nil, ap_cons, ap_tup, ap_lst, ap_val, ap_box, ap_cb, ap_cbl, ap_call, ap_for, ap_lc, ap_it, ap_yes, ap_sl, ap_noPart, ap_part, part_int, ap_chain2, then_t, then_f, ap_rng1, ap_rng2, ap_rgL, ap_rgT, ap_asg, ap_zip, ap_enumA, ap_par2, add_int, sub_int, lt_int, le_int, gt_int, ge_int, eq_int, ne_int, max2_int, min2_int, int_int, int_bl, it_lst, it_tup, seq_lst, any_lst, any_tup, nox_ok, runF, startL, wipeL, capL, putL, m1, m2, sz]
  · intro c _
    exact ⟨_, rfl, rfl, by simp [mGx, ap_seq, ap_set, ap_ret, ap_expr, ap_ifS, ap_skip, ap_raise, ap_aug, ap_setSub, toS_some, toS_ok, bind_ok, of_some, ap_c, ap_var, ap_bin, ap_test, asB_bl, ap_if, ap_and, ap_or, ap_not, ap_andV, ap_orV, ap_notV, ap_nil, ap_cons, ap_tup, ap_lst, ap_val, ap_box, ap_cb, ap_cbl, ap_call, ap_for, ap_lc, ap_it, ap_yes, ap_sl, ap_noPart, ap_part, part_int, ap_chain2, then_t, then_f, ap_rng1, ap_rng2, ap_rgL, ap_rgT, ap_asg, ap_zip, ap_enumA, ap_par2, add_int, sub_int, lt_int, le_int, gt_int, ge_int, eq_int, ne_int, max2_int, min2_int, int_int, int_bl, it_lst, it_tup, seq_lst, any_lst, any_tup, nox_ok, runF, startL, wipeL, capL, putL, m1, m2, sz, in_ints, ng], fun _ => by simp [mGx, ap_seq, ap_set, ap_ret, ap_expr, ap_ifS, ap_skip, ap_raise, ap_aug, ap_setSub, toS_some, toS_ok, bind_ok, of_some, ap_c, ap_var, ap_bin, ap_test, asB_bl, ap_if, ap_and, ap_or, ap_not, ap_andV, ap_orV, ap_notV, ap_nil, ap_cons, ap_tup, ap_lst, ap_val, ap_box, ap_cb, ap_cbl, ap_call, ap_for, ap_lc, ap_it, ap_yes, ap_sl, ap_noPart, ap_part, part_int, ap_chain2, then_t, then_f, ap_rng1, ap_rng2, ap_rgL, ap_rgT, ap_asg, ap_zip, ap_enumA, ap_par2, add_int, sub_int, lt_int, le_int, gt_int, ge_int, eq_int, ne_int, max2_int, min2_int, int_int, int_bl, it_lst, it_tup, seq_lst, any_lst, any_tup, nox_ok, runF, startL, wipeL, capL, putL, m1, m2, sz]⟩
theorem f_lawmap {rs : List Row} {size wide : Int} (hs : HS) (ok : Ok1 rs size) (h1 : 1 ≤ wide) (h2 : wide ≤ size) : F__law_map [rowsD rs, .int size, .int wide] hs = .ok (.str (mapS rs size wide (rI 0 wide)).1) hs := by
  have s1 := ok.s1
  have s2 := ok.s2
  have s3 := ok.len
  have hu := used_len ok.ch (Int.le_refl 0)
  have key := for_go (enc := D.int) (tg := mgName 6) (body := b__law_map_2) (hs0 := hs) (xs0 := rI 0 wide)
    (fun pre ls hs' => ∃ a b c d e f, ls = [some (rowsD rs), some (.int size), some (.int wide), some (.lst ((usedL rs).map D.int)), some (.str (mapS rs size wide pre).1), some (.int (mapS rs size wide pre).2), a, b, c, d, e, f] ∧ hs' = hs)
    (fun pre x post ls hs' e0 ⟨a, b, c, d, e, f, e1, e2⟩ => by
      subst e1
      subst e2
      have hp : pre.length ≤ 100 := by
        have : (rI 0 wide).length ≤ 100 := by rw [rI_len]; omega
        rw [e0] at this; simp at this; omega
      obtain ⟨g1, g2, g3, g4⟩ := @mapS_ok rs size wide s1 s2 h1 pre
      obtain ⟨u', hb⟩ := @b_lawmap rs size wide (mapS rs size wide pre).2 x (mapS rs size wide pre).1 b c d e f hs' ok h1 (by omega) (by omega) (by omega) (by omega)
      rw [show mapStep rs size wide ((mapS rs size wide pre).1, (mapS rs size wide pre).2) x = mapS rs size wide (pre ++ [x]) from (mapS_snoc ..).symm] at hb
      exact ⟨_, rfl, _, _, .inl hb, _, _, _, _, _, _, rfl, rfl⟩)
    (rI 0 wide) [] [some (rowsD rs), some (.int size), some (.int wide), some (.lst ((usedL rs).map D.int)), some (.str ""), some (.int 0), none, none, none, none, none, none] hs rfl ⟨none, none, none, none, none, none, rfl, rfl⟩
  obtain ⟨ls, hs2, e1, a, b, c, d, e, f, rfl, rfl⟩ := key
  simp [F__law_map, m__law_map, mGx, ap_seq, ap_set, ap_ret, ap_expr, ap_ifS, ap_skip, ap_raise, ap_aug, ap_setSub, toS_some, toS_ok, bind_ok, of_some, ap_c, ap_var, ap_bin, ap_test, asB_bl, ap_if, ap_and, ap_or, ap_not, ap_andV, ap_orV, ap_notV, ap_nil, ap_cons, ap_tup, ap_lst, ap_val, ap_box, ap_cb, ap_cbl, ap_call, ap_for, ap_lc, ap_it, ap_yes, ap_sl, ap_noPart, ap_part, part_int, ap_chain2, then_t, then_f, ap_rng1, ap_rng2, ap_rgL, ap_rgT, ap_asg, ap_zip, ap_enumA, ap_par2, add_int, sub_int, lt_int, le_int, gt_int, ge_int, eq_int, ne_int, max2_int, min2_int, int_int, int_bl, it_lst, it_tup, seq_lst, any_lst, any_tup, nox_ok, runF, startL, wipeL, capL, putL, m1, m2, sz, it_rows]
  rw [lc_all (enc := pD) (q := fun x => .lst ((rI x.1 (x.1 + x.2)).map D.int)) rs [] ?_ (by simp; omega)]
  · simp [mGx, ap_seq, ap_set, ap_ret, ap_expr, ap_ifS, ap_skip, ap_raise, ap_aug, ap_setSub, toS_some, toS_ok, bind_ok, of_some, ap_c, ap_var, ap_bin, ap_test, asB_bl, ap_if, ap_and, ap_or, ap_not, ap_andV, ap_orV, ap_notV, ap_nil, ap_cons, ap_tup, ap_lst, ap_val, ap_box, ap_cb, ap_cbl, ap_call, ap_for, ap_lc, ap_it, ap_yes, ap_sl, ap_noPart, ap_part, part_int, ap_chain2, then_t, then_f, ap_rng1, ap_rng2, ap_rgL, ap_rgT, ap_asg, ap_zip, ap_enumA, ap_par2, add_int, sub_int, lt_int, le_int, gt_int, ge_int, eq_int, ne_int, max2_int, min2_int, int_int, int_bl, it_lst, it_tup, seq_lst, any_lst, any_tup, nox_ok, runF, startL, wipeL, capL, putL, m1, m2, sz]
    rw [sum2_lst _ _ (by rw [used_map]; simp; omega), used_map]
    simp [mGx, ap_seq, ap_set, ap_ret, ap_expr, ap_ifS, ap_skip, ap_raise, ap_aug, ap_setSub, toS_some, toS_ok, bind_ok, of_some, ap_c, ap_var, ap_bin, ap_test, asB_bl, ap_if, ap_and, ap_or, ap_not, ap_andV, ap_orV, ap_notV, ap_nil, ap_cons, ap_tup, ap_lst, ap_val, ap_box, ap_cb, ap_cbl, ap_call, ap_for, ap_lc, ap_it, ap_yes, ap_sl, ap_noPart, ap_part, part_int, ap_chain2, then_t, then_f, ap_rng1, ap_rng2, ap_rgL, ap_rgT, ap_asg, ap_zip, ap_enumA, ap_par2, add_int, sub_int, lt_int, le_int, gt_int, ge_int, eq_int, ne_int, max2_int, min2_int, int_int, int_bl, it_lst, it_tup, seq_lst, any_lst, any_tup, nox_ok, runF, startL, wipeL, capL, putL, m1, m2, sz, mgTup, mgGo, mgName, rng1_int (show -(2 ^ 62) ≤ wide ∧ wide < 2 ^ 62 by omega), rng_rI0]
    simp [e1, mGx, ap_seq, ap_set, ap_ret, ap_expr, ap_ifS, ap_skip, ap_raise, ap_aug, ap_setSub, toS_some, toS_ok, bind_ok, of_some, ap_c, ap_var, ap_bin, ap_test, asB_bl, ap_if, ap_and, ap_or, ap_not, ap_andV, ap_orV, ap_notV, ap_nil, ap_cons, ap_tup, ap_lst, ap_val, ap_box, ap_cb, ap_cbl, ap_call, ap_for, ap_lc, ap_it, ap_yes, ap_sl, ap_noPart, ap_part, part_int, ap_chain2, then_t, then_f, ap_rng1, ap_rng2, ap_rgL, ap_rgT, ap_asg, ap_zip, ap_enumA, ap_par2, add_int, sub_int, lt_int, le_int, gt_int, ge_int, eq_int, ne_int, max2_int, min2_int, int_int, int_bl, it_lst, it_tup, seq_lst, any_lst, any_tup, nox_ok, runF, startL, wipeL, capL, putL, m1, m2, sz]
  · intro x hx
    obtain ⟨g1, g2, g3⟩ := ok.ch.each x hx
    refine ⟨_, rfl, rfl, rfl, fun _ => ?_⟩
    simp [mGx, ap_seq, ap_set, ap_ret, ap_expr, ap_ifS, ap_skip, ap_raise, ap_aug, ap_setSub, toS_some, toS_ok, bind_ok, of_some, ap_c, ap_var, ap_bin, ap_test, asB_bl, ap_if, ap_and, ap_or, ap_not, ap_andV, ap_orV, ap_notV, ap_nil, ap_cons, ap_tup, ap_lst, ap_val, ap_box, ap_cb, ap_cbl, ap_call, ap_for, ap_lc, ap_it, ap_yes, ap_sl, ap_noPart, ap_part, part_int, ap_chain2, then_t, then_f, ap_rng1, ap_rng2, ap_rgL, ap_rgT, ap_asg, ap_zip, ap_enumA, ap_par2, add_int, sub_int, lt_int, le_int, gt_int, ge_int, eq_int, ne_int, max2_int, min2_int, int_int, int_bl, it_lst, it_tup, seq_lst, any_lst, any_tup, nox_ok, runF, startL, wipeL, capL, putL, m1, m2, sz, rgO_ok (show -(2 ^ 20) ≤ x.1 by omega) (by omega) (show -(2 ^ 20) ≤ x.1 + x.2 by omega) (by omega), rng_rI]
end K16

set_option Elab.async false
set_option linter.all false
set_option maxRecDepth 100000
set_option maxHeartbeats 1000000
namespace K16
open PySem Fx
theorem ltL2 (a b c d : Int) : ltL [a, b] [c, d] = if a = c then decide (b < d) else decide (a < c) := by
  unfold ltL
  simp [Ob.lexAt]
  by_cases h : a = c <;> by_cases h2 : b = d <;> simp [h, h2]
def wAt (rs : List Row) (ask s : Int) : Int := ((rs.filter fun p => decide (p.1 < s + ask) && decide (s < p.1 + p.2)).map (·.2)).sum
def stepB (w : Int → Int) (b : Option Row) (s : Int) : Option Row := match b with
  | none => some (w s, s)
  | some q => if w s < q.1 then some (w s, s) else some q
def bestD : Option Row → D
  | none => .non
  | some q => pD q
theorem b_moves {rs : List Row} {size ask s : Int} {u : Option D} (b : Option Row) (hs : HS) (ok : Ok1 rs size) (hq : ∀ q ∈ b, True) : ∃ u', b_moves_to_fit_1 [some (rowsD rs), some (.int size), some (.int ask), some (bestD b), u, some (.int s)] hs =
    .nx [some (rowsD rs), some (.int size), some (.int ask), some (bestD (stepB (wAt rs ask) b s)), u', some (.int s)] hs := by
  refine ⟨some (.int (wAt rs ask s)), ?_⟩
  have s2 := ok.s2
  have s3 := ok.len
  simp [b_moves_to_fit_1, mGx, ap_seq, ap_set, ap_ret, ap_expr, ap_ifS, ap_skip, ap_raise, ap_aug, ap_setSub, toS_some, toS_ok, bind_ok, of_some, ap_c, ap_var, ap_bin, ap_test, asB_bl, ap_if, ap_and, ap_or, ap_not, ap_andV, ap_orV, ap_notV, ap_nil, ap_cons, ap_tup, ap_lst, ap_val, ap_box, ap_cb, ap_cbl, ap_call, ap_for, ap_lc, ap_it, ap_yes, ap_sl, ap_noPart, ap_part, part_int, ap_chain2, then_t, then_f, ap_rng1, ap_rng2, ap_rgL, ap_rgT, ap_asg, ap_zip, ap_enumA, ap_par2, add_int, sub_int, lt_int, le_int, gt_int, ge_int, eq_int, ne_int, max2_int, min2_int, int_int, int_bl, it_lst, it_tup, seq_lst, any_lst, any_tup, nox_ok, runF, startL, wipeL, capL, putL, m1, m2, sz, it_rows]
  rw [gx_go (enc := pD) (p := fun p => decide (p.1 < s + ask) && decide (s < p.1 + p.2)) (q := fun p => .int p.2) rs ?_]
  · have hl := List.length_filter_le (fun p : Row => decide (p.1 < s + ask) && decide (s < p.1 + p.2)) rs
    rw [sum_go (fun p : Row => p.2) _ 0 100 (fun p hp => by
      obtain ⟨g1, g2, g3⟩ := ok.ch.each p (List.mem_filter.mp hp).1
      omega) (by omega) (by omega) (by omega) (by omega)]
    rw [show ((rs.filter fun p => decide (p.1 < s + ask) && decide (s < p.1 + p.2)).map (fun p : Row => p.2)).sum = wAt rs ask s from rfl]
    cases b with
    | none => simp [ofP_some, mGx, ap_seq, ap_set, ap_ret, ap_expr, ap_ifS, ap_skip, ap_raise, ap_aug, ap_setSub, toS_some, toS_ok, bind_ok, of_some, ap_c, ap_var, ap_bin, ap_test, asB_bl, ap_if, ap_and, ap_or, ap_not, ap_andV, ap_orV, ap_notV, ap_nil, ap_cons, ap_tup, ap_lst, ap_val, ap_box, ap_cb, ap_cbl, ap_call, ap_for, ap_lc, ap_it, ap_yes, ap_sl, ap_noPart, ap_part, part_int, ap_chain2, then_t, then_f, ap_rng1, ap_rng2, ap_rgL, ap_rgT, ap_asg, ap_zip, ap_enumA, ap_par2, add_int, sub_int, lt_int, le_int, gt_int, ge_int, eq_int, ne_int, max2_int, min2_int, int_int, int_bl, it_lst, it_tup, seq_lst, any_lst, any_tup, nox_ok, runF, startL, wipeL, capL, putL, m1, m2, sz, isNF, bestD, stepB, pD]
    | some q =>
      by_cases h : wAt rs ask s < q.1
      · simp [ofP_some, mGx, ap_seq, ap_set, ap_ret, ap_expr, ap_ifS, ap_skip, ap_raise, ap_aug, ap_setSub, toS_some, toS_ok, bind_ok, of_some, ap_c, ap_var, ap_bin, ap_test, asB_bl, ap_if, ap_and, ap_or, ap_not, ap_andV, ap_orV, ap_notV, ap_nil, ap_cons, ap_tup, ap_lst, ap_val, ap_box, ap_cb, ap_cbl, ap_call, ap_for, ap_lc, ap_it, ap_yes, ap_sl, ap_noPart, ap_part, part_int, ap_chain2, then_t, then_f, ap_rng1, ap_rng2, ap_rgL, ap_rgT, ap_asg, ap_zip, ap_enumA, ap_par2, add_int, sub_int, lt_int, le_int, gt_int, ge_int, eq_int, ne_int, max2_int, min2_int, int_int, int_bl, it_lst, it_tup, seq_lst, any_lst, any_tup, nox_ok, runF, startL, wipeL, capL, putL, m1, m2, sz, isNF, bestD, stepB, pD, ix_tup, h]
      · simp [ofP_some, mGx, ap_seq, ap_set, ap_ret, ap_expr, ap_ifS, ap_skip, ap_raise, ap_aug, ap_setSub, toS_some, toS_ok, bind_ok, of_some, ap_c, ap_var, ap_bin, ap_test, asB_bl, ap_if, ap_and, ap_or, ap_not, ap_andV, ap_orV, ap_notV, ap_nil, ap_cons, ap_tup, ap_lst, ap_val, ap_box, ap_cb, ap_cbl, ap_call, ap_for, ap_lc, ap_it, ap_yes, ap_sl, ap_noPart, ap_part, part_int, ap_chain2, then_t, then_f, ap_rng1, ap_rng2, ap_rgL, ap_rgT, ap_asg, ap_zip, ap_enumA, ap_par2, add_int, sub_int, lt_int, le_int, gt_int, ge_int, eq_int, ne_int, max2_int, min2_int, int_int, int_bl, it_lst, it_tup, seq_lst, any_lst, any_tup, nox_ok, runF, startL, wipeL, capL, putL, m1, m2, sz, isNF, bestD, stepB, pD, ix_tup, h]
  · intro x hx
    refine ⟨_, rfl, rfl, ?_, fun _ => by simp [mGx, ap_seq, ap_set, ap_ret, ap_expr, ap_ifS, ap_skip, ap_raise, ap_aug, ap_setSub, toS_some, toS_ok, bind_ok, of_some, ap_c, ap_var, ap_bin, ap_test, asB_bl, ap_if, ap_and, ap_or, ap_not, ap_andV, ap_orV, ap_notV, ap_nil, ap_cons, ap_tup, ap_lst, ap_val, ap_box, ap_cb, ap_cbl, ap_call, ap_for, ap_lc, ap_it, ap_yes, ap_sl, ap_noPart, ap_part, part_int, ap_chain2, then_t, then_f, ap_rng1, ap_rng2, ap_rgL, ap_rgT, ap_asg, ap_zip, ap_enumA, ap_par2, add_int, sub_int, lt_int, le_int, gt_int, ge_int, eq_int, ne_int, max2_int, min2_int, int_int, int_bl, it_lst, it_tup, seq_lst, any_lst, any_tup, nox_ok, runF, startL, wipeL, capL, putL, m1, m2, sz]⟩
    by_cases h : x.1 < s + ask
    · simp [mGx, ap_seq, ap_set, ap_ret, ap_expr, ap_ifS, ap_skip, ap_raise, ap_aug, ap_setSub, toS_some, toS_ok, bind_ok, of_some, ap_c, ap_var, ap_bin, ap_test, asB_bl, ap_if, ap_and, ap_or, ap_not, ap_andV, ap_orV, ap_notV, ap_nil, ap_cons, ap_tup, ap_lst, ap_val, ap_box, ap_cb, ap_cbl, ap_call, ap_for, ap_lc, ap_it, ap_yes, ap_sl, ap_noPart, ap_part, part_int, ap_chain2, then_t, then_f, ap_rng1, ap_rng2, ap_rgL, ap_rgT, ap_asg, ap_zip, ap_enumA, ap_par2, add_int, sub_int, lt_int, le_int, gt_int, ge_int, eq_int, ne_int, max2_int, min2_int, int_int, int_bl, it_lst, it_tup, seq_lst, any_lst, any_tup, nox_ok, runF, startL, wipeL, capL, putL, m1, m2, sz, h]
    · simp [mGx, ap_seq, ap_set, ap_ret, ap_expr, ap_ifS, ap_skip, ap_raise, ap_aug, ap_setSub, toS_some, toS_ok, bind_ok, of_some, ap_c, ap_var, ap_bin, ap_test, asB_bl, ap_if, ap_and, ap_or, ap_not, ap_andV, ap_orV, ap_notV, ap_nil, ap_cons, ap_tup, ap_lst, ap_val, ap_box, ap_cb, ap_cbl, ap_call, ap_for, ap_lc, ap_it, ap_yes, ap_sl, ap_noPart, ap_part, part_int, ap_chain2, then_t, then_f, ap_rng1, ap_rng2, ap_rgL, ap_rgT, ap_asg, ap_zip, ap_enumA, ap_par2, add_int, sub_int, lt_int, le_int, gt_int, ge_int, eq_int, ne_int, max2_int, min2_int, int_int, int_bl, it_lst, it_tup, seq_lst, any_lst, any_tup, nox_ok, runF, startL, wipeL, capL, putL, m1, m2, sz, h]
theorem f_moves {rs : List Row} {size ask : Int} (hs : HS) (ok : Ok1 rs size) (h1 : 1 ≤ ask) (h2 : ask ≤ 100) : F_moves_to_fit [rowsD rs, .int size, .int ask] hs = .ok (bestD ((rI 0 (size - ask + 1)).foldl (stepB (wAt rs ask)) none)) hs := by
  have s1 := ok.s1
  have s2 := ok.s2
  have key := for_go (enc := D.int) (tg := mgName 5) (body := b_moves_to_fit_1) (hs0 := hs) (xs0 := rI 0 (size - ask + 1))
    (fun pre ls hs' => ∃ a b, ls = [some (rowsD rs), some (.int size), some (.int ask), some (bestD (pre.foldl (stepB (wAt rs ask)) none)), a, b] ∧ hs' = hs)
    (fun pre x post ls hs' e0 ⟨a, b, e1, e2⟩ => by
      subst e1
      subst e2
      obtain ⟨u', hb⟩ := @b_moves rs size ask x a (pre.foldl (stepB (wAt rs ask)) none) hs' ok (fun _ _ => trivial)
      rw [show stepB (wAt rs ask) (pre.foldl (stepB (wAt rs ask)) none) x = (pre ++ [x]).foldl (stepB (wAt rs ask)) none by rw [List.foldl_append]; rfl] at hb
      exact ⟨_, rfl, _, _, .inl hb, _, _, rfl, rfl⟩)
    (rI 0 (size - ask + 1)) [] [some (rowsD rs), some (.int size), some (.int ask), some .non, none, none] hs rfl ⟨none, none, rfl, rfl⟩
  obtain ⟨ls, hs2, e1, a, b, rfl, rfl⟩ := key
  simp [F_moves_to_fit, m_moves_to_fit, mGx, ap_seq, ap_set, ap_ret, ap_expr, ap_ifS, ap_skip, ap_raise, ap_aug, ap_setSub, toS_some, toS_ok, bind_ok, of_some, ap_c, ap_var, ap_bin, ap_test, asB_bl, ap_if, ap_and, ap_or, ap_not, ap_andV, ap_orV, ap_notV, ap_nil, ap_cons, ap_tup, ap_lst, ap_val, ap_box, ap_cb, ap_cbl, ap_call, ap_for, ap_lc, ap_it, ap_yes, ap_sl, ap_noPart, ap_part, part_int, ap_chain2, then_t, then_f, ap_rng1, ap_rng2, ap_rgL, ap_rgT, ap_asg, ap_zip, ap_enumA, ap_par2, add_int, sub_int, lt_int, le_int, gt_int, ge_int, eq_int, ne_int, max2_int, min2_int, int_int, int_bl, it_lst, it_tup, seq_lst, any_lst, any_tup, nox_ok, runF, startL, wipeL, capL, putL, m1, m2, sz, f_check hs2 ok, show ¬ ask < 1 by omega, rng1_int (show -(2 ^ 62) ≤ size - ask + 1 ∧ size - ask + 1 < 2 ^ 62 by omega), rng_rI0]
  simp [e1, mGx, ap_seq, ap_set, ap_ret, ap_expr, ap_ifS, ap_skip, ap_raise, ap_aug, ap_setSub, toS_some, toS_ok, bind_ok, of_some, ap_c, ap_var, ap_bin, ap_test, asB_bl, ap_if, ap_and, ap_or, ap_not, ap_andV, ap_orV, ap_notV, ap_nil, ap_cons, ap_tup, ap_lst, ap_val, ap_box, ap_cb, ap_cbl, ap_call, ap_for, ap_lc, ap_it, ap_yes, ap_sl, ap_noPart, ap_part, part_int, ap_chain2, then_t, then_f, ap_rng1, ap_rng2, ap_rgL, ap_rgT, ap_asg, ap_zip, ap_enumA, ap_par2, add_int, sub_int, lt_int, le_int, gt_int, ge_int, eq_int, ne_int, max2_int, min2_int, int_int, int_bl, it_lst, it_tup, seq_lst, any_lst, any_tup, nox_ok, runF, startL, wipeL, capL, putL, m1, m2, sz]
theorem min_go {w : Int → Int} : ∀ (r : List Int) (b : Row), (∀ s ∈ r, b.2 < s) → r.Pairwise (· < ·) →
    minGo (pD b) [b.1, b.2] (r.map fun s => pD (w s, s)) (r.map fun s => [w s, s]) = bestD (r.foldl (stepB w) (some b))
  | [], b, _, _ => rfl
  | s :: r, b, h, hp => by
    have hs := h s List.mem_cons_self
    rw [List.pairwise_cons] at hp
    simp only [List.map_cons, minGo, List.foldl_cons, ltL2]
    by_cases c : w s < b.1
    · have e : (if w s = b.1 then decide (s < b.2) else decide (w s < b.1)) = true := by
        rw [if_neg (by omega)]; exact decide_eq_true c
      rw [e, if_pos rfl, show stepB w (some b) s = some (w s, s) from if_pos c]
      exact min_go r (w s, s) hp.1 hp.2
    · have e : (if w s = b.1 then decide (s < b.2) else decide (w s < b.1)) = false := by
        split <;> exact decide_eq_false (by omega)
      rw [e, if_neg (by simp), show stepB w (some b) s = some b from if_neg c]
      exact min_go r b (fun t ht => by have := hp.1 t ht; omega) hp.2
theorem rI_sorted_aux : ∀ (n : Nat) (a b : Int), (b - a).toNat = n → (rI a b).Pairwise (· < ·)
  | 0, a, b, h => by rw [rI_nil (by omega)]; exact .nil
  | n + 1, a, b, h => by
    rw [rI_cons (by omega), List.pairwise_cons]
    exact ⟨fun x hx => by have := mem_rI.mp hx; omega, rI_sorted_aux n (a + 1) b (by omega)⟩
theorem rI_sorted (a b : Int) : (rI a b).Pairwise (· < ·) := rI_sorted_aux _ a b rfl
theorem rowsOf_map {α : Type} (f : α → Row) (xs : List α) : rowsOf (xs.map fun s => pD (f s)) = some (xs.map fun s => [(f s).1, (f s).2]) := by
  induction xs with
  | nil => rfl
  | cons x r ih => simp [rowsOf, pD, asInts] at ih ⊢; exact ih
theorem min_moves {hs : HS} {w : Int → Int} {ss : List Int} (h : ss.Pairwise (· < ·)) (hn : ss ≠ []) : minTC hs [.lst (ss.map fun s => pD (w s, s))] = some (bestD (ss.foldl (stepB w) none)) := by
  cases ss with
  | nil => exact absurd rfl hn
  | cons s r =>
    rw [List.pairwise_cons] at h
    simp only [minTC, seqL, Option.bind_some, rowsOf_map]
    simp only [List.map_cons, minPick]
    rw [min_go (w := w) r (w s, s) h.1 h.2]
    rfl
end K16

set_option Elab.async false
set_option linter.all false
set_option maxRecDepth 100000
set_option maxHeartbeats 1000000
namespace K16
open PySem Fx
section
variable {hs : HS} {rs : List Row} {u v : Int}
theorem sl_rows_to (h : 0 ≤ v) : slF hs (rowsD rs) none (some v) = some (rowsD (rs.take v.toNat)) := by
  unfold rowsD
  rw [sl_to _ h, List.map_take]
theorem sl_rows_from (h : 0 ≤ v) : slF hs (rowsD rs) (some v) none = some (rowsD (rs.drop v.toNat)) := by
  unfold rowsD
  rw [sl_from _ h, List.map_drop]
theorem sl_rows_mid (h : 0 ≤ u) (h' : 0 ≤ v) : slF hs (rowsD rs) (some u) (some v) = some (rowsD ((rs.take v.toNat).drop u.toNat)) := by
  unfold rowsD
  rw [sl_mid _ h h', List.map_drop, List.map_take]
theorem list_rows : listC hs [rowsD rs] = some (rs.map pD) := rfl
theorem add_rows {a b : List Row} (h : a.length + b.length ≤ 16777216) : addF hs (rowsD a) (rowsD b) = some (rowsD (a ++ b)) := by
  unfold rowsD
  rw [add_lst (by simpa using h), List.map_append]
theorem len_rows : lenC hs [rowsD rs] = some (.int (rs.length : Nat)) := by
  unfold rowsD
  rw [len_lst, List.length_map]
theorem ix_rows {p : Row} (h0 : 0 ≤ v) (h : rs[v.toNat]? = some p) : ixF hs (rowsD rs) (.int v) = some (pD p) := by
  have hl := (List.getElem?_eq_some_iff.mp h).1
  unfold rowsD
  rw [ix_lst h0 (by rw [List.length_map]; omega), List.getElem?_map, h]
  rfl
end
def restR (rs : List Row) (a b : Nat) : List Row := rs.take a ++ rs.drop b
theorem add_parts {hs : HS} {rs : List Row} {a b : Nat} (h : rs.length ≤ 1000) : addF hs (.lst ((rs.map pD).take a)) (.lst ((rs.map pD).drop b)) = some (rowsD (restR rs a b)) := by
  rw [add_lst (by simp; omega), ← List.map_take, ← List.map_drop, ← List.map_append]
  rfl
theorem rest_sub {rs : List Row} {a b : Nat} (h : a ≤ b) : (restR rs a b).Sublist rs := by
  unfold restR
  conv => rhs; rw [← List.take_append_drop b rs]
  refine List.Sublist.append ?_ (List.Sublist.refl _)
  rw [show rs.take a = (rs.take b).take a by rw [List.take_take, Nat.min_eq_left h]]
  exact List.take_sublist _ _
theorem Ok1.sub {rs rs' : List Row} {size : Int} (ok : Ok1 rs size) (h : rs'.Sublist rs) : Ok1 rs' size :=
  ⟨ok.s1, ok.s2, Nat.le_trans h.length_le ok.len, ok.ch.sub h⟩
def joinL (rs : List Row) (size : Int) (k : Nat) (p : Row) : List Int := ((G size 0 (restR rs k (k + 1))).filter fun q => decide (q.1 ≤ p.1) && decide (p.1 < q.1 + q.2)).map (·.2)
theorem join_ne {rs : List Row} {size : Int} {k : Nat} {p : Row} (ok : Ok1 rs size) (h : rs[k]? = some p) : joinL rs size k p ≠ [] := by
  have hl := (List.getElem?_eq_some_iff.mp h).1
  have e : rs = rs.take k ++ p :: rs.drop (k + 1) := by
    conv => lhs; rw [← List.take_append_drop k rs, List.drop_eq_getElem_cons hl]
    rw [(List.getElem?_eq_some_iff.mp h).2]
  have hc := ok.ch
  rw [e] at hc
  obtain ⟨q, hq, h1, h2⟩ := gap_of hc
  unfold joinL
  rw [Ne, List.map_eq_nil_iff, List.filter_eq_nil_iff]
  intro hh
  exact hh q hq (by simp [h1, h2])
theorem ix_head {hs : HS} {l : List Int} (h : l ≠ []) : ixF hs (.lst (l.map D.int)) (.int 0) = some (.int (l.headD 0)) := by
  cases l with
  | nil => exact absurd rfl h
  | cons a r =>
    rw [ix_lst (by decide) (by simp)]
    rfl
theorem f_joins {rs : List Row} {size spot : Int} {p : Row} (hs : HS) (ok : Ok1 rs size) (h0 : 0 ≤ spot) (h : rs[spot.toNat]? = some p) : ∃ e, F_joins_by_free [rowsD rs, .int size, .int spot] hs = .ok (.int ((joinL rs size spot.toNat p).headD 0)) (hs ++ e) := by
  have hl := (List.getElem?_eq_some_iff.mp h).1
  have s3 := ok.len
  have okr : Ok1 (restR rs spot.toNat (spot.toNat + 1)) size := ok.sub (rest_sub (by omega))
  obtain ⟨e, he⟩ := f_gaps hs okr
  refine ⟨e, ?_⟩
  have oz := Z_ok okr
  have hl2 := oz.len
  have hl' : (G size 0 (restR rs spot.toNat (spot.toNat + 1))).length ≤ 11 := by simpa [Z] using hl2
  have d1 : decide (0 ≤ spot) = true := decide_eq_true h0
  have d2 : decide (spot < (rs.length : Int)) = true := decide_eq_true (by omega)
  have d3 : (rs.take spot.toNat).length + (rs.drop (spot.toNat + 1)).length ≤ 16777216 := by simp; omega
  simp [F_joins_by_free, m_joins_by_free, mGx, ap_seq, ap_set, ap_ret, ap_expr, ap_ifS, ap_skip, ap_raise, ap_aug, ap_setSub, toS_some, toS_ok, bind_ok, of_some, ap_c, ap_var, ap_bin, ap_test, asB_bl, ap_if, ap_and, ap_or, ap_not, ap_andV, ap_orV, ap_notV, ap_nil, ap_cons, ap_tup, ap_lst, ap_val, ap_box, ap_cb, ap_cbl, ap_call, ap_for, ap_lc, ap_it, ap_yes, ap_sl, ap_noPart, ap_part, part_int, ap_chain2, then_t, then_f, ap_rng1, ap_rng2, ap_rgL, ap_rgT, ap_asg, ap_zip, ap_enumA, ap_par2, add_int, sub_int, lt_int, le_int, gt_int, ge_int, eq_int, ne_int, max2_int, min2_int, int_int, int_bl, it_lst, it_tup, seq_lst, any_lst, any_tup, nox_ok, runF, startL, wipeL, capL, putL, m1, m2, sz, f_check hs ok, d1, d2, len_rows, sl_rows_to h0, sl_rows_from (show 0 ≤ spot + 1 by omega), list_rows]
  rw [show (spot + 1).toNat = spot.toNat + 1 by omega, add_parts (by omega)]
  simp [mGx, ap_seq, ap_set, ap_ret, ap_expr, ap_ifS, ap_skip, ap_raise, ap_aug, ap_setSub, toS_some, toS_ok, bind_ok, of_some, ap_c, ap_var, ap_bin, ap_test, asB_bl, ap_if, ap_and, ap_or, ap_not, ap_andV, ap_orV, ap_notV, ap_nil, ap_cons, ap_tup, ap_lst, ap_val, ap_box, ap_cb, ap_cbl, ap_call, ap_for, ap_lc, ap_it, ap_yes, ap_sl, ap_noPart, ap_part, part_int, ap_chain2, then_t, then_f, ap_rng1, ap_rng2, ap_rgL, ap_rgT, ap_asg, ap_zip, ap_enumA, ap_par2, add_int, sub_int, lt_int, le_int, gt_int, ge_int, eq_int, ne_int, max2_int, min2_int, int_int, int_bl, it_lst, it_tup, seq_lst, any_lst, any_tup, nox_ok, runF, startL, wipeL, capL, putL, m1, m2, sz, he]
  rw [lc_go (enc := pD) (p := fun q => decide (q.1 ≤ p.1) && decide (p.1 < q.1 + q.2)) (q := fun q => .int q.2) _ [] ?_ (by simp [sz]; omega)]
  · simp only [List.nil_append]
    rw [show ((G size 0 (restR rs spot.toNat (spot.toNat + 1))).filter fun q => decide (q.1 ≤ p.1) && decide (p.1 < q.1 + q.2)).map (fun q => D.int q.2) = (joinL rs size spot.toNat p).map D.int by simp [joinL]]
    simp [mGx, ap_seq, ap_set, ap_ret, ap_expr, ap_ifS, ap_skip, ap_raise, ap_aug, ap_setSub, toS_some, toS_ok, bind_ok, of_some, ap_c, ap_var, ap_bin, ap_test, asB_bl, ap_if, ap_and, ap_or, ap_not, ap_andV, ap_orV, ap_notV, ap_nil, ap_cons, ap_tup, ap_lst, ap_val, ap_box, ap_cb, ap_cbl, ap_call, ap_for, ap_lc, ap_it, ap_yes, ap_sl, ap_noPart, ap_part, part_int, ap_chain2, then_t, then_f, ap_rng1, ap_rng2, ap_rgL, ap_rgT, ap_asg, ap_zip, ap_enumA, ap_par2, add_int, sub_int, lt_int, le_int, gt_int, ge_int, eq_int, ne_int, max2_int, min2_int, int_int, int_bl, it_lst, it_tup, seq_lst, any_lst, any_tup, nox_ok, runF, startL, wipeL, capL, putL, m1, m2, sz, ix_head (join_ne ok h)]
  · intro q hq
    refine ⟨_, rfl, rfl, ?_, fun _ => by simp [mGx, ap_seq, ap_set, ap_ret, ap_expr, ap_ifS, ap_skip, ap_raise, ap_aug, ap_setSub, toS_some, toS_ok, bind_ok, of_some, ap_c, ap_var, ap_bin, ap_test, asB_bl, ap_if, ap_and, ap_or, ap_not, ap_andV, ap_orV, ap_notV, ap_nil, ap_cons, ap_tup, ap_lst, ap_val, ap_box, ap_cb, ap_cbl, ap_call, ap_for, ap_lc, ap_it, ap_yes, ap_sl, ap_noPart, ap_part, part_int, ap_chain2, then_t, then_f, ap_rng1, ap_rng2, ap_rgL, ap_rgT, ap_asg, ap_zip, ap_enumA, ap_par2, add_int, sub_int, lt_int, le_int, gt_int, ge_int, eq_int, ne_int, max2_int, min2_int, int_int, int_bl, it_lst, it_tup, seq_lst, any_lst, any_tup, nox_ok, runF, startL, wipeL, capL, putL, m1, m2, sz]⟩
    simp [mGx, ap_seq, ap_set, ap_ret, ap_expr, ap_ifS, ap_skip, ap_raise, ap_aug, ap_setSub, toS_some, toS_ok, bind_ok, of_some, ap_c, ap_var, ap_bin, ap_test, asB_bl, ap_if, ap_and, ap_or, ap_not, ap_andV, ap_orV, ap_notV, ap_nil, ap_cons, ap_tup, ap_lst, ap_val, ap_box, ap_cb, ap_cbl, ap_call, ap_for, ap_lc, ap_it, ap_yes, ap_sl, ap_noPart, ap_part, part_int, ap_chain2, then_t, then_f, ap_rng1, ap_rng2, ap_rgL, ap_rgT, ap_asg, ap_zip, ap_enumA, ap_par2, add_int, sub_int, lt_int, le_int, gt_int, ge_int, eq_int, ne_int, max2_int, min2_int, int_int, int_bl, it_lst, it_tup, seq_lst, any_lst, any_tup, nox_ok, runF, startL, wipeL, capL, putL, m1, m2, sz]
    rw [ix_rows h0 h]
    simp [mGx, ap_seq, ap_set, ap_ret, ap_expr, ap_ifS, ap_skip, ap_raise, ap_aug, ap_setSub, toS_some, toS_ok, bind_ok, of_some, ap_c, ap_var, ap_bin, ap_test, asB_bl, ap_if, ap_and, ap_or, ap_not, ap_andV, ap_orV, ap_notV, ap_nil, ap_cons, ap_tup, ap_lst, ap_val, ap_box, ap_cb, ap_cbl, ap_call, ap_for, ap_lc, ap_it, ap_yes, ap_sl, ap_noPart, ap_part, part_int, ap_chain2, then_t, then_f, ap_rng1, ap_rng2, ap_rgL, ap_rgT, ap_asg, ap_zip, ap_enumA, ap_par2, add_int, sub_int, lt_int, le_int, gt_int, ge_int, eq_int, ne_int, max2_int, min2_int, int_int, int_bl, it_lst, it_tup, seq_lst, any_lst, any_tup, nox_ok, runF, startL, wipeL, capL, putL, m1, m2, sz, pD, ix_tup]
    by_cases c : q.1 ≤ p.1
    · simp [c, mGx, ap_seq, ap_set, ap_ret, ap_expr, ap_ifS, ap_skip, ap_raise, ap_aug, ap_setSub, toS_some, toS_ok, bind_ok, of_some, ap_c, ap_var, ap_bin, ap_test, asB_bl, ap_if, ap_and, ap_or, ap_not, ap_andV, ap_orV, ap_notV, ap_nil, ap_cons, ap_tup, ap_lst, ap_val, ap_box, ap_cb, ap_cbl, ap_call, ap_for, ap_lc, ap_it, ap_yes, ap_sl, ap_noPart, ap_part, part_int, ap_chain2, then_t, then_f, ap_rng1, ap_rng2, ap_rgL, ap_rgT, ap_asg, ap_zip, ap_enumA, ap_par2, add_int, sub_int, lt_int, le_int, gt_int, ge_int, eq_int, ne_int, max2_int, min2_int, int_int, int_bl, it_lst, it_tup, seq_lst, any_lst, any_tup, nox_ok, runF, startL, wipeL, capL, putL, m1, m2, sz]
    · simp [c, mGx, ap_seq, ap_set, ap_ret, ap_expr, ap_ifS, ap_skip, ap_raise, ap_aug, ap_setSub, toS_some, toS_ok, bind_ok, of_some, ap_c, ap_var, ap_bin, ap_test, asB_bl, ap_if, ap_and, ap_or, ap_not, ap_andV, ap_orV, ap_notV, ap_nil, ap_cons, ap_tup, ap_lst, ap_val, ap_box, ap_cb, ap_cbl, ap_call, ap_for, ap_lc, ap_it, ap_yes, ap_sl, ap_noPart, ap_part, part_int, ap_chain2, then_t, then_f, ap_rng1, ap_rng2, ap_rgL, ap_rgT, ap_asg, ap_zip, ap_enumA, ap_par2, add_int, sub_int, lt_int, le_int, gt_int, ge_int, eq_int, ne_int, max2_int, min2_int, int_int, int_bl, it_lst, it_tup, seq_lst, any_lst, any_tup, nox_ok, runF, startL, wipeL, capL, putL, m1, m2, sz]
end K16

set_option Elab.async false
set_option linter.all false
set_option maxRecDepth 100000
set_option maxHeartbeats 1000000
namespace K16
open PySem Fx
abbrev Way := Int × Int × Int
def wD (t : Way) : D := .tup [.int t.1, .int t.2.1, .int t.2.2]
def fitsAny (rs : List Row) (size ask : Int) : Bool := (G size 0 rs).any fun q => decide (ask ≤ q.2)
def wayAt (rs : List Row) (s e : Int) : Way := (e - s, (((rs.take e.toNat).drop s.toNat).map (·.2)).sum, s)
def stW (rs : List Row) (size ask s : Int) (acc : List Way) (e : Int) : List Way := if fitsAny (restR rs s.toNat e.toNat) size ask then acc ++ [wayAt rs s e] else acc
def rowW (rs : List Row) (size ask : Int) (acc : List Way) (s : Int) : List Way := (rI (s + 1) (rs.length + 1)).foldl (stW rs size ask s) acc
def waysL (rs : List Row) (size ask : Int) : List Way := (rI 0 rs.length).foldl (rowW rs size ask) []
theorem stW_len (rs : List Row) (size ask s : Int) (acc : List Way) (e : Int) : (stW rs size ask s acc e).length ≤ acc.length + 1 := by
  unfold stW; split <;> simp
theorem stW_foldl_len (rs : List Row) (size ask s : Int) : ∀ (es : List Int) (acc : List Way), (es.foldl (stW rs size ask s) acc).length ≤ acc.length + es.length
  | [], acc => by simp
  | e :: r, acc => by
    have h1 := stW_foldl_len rs size ask s r (stW rs size ask s acc e)
    have h2 := stW_len rs size ask s acc e
    rw [List.foldl_cons]; simp; omega
theorem rowW_len (rs : List Row) (size ask : Int) (acc : List Way) (s : Int) (h : 0 ≤ s) : (rowW rs size ask acc s).length ≤ acc.length + rs.length := by
  have := stW_foldl_len rs size ask s (rI (s + 1) (rs.length + 1)) acc
  rw [rI_len] at this
  unfold rowW
  omega
theorem rowW_foldl_len (rs : List Row) (size ask : Int) : ∀ (ss : List Int) (acc : List Way), (∀ s ∈ ss, 0 ≤ s) → (ss.foldl (rowW rs size ask) acc).length ≤ acc.length + ss.length * rs.length
  | [], acc, _ => by simp
  | s :: r, acc, h => by
    have h1 := rowW_foldl_len rs size ask r (rowW rs size ask acc s) fun x hx => h x (List.mem_cons_of_mem _ hx)
    have h2 := rowW_len rs size ask acc s (h s List.mem_cons_self)
    rw [List.foldl_cons, List.length_cons, Nat.succ_mul]; omega
structure WayOk (t : Way) : Prop where
  a0 : 0 ≤ t.1
  a1 : t.1 ≤ 20
  c0 : 0 ≤ t.2.2
  c1 : t.2.2 ≤ 20
theorem stW_ok {rs : List Row} {size ask s : Int} (h0 : 0 ≤ s) (h1 : s ≤ 10) (hn : rs.length ≤ 10) : ∀ (es : List Int) (acc : List Way), (∀ e ∈ es, s + 1 ≤ e ∧ e < (rs.length : Int) + 1) → (∀ t ∈ acc, WayOk t) → ∀ t ∈ es.foldl (stW rs size ask s) acc, WayOk t
  | [], acc, _, h => h
  | e :: r, acc, he, h => by
    rw [List.foldl_cons]
    refine stW_ok h0 h1 hn r _ (fun x hx => he x (List.mem_cons_of_mem _ hx)) fun t ht => ?_
    unfold stW at ht
    split at ht
    · rcases List.mem_append.mp ht with ht | ht
      · exact h t ht
      · simp at ht
        subst ht
        have := he e List.mem_cons_self
        exact ⟨by unfold wayAt; dsimp only; omega, by unfold wayAt; dsimp only; omega, by unfold wayAt; dsimp only; omega, by unfold wayAt; dsimp only; omega⟩
    · exact h t ht
theorem rowW_ok {rs : List Row} {size ask : Int} (hn : rs.length ≤ 10) : ∀ (ss : List Int) (acc : List Way), (∀ s ∈ ss, 0 ≤ s ∧ s < (rs.length : Int)) → (∀ t ∈ acc, WayOk t) → ∀ t ∈ ss.foldl (rowW rs size ask) acc, WayOk t
  | [], acc, _, h => h
  | s :: r, acc, hs, h => by
    rw [List.foldl_cons]
    have := hs s List.mem_cons_self
    exact rowW_ok hn r _ (fun x hx => hs x (List.mem_cons_of_mem _ hx)) (stW_ok (by omega) (by omega) hn _ _ (fun e he => mem_rI.mp he) h)
theorem ways_ok {rs : List Row} {size ask : Int} (hn : rs.length ≤ 10) : ∀ t ∈ waysL rs size ask, WayOk t := rowW_ok hn _ _ (fun s hs => mem_rI.mp hs) (fun t ht => by cases ht)
theorem ways_len {rs : List Row} {size ask : Int} (hn : rs.length ≤ 10) : (waysL rs size ask).length ≤ 100 := by
  have h := rowW_foldl_len rs size ask (rI 0 rs.length) [] (fun s hs => (mem_rI.mp hs).1)
  rw [rI_len] at h
  have h2 : ((rs.length : Int) - 0).toNat * rs.length ≤ 10 * 10 := Nat.mul_le_mul (by omega) hn
  unfold waysL
  simp at h h2 ⊢
  omega
theorem seq_nx {sa sb : MS} {ls l : LS} {hs h' : HS} (h : sa ls hs = .nx l h') : mSeq sa sb ls hs = sb l h' := by
  rw [ap_seq, h]
theorem seq_rt {sa sb : MS} {ls : LS} {d : D} {hs h' : HS} (h : sa ls hs = .rt d h') : mSeq sa sb ls hs = .rt d h' := by
  rw [ap_seq, h]
theorem runF_rt {n : Nat} {m : MS} {ds : List D} {d : D} {hs h' : HS} (h : m (startL n ds) hs = .rt d h') : runF n m ds hs = .ok d h' := by
  unfold runF
  rw [h]
theorem rng_len {ls : LS} {hs : HS} {rs : List Row} {i : Nat} (h : ls[i]? = some (some (rowsD rs))) (hl : rs.length ≤ 1000) : mRng1 (mCons (mCB lenC (m1 (mVar i))) mNil) ls hs = .ok ((rI 0 rs.length).map D.int, none) hs := by
  have key : ∀ n : Int, n = rs.length → mRng1 (mCons (mCB lenC (m1 (mVar i))) mNil) ls hs = .ok ((rI 0 n).map D.int, none) hs := by
    intro n hn
    have h2 : lenC hs [rowsD rs] = some (.int n) := by rw [len_rows, hn]
    rw [ap_rng1]
    simp only [m1, ap_cons, ap_cb, ap_nil, ap_var, h, Option.bind_some, id, of_some, bind_ok, h2]
    rw [rng1_int (show -(2 ^ 62) ≤ n ∧ n < 2 ^ 62 by omega), rng_rI0]
  exact key _ rfl
theorem ap_bm {f : MF} {o : M D} {as : M (List D)} {ls : LS} {hs : HS} : mBM f o as ls hs = (o ls hs).bind fun x h1 => if (seqL h1 x).isSome then (as ls h1).bind fun xs h2 => R.ofP (f h2 x xs) else .bad := rfl
theorem append_ref {hs : HS} {n : Nat} {xs : List D} {d : D} (h : lstAt hs n = some xs) (hl : xs.length < 16777216) : appendMF hs (.ref n) [d] = some (.non, hs.set n (.lst (xs ++ [d]))) := by
  simp [appendMF, h, sz, hl]
theorem any_map {α : Type} (f : α → Bool) (xs : List α) : xs.any f = xs.any f := rfl
theorem b_best {rs : List Row} {size ask s e : Int} {h0 g : HS} {acc : List Way} {o6 o7 o8 : Option D} (ok : Ok1 rs size) (hs0 : 0 ≤ s) (he : s + 1 ≤ e) (hl : acc.length ≤ 1000) :
    ∃ g' o6', b_best_to_free_0 [some (rowsD rs), some (.int size), some (.int ask), some (.ref h0.length), some (.int s), some (.int e), o6, o7, o8] (h0 ++ (.lst (acc.map wD) :: g)) =
      .nx [some (rowsD rs), some (.int size), some (.int ask), some (.ref h0.length), some (.int s), some (.int e), o6', o7, o8] (h0 ++ (.lst ((stW rs size ask s acc e).map wD) :: g')) := by
  have s3 := ok.len
  have okr : Ok1 (restR rs s.toNat e.toNat) size := ok.sub (rest_sub (by omega))
  obtain ⟨g1, hg⟩ := f_gaps (h0 ++ (.lst (acc.map wD) :: g)) okr
  refine ⟨g ++ g1, some (rowsD (restR rs s.toNat e.toNat)), ?_⟩
  simp [b_best_to_free_0, mGx, ap_seq, ap_set, ap_ret, ap_expr, ap_ifS, ap_skip, ap_raise, ap_aug, ap_setSub, toS_some, toS_ok, bind_ok, of_some, ap_c, ap_var, ap_bin, ap_test, asB_bl, ap_if, ap_and, ap_or, ap_not, ap_andV, ap_orV, ap_notV, ap_nil, ap_cons, ap_tup, ap_lst, ap_val, ap_box, ap_cb, ap_cbl, ap_call, ap_for, ap_lc, ap_it, ap_yes, ap_sl, ap_noPart, ap_part, part_int, ap_chain2, then_t, then_f, ap_rng1, ap_rng2, ap_rgL, ap_rgT, ap_asg, ap_zip, ap_enumA, ap_par2, add_int, sub_int, lt_int, le_int, gt_int, ge_int, eq_int, ne_int, max2_int, min2_int, int_int, int_bl, it_lst, it_tup, seq_lst, any_lst, any_tup, nox_ok, runF, startL, wipeL, capL, putL, m1, m2, sz, sl_rows_to hs0, sl_rows_from (show 0 ≤ e by omega), list_rows]
  rw [add_parts (by omega)]
  simp [mGx, ap_seq, ap_set, ap_ret, ap_expr, ap_ifS, ap_skip, ap_raise, ap_aug, ap_setSub, toS_some, toS_ok, bind_ok, of_some, ap_c, ap_var, ap_bin, ap_test, asB_bl, ap_if, ap_and, ap_or, ap_not, ap_andV, ap_orV, ap_notV, ap_nil, ap_cons, ap_tup, ap_lst, ap_val, ap_box, ap_cb, ap_cbl, ap_call, ap_for, ap_lc, ap_it, ap_yes, ap_sl, ap_noPart, ap_part, part_int, ap_chain2, then_t, then_f, ap_rng1, ap_rng2, ap_rgL, ap_rgT, ap_asg, ap_zip, ap_enumA, ap_par2, add_int, sub_int, lt_int, le_int, gt_int, ge_int, eq_int, ne_int, max2_int, min2_int, int_int, int_bl, it_lst, it_tup, seq_lst, any_lst, any_tup, nox_ok, runF, startL, wipeL, capL, putL, m1, m2, sz, hg]
  rw [gx_all (enc := pD) (q := fun q => .bl (decide (ask ≤ q.2))) _ ?_]
  · rw [any_outs (q := fun q : Row => decide (ask ≤ q.2))]
    simp only [ofP_some, mGx, ap_seq, ap_set, ap_ret, ap_expr, ap_ifS, ap_skip, ap_raise, ap_aug, ap_setSub, toS_some, toS_ok, bind_ok, of_some, ap_c, ap_var, ap_bin, ap_test, asB_bl, ap_if, ap_and, ap_or, ap_not, ap_andV, ap_orV, ap_notV, ap_nil, ap_cons, ap_tup, ap_lst, ap_val, ap_box, ap_cb, ap_cbl, ap_call, ap_for, ap_lc, ap_it, ap_yes, ap_sl, ap_noPart, ap_part, part_int, ap_chain2, then_t, then_f, ap_rng1, ap_rng2, ap_rgL, ap_rgT, ap_asg, ap_zip, ap_enumA, ap_par2, add_int, sub_int, lt_int, le_int, gt_int, ge_int, eq_int, ne_int, max2_int, min2_int, int_int, int_bl, it_lst, it_tup, seq_lst, any_lst, any_tup, nox_ok, runF, startL, wipeL, capL, putL, m1, m2, sz, if_true]
    rw [show (G size 0 (restR rs s.toNat e.toNat)).any (fun q => decide (ask ≤ q.2)) = fitsAny (restR rs s.toNat e.toNat) size ask from rfl]
    by_cases c : fitsAny (restR rs s.toNat e.toNat) size ask = true
    · simp [c, stW, mGx, ap_seq, ap_set, ap_ret, ap_expr, ap_ifS, ap_skip, ap_raise, ap_aug, ap_setSub, toS_some, toS_ok, bind_ok, of_some, ap_c, ap_var, ap_bin, ap_test, asB_bl, ap_if, ap_and, ap_or, ap_not, ap_andV, ap_orV, ap_notV, ap_nil, ap_cons, ap_tup, ap_lst, ap_val, ap_box, ap_cb, ap_cbl, ap_call, ap_for, ap_lc, ap_it, ap_yes, ap_sl, ap_noPart, ap_part, part_int, ap_chain2, then_t, then_f, ap_rng1, ap_rng2, ap_rgL, ap_rgT, ap_asg, ap_zip, ap_enumA, ap_par2, add_int, sub_int, lt_int, le_int, gt_int, ge_int, eq_int, ne_int, max2_int, min2_int, int_int, int_bl, it_lst, it_tup, seq_lst, any_lst, any_tup, nox_ok, runF, startL, wipeL, capL, putL, m1, m2, sz, ap_bm, seq_ref lst_at_new, sl_rows_mid hs0 (show 0 ≤ e by omega), it_rows]
      rw [← List.map_take, ← List.map_drop, gx_all (enc := pD) (q := fun q => .int q.2) _ ?_]
      · rw [sum_go (fun p : Row => p.2) _ 0 100 (fun p hp => by
          obtain ⟨g1, g2, g3⟩ := ok.ch.each p (List.mem_of_mem_take (List.mem_of_mem_drop hp))
          have := ok.s2
          omega) (by omega) (by simp; omega) (by omega) (by omega)]
        simp [ofP_some, mGx, ap_seq, ap_set, ap_ret, ap_expr, ap_ifS, ap_skip, ap_raise, ap_aug, ap_setSub, toS_some, toS_ok, bind_ok, of_some, ap_c, ap_var, ap_bin, ap_test, asB_bl, ap_if, ap_and, ap_or, ap_not, ap_andV, ap_orV, ap_notV, ap_nil, ap_cons, ap_tup, ap_lst, ap_val, ap_box, ap_cb, ap_cbl, ap_call, ap_for, ap_lc, ap_it, ap_yes, ap_sl, ap_noPart, ap_part, part_int, ap_chain2, then_t, then_f, ap_rng1, ap_rng2, ap_rgL, ap_rgT, ap_asg, ap_zip, ap_enumA, ap_par2, add_int, sub_int, lt_int, le_int, gt_int, ge_int, eq_int, ne_int, max2_int, min2_int, int_int, int_bl, it_lst, it_tup, seq_lst, any_lst, any_tup, nox_ok, runF, startL, wipeL, capL, putL, m1, m2, sz, append_ref lst_at_new, show acc.length < 16777216 by omega, set_new, wD, wayAt]
      · intro q hq
        exact ⟨_, rfl, rfl, rfl, fun _ => by simp [mGx, ap_seq, ap_set, ap_ret, ap_expr, ap_ifS, ap_skip, ap_raise, ap_aug, ap_setSub, toS_some, toS_ok, bind_ok, of_some, ap_c, ap_var, ap_bin, ap_test, asB_bl, ap_if, ap_and, ap_or, ap_not, ap_andV, ap_orV, ap_notV, ap_nil, ap_cons, ap_tup, ap_lst, ap_val, ap_box, ap_cb, ap_cbl, ap_call, ap_for, ap_lc, ap_it, ap_yes, ap_sl, ap_noPart, ap_part, part_int, ap_chain2, then_t, then_f, ap_rng1, ap_rng2, ap_rgL, ap_rgT, ap_asg, ap_zip, ap_enumA, ap_par2, add_int, sub_int, lt_int, le_int, gt_int, ge_int, eq_int, ne_int, max2_int, min2_int, int_int, int_bl, it_lst, it_tup, seq_lst, any_lst, any_tup, nox_ok, runF, startL, wipeL, capL, putL, m1, m2, sz, pD, ix_tup]⟩
    · simp [c, stW, mGx, ap_seq, ap_set, ap_ret, ap_expr, ap_ifS, ap_skip, ap_raise, ap_aug, ap_setSub, toS_some, toS_ok, bind_ok, of_some, ap_c, ap_var, ap_bin, ap_test, asB_bl, ap_if, ap_and, ap_or, ap_not, ap_andV, ap_orV, ap_notV, ap_nil, ap_cons, ap_tup, ap_lst, ap_val, ap_box, ap_cb, ap_cbl, ap_call, ap_for, ap_lc, ap_it, ap_yes, ap_sl, ap_noPart, ap_part, part_int, ap_chain2, then_t, then_f, ap_rng1, ap_rng2, ap_rgL, ap_rgT, ap_asg, ap_zip, ap_enumA, ap_par2, add_int, sub_int, lt_int, le_int, gt_int, ge_int, eq_int, ne_int, max2_int, min2_int, int_int, int_bl, it_lst, it_tup, seq_lst, any_lst, any_tup, nox_ok, runF, startL, wipeL, capL, putL, m1, m2, sz]
  · intro q hq
    exact ⟨_, rfl, rfl, rfl, fun _ => by simp [mGx, ap_seq, ap_set, ap_ret, ap_expr, ap_ifS, ap_skip, ap_raise, ap_aug, ap_setSub, toS_some, toS_ok, bind_ok, of_some, ap_c, ap_var, ap_bin, ap_test, asB_bl, ap_if, ap_and, ap_or, ap_not, ap_andV, ap_orV, ap_notV, ap_nil, ap_cons, ap_tup, ap_lst, ap_val, ap_box, ap_cb, ap_cbl, ap_call, ap_for, ap_lc, ap_it, ap_yes, ap_sl, ap_noPart, ap_part, part_int, ap_chain2, then_t, then_f, ap_rng1, ap_rng2, ap_rgL, ap_rgT, ap_asg, ap_zip, ap_enumA, ap_par2, add_int, sub_int, lt_int, le_int, gt_int, ge_int, eq_int, ne_int, max2_int, min2_int, int_int, int_bl, it_lst, it_tup, seq_lst, any_lst, any_tup, nox_ok, runF, startL, wipeL, capL, putL, m1, m2, sz]⟩
theorem b_best1 {rs : List Row} {size ask s : Int} {h0 g : HS} {acc : List Way} {o5 o6 o7 o8 : Option D} (ok : Ok1 rs size) (hs0 : 0 ≤ s) (hs1 : s ≤ 100) (hl : acc.length ≤ 500) :
    ∃ g' o5' o6', b_best_to_free_1 [some (rowsD rs), some (.int size), some (.int ask), some (.ref h0.length), some (.int s), o5, o6, o7, o8] (h0 ++ (.lst (acc.map wD) :: g)) =
      .nx [some (rowsD rs), some (.int size), some (.int ask), some (.ref h0.length), some (.int s), o5', o6', o7, o8] (h0 ++ (.lst ((rowW rs size ask acc s).map wD) :: g')) := by
  have s3 := ok.len
  have key := for_go (enc := D.int) (tg := mgName 5) (body := b_best_to_free_0) (hs0 := h0 ++ (.lst (acc.map wD) :: g)) (xs0 := rI (s + 1) (rs.length + 1))
    (fun pre ls hs' => ∃ a b g', ls = [some (rowsD rs), some (.int size), some (.int ask), some (.ref h0.length), some (.int s), a, b, o7, o8] ∧ hs' = h0 ++ (.lst ((pre.foldl (stW rs size ask s) acc).map wD) :: g'))
    (fun pre x post ls hs' e0 ⟨a, b, g', e1, e2⟩ => by
      subst e1
      subst e2
      have hx := mem_rI.mp (show x ∈ rI (s + 1) (rs.length + 1) by rw [e0]; simp)
      have hp : pre.length ≤ 20 := by
        have : (rI (s + 1) (rs.length + 1)).length ≤ 20 := by rw [rI_len]; omega
        rw [e0] at this; simp at this; omega
      have hl2 := stW_foldl_len rs size ask s pre acc
      obtain ⟨g2, o2, hb⟩ := @b_best rs size ask s x h0 g' (pre.foldl (stW rs size ask s) acc) b o7 o8 ok hs0 hx.1 (by omega)
      rw [show stW rs size ask s (pre.foldl (stW rs size ask s) acc) x = (pre ++ [x]).foldl (stW rs size ask s) acc by rw [List.foldl_append]; rfl] at hb
      exact ⟨_, rfl, _, _, .inl hb, _, _, _, rfl, rfl⟩)
    (rI (s + 1) (rs.length + 1)) [] [some (rowsD rs), some (.int size), some (.int ask), some (.ref h0.length), some (.int s), o5, o6, o7, o8] (h0 ++ (.lst (acc.map wD) :: g)) rfl ⟨o5, o6, g, rfl, rfl⟩
  obtain ⟨ls, hs2, e1, a, b, g', rfl, rfl⟩ := key
  refine ⟨g', a, b, ?_⟩
  simp [b_best_to_free_1, mGx, ap_seq, ap_set, ap_ret, ap_expr, ap_ifS, ap_skip, ap_raise, ap_aug, ap_setSub, toS_some, toS_ok, bind_ok, of_some, ap_c, ap_var, ap_bin, ap_test, asB_bl, ap_if, ap_and, ap_or, ap_not, ap_andV, ap_orV, ap_notV, ap_nil, ap_cons, ap_tup, ap_lst, ap_val, ap_box, ap_cb, ap_cbl, ap_call, ap_for, ap_lc, ap_it, ap_yes, ap_sl, ap_noPart, ap_part, part_int, ap_chain2, then_t, then_f, ap_rng1, ap_rng2, ap_rgL, ap_rgT, ap_asg, ap_zip, ap_enumA, ap_par2, add_int, sub_int, lt_int, le_int, gt_int, ge_int, eq_int, ne_int, max2_int, min2_int, int_int, int_bl, it_lst, it_tup, seq_lst, any_lst, any_tup, nox_ok, runF, startL, wipeL, capL, putL, m1, m2, sz, len_rows, rng2_int (show -(2 ^ 62) ≤ s + 1 ∧ s + 1 < 2 ^ 62 by omega) (show -(2 ^ 62) ≤ ((rs.length : Int) + 1) ∧ (rs.length : Int) + 1 < 2 ^ 62 by omega)]
  rw [rng_rI, e1]
  rfl
theorem resWs_ways (f : Nat → Option D) (ws : List Way) : resWs f (ws.map wD) = some (ws.map wD) := by
  induction ws with
  | nil => rfl
  | cons t r ih => simp [resWs, resW, wD] at ih ⊢; rw [ih]
theorem pl_ways {ws : List Way} : (D.lst (ws.map wD)).pl 8 = true := by
  simp only [D.pl]
  rw [pls_map fun _ _ => rfl]
  rfl
theorem eq_ways {hs : HS} {n m : Nat} {ws : List Way} (h1 : lstAt hs n = some (ws.map wD)) (h2 : lstAt hs m = some []) : eqF hs (.ref n) (.ref m) = some (.bl (decide (ws = []))) := by
  have r1 : D.res hs (.ref n) = some (.lst (ws.map wD)) := by
    show resW (resN 3 hs) (.ref n) = _
    simp only [resW, resN, h1, Option.bind_some, resWs_ways, Option.map_some]
  have r2 : D.res hs (.ref m) = some (.lst []) := by
    show resW (resN 3 hs) (.ref m) = _
    simp only [resW, resN, h2, Option.bind_some, resWs, Option.map_some]
  have p2 : (D.lst []).pl 8 = true := rfl
  simp only [eqF, r1, r2, Option.bind_some, pl_ways, p2, Bool.and_self, if_true, deq]
  cases ws <;> simp [D.py, D.pys, PyData.eqv, PyData.eqvAll]
theorem rowsOf_ways (ws : List Way) : rowsOf (ws.map wD) = some (ws.map fun t => [t.1, t.2.1, t.2.2]) := by
  induction ws with
  | nil => rfl
  | cons x r ih => simp [rowsOf, wD, asInts] at ih ⊢; exact ih
theorem minGo_mem : ∀ (ws : List Way) (t : Way), ∃ m ∈ t :: ws, minGo (wD t) [t.1, t.2.1, t.2.2] (ws.map wD) (ws.map fun t => [t.1, t.2.1, t.2.2]) = wD m
  | [], t => ⟨t, by simp, rfl⟩
  | u :: r, t => by
    simp only [List.map_cons, minGo]
    split
    · obtain ⟨m, hm, e⟩ := minGo_mem r u
      exact ⟨m, List.mem_cons_of_mem _ hm, e⟩
    · obtain ⟨m, hm, e⟩ := minGo_mem r t
      exact ⟨m, by rcases List.mem_cons.mp hm with rfl | hm; exact List.mem_cons_self; exact List.mem_cons_of_mem _ (List.mem_cons_of_mem _ hm), e⟩
inductive IsMin (ws : List Way) : Option Way → Prop
  | none (h : ws = []) : IsMin ws .none
  | some (m : Way) (hm : m ∈ ws) (h : ∀ hs d, seqL hs d = .some (ws.map wD) → minTC hs [d] = .some (wD m)) (hn : ws ≠ []) : IsMin ws (.some m)
theorem isMin (ws : List Way) : ∃ o, IsMin ws o := by
  cases ws with
  | nil => exact ⟨_, .none rfl⟩
  | cons t r =>
    obtain ⟨m, hm, e⟩ := minGo_mem r t
    refine ⟨_, .some m hm (fun hs d h => ?_) (by simp)⟩
    simp only [minTC, h, Option.bind_some, rowsOf_ways]
    simp only [List.map_cons, minPick]
    rw [e]
def dueD (rs : List Row) (size ask : Int) (o : Option Way) : D := if fitsAny rs size ask then .tup [] else match o with
  | none => .non
  | some m => .tup ((rI m.2.2 (m.2.2 + m.1)).map D.int)
theorem f_best {rs : List Row} {size ask : Int} {o : Option Way} (hs : HS) (ok : Ok1 rs size) (h1 : 1 ≤ ask) (hm : IsMin (waysL rs size ask) o) : ∃ g, F_best_to_free [rowsD rs, .int size, .int ask] hs = .ok (dueD rs size ask o) (hs ++ g) := by
  have s3 := ok.len
  obtain ⟨g1, hg⟩ := f_gaps hs ok
  have hgx : gxGo [0, 1] (mgTup [mgName 0, mgName 1]) mYes (mBin geF (mVar 1) (mVar 2)) none (hs ++ g1) [none, none, some (.int ask)] ((G size 0 rs).map pD) (hs ++ g1) = (((G size 0 rs).map fun q => (D.bl (decide (ask ≤ q.2)), hs ++ g1)), some (hs ++ g1)) :=
    gx_all (enc := pD) (q := fun q => .bl (decide (ask ≤ q.2))) _ fun q hq => ⟨_, rfl, rfl, rfl, fun _ => by simp [mGx, ap_seq, ap_set, ap_ret, ap_expr, ap_ifS, ap_skip, ap_raise, ap_aug, ap_setSub, toS_some, toS_ok, bind_ok, of_some, ap_c, ap_var, ap_bin, ap_test, asB_bl, ap_if, ap_and, ap_or, ap_not, ap_andV, ap_orV, ap_notV, ap_nil, ap_cons, ap_tup, ap_lst, ap_val, ap_box, ap_cb, ap_cbl, ap_call, ap_for, ap_lc, ap_it, ap_yes, ap_sl, ap_noPart, ap_part, part_int, ap_chain2, then_t, then_f, ap_rng1, ap_rng2, ap_rgL, ap_rgT, ap_asg, ap_zip, ap_enumA, ap_par2, add_int, sub_int, lt_int, le_int, gt_int, ge_int, eq_int, ne_int, max2_int, min2_int, int_int, int_bl, it_lst, it_tup, seq_lst, any_lst, any_tup, nox_ok, runF, startL, wipeL, capL, putL, m1, m2, sz]⟩
  by_cases c : fitsAny rs size ask = true
  · refine ⟨g1, ?_⟩
    simp [F_best_to_free, m_best_to_free, mGx, ap_seq, ap_set, ap_ret, ap_expr, ap_ifS, ap_skip, ap_raise, ap_aug, ap_setSub, toS_some, toS_ok, bind_ok, of_some, ap_c, ap_var, ap_bin, ap_test, asB_bl, ap_if, ap_and, ap_or, ap_not, ap_andV, ap_orV, ap_notV, ap_nil, ap_cons, ap_tup, ap_lst, ap_val, ap_box, ap_cb, ap_cbl, ap_call, ap_for, ap_lc, ap_it, ap_yes, ap_sl, ap_noPart, ap_part, part_int, ap_chain2, then_t, then_f, ap_rng1, ap_rng2, ap_rgL, ap_rgT, ap_asg, ap_zip, ap_enumA, ap_par2, add_int, sub_int, lt_int, le_int, gt_int, ge_int, eq_int, ne_int, max2_int, min2_int, int_int, int_bl, it_lst, it_tup, seq_lst, any_lst, any_tup, nox_ok, runF, startL, wipeL, capL, putL, m1, m2, sz, hg, show ¬ ask < 1 by omega]
    rw [hgx, any_outs (q := fun q : Row => decide (ask ≤ q.2))]
    simp only [ofP_some, mGx, ap_seq, ap_set, ap_ret, ap_expr, ap_ifS, ap_skip, ap_raise, ap_aug, ap_setSub, toS_some, toS_ok, bind_ok, of_some, ap_c, ap_var, ap_bin, ap_test, asB_bl, ap_if, ap_and, ap_or, ap_not, ap_andV, ap_orV, ap_notV, ap_nil, ap_cons, ap_tup, ap_lst, ap_val, ap_box, ap_cb, ap_cbl, ap_call, ap_for, ap_lc, ap_it, ap_yes, ap_sl, ap_noPart, ap_part, part_int, ap_chain2, then_t, then_f, ap_rng1, ap_rng2, ap_rgL, ap_rgT, ap_asg, ap_zip, ap_enumA, ap_par2, add_int, sub_int, lt_int, le_int, gt_int, ge_int, eq_int, ne_int, max2_int, min2_int, int_int, int_bl, it_lst, it_tup, seq_lst, any_lst, any_tup, nox_ok, runF, startL, wipeL, capL, putL, m1, m2, sz, if_true]
    rw [show (G size 0 rs).any (fun q => decide (ask ≤ q.2)) = fitsAny rs size ask from rfl, c]
    simp [mGx, ap_seq, ap_set, ap_ret, ap_expr, ap_ifS, ap_skip, ap_raise, ap_aug, ap_setSub, toS_some, toS_ok, bind_ok, of_some, ap_c, ap_var, ap_bin, ap_test, asB_bl, ap_if, ap_and, ap_or, ap_not, ap_andV, ap_orV, ap_notV, ap_nil, ap_cons, ap_tup, ap_lst, ap_val, ap_box, ap_cb, ap_cbl, ap_call, ap_for, ap_lc, ap_it, ap_yes, ap_sl, ap_noPart, ap_part, part_int, ap_chain2, then_t, then_f, ap_rng1, ap_rng2, ap_rgL, ap_rgT, ap_asg, ap_zip, ap_enumA, ap_par2, add_int, sub_int, lt_int, le_int, gt_int, ge_int, eq_int, ne_int, max2_int, min2_int, int_int, int_bl, it_lst, it_tup, seq_lst, any_lst, any_tup, nox_ok, runF, startL, wipeL, capL, putL, m1, m2, sz, dueD, c]
  · have key := for_go (enc := D.int) (tg := mgName 4) (body := b_best_to_free_1) (hs0 := hs ++ g1 ++ [.lst []]) (xs0 := rI 0 rs.length)
      (fun pre ls hs' => ∃ s a b g', ls = [some (rowsD rs), some (.int size), some (.int ask), some (.ref (hs ++ g1).length), s, a, b, none, none] ∧ hs' = (hs ++ g1) ++ (.lst ((pre.foldl (rowW rs size ask) []).map wD) :: g'))
      (fun pre x post ls hs' e0 ⟨s, a, b, g', e1, e2⟩ => by
        subst e1
        subst e2
        have hmem : ∀ y ∈ pre ++ x :: post, 0 ≤ y ∧ y < (rs.length : Int) := fun y hy => mem_rI.mp (by rw [e0]; exact hy)
        have hx := hmem x (by simp)
        have hp : pre.length ≤ 10 := by
          have : (rI 0 rs.length).length ≤ 10 := by rw [rI_len]; omega
          rw [e0] at this; simp at this; omega
        have hl2 := rowW_foldl_len rs size ask pre [] (fun y hy => (hmem y (by simp [hy])).1)
        have hl3 : pre.length * rs.length ≤ 10 * 10 := Nat.mul_le_mul hp s3
        obtain ⟨g2, o2, o3, hb⟩ := @b_best1 rs size ask x (hs ++ g1) g' (pre.foldl (rowW rs size ask) []) a b none none ok hx.1 (by omega) (by simp at hl2; omega)
        rw [show rowW rs size ask (pre.foldl (rowW rs size ask) []) x = (pre ++ [x]).foldl (rowW rs size ask) [] by rw [List.foldl_append]; rfl] at hb
        exact ⟨_, rfl, _, _, .inl hb, _, _, _, _, rfl, rfl⟩)
      (rI 0 rs.length) [] [some (rowsD rs), some (.int size), some (.int ask), some (.ref (hs ++ g1).length), none, none, none, none, none] (hs ++ g1 ++ [.lst []]) rfl ⟨none, none, none, [], rfl, rfl⟩
    obtain ⟨ls, hs2, e1, s, a, b, g', rfl, rfl⟩ := key
    have hw : (rI 0 rs.length).foldl (rowW rs size ask) [] = waysL rs size ask := rfl
    rw [hw] at e1
    have hc : fitsAny rs size ask = false := by simpa using c
    refine ⟨g1 ++ .lst ((waysL rs size ask).map wD) :: (g' ++ [.lst []]), ?_⟩
    rw [← List.append_assoc hs g1]
    have hgx2 : mGx [0, 1] [none, none, some 2] (mIt (mCall 2 [] F_gaps_between (mCons (mVar 0) (mCons (mVar 1) mNil)))) (mgTup [(mgName 0), (mgName 1)]) mYes (mBin geF (mVar 1) (mVar 2)) (anyF true) [some (rowsD rs), some (.int size), some (.int ask), none, none, none, none, none, none] hs = .ok (.bl false) (hs ++ g1) := by
      rw [gx_pair (xs := (G size 0 rs).map pD) (o := none) (h1 := hs ++ g1) (by simp [mGx, ap_seq, ap_set, ap_ret, ap_expr, ap_ifS, ap_skip, ap_raise, ap_aug, ap_setSub, toS_some, toS_ok, bind_ok, of_some, ap_c, ap_var, ap_bin, ap_test, asB_bl, ap_if, ap_and, ap_or, ap_not, ap_andV, ap_orV, ap_notV, ap_nil, ap_cons, ap_tup, ap_lst, ap_val, ap_box, ap_cb, ap_cbl, ap_call, ap_for, ap_lc, ap_it, ap_yes, ap_sl, ap_noPart, ap_part, part_int, ap_chain2, then_t, then_f, ap_rng1, ap_rng2, ap_rgL, ap_rgT, ap_asg, ap_zip, ap_enumA, ap_par2, add_int, sub_int, lt_int, le_int, gt_int, ge_int, eq_int, ne_int, max2_int, min2_int, int_int, int_bl, it_lst, it_tup, seq_lst, any_lst, any_tup, nox_ok, runF, startL, wipeL, capL, putL, m1, m2, sz, hg]) hgx, any_outs (q := fun q : Row => decide (ask ≤ q.2))]
      simp only [if_true]
      rw [show (G size 0 rs).any (fun q => decide (ask ≤ q.2)) = fitsAny rs size ask from rfl, hc]
      rfl
    have heq := eq_ways (hs := hs ++ g1 ++ .lst ((waysL rs size ask).map wD) :: (g' ++ [.lst []])) (ws := waysL rs size ask) lst_at_new lst_at_new2
    clear hgx hg
    generalize hs ++ g1 = K at *
    have n1 : ¬ ask < 1 := by omega
    refine runF_rt ?_
    unfold m_best_to_free
    refine (seq_nx (l := [some (rowsD rs), some (.int size), some (.int ask), none, none, none, none, none, none]) (h' := hs) (by simp only [startL, List.map_cons, List.map_nil, List.length_cons, List.length_nil]; simp [mGx, ap_seq, ap_set, ap_ret, ap_expr, ap_ifS, ap_skip, ap_raise, ap_aug, ap_setSub, toS_some, toS_ok, bind_ok, of_some, ap_c, ap_var, ap_bin, ap_test, asB_bl, ap_if, ap_and, ap_or, ap_not, ap_andV, ap_orV, ap_notV, ap_nil, ap_cons, ap_tup, ap_lst, ap_val, ap_box, ap_cb, ap_cbl, ap_call, ap_for, ap_lc, ap_it, ap_yes, ap_sl, ap_noPart, ap_part, part_int, ap_chain2, then_t, then_f, ap_rng1, ap_rng2, ap_rgL, ap_rgT, ap_asg, ap_zip, ap_enumA, ap_par2, add_int, sub_int, lt_int, le_int, gt_int, ge_int, eq_int, ne_int, max2_int, min2_int, int_int, int_bl, it_lst, it_tup, seq_lst, any_lst, any_tup, nox_ok, runF, startL, wipeL, capL, putL, m1, m2, sz, n1])).trans ?_
    refine (seq_nx (l := [some (rowsD rs), some (.int size), some (.int ask), none, none, none, none, none, none]) (h' := K) (by rw [ap_ifS, ap_test, hgx2]; rfl)).trans ?_
    refine (seq_nx (l := [some (rowsD rs), some (.int size), some (.int ask), some (.ref K.length), none, none, none, none, none]) (h' := K ++ [.lst []]) (by simp [mGx, ap_seq, ap_set, ap_ret, ap_expr, ap_ifS, ap_skip, ap_raise, ap_aug, ap_setSub, toS_some, toS_ok, bind_ok, of_some, ap_c, ap_var, ap_bin, ap_test, asB_bl, ap_if, ap_and, ap_or, ap_not, ap_andV, ap_orV, ap_notV, ap_nil, ap_cons, ap_tup, ap_lst, ap_val, ap_box, ap_cb, ap_cbl, ap_call, ap_for, ap_lc, ap_it, ap_yes, ap_sl, ap_noPart, ap_part, part_int, ap_chain2, then_t, then_f, ap_rng1, ap_rng2, ap_rgL, ap_rgT, ap_asg, ap_zip, ap_enumA, ap_par2, add_int, sub_int, lt_int, le_int, gt_int, ge_int, eq_int, ne_int, max2_int, min2_int, int_int, int_bl, it_lst, it_tup, seq_lst, any_lst, any_tup, nox_ok, runF, startL, wipeL, capL, putL, m1, m2, sz])).trans ?_
    refine (seq_nx (l := [some (rowsD rs), some (.int size), some (.int ask), some (.ref K.length), s, a, b, none, none]) (h' := K ++ .lst ((waysL rs size ask).map wD) :: g') (by
      rw [ap_for, rng_len (rs := rs) rfl (by omega), toS_ok]
      exact e1)).trans ?_
    cases hm with
    | none h =>
      rw [h] at heq
      refine (seq_rt (d := .non) (h' := K ++ .lst ((waysL rs size ask).map wD) :: (g' ++ [.lst []])) ?_).trans ?_
      · rw [h]
        simp [mGx, ap_seq, ap_set, ap_ret, ap_expr, ap_ifS, ap_skip, ap_raise, ap_aug, ap_setSub, toS_some, toS_ok, bind_ok, of_some, ap_c, ap_var, ap_bin, ap_test, asB_bl, ap_if, ap_and, ap_or, ap_not, ap_andV, ap_orV, ap_notV, ap_nil, ap_cons, ap_tup, ap_lst, ap_val, ap_box, ap_cb, ap_cbl, ap_call, ap_for, ap_lc, ap_it, ap_yes, ap_sl, ap_noPart, ap_part, part_int, ap_chain2, then_t, then_f, ap_rng1, ap_rng2, ap_rgL, ap_rgT, ap_asg, ap_zip, ap_enumA, ap_par2, add_int, sub_int, lt_int, le_int, gt_int, ge_int, eq_int, ne_int, max2_int, min2_int, int_int, int_bl, it_lst, it_tup, seq_lst, any_lst, any_tup, nox_ok, runF, startL, wipeL, capL, putL, m1, m2, sz] at heq ⊢
        rw [heq]
        simp [mGx, ap_seq, ap_set, ap_ret, ap_expr, ap_ifS, ap_skip, ap_raise, ap_aug, ap_setSub, toS_some, toS_ok, bind_ok, of_some, ap_c, ap_var, ap_bin, ap_test, asB_bl, ap_if, ap_and, ap_or, ap_not, ap_andV, ap_orV, ap_notV, ap_nil, ap_cons, ap_tup, ap_lst, ap_val, ap_box, ap_cb, ap_cbl, ap_call, ap_for, ap_lc, ap_it, ap_yes, ap_sl, ap_noPart, ap_part, part_int, ap_chain2, then_t, then_f, ap_rng1, ap_rng2, ap_rgL, ap_rgT, ap_asg, ap_zip, ap_enumA, ap_par2, add_int, sub_int, lt_int, le_int, gt_int, ge_int, eq_int, ne_int, max2_int, min2_int, int_int, int_bl, it_lst, it_tup, seq_lst, any_lst, any_tup, nox_ok, runF, startL, wipeL, capL, putL, m1, m2, sz]
      · simp [dueD, hc]
    | some m hm h hn =>
      have hmin := h (K ++ .lst ((waysL rs size ask).map wD) :: (g' ++ [.lst []])) (.ref K.length) (seq_ref lst_at_new)
      have wo := ways_ok s3 m hm
      obtain ⟨w0, w1, w2, w3⟩ := wo
      refine (seq_nx (l := [some (rowsD rs), some (.int size), some (.int ask), some (.ref K.length), s, a, b, none, none]) (h' := K ++ .lst ((waysL rs size ask).map wD) :: (g' ++ [.lst []])) (by simp [mGx, ap_seq, ap_set, ap_ret, ap_expr, ap_ifS, ap_skip, ap_raise, ap_aug, ap_setSub, toS_some, toS_ok, bind_ok, of_some, ap_c, ap_var, ap_bin, ap_test, asB_bl, ap_if, ap_and, ap_or, ap_not, ap_andV, ap_orV, ap_notV, ap_nil, ap_cons, ap_tup, ap_lst, ap_val, ap_box, ap_cb, ap_cbl, ap_call, ap_for, ap_lc, ap_it, ap_yes, ap_sl, ap_noPart, ap_part, part_int, ap_chain2, then_t, then_f, ap_rng1, ap_rng2, ap_rgL, ap_rgT, ap_asg, ap_zip, ap_enumA, ap_par2, add_int, sub_int, lt_int, le_int, gt_int, ge_int, eq_int, ne_int, max2_int, min2_int, int_int, int_bl, it_lst, it_tup, seq_lst, any_lst, any_tup, nox_ok, runF, startL, wipeL, capL, putL, m1, m2, sz, heq, hn])).trans ?_
      refine (seq_nx (l := [some (rowsD rs), some (.int size), some (.int ask), some (.ref K.length), some (.int m.2.2), a, b, some (.int m.1), some (.int m.2.1)]) (h' := K ++ .lst ((waysL rs size ask).map wD) :: (g' ++ [.lst []])) (by simp [mGx, ap_seq, ap_set, ap_ret, ap_expr, ap_ifS, ap_skip, ap_raise, ap_aug, ap_setSub, toS_some, toS_ok, bind_ok, of_some, ap_c, ap_var, ap_bin, ap_test, asB_bl, ap_if, ap_and, ap_or, ap_not, ap_andV, ap_orV, ap_notV, ap_nil, ap_cons, ap_tup, ap_lst, ap_val, ap_box, ap_cb, ap_cbl, ap_call, ap_for, ap_lc, ap_it, ap_yes, ap_sl, ap_noPart, ap_part, part_int, ap_chain2, then_t, then_f, ap_rng1, ap_rng2, ap_rgL, ap_rgT, ap_asg, ap_zip, ap_enumA, ap_par2, add_int, sub_int, lt_int, le_int, gt_int, ge_int, eq_int, ne_int, max2_int, min2_int, int_int, int_bl, it_lst, it_tup, seq_lst, any_lst, any_tup, nox_ok, runF, startL, wipeL, capL, putL, m1, m2, sz, hmin, mgTup, mgGo, mgName, wD])).trans ?_
      simp [mGx, ap_seq, ap_set, ap_ret, ap_expr, ap_ifS, ap_skip, ap_raise, ap_aug, ap_setSub, toS_some, toS_ok, bind_ok, of_some, ap_c, ap_var, ap_bin, ap_test, asB_bl, ap_if, ap_and, ap_or, ap_not, ap_andV, ap_orV, ap_notV, ap_nil, ap_cons, ap_tup, ap_lst, ap_val, ap_box, ap_cb, ap_cbl, ap_call, ap_for, ap_lc, ap_it, ap_yes, ap_sl, ap_noPart, ap_part, part_int, ap_chain2, then_t, then_f, ap_rng1, ap_rng2, ap_rgL, ap_rgT, ap_asg, ap_zip, ap_enumA, ap_par2, add_int, sub_int, lt_int, le_int, gt_int, ge_int, eq_int, ne_int, max2_int, min2_int, int_int, int_bl, it_lst, it_tup, seq_lst, any_lst, any_tup, nox_ok, runF, startL, wipeL, capL, putL, m1, m2, sz, rgO_ok (show -(2 ^ 20) ≤ m.2.2 by omega) (by omega) (show -(2 ^ 20) ≤ m.2.2 + m.1 by omega) (by omega), rng_rI, dueD, hc]
end K16

set_option Elab.async false
set_option linter.all false
set_option maxRecDepth 100000
set_option maxHeartbeats 1000000
namespace K16
open PySem Fx
theorem wh_go2 {t : M Bool} {body : MS} (I : Nat → LS → HS → Prop) (J : LS → HS → Prop)
    (step : ∀ n ls hs, I n ls hs → ∃ c h1, t ls hs = .ok c h1 ∧ (c = false → J ls h1) ∧ (c = true → ∃ m, n = m + 1 ∧ ∃ ls' hs', body ls h1 = .nx ls' hs' ∧ I m ls' hs')) :
    ∀ (f n : Nat) ls hs, n < f → I n ls hs → ∃ ls' hs', whD t body f ls hs = .nx ls' hs' ∧ J ls' hs'
  | 0, n, ls, hs, h, _ => absurd h (Nat.not_lt_zero n)
  | f + 1, n, ls, hs, h, i => by
    obtain ⟨c, h1, e, e1, e2⟩ := step n ls hs i
    cases c with
    | false => exact ⟨ls, h1, by simp [whD, e, toS_ok], e1 rfl⟩
    | true =>
      obtain ⟨m, rfl, ls', hs', e3, e4⟩ := e2 rfl
      obtain ⟨ls2, hs2, e5, e6⟩ := wh_go2 I J step f m ls' hs' (by omega) e4
      exact ⟨ls2, hs2, by simp [whD, e, toS_ok, e3, e5], e6⟩
/-! waste -/
def moreV (asks : List Int) (line : Int) : Int := (asks.map fun a => (0 - a) % line).sum
theorem f_waste {asks : List Int} {line : Int} (hs : HS) (ha : ∀ a ∈ asks, 1 ≤ a ∧ a ≤ 100) (hn : asks.length ≤ 10) (h0 : asks ≠ []) (h1 : 1 ≤ line) (h2 : line ≤ 100) : F_waste_of_lines [.lst (asks.map D.int), .int line] hs = .ok (.tup [.int (moreV asks line), .int (1000 * moreV asks line / asks.sum)]) hs := by
  have n1 : ¬ line < 1 := by omega
  simp [F_waste_of_lines, m_waste_of_lines, mGx, ap_seq, ap_set, ap_ret, ap_expr, ap_ifS, ap_skip, ap_raise, ap_aug, ap_setSub, toS_some, toS_ok, bind_ok, of_some, ap_c, ap_var, ap_bin, ap_test, asB_bl, ap_if, ap_and, ap_or, ap_not, ap_andV, ap_orV, ap_notV, ap_nil, ap_cons, ap_tup, ap_lst, ap_val, ap_box, ap_cb, ap_cbl, ap_call, ap_for, ap_lc, ap_it, ap_yes, ap_sl, ap_noPart, ap_part, part_int, ap_chain2, then_t, then_f, ap_rng1, ap_rng2, ap_rgL, ap_rgT, ap_asg, ap_zip, ap_enumA, ap_par2, add_int, sub_int, lt_int, le_int, gt_int, ge_int, eq_int, ne_int, max2_int, min2_int, int_int, int_bl, it_lst, it_tup, seq_lst, any_lst, any_tup, nox_ok, runF, startL, wipeL, capL, putL, m1, m2, sz, n1]
  rw [gx_all (enc := D.int) (q := fun l => .bl (decide (l < 1))) asks ?_]
  · rw [any_outs (q := fun l => decide (l < 1))]
    have hany : asks.any (fun l => decide (l < 1)) = false := by
      rw [List.any_eq_false]
      intro a h
      have := ha a h
      simp; omega
    simp [ofP_some, mGx, ap_seq, ap_set, ap_ret, ap_expr, ap_ifS, ap_skip, ap_raise, ap_aug, ap_setSub, toS_some, toS_ok, bind_ok, of_some, ap_c, ap_var, ap_bin, ap_test, asB_bl, ap_if, ap_and, ap_or, ap_not, ap_andV, ap_orV, ap_notV, ap_nil, ap_cons, ap_tup, ap_lst, ap_val, ap_box, ap_cb, ap_cbl, ap_call, ap_for, ap_lc, ap_it, ap_yes, ap_sl, ap_noPart, ap_part, part_int, ap_chain2, then_t, then_f, ap_rng1, ap_rng2, ap_rgL, ap_rgT, ap_asg, ap_zip, ap_enumA, ap_par2, add_int, sub_int, lt_int, le_int, gt_int, ge_int, eq_int, ne_int, max2_int, min2_int, int_int, int_bl, it_lst, it_tup, seq_lst, any_lst, any_tup, nox_ok, runF, startL, wipeL, capL, putL, m1, m2, sz, hany]
    rw [gx_all (enc := D.int) (q := fun a => .int ((0 - a) % line)) asks ?_]
    · rw [sum_go (fun a : Int => (0 - a) % line) asks 0 100 (fun a h => by
        have h3 := Int.emod_nonneg (0 - a) (show line ≠ 0 by omega)
        have h4 := Int.emod_lt_of_pos (0 - a) (show 0 < line by omega)
        omega) (by omega) (by omega) (by omega) (by omega)]
      have hl : 0 < asks.length := List.length_pos_iff.mpr h0
      have hsum : 1 ≤ asks.sum ∧ asks.sum ≤ 1000 := by
        have gen : ∀ l : List Int, (∀ a ∈ l, 1 ≤ a ∧ a ≤ 100) → (l.length : Int) ≤ l.sum ∧ l.sum ≤ 100 * l.length := by
          intro l
          induction l with
          | nil => intro _; simp
          | cons a r ih =>
            intro h
            have := ih fun x hx => h x (List.mem_cons_of_mem _ hx)
            have := h a List.mem_cons_self
            rw [List.sum_cons, List.length_cons]; omega
        have := gen asks ha
        omega
      have hpos : 0 < asks.sum := by omega
      have e1 : (asks.map fun a => (0 - a) % line).sum = moreV asks line := rfl
      rw [e1]
      have hlen : ∀ n : Int, n = asks.length → lenC hs [.lst (asks.map D.int)] = some (.int n) := fun n h => by rw [len_lst, List.length_map, h]
      obtain ⟨n, hn⟩ : ∃ n : Int, n = asks.length := ⟨_, rfl⟩
      have hn0 : 0 < n := by omega
      simp [ofP_some, mGx, ap_seq, ap_set, ap_ret, ap_expr, ap_ifS, ap_skip, ap_raise, ap_aug, ap_setSub, toS_some, toS_ok, bind_ok, of_some, ap_c, ap_var, ap_bin, ap_test, asB_bl, ap_if, ap_and, ap_or, ap_not, ap_andV, ap_orV, ap_notV, ap_nil, ap_cons, ap_tup, ap_lst, ap_val, ap_box, ap_cb, ap_cbl, ap_call, ap_for, ap_lc, ap_it, ap_yes, ap_sl, ap_noPart, ap_part, part_int, ap_chain2, then_t, then_f, ap_rng1, ap_rng2, ap_rgL, ap_rgT, ap_asg, ap_zip, ap_enumA, ap_par2, add_int, sub_int, lt_int, le_int, gt_int, ge_int, eq_int, ne_int, max2_int, min2_int, int_int, int_bl, it_lst, it_tup, seq_lst, any_lst, any_tup, nox_ok, runF, startL, wipeL, capL, putL, m1, m2, sz, hlen n hn, hn0, mul_int, sumC_lst, div_int (show 0 < asks.sum ∧ asks.sum < 1073741824 by omega)]
    · intro a h
      exact ⟨_, rfl, rfl, rfl, fun _ => by simp [mGx, ap_seq, ap_set, ap_ret, ap_expr, ap_ifS, ap_skip, ap_raise, ap_aug, ap_setSub, toS_some, toS_ok, bind_ok, of_some, ap_c, ap_var, ap_bin, ap_test, asB_bl, ap_if, ap_and, ap_or, ap_not, ap_andV, ap_orV, ap_notV, ap_nil, ap_cons, ap_tup, ap_lst, ap_val, ap_box, ap_cb, ap_cbl, ap_call, ap_for, ap_lc, ap_it, ap_yes, ap_sl, ap_noPart, ap_part, part_int, ap_chain2, then_t, then_f, ap_rng1, ap_rng2, ap_rgL, ap_rgT, ap_asg, ap_zip, ap_enumA, ap_par2, add_int, sub_int, lt_int, le_int, gt_int, ge_int, eq_int, ne_int, max2_int, min2_int, int_int, int_bl, it_lst, it_tup, seq_lst, any_lst, any_tup, nox_ok, runF, startL, wipeL, capL, putL, m1, m2, sz, mod_int (show 0 < line by omega)]⟩
  · intro a h
    exact ⟨_, rfl, rfl, rfl, fun _ => by simp [mGx, ap_seq, ap_set, ap_ret, ap_expr, ap_ifS, ap_skip, ap_raise, ap_aug, ap_setSub, toS_some, toS_ok, bind_ok, of_some, ap_c, ap_var, ap_bin, ap_test, asB_bl, ap_if, ap_and, ap_or, ap_not, ap_andV, ap_orV, ap_notV, ap_nil, ap_cons, ap_tup, ap_lst, ap_val, ap_box, ap_cb, ap_cbl, ap_call, ap_for, ap_lc, ap_it, ap_yes, ap_sl, ap_noPart, ap_part, part_int, ap_chain2, then_t, then_f, ap_rng1, ap_rng2, ap_rgL, ap_rgT, ap_asg, ap_zip, ap_enumA, ap_par2, add_int, sub_int, lt_int, le_int, gt_int, ge_int, eq_int, ne_int, max2_int, min2_int, int_int, int_bl, it_lst, it_tup, seq_lst, any_lst, any_tup, nox_ok, runF, startL, wipeL, capL, putL, m1, m2, sz]⟩
/-! dice -/
def dc (a b c : Int) : Ob := .lst [.int a, .int b, .int c]
theorem lst_at_0 {a b c : Int} {t : HS} : lstAt (dc a b c :: t) 0 = some [.int a, .int b, .int c] := rfl
theorem f_dice (x : Int) (hs : HS) : ∃ a b c, F__law_dice [.int x] hs = .ok (.ref hs.length) (hs ++ [dc a b c]) := by
  by_cases h1 : -10 < x
  · by_cases h2 : x < 10
    · refine ⟨if x < 0 then -x else x, 0, 2, ?_⟩
      simp [F__law_dice, m__law_dice, mGx, ap_seq, ap_set, ap_ret, ap_expr, ap_ifS, ap_skip, ap_raise, ap_aug, ap_setSub, toS_some, toS_ok, bind_ok, of_some, ap_c, ap_var, ap_bin, ap_test, asB_bl, ap_if, ap_and, ap_or, ap_not, ap_andV, ap_orV, ap_notV, ap_nil, ap_cons, ap_tup, ap_lst, ap_val, ap_box, ap_cb, ap_cbl, ap_call, ap_for, ap_lc, ap_it, ap_yes, ap_sl, ap_noPart, ap_part, part_int, ap_chain2, then_t, then_f, ap_rng1, ap_rng2, ap_rgL, ap_rgT, ap_asg, ap_zip, ap_enumA, ap_par2, add_int, sub_int, lt_int, le_int, gt_int, ge_int, eq_int, ne_int, max2_int, min2_int, int_int, int_bl, it_lst, it_tup, seq_lst, any_lst, any_tup, nox_ok, runF, startL, wipeL, capL, putL, m1, m2, sz, h1, h2, absC, dc]
    · refine ⟨x, 1 + x % 1009, if 10 ^ 18 ≤ x then 1 else 0, ?_⟩
      simp [F__law_dice, m__law_dice, mGx, ap_seq, ap_set, ap_ret, ap_expr, ap_ifS, ap_skip, ap_raise, ap_aug, ap_setSub, toS_some, toS_ok, bind_ok, of_some, ap_c, ap_var, ap_bin, ap_test, asB_bl, ap_if, ap_and, ap_or, ap_not, ap_andV, ap_orV, ap_notV, ap_nil, ap_cons, ap_tup, ap_lst, ap_val, ap_box, ap_cb, ap_cbl, ap_call, ap_for, ap_lc, ap_it, ap_yes, ap_sl, ap_noPart, ap_part, part_int, ap_chain2, then_t, then_f, ap_rng1, ap_rng2, ap_rgL, ap_rgT, ap_asg, ap_zip, ap_enumA, ap_par2, add_int, sub_int, lt_int, le_int, gt_int, ge_int, eq_int, ne_int, max2_int, min2_int, int_int, int_bl, it_lst, it_tup, seq_lst, any_lst, any_tup, nox_ok, runF, startL, wipeL, capL, putL, m1, m2, sz, h1, h2, dc, mod_int, powF, intF, show L2.CPow 10 18 from by decide]
  · refine ⟨x, 1 + x % 1009, if 10 ^ 18 ≤ x then 1 else 0, ?_⟩
    simp [F__law_dice, m__law_dice, mGx, ap_seq, ap_set, ap_ret, ap_expr, ap_ifS, ap_skip, ap_raise, ap_aug, ap_setSub, toS_some, toS_ok, bind_ok, of_some, ap_c, ap_var, ap_bin, ap_test, asB_bl, ap_if, ap_and, ap_or, ap_not, ap_andV, ap_orV, ap_notV, ap_nil, ap_cons, ap_tup, ap_lst, ap_val, ap_box, ap_cb, ap_cbl, ap_call, ap_for, ap_lc, ap_it, ap_yes, ap_sl, ap_noPart, ap_part, part_int, ap_chain2, then_t, then_f, ap_rng1, ap_rng2, ap_rgL, ap_rgT, ap_asg, ap_zip, ap_enumA, ap_par2, add_int, sub_int, lt_int, le_int, gt_int, ge_int, eq_int, ne_int, max2_int, min2_int, int_int, int_bl, it_lst, it_tup, seq_lst, any_lst, any_tup, nox_ok, runF, startL, wipeL, capL, putL, m1, m2, sz, h1, dc, mod_int, powF, intF, show L2.CPow 10 18 from by decide]
theorem set_l {a b c v : Int} {t : HS} {i : Int} (h0 : 0 ≤ i) (h1 : i < 3) : setF (dc a b c :: t) (.ref 0) (.int i) (.int v) = some (.lst (([.int a, .int b, .int c] : List D).set i.toNat (.int v)) :: t) := by
  have e : L2.ixN 3 i = some i.toNat := by
    unfold L2.ixN
    rw [if_pos h0, if_pos (show i < ((3 : Nat) : Int) from h1)]
  unfold setF orS setLF
  simp [lst_at_0, e]
theorem f_roll (a b c many : Int) (t : HS) (h1 : 1 ≤ many) (h2 : many ≤ 1000) : ∃ a' b' c' r, F__law_roll [.ref 0, .int many] (dc a b c :: t) = .ok (.int r) (dc a' b' c' :: t) ∧ 0 ≤ r ∧ r < many := by
  have hd : div_int (x := a) (y := many) (hs := dc a b c :: t) ⟨by omega, by omega⟩ = div_int (x := a) (y := many) (hs := dc a b c :: t) ⟨by omega, by omega⟩ := rfl
  have m0 := Int.emod_nonneg a (show many ≠ 0 by omega)
  have m1' := Int.emod_lt_of_pos a (show 0 < many by omega)
  have d0 : 0 < many ∧ many < 1073741824 := by omega
  have nb : ¬ 100000000 < many := by omega
  have p0 : 0 < many := by omega
  have i0 : ∀ (x y z : Int) (t : HS), ixF (dc x y z :: t) (.ref 0) (.int 0) = some (.int x) := fun x y z t => ix_ref lst_at_0 (by decide) (by simp)
  have i1 : ∀ (x y z : Int) (t : HS), ixF (dc x y z :: t) (.ref 0) (.int 1) = some (.int y) := fun x y z t => ix_ref lst_at_0 (by decide) (by simp)
  have i2 : ∀ (x y z : Int) (t : HS), ixF (dc x y z :: t) (.ref 0) (.int 2) = some (.int z) := fun x y z t => ix_ref lst_at_0 (by decide) (by simp)
  have s0 : ∀ (x y z v : Int) (t : HS), setF (dc x y z :: t) (.ref 0) (.int 0) (.int v) = some (dc v y z :: t) := fun x y z v t => set_l (by decide) (by decide)
  have s1 : ∀ (x y z v : Int) (t : HS), setF (dc x y z :: t) (.ref 0) (.int 1) (.int v) = some (dc x v z :: t) := fun x y z v t => set_l (by decide) (by decide)
  have s2 : ∀ (x y z v : Int) (t : HS), setF (dc x y z :: t) (.ref 0) (.int 2) (.int v) = some (dc x y v :: t) := fun x y z v t => set_l (by decide) (by decide)
  by_cases c2 : c = 2
  · refine ⟨a / many, b, c, a % many, ?_, m0, m1'⟩
    simp [F__law_roll, m__law_roll, mGx, ap_seq, ap_set, ap_ret, ap_expr, ap_ifS, ap_skip, ap_raise, ap_aug, ap_setSub, toS_some, toS_ok, bind_ok, of_some, ap_c, ap_var, ap_bin, ap_test, asB_bl, ap_if, ap_and, ap_or, ap_not, ap_andV, ap_orV, ap_notV, ap_nil, ap_cons, ap_tup, ap_lst, ap_val, ap_box, ap_cb, ap_cbl, ap_call, ap_for, ap_lc, ap_it, ap_yes, ap_sl, ap_noPart, ap_part, part_int, ap_chain2, then_t, then_f, ap_rng1, ap_rng2, ap_rgL, ap_rgT, ap_asg, ap_zip, ap_enumA, ap_par2, add_int, sub_int, lt_int, le_int, gt_int, ge_int, eq_int, ne_int, max2_int, min2_int, int_int, int_bl, it_lst, it_tup, seq_lst, any_lst, any_tup, nox_ok, runF, startL, wipeL, capL, putL, m1, m2, sz, i0, i1, i2, s0, s1, s2, c2, mod_int p0, div_int d0]
  · by_cases c1 : c = 1 ∧ 0 < a
    · refine ⟨a / many, b, c, a % many, ?_, m0, m1'⟩
      simp [F__law_roll, m__law_roll, mGx, ap_seq, ap_set, ap_ret, ap_expr, ap_ifS, ap_skip, ap_raise, ap_aug, ap_setSub, toS_some, toS_ok, bind_ok, of_some, ap_c, ap_var, ap_bin, ap_test, asB_bl, ap_if, ap_and, ap_or, ap_not, ap_andV, ap_orV, ap_notV, ap_nil, ap_cons, ap_tup, ap_lst, ap_val, ap_box, ap_cb, ap_cbl, ap_call, ap_for, ap_lc, ap_it, ap_yes, ap_sl, ap_noPart, ap_part, part_int, ap_chain2, then_t, then_f, ap_rng1, ap_rng2, ap_rgL, ap_rgT, ap_asg, ap_zip, ap_enumA, ap_par2, add_int, sub_int, lt_int, le_int, gt_int, ge_int, eq_int, ne_int, max2_int, min2_int, int_int, int_bl, it_lst, it_tup, seq_lst, any_lst, any_tup, nox_ok, runF, startL, wipeL, capL, putL, m1, m2, sz, i0, i1, i2, s0, s1, s2, c1.1, c1.2, mod_int p0, div_int d0]
    · refine ⟨(a * 48271 + b * 69621 + 11) % 2147483647, b + 1, 0, ((a * 48271 + b * 69621 + 11) % 2147483647 / 7) % many, ?_, Int.emod_nonneg _ (by omega), Int.emod_lt_of_pos _ (by omega)⟩
      have ht : (if c = 1 then if 0 < a then true else false else false) = false := by
        split
        · split
          · exact absurd ⟨‹_›, ‹_›⟩ c1
          · rfl
        · rfl
      by_cases c3 : c = 1
      · have c4 : ¬ 0 < a := fun x => c1 ⟨c3, x⟩
        simp [F__law_roll, m__law_roll, mGx, ap_seq, ap_set, ap_ret, ap_expr, ap_ifS, ap_skip, ap_raise, ap_aug, ap_setSub, toS_some, toS_ok, bind_ok, of_some, ap_c, ap_var, ap_bin, ap_test, asB_bl, ap_if, ap_and, ap_or, ap_not, ap_andV, ap_orV, ap_notV, ap_nil, ap_cons, ap_tup, ap_lst, ap_val, ap_box, ap_cb, ap_cbl, ap_call, ap_for, ap_lc, ap_it, ap_yes, ap_sl, ap_noPart, ap_part, part_int, ap_chain2, then_t, then_f, ap_rng1, ap_rng2, ap_rgL, ap_rgT, ap_asg, ap_zip, ap_enumA, ap_par2, add_int, sub_int, lt_int, le_int, gt_int, ge_int, eq_int, ne_int, max2_int, min2_int, int_int, int_bl, it_lst, it_tup, seq_lst, any_lst, any_tup, nox_ok, runF, startL, wipeL, capL, putL, m1, m2, sz, i0, i1, i2, s0, s1, s2, c3, c4, mod_int, div_int, mul_int, nb]
        rw [mod_int p0]
        simp [mGx, ap_seq, ap_set, ap_ret, ap_expr, ap_ifS, ap_skip, ap_raise, ap_aug, ap_setSub, toS_some, toS_ok, bind_ok, of_some, ap_c, ap_var, ap_bin, ap_test, asB_bl, ap_if, ap_and, ap_or, ap_not, ap_andV, ap_orV, ap_notV, ap_nil, ap_cons, ap_tup, ap_lst, ap_val, ap_box, ap_cb, ap_cbl, ap_call, ap_for, ap_lc, ap_it, ap_yes, ap_sl, ap_noPart, ap_part, part_int, ap_chain2, then_t, then_f, ap_rng1, ap_rng2, ap_rgL, ap_rgT, ap_asg, ap_zip, ap_enumA, ap_par2, add_int, sub_int, lt_int, le_int, gt_int, ge_int, eq_int, ne_int, max2_int, min2_int, int_int, int_bl, it_lst, it_tup, seq_lst, any_lst, any_tup, nox_ok, runF, startL, wipeL, capL, putL, m1, m2, sz]
      · simp [F__law_roll, m__law_roll, mGx, ap_seq, ap_set, ap_ret, ap_expr, ap_ifS, ap_skip, ap_raise, ap_aug, ap_setSub, toS_some, toS_ok, bind_ok, of_some, ap_c, ap_var, ap_bin, ap_test, asB_bl, ap_if, ap_and, ap_or, ap_not, ap_andV, ap_orV, ap_notV, ap_nil, ap_cons, ap_tup, ap_lst, ap_val, ap_box, ap_cb, ap_cbl, ap_call, ap_for, ap_lc, ap_it, ap_yes, ap_sl, ap_noPart, ap_part, part_int, ap_chain2, then_t, then_f, ap_rng1, ap_rng2, ap_rgL, ap_rgT, ap_asg, ap_zip, ap_enumA, ap_par2, add_int, sub_int, lt_int, le_int, gt_int, ge_int, eq_int, ne_int, max2_int, min2_int, int_int, int_bl, it_lst, it_tup, seq_lst, any_lst, any_tup, nox_ok, runF, startL, wipeL, capL, putL, m1, m2, sz, i0, i1, i2, s0, s1, s2, c2, c3, mod_int, div_int, mul_int, nb]
        rw [mod_int p0]
        simp [mGx, ap_seq, ap_set, ap_ret, ap_expr, ap_ifS, ap_skip, ap_raise, ap_aug, ap_setSub, toS_some, toS_ok, bind_ok, of_some, ap_c, ap_var, ap_bin, ap_test, asB_bl, ap_if, ap_and, ap_or, ap_not, ap_andV, ap_orV, ap_notV, ap_nil, ap_cons, ap_tup, ap_lst, ap_val, ap_box, ap_cb, ap_cbl, ap_call, ap_for, ap_lc, ap_it, ap_yes, ap_sl, ap_noPart, ap_part, part_int, ap_chain2, then_t, then_f, ap_rng1, ap_rng2, ap_rgL, ap_rgT, ap_asg, ap_zip, ap_enumA, ap_par2, add_int, sub_int, lt_int, le_int, gt_int, ge_int, eq_int, ne_int, max2_int, min2_int, int_int, int_bl, it_lst, it_tup, seq_lst, any_lst, any_tup, nox_ok, runF, startL, wipeL, capL, putL, m1, m2, sz]
theorem f_rounds (ns : List Int) : ∃ a b c, F__law_rounds [.con ns, .int 1] [] = .ok (.lst [.ref 0]) [dc a b c] := by
  have hsl : slF [] (.con ns) none (some 1) = some (.lst ((ns.take 1).map D.int)) := by
    show some (D.lst (cutD (ns.map D.int) none (some 1))) = _
    rw [cut_to _ (by decide), List.map_take]
    rfl
  have key : ∃ x : Int, F__law_rounds [.con ns, .int 1] [] = runF 4 (mRet (mVal (mLc [3] (mIt (mVar 2)) (mgName 3) mYes e__law_rounds_0))) [.con ns, .int 1, .lst [.int x]] [] := by
    cases ns with
    | nil =>
      have e0 : eqF [] (.lst []) (.lst []) = some (.bl true) := eq_same rfl
      have hs2 : slF [] (.con []) none (some 1) = some (.lst []) := hsl
      refine ⟨0, ?_⟩
      simp [F__law_rounds, m__law_rounds, mGx, ap_seq, ap_set, ap_ret, ap_expr, ap_ifS, ap_skip, ap_raise, ap_aug, ap_setSub, toS_some, toS_ok, bind_ok, of_some, ap_c, ap_var, ap_bin, ap_test, asB_bl, ap_if, ap_and, ap_or, ap_not, ap_andV, ap_orV, ap_notV, ap_nil, ap_cons, ap_tup, ap_lst, ap_val, ap_box, ap_cb, ap_cbl, ap_call, ap_for, ap_lc, ap_it, ap_yes, ap_sl, ap_noPart, ap_part, part_int, ap_chain2, then_t, then_f, ap_rng1, ap_rng2, ap_rgL, ap_rgT, ap_asg, ap_zip, ap_enumA, ap_par2, add_int, sub_int, lt_int, le_int, gt_int, ge_int, eq_int, ne_int, max2_int, min2_int, int_int, int_bl, it_lst, it_tup, seq_lst, any_lst, any_tup, nox_ok, runF, startL, wipeL, capL, putL, m1, m2, sz, hs2, e0]
    | cons y r =>
      have e0 : eqF [] (.lst [.int y]) (.lst []) = some (.bl false) := by
        rw [eq_nil rfl]; rfl
      have hs2 : slF [] (.con (y :: r)) none (some 1) = some (.lst [.int y]) := hsl
      refine ⟨y, ?_⟩
      simp [F__law_rounds, m__law_rounds, mGx, ap_seq, ap_set, ap_ret, ap_expr, ap_ifS, ap_skip, ap_raise, ap_aug, ap_setSub, toS_some, toS_ok, bind_ok, of_some, ap_c, ap_var, ap_bin, ap_test, asB_bl, ap_if, ap_and, ap_or, ap_not, ap_andV, ap_orV, ap_notV, ap_nil, ap_cons, ap_tup, ap_lst, ap_val, ap_box, ap_cb, ap_cbl, ap_call, ap_for, ap_lc, ap_it, ap_yes, ap_sl, ap_noPart, ap_part, part_int, ap_chain2, then_t, then_f, ap_rng1, ap_rng2, ap_rgL, ap_rgT, ap_asg, ap_zip, ap_enumA, ap_par2, add_int, sub_int, lt_int, le_int, gt_int, ge_int, eq_int, ne_int, max2_int, min2_int, int_int, int_bl, it_lst, it_tup, seq_lst, any_lst, any_tup, nox_ok, runF, startL, wipeL, capL, putL, m1, m2, sz, hs2, e0]
  obtain ⟨x, key⟩ := key
  obtain ⟨a, b, c, hd⟩ := f_dice x []
  refine ⟨a, b, c, ?_⟩
  rw [key]
  simp [mGx, ap_seq, ap_set, ap_ret, ap_expr, ap_ifS, ap_skip, ap_raise, ap_aug, ap_setSub, toS_some, toS_ok, bind_ok, of_some, ap_c, ap_var, ap_bin, ap_test, asB_bl, ap_if, ap_and, ap_or, ap_not, ap_andV, ap_orV, ap_notV, ap_nil, ap_cons, ap_tup, ap_lst, ap_val, ap_box, ap_cb, ap_cbl, ap_call, ap_for, ap_lc, ap_it, ap_yes, ap_sl, ap_noPart, ap_part, part_int, ap_chain2, then_t, then_f, ap_rng1, ap_rng2, ap_rgL, ap_rgT, ap_asg, ap_zip, ap_enumA, ap_par2, add_int, sub_int, lt_int, le_int, gt_int, ge_int, eq_int, ne_int, max2_int, min2_int, int_int, int_bl, it_lst, it_tup, seq_lst, any_lst, any_tup, nox_ok, runF, startL, wipeL, capL, putL, m1, m2, sz]
  rw [show ([D.int x] : List D) = [x].map D.int from rfl]
  obtain ⟨acc, hs', g1, g2, g3⟩ := lc_inv (enc := D.int) (own := [3]) (tg := mgName 3) (t := mYes) (e := e__law_rounds_0) (hs1 := []) (ls := [some (.con ns), some (.int 1), some (.lst [.int x]), none]) (xs0 := [x])
    (fun pre acc hs => (pre = [] → acc = [] ∧ hs = []) ∧ (pre ≠ [] → acc = [.ref 0] ∧ hs = [dc a b c]))
    (fun pre y post acc hs e i => by
      cases pre with
      | nil =>
        simp at e
        obtain ⟨rfl, rfl⟩ := e
        obtain ⟨rfl, rfl⟩ := i.1 rfl
        refine ⟨_, rfl, rfl, true, _, rfl, by simp, fun _ => ⟨by simp, .ref 0, [dc a b c], ?_, by simp, fun _ => ⟨rfl, rfl⟩⟩⟩
        simp [mGx, ap_seq, ap_set, ap_ret, ap_expr, ap_ifS, ap_skip, ap_raise, ap_aug, ap_setSub, toS_some, toS_ok, bind_ok, of_some, ap_c, ap_var, ap_bin, ap_test, asB_bl, ap_if, ap_and, ap_or, ap_not, ap_andV, ap_orV, ap_notV, ap_nil, ap_cons, ap_tup, ap_lst, ap_val, ap_box, ap_cb, ap_cbl, ap_call, ap_for, ap_lc, ap_it, ap_yes, ap_sl, ap_noPart, ap_part, part_int, ap_chain2, then_t, then_f, ap_rng1, ap_rng2, ap_rgL, ap_rgT, ap_asg, ap_zip, ap_enumA, ap_par2, add_int, sub_int, lt_int, le_int, gt_int, ge_int, eq_int, ne_int, max2_int, min2_int, int_int, int_bl, it_lst, it_tup, seq_lst, any_lst, any_tup, nox_ok, runF, startL, wipeL, capL, putL, m1, m2, sz, hd]
      | cons z r => simp at e) [x] [] [] [] rfl ⟨fun _ => ⟨rfl, rfl⟩, fun h => absurd rfl h⟩
  obtain ⟨rfl, rfl⟩ := g3 (by simp)
  simp at g1 ⊢
  rw [g1]
  simp [mGx, ap_seq, ap_set, ap_ret, ap_expr, ap_ifS, ap_skip, ap_raise, ap_aug, ap_setSub, toS_some, toS_ok, bind_ok, of_some, ap_c, ap_var, ap_bin, ap_test, asB_bl, ap_if, ap_and, ap_or, ap_not, ap_andV, ap_orV, ap_notV, ap_nil, ap_cons, ap_tup, ap_lst, ap_val, ap_box, ap_cb, ap_cbl, ap_call, ap_for, ap_lc, ap_it, ap_yes, ap_sl, ap_noPart, ap_part, part_int, ap_chain2, then_t, then_f, ap_rng1, ap_rng2, ap_rgL, ap_rgT, ap_asg, ap_zip, ap_enumA, ap_par2, add_int, sub_int, lt_int, le_int, gt_int, ge_int, eq_int, ne_int, max2_int, min2_int, int_int, int_bl, it_lst, it_tup, seq_lst, any_lst, any_tup, nox_ok, runF, startL, wipeL, capL, putL, m1, m2, sz]
end K16

set_option Elab.async false
set_option linter.all false
set_option maxRecDepth 100000
set_option maxHeartbeats 1000000
namespace K16
open PySem Fx
theorem mul_one_row {hs : HS} {p : Row} {b : Bool} : mulF hs (.lst [pD p]) (.int (if b then 1 else 0)) = some (rowsD (if b then [p] else [])) := by
  cases b
  · simp [mulF, seqL, rowsD, sz]
  · simp [mulF, seqL, rowsD, sz]
structure RoomI (size here : Int) (rs : List Row) : Prop where
  len : rs.length ≤ 7
  ch : Chain size 0 rs
  last : ∀ p ∈ rs, p.1 + p.2 ≤ here
  h0 : 0 ≤ here
theorem b_rooms {size here a b c : Int} {rs : List Row} {o : Option D} {t : HS} (I : RoomI size here rs) (hl : rs.length < 7) (h2 : here < size) (hz : size ≤ 100) : ∃ here' rs' o' a' b' c', b__law_rooms_1 [some (.ref 0), some (.int size), some (rowsD rs), some (.int here), o] (dc a b c :: t) =
    .nx [some (.ref 0), some (.int size), some (rowsD rs'), some (.int here'), o'] (dc a' b' c' :: t) ∧ RoomI size here' rs' ∧ here < here' := by
  obtain ⟨a1, b1, c1, r1, e1, l1, u1⟩ := f_roll a b c 5 t (by decide) (by decide)
  obtain ⟨a2, b2, c2, r2, e2, l2, u2⟩ := f_roll a1 b1 c1 5 t (by decide) (by decide)
  refine ⟨here + (1 + r1) + r2, rs ++ (if decide (here + (1 + r1) ≤ size) then [(here, 1 + r1)] else []), some (.int (1 + r1)), a2, b2, c2, ?_, ?_, by omega⟩
  · have hm : ∀ h, mulF h (.lst [.tup [.int here, .int (1 + r1)]]) (.int (if decide (here + (1 + r1) ≤ size) then 1 else 0)) = some (rowsD (if decide (here + (1 + r1) ≤ size) then [(here, 1 + r1)] else [])) := fun h => mul_one_row (p := (here, 1 + r1))
    have ha : ∀ h, addF h (rowsD rs) (rowsD (if decide (here + (1 + r1) ≤ size) then [(here, 1 + r1)] else [])) = some (rowsD (rs ++ (if decide (here + (1 + r1) ≤ size) then [(here, 1 + r1)] else []))) := fun h => add_rows (by split <;> simp <;> omega)
    generalize (if decide (here + (1 + r1) ≤ size) then ([(here, 1 + r1)] : List Row) else []) = w at *
    by_cases hq : here + (1 + r1) ≤ size
    · simp only [hq, decide_true, if_true] at hm
      simp [b__law_rooms_1, mGx, ap_seq, ap_set, ap_ret, ap_expr, ap_ifS, ap_skip, ap_raise, ap_aug, ap_setSub, toS_some, toS_ok, bind_ok, of_some, ap_c, ap_var, ap_bin, ap_test, asB_bl, ap_if, ap_and, ap_or, ap_not, ap_andV, ap_orV, ap_notV, ap_nil, ap_cons, ap_tup, ap_lst, ap_val, ap_box, ap_cb, ap_cbl, ap_call, ap_for, ap_lc, ap_it, ap_yes, ap_sl, ap_noPart, ap_part, part_int, ap_chain2, then_t, then_f, ap_rng1, ap_rng2, ap_rgL, ap_rgT, ap_asg, ap_zip, ap_enumA, ap_par2, add_int, sub_int, lt_int, le_int, gt_int, ge_int, eq_int, ne_int, max2_int, min2_int, int_int, int_bl, it_lst, it_tup, seq_lst, any_lst, any_tup, nox_ok, runF, startL, wipeL, capL, putL, m1, m2, sz, e1, e2, hq, hm, ha]
    · simp only [hq, decide_false, Bool.false_eq_true, if_false] at hm
      simp [b__law_rooms_1, mGx, ap_seq, ap_set, ap_ret, ap_expr, ap_ifS, ap_skip, ap_raise, ap_aug, ap_setSub, toS_some, toS_ok, bind_ok, of_some, ap_c, ap_var, ap_bin, ap_test, asB_bl, ap_if, ap_and, ap_or, ap_not, ap_andV, ap_orV, ap_notV, ap_nil, ap_cons, ap_tup, ap_lst, ap_val, ap_box, ap_cb, ap_cbl, ap_call, ap_for, ap_lc, ap_it, ap_yes, ap_sl, ap_noPart, ap_part, part_int, ap_chain2, then_t, then_f, ap_rng1, ap_rng2, ap_rgL, ap_rgT, ap_asg, ap_zip, ap_enumA, ap_par2, add_int, sub_int, lt_int, le_int, gt_int, ge_int, eq_int, ne_int, max2_int, min2_int, int_int, int_bl, it_lst, it_tup, seq_lst, any_lst, any_tup, nox_ok, runF, startL, wipeL, capL, putL, m1, m2, sz, e1, e2, hq, hm, ha]
  · by_cases hq : here + (1 + r1) ≤ size
    · simp only [hq, decide_true, if_true]
      exact ⟨by simp; omega, I.ch.snoc I.last I.h0 (by omega) hq, fun p hp => by
        rcases List.mem_append.mp hp with hp | hp
        · have := I.last p hp; omega
        · simp at hp; subst hp; dsimp only; omega, by have := I.h0; omega⟩
    · simp only [hq, decide_false, Bool.false_eq_true, if_false, List.append_nil]
      exact ⟨I.len, I.ch, fun p hp => by have := I.last p hp; omega, by have := I.h0; omega⟩
theorem f_rooms {size a b c : Int} {t : HS} (h1 : 1 ≤ size) (h2 : size ≤ 60) : ∃ rs a' b' c', F__law_rooms [.ref 0, .int size] (dc a b c :: t) = .ok (rowsD rs) (dc a' b' c' :: t) ∧ Ok1 rs size ∧ rs.length ≤ 7 := by
  obtain ⟨a1, b1, c1, r1, e1, l1, u1⟩ := f_roll a b c 4 t (by decide) (by decide)
  have key := wh_go2 (t := t__law_rooms_0) (body := b__law_rooms_1)
    (fun n ls hs => ∃ rs here o a b c, ls = [some (.ref 0), some (.int size), some (rowsD rs), some (.int here), o] ∧ hs = dc a b c :: t ∧ RoomI size here rs ∧ (size - here).toNat ≤ n)
    (fun ls hs => ∃ rs here o a b c, ls = [some (.ref 0), some (.int size), some (rowsD rs), some (.int here), o] ∧ hs = dc a b c :: t ∧ RoomI size here rs)
    (fun n ls hs ⟨rs, here, o, a, b, c, e1, e2, I, hn⟩ => by
      subst e1
      subst e2
      refine ⟨decide (here + 1 < size) && decide (rs.length < 7), dc a b c :: t, ?_, ?_, ?_⟩
      · have hlen : ∀ (n : Int), n = rs.length → ∀ h, lenC h [rowsD rs] = some (.int n) := fun n e h => by rw [len_rows, e]
        obtain ⟨n, hn⟩ : ∃ n : Int, n = rs.length := ⟨_, rfl⟩
        have hd : decide (rs.length < 7) = decide (n < 7) := by rw [decide_eq_decide]; omega
        rw [hd]
        by_cases hc : here + 1 < size
        · simp [t__law_rooms_0, mGx, ap_seq, ap_set, ap_ret, ap_expr, ap_ifS, ap_skip, ap_raise, ap_aug, ap_setSub, toS_some, toS_ok, bind_ok, of_some, ap_c, ap_var, ap_bin, ap_test, asB_bl, ap_if, ap_and, ap_or, ap_not, ap_andV, ap_orV, ap_notV, ap_nil, ap_cons, ap_tup, ap_lst, ap_val, ap_box, ap_cb, ap_cbl, ap_call, ap_for, ap_lc, ap_it, ap_yes, ap_sl, ap_noPart, ap_part, part_int, ap_chain2, then_t, then_f, ap_rng1, ap_rng2, ap_rgL, ap_rgT, ap_asg, ap_zip, ap_enumA, ap_par2, add_int, sub_int, lt_int, le_int, gt_int, ge_int, eq_int, ne_int, max2_int, min2_int, int_int, int_bl, it_lst, it_tup, seq_lst, any_lst, any_tup, nox_ok, runF, startL, wipeL, capL, putL, m1, m2, sz, hc, hlen n hn]
        · simp [t__law_rooms_0, mGx, ap_seq, ap_set, ap_ret, ap_expr, ap_ifS, ap_skip, ap_raise, ap_aug, ap_setSub, toS_some, toS_ok, bind_ok, of_some, ap_c, ap_var, ap_bin, ap_test, asB_bl, ap_if, ap_and, ap_or, ap_not, ap_andV, ap_orV, ap_notV, ap_nil, ap_cons, ap_tup, ap_lst, ap_val, ap_box, ap_cb, ap_cbl, ap_call, ap_for, ap_lc, ap_it, ap_yes, ap_sl, ap_noPart, ap_part, part_int, ap_chain2, then_t, then_f, ap_rng1, ap_rng2, ap_rgL, ap_rgT, ap_asg, ap_zip, ap_enumA, ap_par2, add_int, sub_int, lt_int, le_int, gt_int, ge_int, eq_int, ne_int, max2_int, min2_int, int_int, int_bl, it_lst, it_tup, seq_lst, any_lst, any_tup, nox_ok, runF, startL, wipeL, capL, putL, m1, m2, sz, hc]
      · intro _
        exact ⟨rs, here, o, a, b, c, rfl, rfl, I⟩
      · intro hc
        simp at hc
        obtain ⟨here', rs', o', a', b', c', f1, f2, f3⟩ := b_rooms (o := o) (a := a) (b := b) (c := c) (t := t) I hc.2 (by omega) (by omega)
        exact ⟨n - 1, by omega, _, _, f1, rs', here', o', a', b', c', rfl, rfl, f2, by omega⟩)
    64 (size - r1).toNat [some (.ref 0), some (.int size), some (rowsD []), some (.int r1), none] (dc a1 b1 c1 :: t) (by omega)
    ⟨[], r1, none, a1, b1, c1, rfl, rfl, ⟨by simp, (show (0 : Int) ≤ size by omega), by simp, l1⟩, Nat.le_refl _⟩
  obtain ⟨ls, hs, e2, rs, here, o, a2, b2, c2, rfl, rfl, I⟩ := key
  refine ⟨rs, a2, b2, c2, ?_, ⟨h1, by omega, by have := I.len; omega, I.ch⟩, I.len⟩
  rw [show rowsD [] = D.lst [] from rfl] at e2
  simp [F__law_rooms, m__law_rooms, mGx, ap_seq, ap_set, ap_ret, ap_expr, ap_ifS, ap_skip, ap_raise, ap_aug, ap_setSub, toS_some, toS_ok, bind_ok, of_some, ap_c, ap_var, ap_bin, ap_test, asB_bl, ap_if, ap_and, ap_or, ap_not, ap_andV, ap_orV, ap_notV, ap_nil, ap_cons, ap_tup, ap_lst, ap_val, ap_box, ap_cb, ap_cbl, ap_call, ap_for, ap_lc, ap_it, ap_yes, ap_sl, ap_noPart, ap_part, part_int, ap_chain2, then_t, then_f, ap_rng1, ap_rng2, ap_rgL, ap_rgT, ap_asg, ap_zip, ap_enumA, ap_par2, add_int, sub_int, lt_int, le_int, gt_int, ge_int, eq_int, ne_int, max2_int, min2_int, int_int, int_bl, it_lst, it_tup, seq_lst, any_lst, any_tup, nox_ok, runF, startL, wipeL, capL, putL, m1, m2, sz, e1, mWhile, e2]
/-! looking back -/
def lk20 (rs : List Row) : D := .tup [rowsD rs, .int 20]
def shs (L : List (List Row)) : List Int := L.map fun rs => share (Z rs 20)
theorem b_look {rs : List Row} {lo : D} {most k : Int} {h0 g : HS} {acc : List Row} {o : Option D} (ok : Ok1 rs 20) (hl : acc.length ≤ 100) : ∃ g' o', b_look_back_0 [some lo, some (.ref h0.length), some (.int most), some (.int k), some (rowsD rs), some (.int 20), o] (h0 ++ (.lst (acc.map pD) :: g)) =
    .nx [some lo, some (.ref h0.length), some (.int (max most (share (Z rs 20)))), some (.int k), some (rowsD rs), some (.int 20), o'] (h0 ++ (.lst ((acc ++ if most < share (Z rs 20) then [(k, share (Z rs 20))] else []).map pD) :: g')) := by
  obtain ⟨g1, hg⟩ := f_share (h0 ++ (.lst (acc.map pD) :: g)) ok
  by_cases c : most < share (Z rs 20)
  · exact ⟨g ++ g1, some (.int (share (Z rs 20))), by
      simp [b_look_back_0, mGx, ap_seq, ap_set, ap_ret, ap_expr, ap_ifS, ap_skip, ap_raise, ap_aug, ap_setSub, toS_some, toS_ok, bind_ok, of_some, ap_c, ap_var, ap_bin, ap_test, asB_bl, ap_if, ap_and, ap_or, ap_not, ap_andV, ap_orV, ap_notV, ap_nil, ap_cons, ap_tup, ap_lst, ap_val, ap_box, ap_cb, ap_cbl, ap_call, ap_for, ap_lc, ap_it, ap_yes, ap_sl, ap_noPart, ap_part, part_int, ap_chain2, then_t, then_f, ap_rng1, ap_rng2, ap_rgL, ap_rgT, ap_asg, ap_zip, ap_enumA, ap_par2, add_int, sub_int, lt_int, le_int, gt_int, ge_int, eq_int, ne_int, max2_int, min2_int, int_int, int_bl, it_lst, it_tup, seq_lst, any_lst, any_tup, nox_ok, runF, startL, wipeL, capL, putL, m1, m2, sz, hg, iadd_ref lst_at_new, c, seqL, show acc.length ≤ 16777215 by omega, set_new, pD]⟩
  · have e : h0 ++ (.lst (acc.map pD) :: (g ++ (g1 ++ [.lst []]))) = h0 ++ (.lst (acc.map pD) :: ((g ++ g1) ++ [.lst []])) := by simp
    have h2 : lstAt (h0 ++ (.lst (acc.map pD) :: (g ++ (g1 ++ [.lst []])))) (h0.length + (g.length + g1.length + 1)) = some [] := by
      rw [e, show h0.length + (g.length + g1.length + 1) = h0.length + ((g ++ g1).length + 1) by simp]
      exact lst_at_new2
    exact ⟨g ++ (g1 ++ [.lst []]), some (.int (share (Z rs 20))), by
      simp [b_look_back_0, mGx, ap_seq, ap_set, ap_ret, ap_expr, ap_ifS, ap_skip, ap_raise, ap_aug, ap_setSub, toS_some, toS_ok, bind_ok, of_some, ap_c, ap_var, ap_bin, ap_test, asB_bl, ap_if, ap_and, ap_or, ap_not, ap_andV, ap_orV, ap_notV, ap_nil, ap_cons, ap_tup, ap_lst, ap_val, ap_box, ap_cb, ap_cbl, ap_call, ap_for, ap_lc, ap_it, ap_yes, ap_sl, ap_noPart, ap_part, part_int, ap_chain2, then_t, then_f, ap_rng1, ap_rng2, ap_rgL, ap_rgT, ap_asg, ap_zip, ap_enumA, ap_par2, add_int, sub_int, lt_int, le_int, gt_int, ge_int, eq_int, ne_int, max2_int, min2_int, int_int, int_bl, it_lst, it_tup, seq_lst, any_lst, any_tup, nox_ok, runF, startL, wipeL, capL, putL, m1, m2, sz, hg, iadd_ref lst_at_new, c, seqL, h2, show acc.length ≤ 16777216 by omega, set_new, pD]⟩
theorem f_look {L : List (List Row)} (hs : HS) (ok : ∀ rs ∈ L, Ok1 rs 20) (hn : L.length ≤ 10) : ∃ e, F_look_back [.lst (L.map lk20)] hs = .ok (.tup ((lookF (-1) 0 (shs L)).map pD)) (hs ++ e) := by
  have key := for_go (enc := fun q : List Row × Nat => D.tup [.int (q.2 : Nat), lk20 q.1]) (tg := mgTup [mgName 3, mgTup [mgName 4, mgName 5]]) (body := b_look_back_0) (hs0 := hs ++ [.lst []]) (xs0 := L.zipIdx)
    (fun pre ls hs' => ∃ most acc a b c d g, ls = [some (.lst (L.map lk20)), some (.ref hs.length), some (.int most), a, b, c, d] ∧ hs' = hs ++ (.lst (acc.map pD) :: g) ∧ acc.length ≤ pre.length ∧
      ∀ post, L.zipIdx = pre ++ post → acc ++ lookF most pre.length (shs (post.map (·.1))) = lookF (-1) 0 (shs L))
    (fun pre x post ls hs' e0 ⟨most, acc, a, b, c, d, g, e1, e2, hL, hI⟩ => by
      have h1 := hI _ e0
      subst e1
      subst e2
      have hp : pre.length ≤ 10 := by
        have : (L.zipIdx).length ≤ 10 := by simpa using hn
        rw [e0] at this; simp at this; omega
      have hx : x ∈ L.zipIdx := by rw [e0]; simp
      have hxm : x.1 ∈ L := by
        have := List.mem_map_of_mem (f := Prod.fst) hx
        rwa [List.zipIdx_map_fst] at this
      have hx2 : x.2 = pre.length := by
        have h3 : L.zipIdx[pre.length]? = some x := by rw [e0]; simp
        rw [List.getElem?_zipIdx] at h3
        simp at h3
        obtain ⟨y, _, hy⟩ := h3
        rw [← hy]
      obtain ⟨g', o', hb⟩ := @b_look x.1 (.lst (L.map lk20)) most (x.2 : Nat) hs g acc d (ok _ hxm) (by omega)
      refine ⟨_, rfl, _, _, .inl hb, _, _, _, _, _, _, _, rfl, rfl, by rw [List.length_append, List.length_append]; split <;> simp <;> omega, fun post' e3 => ?_⟩
      rw [e0] at e3
      simp at e3
      subst e3
      rw [← h1]
      simp [shs, lookF, hx2])
    L.zipIdx [] [some (.lst (L.map lk20)), some (.ref hs.length), some (.int (-1)), none, none, none, none] (hs ++ [.lst []]) rfl ⟨-1, [], none, none, none, none, [], rfl, rfl, by simp, fun post e => by simp at e; subst e; simp⟩
  obtain ⟨ls, h2, e1, most, acc, a, b, c, d, g, rfl, rfl, hL, hI⟩ := key
  have h1 := hI [] (by simp)
  simp [shs, lookF] at h1
  refine ⟨.lst (acc.map pD) :: g, ?_⟩
  have hsub : (0 : Int) - 1 = -1 := rfl
  simp [F_look_back, m_look_back, mGx, ap_seq, ap_set, ap_ret, ap_expr, ap_ifS, ap_skip, ap_raise, ap_aug, ap_setSub, toS_some, toS_ok, bind_ok, of_some, ap_c, ap_var, ap_bin, ap_test, asB_bl, ap_if, ap_and, ap_or, ap_not, ap_andV, ap_orV, ap_notV, ap_nil, ap_cons, ap_tup, ap_lst, ap_val, ap_box, ap_cb, ap_cbl, ap_call, ap_for, ap_lc, ap_it, ap_yes, ap_sl, ap_noPart, ap_part, part_int, ap_chain2, then_t, then_f, ap_rng1, ap_rng2, ap_rgL, ap_rgT, ap_asg, ap_zip, ap_enumA, ap_par2, add_int, sub_int, lt_int, le_int, gt_int, ge_int, eq_int, ne_int, max2_int, min2_int, int_int, int_bl, it_lst, it_tup, seq_lst, any_lst, any_tup, nox_ok, runF, startL, wipeL, capL, putL, m1, m2, sz, seqI]
  rw [enum_map, e1]
  simp [mGx, ap_seq, ap_set, ap_ret, ap_expr, ap_ifS, ap_skip, ap_raise, ap_aug, ap_setSub, toS_some, toS_ok, bind_ok, of_some, ap_c, ap_var, ap_bin, ap_test, asB_bl, ap_if, ap_and, ap_or, ap_not, ap_andV, ap_orV, ap_notV, ap_nil, ap_cons, ap_tup, ap_lst, ap_val, ap_box, ap_cb, ap_cbl, ap_call, ap_for, ap_lc, ap_it, ap_yes, ap_sl, ap_noPart, ap_part, part_int, ap_chain2, then_t, then_f, ap_rng1, ap_rng2, ap_rgL, ap_rgT, ap_asg, ap_zip, ap_enumA, ap_par2, add_int, sub_int, lt_int, le_int, gt_int, ge_int, eq_int, ne_int, max2_int, min2_int, int_int, int_bl, it_lst, it_tup, seq_lst, any_lst, any_tup, nox_ok, runF, startL, wipeL, capL, putL, m1, m2, sz, tupC_any (any_ref lst_at_new), h1, shs]
end K16

set_option Elab.async false
set_option linter.all false
set_option maxRecDepth 100000
set_option maxHeartbeats 1000000
namespace K16
open PySem Fx
abbrev s17_0 : MS := (mSet 2 (mBin addF (mC (.int 6)) (mCall 2 [] F__law_roll (mCons (mVar 1) (mCons (mC (.int 30)) mNil)))))
abbrev s17_1 : MS := (mSet 3 (mCall 2 [] F__law_rooms (mCons (mVar 1) (mCons (mVar 2) mNil))))
abbrev s17_2 : MS := (mSet 4 (mCall 2 [] F__law_gaps (mCons (mVar 3) (mCons (mVar 2) mNil))))
abbrev s17_3 : MS := (mAsg (mgTup [(mgName 5), (mgName 6), (mgName 7)]) (mTup (mCons (mVal (mLc [26, 27] (mIt (mVar 4)) (mgTup [(mgName 26), (mgName 27)]) mYes (mVar 27))) (mCons (mVal (mLc [28] (mRng1 (mCons (mC (.int 4)) mNil)) (mgName 28) mYes e_law_0)) (mCons (mBin addF (mC (.int 1)) (mCall 2 [] F__law_roll (mCons (mVar 1) (mCons (mC (.int 10)) mNil)))) mNil)))))
abbrev s17_4 : MS := (mSet 8 (mCB sumC (m1 (mVar 5))))
abbrev s17_5 : MS := (mSet 9 (mVal (mLc [27] (mIt (mVar 5)) (mgName 27) mYes e_law_1)))
abbrev s17_6 : MS := (mSet 10 (mBin mulF (mC (.int 1000)) (mBin subF (mBin mulF (mVar 8) (mVar 8)) (mCB sumC (m1 (mVal (mLc [27] (mIt (mVar 5)) (mgName 27) mYes (mBin mulF (mVar 27) (mVar 27)))))))))
abbrev s17_7 : MS := (mSet 11 (mIf (mTest (mBin gtF (mVar 8) (mC (.int 0)))) (mBin divF (mVar 10) (mBin mulF (mVar 8) (mVar 8))) (mC (.int 0))))
abbrev s17_8 : MS := (mSet 12 (mVal (mLc [29] (mIt (mVal (mLst (mCons (mC (.int 1)) (mCons (mC (.int 2)) (mCons (mC (.int 4)) (mCons (mC (.int 8)) (mCons (mC (.int 16)) (mCons (mC (.int 32)) mNil))))))))) (mgName 29) t_law_2 e_law_3)))
abbrev s17_9 : MS := (mIfS (mOr (mTest (mBin neF (mVal (mCBL listC (m1 (mCall 2 [] F_gaps_between (mCons (mVar 3) (mCons (mVar 2) mNil)))))) (mVar 4))) (mTest (mBin neF (mCall 2 [] F_parted_share (mCons (mVar 3) (mCons (mVar 2) mNil))) (mCall 2 [] F__law_share (mCons (mVar 3) (mCons (mVar 2) mNil)))))) (mRet (mC (.bl false))) mSkip)
abbrev s17_10 : MS := (mIfS (mOr (mTest (mBin neF (mCall 2 [] F_even_share (mCons (mVar 3) (mCons (mVar 2) mNil))) (mVar 11))) (mTest (mBin neF (mVal (mListItems (mCall 2 [] F_gap_counts (mCons (mVar 3) (mCons (mVar 2) mNil))))) (mVar 12)))) (mRet (mC (.bl false))) mSkip)
abbrev s17_11 : MS := (mIfS (mTest (mBin neF (mVal (mCBL listC (m1 (mCall 3 [] F_cannot_fit (mCons (mVar 3) (mCons (mVar 2) (mCons (mVar 6) mNil))))))) (mVal (mLc [30] (mIt (mVar 6)) (mgName 30) t_law_4 (mVar 30))))) (mRet (mC (.bl false))) mSkip)
abbrev s17_12 : MS := (mIfS (mTest (mBin neF (mCall 3 [] F_how_many_fit (mCons (mVar 3) (mCons (mVar 2) (mCons (mVar 7) mNil)))) (mCB sumC (m1 (mVal (mLc [27] (mIt (mVar 5)) (mgName 27) mYes (mBin divF (mVar 27) (mVar 7)))))))) (mRet (mC (.bl false))) mSkip)
abbrev s17_13 : MS := (mIfS (mTest (mBin neF (mCall 3 [] F_map_text (mCons (mVar 3) (mCons (mVar 2) (mCons (mBin addF (mC (.int 1)) (mBin modF (mVar 7) (mVar 2))) mNil)))) (mCall 3 [] F__law_map (mCons (mVar 3) (mCons (mVar 2) (mCons (mBin addF (mC (.int 1)) (mBin modF (mVar 7) (mVar 2))) mNil)))))) (mRet (mC (.bl false))) mSkip)
abbrev s17_14 : MS := (mSet 14 (mVal (mLc [13] (mRng1 (mCons (mBin addF (mBin subF (mVar 2) (mVar 7)) (mC (.int 1))) mNil)) (mgName 13) mYes e_law_6)))
abbrev s17_15 : MS := (mIfS (mTest (mBin neF (mCall 3 [] F_moves_to_fit (mCons (mVar 3) (mCons (mVar 2) (mCons (mVar 7) mNil)))) (mIf (mTest (mBin neF (mVar 14) (mVal (mLst mNil)))) (mCB minTC (m1 (mVar 14))) (mC .non)))) (mRet (mC (.bl false))) mSkip)
abbrev s17_16 : MS := (mFor (mRng1 (mCons (mCB lenC (m1 (mVar 3))) mNil)) (mgName 15) b_law_8)
abbrev s17_17 : MS := (mSet 17 (mVal (mLst mNil)))
abbrev s17_18 : MS := (mFor (mRng1 (mCons (mCB lenC (m1 (mVar 3))) mNil)) (mgName 13) b_law_10)
abbrev s17_19 : MS := (mSet 20 (mIf (mTest (mBin neF (mVar 17) (mVal (mLst mNil)))) (mCB minTC (m1 (mVar 17))) (mC .non)))
abbrev s17_20 : MS := (mSet 21 (mIf (mTest (mBin neF (mVal (mLc [27] (mIt (mVar 5)) (mgName 27) (mTest (mBin geF (mVar 27) (mVar 7))) (mVar 27))) (mVal (mLst mNil)))) (mTup mNil) (mIf (mTest (mBin isNF (mVar 20) (mC .non))) (mC .non) (mRgT (mCons (mBin ixF (mVar 20) (mC (.int 2))) (mCons (mBin addF (mBin ixF (mVar 20) (mC (.int 2))) (mBin ixF (mVar 20) (mC (.int 0)))) mNil))))))
abbrev s17_21 : MS := (mIfS (mTest (mBin neF (mCall 3 [] F_best_to_free (mCons (mVar 3) (mCons (mVar 2) (mCons (mVar 7) mNil)))) (mVar 21))) (mRet (mC (.bl false))) mSkip)
abbrev s17_22 : MS := (mAsg (mgTup [(mgName 22), (mgName 23)]) (mTup (mCons (mBin addF (mC (.int 1)) (mCall 2 [] F__law_roll (mCons (mVar 1) (mCons (mC (.int 8)) mNil)))) (mCons (mVal (mLc [28] (mRng1 (mCons (mCall 2 [] F__law_roll (mCons (mVar 1) (mCons (mC (.int 4)) mNil))) mNil)) (mgName 28) mYes e_law_11)) mNil))))
abbrev s17_23 : MS := (mSet 24 (mCB sumC (m1 (mVal (mLc [30] (mIt (mVar 6)) (mgName 30) mYes e_law_13)))))
abbrev s17_24 : MS := (mSet 25 (mVal (mLc [31, 27] (mIt (mVar 23)) (mgTup [(mgName 31), (mgName 27)]) mYes e_law_14)))
abbrev s17_25 : MS := (mIfS (mTest (mBin neF (mCall 2 [] F_waste_of_lines (mCons (mVar 6) (mCons (mVar 22) mNil))) (mTup (mCons (mVar 24) (mCons (mBin divF (mBin mulF (mC (.int 1000)) (mVar 24)) (mCB sumC (m1 (mVar 6)))) mNil))))) (mRet (mC (.bl false))) mSkip)
abbrev s17_26 : MS := (mIfS (mTest (mBin neF (mVal (mCBL listC (m1 (mCall 1 [] F_look_back (mCons (mVar 23) mNil))))) (mVal (mLc [28, 32] (mEnumA (mCons (mVar 25) mNil)) (mgTup [(mgName 28), (mgName 32)]) t_law_15 e_law_16)))) (mRet (mC (.bl false))) mSkip)
theorem s17_eq : b_law_17 = mSeq s17_0 (mSeq s17_1 (mSeq s17_2 (mSeq s17_3 (mSeq s17_4 (mSeq s17_5 (mSeq s17_6 (mSeq s17_7 (mSeq s17_8 (mSeq s17_9 (mSeq s17_10 (mSeq s17_11 (mSeq s17_12 (mSeq s17_13 (mSeq s17_14 (mSeq s17_15 (mSeq s17_16 (mSeq s17_17 (mSeq s17_18 (mSeq s17_19 (mSeq s17_20 (mSeq s17_21 (mSeq s17_22 (mSeq s17_23 (mSeq s17_24 (mSeq s17_25 s17_26))))))))))))))))))))))))) := rfl
structure St (ls : LS) (rs : List Row) (size : Int) (asks : List Int) (ask : Int) : Prop where
  len : ls.length = 33
  v1 : ls[1]? = some (some (.ref 0))
  v2 : ls[2]? = some (some (.int size))
  v3 : ls[3]? = some (some (rowsD rs))
  v4 : ls[4]? = some (some (.lst ((G size 0 rs).map pD)))
  v5 : ls[5]? = some (some (.lst ((Z rs size).map D.int)))
  v6 : ls[6]? = some (some (.lst (asks.map D.int)))
  v7 : ls[7]? = some (some (.int ask))
  v8 : ls[8]? = some (some (.int (Z rs size).sum))
  v11 : ls[11]? = some (some (.int (evenV (Z rs size))))
  v12 : ls[12]? = some (some (.lst ((CL (Z rs size)).map pD)))
theorem St.set {ls : LS} {rs : List Row} {size ask : Int} {asks : List Int} (h : St ls rs size asks ask) {i : Nat} (hi : 12 < i) (x : Option D) : St (ls.set i x) rs size asks ask := by
  have e : ∀ j, j ≤ 12 → (ls.set i x)[j]? = ls[j]? := fun j hj => List.getElem?_set_ne (by omega)
  exact ⟨by rw [List.length_set]; exact h.len, by rw [e _ (by decide)]; exact h.v1, by rw [e _ (by decide)]; exact h.v2, by rw [e _ (by decide)]; exact h.v3, by rw [e _ (by decide)]; exact h.v4, by rw [e _ (by decide)]; exact h.v5, by rw [e _ (by decide)]; exact h.v6, by rw [e _ (by decide)]; exact h.v7, by rw [e _ (by decide)]; exact h.v8, by rw [e _ (by decide)]; exact h.v11, by rw [e _ (by decide)]; exact h.v12⟩
theorem cls_max {long : Int} (h1 : 1 ≤ long) (h2 : long ≤ 63) : maxI (([1, 2, 4, 8, 16, 32] : List Int).filter fun p => decide (p ≤ long)) = cls long ∧ (([1, 2, 4, 8, 16, 32] : List Int).filter fun p => decide (p ≤ long)) ≠ [] := by
  unfold cls
  by_cases c5 : 32 ≤ long
  · simp [List.filter_cons, c5, show 16 ≤ long by omega, show 8 ≤ long by omega, show 4 ≤ long by omega, show 2 ≤ long by omega, h1, maxI]; decide
  · by_cases c4 : 16 ≤ long
    · simp [List.filter_cons, c5, c4, show 8 ≤ long by omega, show 4 ≤ long by omega, show 2 ≤ long by omega, h1, maxI]; decide
    · by_cases c3 : 8 ≤ long
      · simp [List.filter_cons, c5, c4, c3, show 4 ≤ long by omega, show 2 ≤ long by omega, h1, maxI]; decide
      · by_cases c2 : 4 ≤ long
        · simp [List.filter_cons, c5, c4, c3, c2, show 2 ≤ long by omega, h1, maxI]; decide
        · by_cases c1 : 2 ≤ long
          · simp [List.filter_cons, c5, c4, c3, c2, c1, h1, maxI]; decide
          · simp [List.filter_cons, c5, c4, c3, c2, c1, h1, maxI]
theorem get_of {ls : LS} {i : Nat} {x : Option D} (h : ls[i]? = some x) : ∀ p, ls[i]'p = x := fun p => (List.getElem?_eq_some_iff.mp h).2
theorem set_nx {i : Nat} {m : M D} {ls : LS} {d : D} {hs h : HS} (e : m ls hs = .ok d h) : mSet i m ls hs = .nx (ls.set i (some d)) h := by
  rw [ap_set, e, toS_ok]
/-- 1 + a roll, several times -/
theorem asks_go {ls : LS} {a b c : Int} {t : HS} (hl : ls.length = 33) (h1 : ls[1]? = some (some (.ref 0))) : ∃ (ns : List Int) (a' b' c' : Int), mLc [28] (mRng1 (mCons (mC (.int 4)) mNil)) (mgName 28) mYes e_law_0 ls (dc a b c :: t) = .ok (ns.map D.int) (dc a' b' c' :: t) ∧ ns.length = 4 ∧ ∀ n ∈ ns, 1 ≤ n ∧ n ≤ 12 := by
  obtain ⟨acc, hs', g1, ns, a', b', c', rfl, g3, g4, rfl⟩ := lc_inv (enc := D.int) (own := [28]) (tg := mgName 28) (t := mYes) (e := e_law_0) (hs1 := dc a b c :: t) (ls := wipeL ls [28]) (xs0 := rI 0 4)
    (fun pre acc hs => ∃ (ns : List Int) (a b c : Int), acc = ns.map D.int ∧ ns.length = pre.length ∧ (∀ n ∈ ns, 1 ≤ n ∧ n ≤ 12) ∧ hs = dc a b c :: t)
    (fun pre x post acc hs e0 ⟨ns, a, b, c, e1, e2, e3, e4⟩ => by
      subst e1
      subst e4
      obtain ⟨a1, b1, c1, r, f1, f2, f3⟩ := f_roll a b c 12 t (by decide) (by decide)
      refine ⟨_, rfl, rfl, true, _, rfl, by simp, fun _ => ⟨?_, .int (1 + r), dc a1 b1 c1 :: t, ?_, ns ++ [1 + r], a1, b1, c1, by simp, by simp [e2], ?_, rfl⟩⟩
      · have : (rI 0 4).length = 4 := rfl
        rw [e0] at this
        simp at this ⊢
        omega
      · simp [mGx, ap_seq, ap_set, ap_ret, ap_expr, ap_ifS, ap_skip, ap_raise, ap_aug, ap_setSub, toS_some, toS_ok, bind_ok, of_some, ap_c, ap_var, ap_bin, ap_test, asB_bl, ap_if, ap_and, ap_or, ap_not, ap_andV, ap_orV, ap_notV, ap_nil, ap_cons, ap_tup, ap_lst, ap_val, ap_box, ap_cb, ap_cbl, ap_call, ap_for, ap_lc, ap_it, ap_yes, ap_sl, ap_noPart, ap_part, part_int, ap_chain2, then_t, then_f, ap_rng1, ap_rng2, ap_rgL, ap_rgT, ap_asg, ap_zip, ap_enumA, ap_par2, add_int, sub_int, lt_int, le_int, gt_int, ge_int, eq_int, ne_int, max2_int, min2_int, int_int, int_bl, it_lst, it_tup, seq_lst, any_lst, any_tup, nox_ok, runF, startL, wipeL, capL, putL, m1, m2, sz, List.getElem?_set, h1, f1]
      · intro n hn
        rcases List.mem_append.mp hn with hn | hn
        · exact e3 n hn
        · simp at hn; subst hn; omega) (rI 0 4) [] [] (dc a b c :: t) rfl ⟨[], a, b, c, rfl, rfl, by simp, rfl⟩
  refine ⟨ns, a', b', c', ?_, g3, g4⟩
  simp [mGx, ap_seq, ap_set, ap_ret, ap_expr, ap_ifS, ap_skip, ap_raise, ap_aug, ap_setSub, toS_some, toS_ok, bind_ok, of_some, ap_c, ap_var, ap_bin, ap_test, asB_bl, ap_if, ap_and, ap_or, ap_not, ap_andV, ap_orV, ap_notV, ap_nil, ap_cons, ap_tup, ap_lst, ap_val, ap_box, ap_cb, ap_cbl, ap_call, ap_for, ap_lc, ap_it, ap_yes, ap_sl, ap_noPart, ap_part, part_int, ap_chain2, then_t, then_f, ap_rng1, ap_rng2, ap_rgL, ap_rgT, ap_asg, ap_zip, ap_enumA, ap_par2, add_int, sub_int, lt_int, le_int, gt_int, ge_int, eq_int, ne_int, max2_int, min2_int, int_int, int_bl, it_lst, it_tup, seq_lst, any_lst, any_tup, nox_ok, runF, startL, wipeL, capL, putL, m1, m2, sz, rng1_int]
  rw [show rngD 0 4 = (rI 0 4).map D.int from rfl]
  exact g1
theorem count_lst {hs : HS} {C : List Int} {k : Int} : countMF hs (.lst (C.map D.int)) [.int k] = some (.int (C.count k : Nat), hs) := by
  simp only [countMF, countF, seqL, Option.bind_some, asInts_map, Option.map_some]
  rw [List.count_eq_countP]
  congr 5
theorem counts_go {ls : LS} {C : List Int} {hs : HS} (hl : ls.length = 33) (h9 : ls[9]? = some (some (.lst (C.map D.int)))) : mLc [29] (mIt (mVal (mLst (mCons (mC (.int 1)) (mCons (mC (.int 2)) (mCons (mC (.int 4)) (mCons (mC (.int 8)) (mCons (mC (.int 16)) (mCons (mC (.int 32)) mNil))))))))) (mgName 29) t_law_2 e_law_3 ls hs =
    .ok ((([1, 2, 4, 8, 16, 32] : List Int).filter fun k => decide (k ∈ C)).map fun k => pD (k, (C.count k : Nat))) hs := by
  simp [mGx, ap_seq, ap_set, ap_ret, ap_expr, ap_ifS, ap_skip, ap_raise, ap_aug, ap_setSub, toS_some, toS_ok, bind_ok, of_some, ap_c, ap_var, ap_bin, ap_test, asB_bl, ap_if, ap_and, ap_or, ap_not, ap_andV, ap_orV, ap_notV, ap_nil, ap_cons, ap_tup, ap_lst, ap_val, ap_box, ap_cb, ap_cbl, ap_call, ap_for, ap_lc, ap_it, ap_yes, ap_sl, ap_noPart, ap_part, part_int, ap_chain2, then_t, then_f, ap_rng1, ap_rng2, ap_rgL, ap_rgT, ap_asg, ap_zip, ap_enumA, ap_par2, add_int, sub_int, lt_int, le_int, gt_int, ge_int, eq_int, ne_int, max2_int, min2_int, int_int, int_bl, it_lst, it_tup, seq_lst, any_lst, any_tup, nox_ok, runF, startL, wipeL, capL, putL, m1, m2, sz]
  rw [show ([D.int 1, .int 2, .int 4, .int 8, .int 16, .int 32] : List D) = ([1, 2, 4, 8, 16, 32] : List Int).map D.int from rfl]
  rw [lc_go (enc := D.int) (p := fun k => decide (k ∈ C)) (q := fun k => pD (k, (C.count k : Nat))) _ [] ?_ (by simp [sz])]
  · simp
  · intro k hk
    have g29 : (putL (wipeL ls [29]) [(29, .int k)])[29]? = some (some (.int k)) := by
      simp [putL, wipeL, hl]
    have g9 : (putL (wipeL ls [29]) [(29, .int k)])[9]? = some (some (.lst (C.map D.int))) := by
      simp [putL, wipeL, h9]
    refine ⟨_, rfl, rfl, ?_, fun _ => ?_⟩
    · show t_law_2 (putL (wipeL ls [29]) [(29, .int k)]) hs = _
      generalize putL (wipeL ls [29]) [(29, .int k)] = l at *
      simp [mGx, ap_seq, ap_set, ap_ret, ap_expr, ap_ifS, ap_skip, ap_raise, ap_aug, ap_setSub, toS_some, toS_ok, bind_ok, of_some, ap_c, ap_var, ap_bin, ap_test, asB_bl, ap_if, ap_and, ap_or, ap_not, ap_andV, ap_orV, ap_notV, ap_nil, ap_cons, ap_tup, ap_lst, ap_val, ap_box, ap_cb, ap_cbl, ap_call, ap_for, ap_lc, ap_it, ap_yes, ap_sl, ap_noPart, ap_part, part_int, ap_chain2, then_t, then_f, ap_rng1, ap_rng2, ap_rgL, ap_rgT, ap_asg, ap_zip, ap_enumA, ap_par2, add_int, sub_int, lt_int, le_int, gt_int, ge_int, eq_int, ne_int, max2_int, min2_int, int_int, int_bl, it_lst, it_tup, seq_lst, any_lst, any_tup, nox_ok, runF, startL, wipeL, capL, putL, m1, m2, sz, g29, g9, in_ints, ng]
    · show e_law_3 (putL (wipeL ls [29]) [(29, .int k)]) hs = _
      generalize putL (wipeL ls [29]) [(29, .int k)] = l at *
      simp [mGx, ap_seq, ap_set, ap_ret, ap_expr, ap_ifS, ap_skip, ap_raise, ap_aug, ap_setSub, toS_some, toS_ok, bind_ok, of_some, ap_c, ap_var, ap_bin, ap_test, asB_bl, ap_if, ap_and, ap_or, ap_not, ap_andV, ap_orV, ap_notV, ap_nil, ap_cons, ap_tup, ap_lst, ap_val, ap_box, ap_cb, ap_cbl, ap_call, ap_for, ap_lc, ap_it, ap_yes, ap_sl, ap_noPart, ap_part, part_int, ap_chain2, then_t, then_f, ap_rng1, ap_rng2, ap_rgL, ap_rgT, ap_asg, ap_zip, ap_enumA, ap_par2, add_int, sub_int, lt_int, le_int, gt_int, ge_int, eq_int, ne_int, max2_int, min2_int, int_int, int_bl, it_lst, it_tup, seq_lst, any_lst, any_tup, nox_ok, runF, startL, wipeL, capL, putL, m1, m2, sz, g29, g9, ap_bm, count_lst, ofP_some, pD]
theorem pro {ls : LS} {a b c : Int} {t : HS} (hl : ls.length = 33) (h1 : ls[1]? = some (some (.ref 0))) : ∃ ls' rs size asks ask a' b' c', (∀ r, mSeq s17_0 (mSeq s17_1 (mSeq s17_2 (mSeq s17_3 (mSeq s17_4 (mSeq s17_5 (mSeq s17_6 (mSeq s17_7 (mSeq s17_8 r)))))))) ls (dc a b c :: t) = r ls' (dc a' b' c' :: t)) ∧
    St ls' rs size asks ask ∧ Ok1 rs size ∧ rs.length ≤ 7 ∧ 6 ≤ size ∧ size ≤ 35 ∧ asks.length = 4 ∧ (∀ n ∈ asks, 1 ≤ n ∧ n ≤ 12) ∧ 1 ≤ ask ∧ ask ≤ 10 := by
  obtain ⟨a1, b1, c1, r1, e1, l1, u1⟩ := f_roll a b c 30 t (by decide) (by decide)
  obtain ⟨rs, a2, b2, c2, e2, ok, hn⟩ := @f_rooms (6 + r1) a1 b1 c1 t (by omega) (by omega)
  have e3 := f_lawgaps (dc a2 b2 c2 :: t) ok
  have oz := Z_ok ok
  have hlz := oz.len
  have hlg : (G (6 + r1) 0 rs).length ≤ 11 := by simpa [Z] using hlz
  have hsum := oz.sum
  have hnn := oz.nn
  have hsq := sq_le hnn hsum
  have n0 : s17_0 ls (dc a b c :: t) = .nx (ls.set 2 (some (.int (6 + r1)))) (dc a1 b1 c1 :: t) := set_nx (by simp [mGx, ap_seq, ap_set, ap_ret, ap_expr, ap_ifS, ap_skip, ap_raise, ap_aug, ap_setSub, toS_some, toS_ok, bind_ok, of_some, ap_c, ap_var, ap_bin, ap_test, asB_bl, ap_if, ap_and, ap_or, ap_not, ap_andV, ap_orV, ap_notV, ap_nil, ap_cons, ap_tup, ap_lst, ap_val, ap_box, ap_cb, ap_cbl, ap_call, ap_for, ap_lc, ap_it, ap_yes, ap_sl, ap_noPart, ap_part, part_int, ap_chain2, then_t, then_f, ap_rng1, ap_rng2, ap_rgL, ap_rgT, ap_asg, ap_zip, ap_enumA, ap_par2, add_int, sub_int, lt_int, le_int, gt_int, ge_int, eq_int, ne_int, max2_int, min2_int, int_int, int_bl, it_lst, it_tup, seq_lst, any_lst, any_tup, nox_ok, runF, startL, wipeL, capL, putL, m1, m2, sz, h1, e1])
  generalize hls1 : ls.set 2 (some (D.int (6 + r1))) = ls1 at n0
  have hl1 : ls1.length = 33 := by rw [← hls1, List.length_set, hl]
  have q1 : ls1[1]? = some (some (.ref 0)) := by rw [← hls1]; simp [h1]
  have q2 : ls1[2]? = some (some (.int (6 + r1))) := by rw [← hls1]; simp [hl]
  have n1 : s17_1 ls1 (dc a1 b1 c1 :: t) = .nx (ls1.set 3 (some (rowsD rs))) (dc a2 b2 c2 :: t) := set_nx (by simp [mGx, ap_seq, ap_set, ap_ret, ap_expr, ap_ifS, ap_skip, ap_raise, ap_aug, ap_setSub, toS_some, toS_ok, bind_ok, of_some, ap_c, ap_var, ap_bin, ap_test, asB_bl, ap_if, ap_and, ap_or, ap_not, ap_andV, ap_orV, ap_notV, ap_nil, ap_cons, ap_tup, ap_lst, ap_val, ap_box, ap_cb, ap_cbl, ap_call, ap_for, ap_lc, ap_it, ap_yes, ap_sl, ap_noPart, ap_part, part_int, ap_chain2, then_t, then_f, ap_rng1, ap_rng2, ap_rgL, ap_rgT, ap_asg, ap_zip, ap_enumA, ap_par2, add_int, sub_int, lt_int, le_int, gt_int, ge_int, eq_int, ne_int, max2_int, min2_int, int_int, int_bl, it_lst, it_tup, seq_lst, any_lst, any_tup, nox_ok, runF, startL, wipeL, capL, putL, m1, m2, sz, q1, q2, e2])
  have n2 : s17_2 (ls1.set 3 (some (rowsD rs))) (dc a2 b2 c2 :: t) = .nx ((ls1.set 3 (some (rowsD rs))).set 4 (some (.lst ((G (6 + r1) 0 rs).map pD)))) (dc a2 b2 c2 :: t) := set_nx (by simp [mGx, ap_seq, ap_set, ap_ret, ap_expr, ap_ifS, ap_skip, ap_raise, ap_aug, ap_setSub, toS_some, toS_ok, bind_ok, of_some, ap_c, ap_var, ap_bin, ap_test, asB_bl, ap_if, ap_and, ap_or, ap_not, ap_andV, ap_orV, ap_notV, ap_nil, ap_cons, ap_tup, ap_lst, ap_val, ap_box, ap_cb, ap_cbl, ap_call, ap_for, ap_lc, ap_it, ap_yes, ap_sl, ap_noPart, ap_part, part_int, ap_chain2, then_t, then_f, ap_rng1, ap_rng2, ap_rgL, ap_rgT, ap_asg, ap_zip, ap_enumA, ap_par2, add_int, sub_int, lt_int, le_int, gt_int, ge_int, eq_int, ne_int, max2_int, min2_int, int_int, int_bl, it_lst, it_tup, seq_lst, any_lst, any_tup, nox_ok, runF, startL, wipeL, capL, putL, m1, m2, sz, q1, q2, get_of q2, e3, hl1])
  generalize hls2 : (ls1.set 3 (some (rowsD rs))).set 4 (some (.lst ((G (6 + r1) 0 rs).map pD))) = ls2 at n2
  have hl2 : ls2.length = 33 := by rw [← hls2]; simp [hl1]
  have p1 : ls2[1]? = some (some (.ref 0)) := by rw [← hls2]; simp [q1]
  have p2 : ls2[2]? = some (some (.int (6 + r1))) := by rw [← hls2]; simp [q2]
  have p3 : ls2[3]? = some (some (rowsD rs)) := by rw [← hls2]; simp [hl1]
  have p4 : ls2[4]? = some (some (.lst ((G (6 + r1) 0 rs).map pD))) := by rw [← hls2]; simp [hl1]
  obtain ⟨asks, a3, b3, c3, e4, hal, ha⟩ := @asks_go ls2 a2 b2 c2 t hl2 p1
  obtain ⟨a4, b4, c4, r2, e5, l2, u2⟩ := f_roll a3 b3 c3 10 t (by decide) (by decide)
  have hz : lcD [26, 27] (mgTup [mgName 26, mgName 27]) mYes (mVar 27) none (dc a2 b2 c2 :: t) (wipeL ls2 [26, 27]) ((G (6 + r1) 0 rs).map pD) [] (dc a2 b2 c2 :: t) = .ok ((Z rs (6 + r1)).map D.int) (dc a2 b2 c2 :: t) := by
    rw [lc_all (enc := pD) (q := fun x => .int x.2) _ [] (fun x hx => ⟨_, rfl, rfl, rfl, fun _ => by simp [mGx, ap_seq, ap_set, ap_ret, ap_expr, ap_ifS, ap_skip, ap_raise, ap_aug, ap_setSub, toS_some, toS_ok, bind_ok, of_some, ap_c, ap_var, ap_bin, ap_test, asB_bl, ap_if, ap_and, ap_or, ap_not, ap_andV, ap_orV, ap_notV, ap_nil, ap_cons, ap_tup, ap_lst, ap_val, ap_box, ap_cb, ap_cbl, ap_call, ap_for, ap_lc, ap_it, ap_yes, ap_sl, ap_noPart, ap_part, part_int, ap_chain2, then_t, then_f, ap_rng1, ap_rng2, ap_rgL, ap_rgT, ap_asg, ap_zip, ap_enumA, ap_par2, add_int, sub_int, lt_int, le_int, gt_int, ge_int, eq_int, ne_int, max2_int, min2_int, int_int, int_bl, it_lst, it_tup, seq_lst, any_lst, any_tup, nox_ok, runF, startL, wipeL, capL, putL, m1, m2, sz, List.getElem?_set, hl2]⟩) (by simp; omega), Z_map]
    rfl
  have n3 : s17_3 ls2 (dc a2 b2 c2 :: t) = .nx (((ls2.set 5 (some (.lst ((Z rs (6 + r1)).map D.int)))).set 6 (some (.lst (asks.map D.int)))).set 7 (some (.int (1 + r2)))) (dc a4 b4 c4 :: t) := by
    have hz2 : mLc [26, 27] (mIt (mVar 4)) (mgTup [mgName 26, mgName 27]) mYes (mVar 27) ls2 (dc a2 b2 c2 :: t) = .ok ((Z rs (6 + r1)).map D.int) (dc a2 b2 c2 :: t) := by
      rw [ap_lc, ap_it, ap_var, p4]
      simp only [Option.bind_some, id, of_some, bind_ok, it_lst]
      exact hz
    unfold s17_3
    rw [ap_asg, ap_tup, ap_cons, ap_val, hz2, bind_ok, bind_ok, ap_cons, ap_val, e4]
    simp [mGx, ap_seq, ap_set, ap_ret, ap_expr, ap_ifS, ap_skip, ap_raise, ap_aug, ap_setSub, toS_some, toS_ok, bind_ok, of_some, ap_c, ap_var, ap_bin, ap_test, asB_bl, ap_if, ap_and, ap_or, ap_not, ap_andV, ap_orV, ap_notV, ap_nil, ap_cons, ap_tup, ap_lst, ap_val, ap_box, ap_cb, ap_cbl, ap_call, ap_for, ap_lc, ap_it, ap_yes, ap_sl, ap_noPart, ap_part, part_int, ap_chain2, then_t, then_f, ap_rng1, ap_rng2, ap_rgL, ap_rgT, ap_asg, ap_zip, ap_enumA, ap_par2, add_int, sub_int, lt_int, le_int, gt_int, ge_int, eq_int, ne_int, max2_int, min2_int, int_int, int_bl, it_lst, it_tup, seq_lst, any_lst, any_tup, nox_ok, runF, startL, wipeL, capL, putL, m1, m2, sz, p1, e5, mgTup, mgGo, mgName]
  generalize hls3 : ((ls2.set 5 (some (.lst ((Z rs (6 + r1)).map D.int)))).set 6 (some (.lst (asks.map D.int)))).set 7 (some (.int (1 + r2))) = ls3 at n3
  have hl3 : ls3.length = 33 := by rw [← hls3]; simp [hl2]
  have w1 : ls3[1]? = some (some (.ref 0)) := by rw [← hls3]; simp [p1]
  have w2 : ls3[2]? = some (some (.int (6 + r1))) := by rw [← hls3]; simp [p2]
  have w3 : ls3[3]? = some (some (rowsD rs)) := by rw [← hls3]; simp [p3]
  have w4 : ls3[4]? = some (some (.lst ((G (6 + r1) 0 rs).map pD))) := by rw [← hls3]; simp [p4]
  have w5 : ls3[5]? = some (some (.lst ((Z rs (6 + r1)).map D.int))) := by rw [← hls3]; simp [hl2]
  have w6 : ls3[6]? = some (some (.lst (asks.map D.int))) := by rw [← hls3]; simp [hl2]
  have w7 : ls3[7]? = some (some (.int (1 + r2))) := by rw [← hls3]; simp [hl2]
  have n4 : s17_4 ls3 (dc a4 b4 c4 :: t) = .nx (ls3.set 8 (some (.int (Z rs (6 + r1)).sum))) (dc a4 b4 c4 :: t) := set_nx (by simp [mGx, ap_seq, ap_set, ap_ret, ap_expr, ap_ifS, ap_skip, ap_raise, ap_aug, ap_setSub, toS_some, toS_ok, bind_ok, of_some, ap_c, ap_var, ap_bin, ap_test, asB_bl, ap_if, ap_and, ap_or, ap_not, ap_andV, ap_orV, ap_notV, ap_nil, ap_cons, ap_tup, ap_lst, ap_val, ap_box, ap_cb, ap_cbl, ap_call, ap_for, ap_lc, ap_it, ap_yes, ap_sl, ap_noPart, ap_part, part_int, ap_chain2, then_t, then_f, ap_rng1, ap_rng2, ap_rgL, ap_rgT, ap_asg, ap_zip, ap_enumA, ap_par2, add_int, sub_int, lt_int, le_int, gt_int, ge_int, eq_int, ne_int, max2_int, min2_int, int_int, int_bl, it_lst, it_tup, seq_lst, any_lst, any_tup, nox_ok, runF, startL, wipeL, capL, putL, m1, m2, sz, w5, sumC_lst])
  generalize hls4 : ls3.set 8 (some (.int (Z rs (6 + r1)).sum)) = ls4 at n4
  have hl4 : ls4.length = 33 := by rw [← hls4]; simp [hl3]
  have x : ∀ j, j ≤ 7 → ls4[j]? = ls3[j]? := fun j hj => by rw [← hls4]; exact List.getElem?_set_ne (by omega)
  have x8 : ls4[8]? = some (some (.int (Z rs (6 + r1)).sum)) := by rw [← hls4]; simp [hl3]
  have x5 : ls4[5]? = some (some (.lst ((Z rs (6 + r1)).map D.int))) := by rw [x 5 (by decide), w5]
  have n5 : s17_5 ls4 (dc a4 b4 c4 :: t) = .nx (ls4.set 9 (some (.lst (((Z rs (6 + r1)).map cls).map D.int)))) (dc a4 b4 c4 :: t) := set_nx (by
    rw [ap_val, ap_lc, ap_it, ap_var, x5]
    simp only [Option.bind_some, id, of_some, bind_ok, it_lst]
    rw [lc_all (enc := D.int) (q := fun x => .int (cls x)) _ [] ?_ (by simp; omega)]
    · simp [mGx, ap_seq, ap_set, ap_ret, ap_expr, ap_ifS, ap_skip, ap_raise, ap_aug, ap_setSub, toS_some, toS_ok, bind_ok, of_some, ap_c, ap_var, ap_bin, ap_test, asB_bl, ap_if, ap_and, ap_or, ap_not, ap_andV, ap_orV, ap_notV, ap_nil, ap_cons, ap_tup, ap_lst, ap_val, ap_box, ap_cb, ap_cbl, ap_call, ap_for, ap_lc, ap_it, ap_yes, ap_sl, ap_noPart, ap_part, part_int, ap_chain2, then_t, then_f, ap_rng1, ap_rng2, ap_rgL, ap_rgT, ap_asg, ap_zip, ap_enumA, ap_par2, add_int, sub_int, lt_int, le_int, gt_int, ge_int, eq_int, ne_int, max2_int, min2_int, int_int, int_bl, it_lst, it_tup, seq_lst, any_lst, any_tup, nox_ok, runF, startL, wipeL, capL, putL, m1, m2, sz]
    · intro l hl
      have hl' := oz.each l hl
      have hl35 : l ≤ 63 := by have := mem_le_sum (fun x hx => by have := oz.each x hx; omega) l hl; have := G_sum ok.ch; unfold Z at *; omega
      refine ⟨_, rfl, rfl, rfl, fun _ => ?_⟩
      simp [mGx, ap_seq, ap_set, ap_ret, ap_expr, ap_ifS, ap_skip, ap_raise, ap_aug, ap_setSub, toS_some, toS_ok, bind_ok, of_some, ap_c, ap_var, ap_bin, ap_test, asB_bl, ap_if, ap_and, ap_or, ap_not, ap_andV, ap_orV, ap_notV, ap_nil, ap_cons, ap_tup, ap_lst, ap_val, ap_box, ap_cb, ap_cbl, ap_call, ap_for, ap_lc, ap_it, ap_yes, ap_sl, ap_noPart, ap_part, part_int, ap_chain2, then_t, then_f, ap_rng1, ap_rng2, ap_rgL, ap_rgT, ap_asg, ap_zip, ap_enumA, ap_par2, add_int, sub_int, lt_int, le_int, gt_int, ge_int, eq_int, ne_int, max2_int, min2_int, int_int, int_bl, it_lst, it_tup, seq_lst, any_lst, any_tup, nox_ok, runF, startL, wipeL, capL, putL, m1, m2, sz]
      rw [show ([D.int 1, .int 2, .int 4, .int 8, .int 16, .int 32] : List D) = ([1, 2, 4, 8, 16, 32] : List Int).map D.int from rfl]
      rw [lc_go (enc := D.int) (p := fun p => decide (p ≤ l)) (q := D.int) _ [] ?_ (by simp [sz])]
      · simp only [List.nil_append, bind_ok]
        rw [maxC_lst _ (cls_max hl'.1 hl35).2, (cls_max hl'.1 hl35).1]
        rfl
      · intro p hp
        exact ⟨_, rfl, rfl, by simp [mGx, ap_seq, ap_set, ap_ret, ap_expr, ap_ifS, ap_skip, ap_raise, ap_aug, ap_setSub, toS_some, toS_ok, bind_ok, of_some, ap_c, ap_var, ap_bin, ap_test, asB_bl, ap_if, ap_and, ap_or, ap_not, ap_andV, ap_orV, ap_notV, ap_nil, ap_cons, ap_tup, ap_lst, ap_val, ap_box, ap_cb, ap_cbl, ap_call, ap_for, ap_lc, ap_it, ap_yes, ap_sl, ap_noPart, ap_part, part_int, ap_chain2, then_t, then_f, ap_rng1, ap_rng2, ap_rgL, ap_rgT, ap_asg, ap_zip, ap_enumA, ap_par2, add_int, sub_int, lt_int, le_int, gt_int, ge_int, eq_int, ne_int, max2_int, min2_int, int_int, int_bl, it_lst, it_tup, seq_lst, any_lst, any_tup, nox_ok, runF, startL, wipeL, capL, putL, m1, m2, sz, List.getElem?_set, hl4], fun _ => by simp [mGx, ap_seq, ap_set, ap_ret, ap_expr, ap_ifS, ap_skip, ap_raise, ap_aug, ap_setSub, toS_some, toS_ok, bind_ok, of_some, ap_c, ap_var, ap_bin, ap_test, asB_bl, ap_if, ap_and, ap_or, ap_not, ap_andV, ap_orV, ap_notV, ap_nil, ap_cons, ap_tup, ap_lst, ap_val, ap_box, ap_cb, ap_cbl, ap_call, ap_for, ap_lc, ap_it, ap_yes, ap_sl, ap_noPart, ap_part, part_int, ap_chain2, then_t, then_f, ap_rng1, ap_rng2, ap_rgL, ap_rgT, ap_asg, ap_zip, ap_enumA, ap_par2, add_int, sub_int, lt_int, le_int, gt_int, ge_int, eq_int, ne_int, max2_int, min2_int, int_int, int_bl, it_lst, it_tup, seq_lst, any_lst, any_tup, nox_ok, runF, startL, wipeL, capL, putL, m1, m2, sz, List.getElem?_set, hl4]⟩)
  generalize hls5 : ls4.set 9 (some (.lst (((Z rs (6 + r1)).map cls).map D.int))) = ls5 at n5
  have hl5 : ls5.length = 33 := by rw [← hls5]; simp [hl4]
  have y : ∀ j, j ≤ 8 → ls5[j]? = ls4[j]? := fun j hj => by rw [← hls5]; exact List.getElem?_set_ne (by omega)
  have y9 : ls5[9]? = some (some (.lst (((Z rs (6 + r1)).map cls).map D.int))) := by rw [← hls5]; simp [hl4]
  have y5 : ls5[5]? = some (some (.lst ((Z rs (6 + r1)).map D.int))) := by rw [y 5 (by decide), x5]
  have y8 : ls5[8]? = some (some (.int (Z rs (6 + r1)).sum)) := by rw [y 8 (by decide), x8]
  have n6 : s17_6 ls5 (dc a4 b4 c4 :: t) = .nx (ls5.set 10 (some (.int (1000 * ((Z rs (6 + r1)).sum * (Z rs (6 + r1)).sum - ((Z rs (6 + r1)).map fun l => l * l).sum))))) (dc a4 b4 c4 :: t) := set_nx (by
    simp [mGx, ap_seq, ap_set, ap_ret, ap_expr, ap_ifS, ap_skip, ap_raise, ap_aug, ap_setSub, toS_some, toS_ok, bind_ok, of_some, ap_c, ap_var, ap_bin, ap_test, asB_bl, ap_if, ap_and, ap_or, ap_not, ap_andV, ap_orV, ap_notV, ap_nil, ap_cons, ap_tup, ap_lst, ap_val, ap_box, ap_cb, ap_cbl, ap_call, ap_for, ap_lc, ap_it, ap_yes, ap_sl, ap_noPart, ap_part, part_int, ap_chain2, then_t, then_f, ap_rng1, ap_rng2, ap_rgL, ap_rgT, ap_asg, ap_zip, ap_enumA, ap_par2, add_int, sub_int, lt_int, le_int, gt_int, ge_int, eq_int, ne_int, max2_int, min2_int, int_int, int_bl, it_lst, it_tup, seq_lst, any_lst, any_tup, nox_ok, runF, startL, wipeL, capL, putL, m1, m2, sz, y5, y8, mul_int (show -(2 ^ 64) < (Z rs (6 + r1)).sum ∧ (Z rs (6 + r1)).sum < 2 ^ 64 ∨ _ from .inl (by omega))]
    rw [lc_all (enc := D.int) (q := fun x => .int (x * x)) _ [] ?_ (by simp; omega)]
    · simp only [List.nil_append, bind_ok]
      rw [show ((Z rs (6 + r1)).map fun x => D.int (x * x)) = ((Z rs (6 + r1)).map fun l => l * l).map D.int by simp]
      generalize (Z rs (6 + r1)).map (fun l => l * l) = w
      simp [mGx, ap_seq, ap_set, ap_ret, ap_expr, ap_ifS, ap_skip, ap_raise, ap_aug, ap_setSub, toS_some, toS_ok, bind_ok, of_some, ap_c, ap_var, ap_bin, ap_test, asB_bl, ap_if, ap_and, ap_or, ap_not, ap_andV, ap_orV, ap_notV, ap_nil, ap_cons, ap_tup, ap_lst, ap_val, ap_box, ap_cb, ap_cbl, ap_call, ap_for, ap_lc, ap_it, ap_yes, ap_sl, ap_noPart, ap_part, part_int, ap_chain2, then_t, then_f, ap_rng1, ap_rng2, ap_rgL, ap_rgT, ap_asg, ap_zip, ap_enumA, ap_par2, add_int, sub_int, lt_int, le_int, gt_int, ge_int, eq_int, ne_int, max2_int, min2_int, int_int, int_bl, it_lst, it_tup, seq_lst, any_lst, any_tup, nox_ok, runF, startL, wipeL, capL, putL, m1, m2, sz, sumC_lst, mul_int]
    · intro l hl
      have hl' := oz.each l hl
      exact ⟨_, rfl, rfl, rfl, fun _ => by simp [mGx, ap_seq, ap_set, ap_ret, ap_expr, ap_ifS, ap_skip, ap_raise, ap_aug, ap_setSub, toS_some, toS_ok, bind_ok, of_some, ap_c, ap_var, ap_bin, ap_test, asB_bl, ap_if, ap_and, ap_or, ap_not, ap_andV, ap_orV, ap_notV, ap_nil, ap_cons, ap_tup, ap_lst, ap_val, ap_box, ap_cb, ap_cbl, ap_call, ap_for, ap_lc, ap_it, ap_yes, ap_sl, ap_noPart, ap_part, part_int, ap_chain2, then_t, then_f, ap_rng1, ap_rng2, ap_rgL, ap_rgT, ap_asg, ap_zip, ap_enumA, ap_par2, add_int, sub_int, lt_int, le_int, gt_int, ge_int, eq_int, ne_int, max2_int, min2_int, int_int, int_bl, it_lst, it_tup, seq_lst, any_lst, any_tup, nox_ok, runF, startL, wipeL, capL, putL, m1, m2, sz, List.getElem?_set, hl5, mul_int (show -(2 ^ 64) < l ∧ l < 2 ^ 64 ∨ -(2 ^ 64) < l ∧ l < 2 ^ 64 from .inl (by omega))]⟩)
  generalize hls6 : ls5.set 10 (some (.int (1000 * ((Z rs (6 + r1)).sum * (Z rs (6 + r1)).sum - ((Z rs (6 + r1)).map fun l => l * l).sum)))) = ls6 at n6
  have hl6 : ls6.length = 33 := by rw [← hls6]; simp [hl5]
  have z : ∀ j, j ≤ 9 → ls6[j]? = ls5[j]? := fun j hj => by rw [← hls6]; exact List.getElem?_set_ne (by omega)
  have z8 : ls6[8]? = some (some (.int (Z rs (6 + r1)).sum)) := by rw [z 8 (by decide), y8]
  have z9 : ls6[9]? = some (some (.lst (((Z rs (6 + r1)).map cls).map D.int))) := by rw [z 9 (by decide), y9]
  have z10 : ls6[10]? = some (some (.int (1000 * ((Z rs (6 + r1)).sum * (Z rs (6 + r1)).sum - ((Z rs (6 + r1)).map fun l => l * l).sum)))) := by rw [← hls6]; simp [hl5]
  have n7 : s17_7 ls6 (dc a4 b4 c4 :: t) = .nx (ls6.set 11 (some (.int (evenV (Z rs (6 + r1)))))) (dc a4 b4 c4 :: t) := set_nx (by
    by_cases hp : 0 < (Z rs (6 + r1)).sum
    · have hpos := Int.mul_pos hp hp
      simp [mGx, ap_seq, ap_set, ap_ret, ap_expr, ap_ifS, ap_skip, ap_raise, ap_aug, ap_setSub, toS_some, toS_ok, bind_ok, of_some, ap_c, ap_var, ap_bin, ap_test, asB_bl, ap_if, ap_and, ap_or, ap_not, ap_andV, ap_orV, ap_notV, ap_nil, ap_cons, ap_tup, ap_lst, ap_val, ap_box, ap_cb, ap_cbl, ap_call, ap_for, ap_lc, ap_it, ap_yes, ap_sl, ap_noPart, ap_part, part_int, ap_chain2, then_t, then_f, ap_rng1, ap_rng2, ap_rgL, ap_rgT, ap_asg, ap_zip, ap_enumA, ap_par2, add_int, sub_int, lt_int, le_int, gt_int, ge_int, eq_int, ne_int, max2_int, min2_int, int_int, int_bl, it_lst, it_tup, seq_lst, any_lst, any_tup, nox_ok, runF, startL, wipeL, capL, putL, m1, m2, sz, z8, z10, hp, evenV, mul_int (show -(2 ^ 64) < (Z rs (6 + r1)).sum ∧ (Z rs (6 + r1)).sum < 2 ^ 64 ∨ _ from .inl (by omega))]
      rw [div_int (by omega)]
      rfl
    · simp [mGx, ap_seq, ap_set, ap_ret, ap_expr, ap_ifS, ap_skip, ap_raise, ap_aug, ap_setSub, toS_some, toS_ok, bind_ok, of_some, ap_c, ap_var, ap_bin, ap_test, asB_bl, ap_if, ap_and, ap_or, ap_not, ap_andV, ap_orV, ap_notV, ap_nil, ap_cons, ap_tup, ap_lst, ap_val, ap_box, ap_cb, ap_cbl, ap_call, ap_for, ap_lc, ap_it, ap_yes, ap_sl, ap_noPart, ap_part, part_int, ap_chain2, then_t, then_f, ap_rng1, ap_rng2, ap_rgL, ap_rgT, ap_asg, ap_zip, ap_enumA, ap_par2, add_int, sub_int, lt_int, le_int, gt_int, ge_int, eq_int, ne_int, max2_int, min2_int, int_int, int_bl, it_lst, it_tup, seq_lst, any_lst, any_tup, nox_ok, runF, startL, wipeL, capL, putL, m1, m2, sz, z8, z10, hp, evenV])
  generalize hls7 : ls6.set 11 (some (.int (evenV (Z rs (6 + r1))))) = ls7 at n7
  have hl7 : ls7.length = 33 := by rw [← hls7]; simp [hl6]
  have u : ∀ j, j ≤ 10 → ls7[j]? = ls6[j]? := fun j hj => by rw [← hls7]; exact List.getElem?_set_ne (by omega)
  have u9 : ls7[9]? = some (some (.lst (((Z rs (6 + r1)).map cls).map D.int))) := by rw [u 9 (by decide), z9]
  have u11 : ls7[11]? = some (some (.int (evenV (Z rs (6 + r1))))) := by rw [← hls7]; simp [hl6]
  have n8 : s17_8 ls7 (dc a4 b4 c4 :: t) = .nx (ls7.set 12 (some (.lst ((CL (Z rs (6 + r1))).map pD)))) (dc a4 b4 c4 :: t) := set_nx (by
    rw [ap_val, counts_go hl7 u9, bind_ok]
    simp [CL])
  refine ⟨ls7.set 12 (some (.lst ((CL (Z rs (6 + r1))).map pD))), rs, 6 + r1, asks, 1 + r2, a4, b4, c4, fun r => ?_, ⟨by simp [hl7], ?_, ?_, ?_, ?_, ?_, ?_, ?_, ?_, ?_, by simp [hl7]⟩, ok, hn, by omega, by omega, hal, ha, by omega, by omega⟩
  · rw [seq_nx n0, seq_nx n1, seq_nx n2, seq_nx n3, seq_nx n4, seq_nx n5, seq_nx n6, seq_nx n7, seq_nx n8]
  all_goals rw [List.getElem?_set_ne (by decide)]
  all_goals first | exact u11 | (rw [u _ (by decide), z _ (by decide), y _ (by decide)]; first | exact x8 | (rw [x _ (by decide)]; first | exact w1 | exact w2 | exact w3 | exact w4 | exact w5 | exact w6 | exact w7))
end K16

set_option Elab.async false
set_option linter.all false
set_option maxRecDepth 100000
set_option maxHeartbeats 1000000
namespace K16
open PySem Fx
theorem pl_rows {rs : List Row} : (D.lst (rs.map pD)).pl 8 = true := by
  simp only [D.pl]
  rw [pls_map fun _ _ => rfl]
  rfl
theorem pl_int {i : Int} : (D.int i).pl 8 = true := rfl
section
variable {ls : LS} {rs : List Row} {size ask a b c : Int} {asks : List Int} {t : HS}
theorem c9 (S : St ls rs size asks ask) (ok : Ok1 rs size) : ∃ t', s17_9 ls (dc a b c :: t) = .nx ls (dc a b c :: t') := by
  obtain ⟨e, hg⟩ := f_gaps (dc a b c :: t) ok
  obtain ⟨e2, hs⟩ := f_share (dc a b c :: (t ++ e)) ok
  have hl := f_lawshare (dc a b c :: (t ++ (e ++ e2))) ok
  refine ⟨t ++ (e ++ e2), ?_⟩
  simp [mGx, ap_seq, ap_set, ap_ret, ap_expr, ap_ifS, ap_skip, ap_raise, ap_aug, ap_setSub, toS_some, toS_ok, bind_ok, of_some, ap_c, ap_var, ap_bin, ap_test, asB_bl, ap_if, ap_and, ap_or, ap_not, ap_andV, ap_orV, ap_notV, ap_nil, ap_cons, ap_tup, ap_lst, ap_val, ap_box, ap_cb, ap_cbl, ap_call, ap_for, ap_lc, ap_it, ap_yes, ap_sl, ap_noPart, ap_part, part_int, ap_chain2, then_t, then_f, ap_rng1, ap_rng2, ap_rgL, ap_rgT, ap_asg, ap_zip, ap_enumA, ap_par2, add_int, sub_int, lt_int, le_int, gt_int, ge_int, eq_int, ne_int, max2_int, min2_int, int_int, int_bl, it_lst, it_tup, seq_lst, any_lst, any_tup, nox_ok, runF, startL, wipeL, capL, putL, m1, m2, sz, S.v2, S.v3, S.v4, hg, listC_any any_tup, ne_same pl_rows, hs, hl]
theorem c10 (S : St ls rs size asks ask) (ok : Ok1 rs size) (h35 : size ≤ 35) : ∃ t', s17_10 ls (dc a b c :: t) = .nx ls (dc a b c :: t') := by
  obtain ⟨e, hg⟩ := f_even (dc a b c :: t) ok
  obtain ⟨e2, n, hs, ho⟩ := f_counts (dc a b c :: (t ++ e)) ok h35
  refine ⟨t ++ (e ++ e2), ?_⟩
  have hk : (kvD (CL (Z rs size))).map (fun p => D.tup [Key.d p.1, p.2]) = (CL (Z rs size)).map pD := by
    simp [kvD, Key.d, pD]
  have hli : mListItems (mCall 2 [] F_gap_counts (mCons (mVar 3) (mCons (mVar 2) mNil))) ls (dc a b c :: (t ++ e)) = .ok ((CL (Z rs size)).map pD) (dc a b c :: (t ++ e) ++ e2) := by
    unfold mListItems
    simp only [mGx, ap_seq, ap_set, ap_ret, ap_expr, ap_ifS, ap_skip, ap_raise, ap_aug, ap_setSub, toS_some, toS_ok, bind_ok, of_some, ap_c, ap_var, ap_bin, ap_test, asB_bl, ap_if, ap_and, ap_or, ap_not, ap_andV, ap_orV, ap_notV, ap_nil, ap_cons, ap_tup, ap_lst, ap_val, ap_box, ap_cb, ap_cbl, ap_call, ap_for, ap_lc, ap_it, ap_yes, ap_sl, ap_noPart, ap_part, part_int, ap_chain2, then_t, then_f, ap_rng1, ap_rng2, ap_rgL, ap_rgT, ap_asg, ap_zip, ap_enumA, ap_par2, add_int, sub_int, lt_int, le_int, gt_int, ge_int, eq_int, ne_int, max2_int, min2_int, int_int, int_bl, it_lst, it_tup, seq_lst, any_lst, any_tup, nox_ok, runF, startL, wipeL, capL, putL, m1, m2, sz, S.v2, S.v3, Option.bind_some, id, List.length_cons, List.length_nil, List.append_nil]
    simp only [if_true, hs, bind_ok, ho, Option.map_some, hk, of_some]
  simp [mGx, ap_seq, ap_set, ap_ret, ap_expr, ap_ifS, ap_skip, ap_raise, ap_aug, ap_setSub, toS_some, toS_ok, bind_ok, of_some, ap_c, ap_var, ap_bin, ap_test, asB_bl, ap_if, ap_and, ap_or, ap_not, ap_andV, ap_orV, ap_notV, ap_nil, ap_cons, ap_tup, ap_lst, ap_val, ap_box, ap_cb, ap_cbl, ap_call, ap_for, ap_lc, ap_it, ap_yes, ap_sl, ap_noPart, ap_part, part_int, ap_chain2, then_t, then_f, ap_rng1, ap_rng2, ap_rgL, ap_rgT, ap_asg, ap_zip, ap_enumA, ap_par2, add_int, sub_int, lt_int, le_int, gt_int, ge_int, eq_int, ne_int, max2_int, min2_int, int_int, int_bl, it_lst, it_tup, seq_lst, any_lst, any_tup, nox_ok, runF, startL, wipeL, capL, putL, m1, m2, sz, S.v2, S.v3, S.v11, S.v12, hg, hli, ne_same pl_rows]
theorem fit_eq {z asks : List Int} (h : ∀ a ∈ asks, 1 ≤ a) : fitT z asks = asks.filter fun a => decide (a ≤ z.sum) && decide ((z.filter fun l => decide (a ≤ l)) = []) := by
  unfold fitT
  apply List.filter_congr
  intro a ha
  rw [fits_test z a (h a ha), Bool.and_comm]
theorem c11 (S : St ls rs size asks ask) (ok : Ok1 rs size) (hn : asks.length = 4) (ha : ∀ x ∈ asks, 1 ≤ x ∧ x ≤ 12) : ∃ t', s17_11 ls (dc a b c :: t) = .nx ls (dc a b c :: t') := by
  obtain ⟨e, hg⟩ := f_cannot (asks := asks) (dc a b c :: t) ok (fun x hx => (ha x hx).1) (by omega)
  have oz := Z_ok ok
  have hlz := oz.len
  refine ⟨t ++ e, ?_⟩
  simp [mGx, ap_seq, ap_set, ap_ret, ap_expr, ap_ifS, ap_skip, ap_raise, ap_aug, ap_setSub, toS_some, toS_ok, bind_ok, of_some, ap_c, ap_var, ap_bin, ap_test, asB_bl, ap_if, ap_and, ap_or, ap_not, ap_andV, ap_orV, ap_notV, ap_nil, ap_cons, ap_tup, ap_lst, ap_val, ap_box, ap_cb, ap_cbl, ap_call, ap_for, ap_lc, ap_it, ap_yes, ap_sl, ap_noPart, ap_part, part_int, ap_chain2, then_t, then_f, ap_rng1, ap_rng2, ap_rgL, ap_rgT, ap_asg, ap_zip, ap_enumA, ap_par2, add_int, sub_int, lt_int, le_int, gt_int, ge_int, eq_int, ne_int, max2_int, min2_int, int_int, int_bl, it_lst, it_tup, seq_lst, any_lst, any_tup, nox_ok, runF, startL, wipeL, capL, putL, m1, m2, sz, S.v2, S.v3, S.v6, hg, listC_any any_tup]
  rw [lc_go (enc := D.int) (p := fun a => decide (a ≤ (Z rs size).sum) && decide (((Z rs size).filter fun l => decide (a ≤ l)) = [])) (q := D.int) asks [] ?_ (by simp [sz]; omega)]
  · rw [← fit_eq fun x hx => (ha x hx).1]
    simp [mGx, ap_seq, ap_set, ap_ret, ap_expr, ap_ifS, ap_skip, ap_raise, ap_aug, ap_setSub, toS_some, toS_ok, bind_ok, of_some, ap_c, ap_var, ap_bin, ap_test, asB_bl, ap_if, ap_and, ap_or, ap_not, ap_andV, ap_orV, ap_notV, ap_nil, ap_cons, ap_tup, ap_lst, ap_val, ap_box, ap_cb, ap_cbl, ap_call, ap_for, ap_lc, ap_it, ap_yes, ap_sl, ap_noPart, ap_part, part_int, ap_chain2, then_t, then_f, ap_rng1, ap_rng2, ap_rgL, ap_rgT, ap_asg, ap_zip, ap_enumA, ap_par2, add_int, sub_int, lt_int, le_int, gt_int, ge_int, eq_int, ne_int, max2_int, min2_int, int_int, int_bl, it_lst, it_tup, seq_lst, any_lst, any_tup, nox_ok, runF, startL, wipeL, capL, putL, m1, m2, sz, ne_same pl_ints]
  · intro x hx
    have g30 : (putL (wipeL ls [30]) [(30, .int x)])[30]? = some (some (.int x)) := by
      simp [putL, wipeL, S.len]
    have g8 : (putL (wipeL ls [30]) [(30, .int x)])[8]? = some (some (.int (Z rs size).sum)) := by
      simp [putL, wipeL, S.v8]
    have g5 : (putL (wipeL ls [30]) [(30, .int x)])[5]? = some (some (.lst ((Z rs size).map D.int))) := by
      simp [putL, wipeL, S.v5]
    have gl : (putL (wipeL ls [30]) [(30, .int x)]).length = 33 := by
      simp [putL, wipeL, S.len]
    refine ⟨_, rfl, rfl, ?_, fun _ => ?_⟩
    · show t_law_4 (putL (wipeL ls [30]) [(30, .int x)]) _ = _
      generalize putL (wipeL ls [30]) [(30, .int x)] = l at *
      by_cases h : x ≤ (Z rs size).sum
      · simp [mGx, ap_seq, ap_set, ap_ret, ap_expr, ap_ifS, ap_skip, ap_raise, ap_aug, ap_setSub, toS_some, toS_ok, bind_ok, of_some, ap_c, ap_var, ap_bin, ap_test, asB_bl, ap_if, ap_and, ap_or, ap_not, ap_andV, ap_orV, ap_notV, ap_nil, ap_cons, ap_tup, ap_lst, ap_val, ap_box, ap_cb, ap_cbl, ap_call, ap_for, ap_lc, ap_it, ap_yes, ap_sl, ap_noPart, ap_part, part_int, ap_chain2, then_t, then_f, ap_rng1, ap_rng2, ap_rgL, ap_rgT, ap_asg, ap_zip, ap_enumA, ap_par2, add_int, sub_int, lt_int, le_int, gt_int, ge_int, eq_int, ne_int, max2_int, min2_int, int_int, int_bl, it_lst, it_tup, seq_lst, any_lst, any_tup, nox_ok, runF, startL, wipeL, capL, putL, m1, m2, sz, g30, g8, g5, h]
        rw [lc_go (enc := D.int) (p := fun y => decide (x ≤ y)) (q := D.int) (Z rs size) [] ?_ (by simp [sz]; omega)]
        · simp only [List.nil_append, bind_ok]
          rw [eq_nil pl_ints]
          simp [mGx, ap_seq, ap_set, ap_ret, ap_expr, ap_ifS, ap_skip, ap_raise, ap_aug, ap_setSub, toS_some, toS_ok, bind_ok, of_some, ap_c, ap_var, ap_bin, ap_test, asB_bl, ap_if, ap_and, ap_or, ap_not, ap_andV, ap_orV, ap_notV, ap_nil, ap_cons, ap_tup, ap_lst, ap_val, ap_box, ap_cb, ap_cbl, ap_call, ap_for, ap_lc, ap_it, ap_yes, ap_sl, ap_noPart, ap_part, part_int, ap_chain2, then_t, then_f, ap_rng1, ap_rng2, ap_rgL, ap_rgT, ap_asg, ap_zip, ap_enumA, ap_par2, add_int, sub_int, lt_int, le_int, gt_int, ge_int, eq_int, ne_int, max2_int, min2_int, int_int, int_bl, it_lst, it_tup, seq_lst, any_lst, any_tup, nox_ok, runF, startL, wipeL, capL, putL, m1, m2, sz]
        · intro y hy
          have k27 : (putL (wipeL l [27]) [(27, .int y)])[27]? = some (some (.int y)) := by
            simp [putL, wipeL, gl]
          have k30 : (putL (wipeL l [27]) [(27, .int y)])[30]? = some (some (.int x)) := by
            simp [putL, wipeL, g30]
          refine ⟨_, rfl, rfl, ?_, fun _ => ?_⟩
          · show mTest _ (putL (wipeL l [27]) [(27, .int y)]) _ = _
            generalize putL (wipeL l [27]) [(27, .int y)] = m at *
            simp [mGx, ap_seq, ap_set, ap_ret, ap_expr, ap_ifS, ap_skip, ap_raise, ap_aug, ap_setSub, toS_some, toS_ok, bind_ok, of_some, ap_c, ap_var, ap_bin, ap_test, asB_bl, ap_if, ap_and, ap_or, ap_not, ap_andV, ap_orV, ap_notV, ap_nil, ap_cons, ap_tup, ap_lst, ap_val, ap_box, ap_cb, ap_cbl, ap_call, ap_for, ap_lc, ap_it, ap_yes, ap_sl, ap_noPart, ap_part, part_int, ap_chain2, then_t, then_f, ap_rng1, ap_rng2, ap_rgL, ap_rgT, ap_asg, ap_zip, ap_enumA, ap_par2, add_int, sub_int, lt_int, le_int, gt_int, ge_int, eq_int, ne_int, max2_int, min2_int, int_int, int_bl, it_lst, it_tup, seq_lst, any_lst, any_tup, nox_ok, runF, startL, wipeL, capL, putL, m1, m2, sz, k27, k30]
          · show mVar 27 (putL (wipeL l [27]) [(27, .int y)]) _ = _
            rw [ap_var, k27]
            rfl
      · simp [mGx, ap_seq, ap_set, ap_ret, ap_expr, ap_ifS, ap_skip, ap_raise, ap_aug, ap_setSub, toS_some, toS_ok, bind_ok, of_some, ap_c, ap_var, ap_bin, ap_test, asB_bl, ap_if, ap_and, ap_or, ap_not, ap_andV, ap_orV, ap_notV, ap_nil, ap_cons, ap_tup, ap_lst, ap_val, ap_box, ap_cb, ap_cbl, ap_call, ap_for, ap_lc, ap_it, ap_yes, ap_sl, ap_noPart, ap_part, part_int, ap_chain2, then_t, then_f, ap_rng1, ap_rng2, ap_rgL, ap_rgT, ap_asg, ap_zip, ap_enumA, ap_par2, add_int, sub_int, lt_int, le_int, gt_int, ge_int, eq_int, ne_int, max2_int, min2_int, int_int, int_bl, it_lst, it_tup, seq_lst, any_lst, any_tup, nox_ok, runF, startL, wipeL, capL, putL, m1, m2, sz, g30, g8, h]
    · show mVar 30 (putL (wipeL ls [30]) [(30, .int x)]) _ = _
      rw [ap_var, g30]
      rfl
theorem c12 (S : St ls rs size asks ask) (ok : Ok1 rs size) (h1 : 1 ≤ ask) (h2 : ask ≤ 10) : ∃ t', s17_12 ls (dc a b c :: t) = .nx ls (dc a b c :: t') := by
  obtain ⟨e, hg⟩ := f_many (dc a b c :: t) ok h1 (by omega)
  have oz := Z_ok ok
  have hlz := oz.len
  refine ⟨t ++ e, ?_⟩
  simp [mGx, ap_seq, ap_set, ap_ret, ap_expr, ap_ifS, ap_skip, ap_raise, ap_aug, ap_setSub, toS_some, toS_ok, bind_ok, of_some, ap_c, ap_var, ap_bin, ap_test, asB_bl, ap_if, ap_and, ap_or, ap_not, ap_andV, ap_orV, ap_notV, ap_nil, ap_cons, ap_tup, ap_lst, ap_val, ap_box, ap_cb, ap_cbl, ap_call, ap_for, ap_lc, ap_it, ap_yes, ap_sl, ap_noPart, ap_part, part_int, ap_chain2, then_t, then_f, ap_rng1, ap_rng2, ap_rgL, ap_rgT, ap_asg, ap_zip, ap_enumA, ap_par2, add_int, sub_int, lt_int, le_int, gt_int, ge_int, eq_int, ne_int, max2_int, min2_int, int_int, int_bl, it_lst, it_tup, seq_lst, any_lst, any_tup, nox_ok, runF, startL, wipeL, capL, putL, m1, m2, sz, S.v2, S.v3, S.v5, S.v7, hg]
  rw [lc_all (enc := D.int) (q := fun l => .int (l / ask)) (Z rs size) [] ?_ (by simp; omega)]
  · simp only [List.nil_append, bind_ok]
    rw [show ((Z rs size).map fun l => D.int (l / ask)) = ((Z rs size).map fun l => l / ask).map D.int by simp]
    generalize (Z rs size).map (fun l => l / ask) = w
    simp [mGx, ap_seq, ap_set, ap_ret, ap_expr, ap_ifS, ap_skip, ap_raise, ap_aug, ap_setSub, toS_some, toS_ok, bind_ok, of_some, ap_c, ap_var, ap_bin, ap_test, asB_bl, ap_if, ap_and, ap_or, ap_not, ap_andV, ap_orV, ap_notV, ap_nil, ap_cons, ap_tup, ap_lst, ap_val, ap_box, ap_cb, ap_cbl, ap_call, ap_for, ap_lc, ap_it, ap_yes, ap_sl, ap_noPart, ap_part, part_int, ap_chain2, then_t, then_f, ap_rng1, ap_rng2, ap_rgL, ap_rgT, ap_asg, ap_zip, ap_enumA, ap_par2, add_int, sub_int, lt_int, le_int, gt_int, ge_int, eq_int, ne_int, max2_int, min2_int, int_int, int_bl, it_lst, it_tup, seq_lst, any_lst, any_tup, nox_ok, runF, startL, wipeL, capL, putL, m1, m2, sz, sumC_lst]
  · intro x hx
    have k27 : (putL (wipeL ls [27]) [(27, .int x)])[27]? = some (some (.int x)) := by
      simp [putL, wipeL, S.len]
    have k7 : (putL (wipeL ls [27]) [(27, .int x)])[7]? = some (some (.int ask)) := by
      simp [putL, wipeL, S.v7]
    refine ⟨_, rfl, rfl, rfl, fun _ => ?_⟩
    show mBin _ _ _ (putL (wipeL ls [27]) [(27, .int x)]) _ = _
    generalize putL (wipeL ls [27]) [(27, .int x)] = m at *
    simp [mGx, ap_seq, ap_set, ap_ret, ap_expr, ap_ifS, ap_skip, ap_raise, ap_aug, ap_setSub, toS_some, toS_ok, bind_ok, of_some, ap_c, ap_var, ap_bin, ap_test, asB_bl, ap_if, ap_and, ap_or, ap_not, ap_andV, ap_orV, ap_notV, ap_nil, ap_cons, ap_tup, ap_lst, ap_val, ap_box, ap_cb, ap_cbl, ap_call, ap_for, ap_lc, ap_it, ap_yes, ap_sl, ap_noPart, ap_part, part_int, ap_chain2, then_t, then_f, ap_rng1, ap_rng2, ap_rgL, ap_rgT, ap_asg, ap_zip, ap_enumA, ap_par2, add_int, sub_int, lt_int, le_int, gt_int, ge_int, eq_int, ne_int, max2_int, min2_int, int_int, int_bl, it_lst, it_tup, seq_lst, any_lst, any_tup, nox_ok, runF, startL, wipeL, capL, putL, m1, m2, sz, k27, k7, div_int (show 0 < ask ∧ ask < 1073741824 by omega)]
theorem ne_str {hs : HS} {s : Str} (h : PyData.strOk s = true) : neF hs (.str s) (.str s) = some (.bl false) := ne_same h
theorem c13 (S : St ls rs size asks ask) (ok : Ok1 rs size) (h1 : 1 ≤ ask) (h6 : 6 ≤ size) : ∃ t', s17_13 ls (dc a b c :: t) = .nx ls (dc a b c :: t') := by
  have m0 := Int.emod_nonneg ask (show size ≠ 0 by omega)
  have m1' := Int.emod_lt_of_pos ask (show 0 < size by omega)
  have hg := f_map (dc a b c :: t) ok (show 1 ≤ 1 + ask % size by omega) (by omega)
  have hl := f_lawmap (dc a b c :: t) ok (show 1 ≤ 1 + ask % size by omega) (by omega)
  have hs := (@mapS_ok rs size (1 + ask % size) ok.s1 ok.s2 (by omega) (rI 0 (1 + ask % size))).2.1
  refine ⟨t, ?_⟩
  simp [mGx, ap_seq, ap_set, ap_ret, ap_expr, ap_ifS, ap_skip, ap_raise, ap_aug, ap_setSub, toS_some, toS_ok, bind_ok, of_some, ap_c, ap_var, ap_bin, ap_test, asB_bl, ap_if, ap_and, ap_or, ap_not, ap_andV, ap_orV, ap_notV, ap_nil, ap_cons, ap_tup, ap_lst, ap_val, ap_box, ap_cb, ap_cbl, ap_call, ap_for, ap_lc, ap_it, ap_yes, ap_sl, ap_noPart, ap_part, part_int, ap_chain2, then_t, then_f, ap_rng1, ap_rng2, ap_rgL, ap_rgT, ap_asg, ap_zip, ap_enumA, ap_par2, add_int, sub_int, lt_int, le_int, gt_int, ge_int, eq_int, ne_int, max2_int, min2_int, int_int, int_bl, it_lst, it_tup, seq_lst, any_lst, any_tup, nox_ok, runF, startL, wipeL, capL, putL, m1, m2, sz, S.v2, S.v3, S.v7, mod_int (show 0 < size by omega), hg, hl, ne_str hs]
end
end K16

set_option Elab.async false
set_option linter.all false
set_option maxRecDepth 100000
set_option maxHeartbeats 1000000
namespace K16
open PySem Fx
def movesL (rs : List Row) (size ask : Int) : List D := (rI 0 (size - ask + 1)).map fun s => pD (wAt rs ask s, s)
section
variable {ls : LS} {rs : List Row} {size ask a b c : Int} {asks : List Int} {t : HS}
theorem c14 (S : St ls rs size asks ask) (ok : Ok1 rs size) (h1 : 1 ≤ ask) (h2 : ask ≤ 10) : s17_14 ls (dc a b c :: t) = .nx (ls.set 14 (some (.lst (movesL rs size ask)))) (dc a b c :: t) := by
  have s1 := ok.s1
  have s2 := ok.s2
  have s3 := ok.len
  refine set_nx ?_
  simp [mGx, ap_seq, ap_set, ap_ret, ap_expr, ap_ifS, ap_skip, ap_raise, ap_aug, ap_setSub, toS_some, toS_ok, bind_ok, of_some, ap_c, ap_var, ap_bin, ap_test, asB_bl, ap_if, ap_and, ap_or, ap_not, ap_andV, ap_orV, ap_notV, ap_nil, ap_cons, ap_tup, ap_lst, ap_val, ap_box, ap_cb, ap_cbl, ap_call, ap_for, ap_lc, ap_it, ap_yes, ap_sl, ap_noPart, ap_part, part_int, ap_chain2, then_t, then_f, ap_rng1, ap_rng2, ap_rgL, ap_rgT, ap_asg, ap_zip, ap_enumA, ap_par2, add_int, sub_int, lt_int, le_int, gt_int, ge_int, eq_int, ne_int, max2_int, min2_int, int_int, int_bl, it_lst, it_tup, seq_lst, any_lst, any_tup, nox_ok, runF, startL, wipeL, capL, putL, m1, m2, sz, S.v2, S.v7, rng1_int (show -(2 ^ 62) ≤ size - ask + 1 ∧ size - ask + 1 < 2 ^ 62 by omega), rng_rI0]
  rw [lc_all (enc := D.int) (q := fun s => pD (wAt rs ask s, s)) _ [] ?_ (by simp [rI_len]; omega)]
  · rfl
  · intro s hs
    have g13 : (putL (wipeL ls [13]) [(13, .int s)])[13]? = some (some (.int s)) := by
      simp [putL, wipeL, S.len]
    have g3 : (putL (wipeL ls [13]) [(13, .int s)])[3]? = some (some (rowsD rs)) := by
      simp [putL, wipeL, S.v3]
    have g7 : (putL (wipeL ls [13]) [(13, .int s)])[7]? = some (some (.int ask)) := by
      simp [putL, wipeL, S.v7]
    have gl : (putL (wipeL ls [13]) [(13, .int s)]).length = 33 := by
      simp [putL, wipeL, S.len]
    refine ⟨_, rfl, rfl, rfl, fun _ => ?_⟩
    show e_law_6 (putL (wipeL ls [13]) [(13, .int s)]) _ = _
    generalize putL (wipeL ls [13]) [(13, .int s)] = l at *
    simp [mGx, ap_seq, ap_set, ap_ret, ap_expr, ap_ifS, ap_skip, ap_raise, ap_aug, ap_setSub, toS_some, toS_ok, bind_ok, of_some, ap_c, ap_var, ap_bin, ap_test, asB_bl, ap_if, ap_and, ap_or, ap_not, ap_andV, ap_orV, ap_notV, ap_nil, ap_cons, ap_tup, ap_lst, ap_val, ap_box, ap_cb, ap_cbl, ap_call, ap_for, ap_lc, ap_it, ap_yes, ap_sl, ap_noPart, ap_part, part_int, ap_chain2, then_t, then_f, ap_rng1, ap_rng2, ap_rgL, ap_rgT, ap_asg, ap_zip, ap_enumA, ap_par2, add_int, sub_int, lt_int, le_int, gt_int, ge_int, eq_int, ne_int, max2_int, min2_int, int_int, int_bl, it_lst, it_tup, seq_lst, any_lst, any_tup, nox_ok, runF, startL, wipeL, capL, putL, m1, m2, sz, g13, g3, it_rows]
    rw [lc_go (enc := pD) (p := fun p => decide (p.1 < s + ask) && decide (s < p.1 + p.2)) (q := fun p => .int p.2) rs [] ?_ (by simp [sz]; omega)]
    · simp only [List.nil_append, bind_ok]
      have hw : ((rs.filter fun p => decide (p.1 < s + ask) && decide (s < p.1 + p.2)).map fun p => D.int p.2) = (((rs.filter fun p => decide (p.1 < s + ask) && decide (s < p.1 + p.2)).map (·.2))).map D.int := by simp
      rw [hw]
      have hv : ((rs.filter fun p => decide (p.1 < s + ask) && decide (s < p.1 + p.2)).map (·.2)).sum = wAt rs ask s := rfl
      generalize (rs.filter fun p => decide (p.1 < s + ask) && decide (s < p.1 + p.2)).map (·.2) = w at hv ⊢
      simp [mGx, ap_seq, ap_set, ap_ret, ap_expr, ap_ifS, ap_skip, ap_raise, ap_aug, ap_setSub, toS_some, toS_ok, bind_ok, of_some, ap_c, ap_var, ap_bin, ap_test, asB_bl, ap_if, ap_and, ap_or, ap_not, ap_andV, ap_orV, ap_notV, ap_nil, ap_cons, ap_tup, ap_lst, ap_val, ap_box, ap_cb, ap_cbl, ap_call, ap_for, ap_lc, ap_it, ap_yes, ap_sl, ap_noPart, ap_part, part_int, ap_chain2, then_t, then_f, ap_rng1, ap_rng2, ap_rgL, ap_rgT, ap_asg, ap_zip, ap_enumA, ap_par2, add_int, sub_int, lt_int, le_int, gt_int, ge_int, eq_int, ne_int, max2_int, min2_int, int_int, int_bl, it_lst, it_tup, seq_lst, any_lst, any_tup, nox_ok, runF, startL, wipeL, capL, putL, m1, m2, sz, sumC_lst, hv, pD]
    · intro x hx
      have k26 : (putL ((l.set 27 none).set 26 none) [(26, .int x.1), (27, .int x.2)])[26]? = some (some (.int x.1)) := by
        simp [putL, wipeL, gl]
      have k27 : (putL ((l.set 27 none).set 26 none) [(26, .int x.1), (27, .int x.2)])[27]? = some (some (.int x.2)) := by
        simp [putL, wipeL, gl]
      have k13 : (putL ((l.set 27 none).set 26 none) [(26, .int x.1), (27, .int x.2)])[13]? = some (some (.int s)) := by
        simp [putL, wipeL, g13]
      have k7 : (putL ((l.set 27 none).set 26 none) [(26, .int x.1), (27, .int x.2)])[7]? = some (some (.int ask)) := by
        simp [putL, wipeL, g7]
      refine ⟨[(26, .int x.1), (27, .int x.2)], rfl, rfl, ?_, fun _ => ?_⟩
      · generalize putL ((l.set 27 none).set 26 none) [(26, .int x.1), (27, .int x.2)] = m at *
        by_cases h : x.1 < s + ask
        · simp [mGx, ap_seq, ap_set, ap_ret, ap_expr, ap_ifS, ap_skip, ap_raise, ap_aug, ap_setSub, toS_some, toS_ok, bind_ok, of_some, ap_c, ap_var, ap_bin, ap_test, asB_bl, ap_if, ap_and, ap_or, ap_not, ap_andV, ap_orV, ap_notV, ap_nil, ap_cons, ap_tup, ap_lst, ap_val, ap_box, ap_cb, ap_cbl, ap_call, ap_for, ap_lc, ap_it, ap_yes, ap_sl, ap_noPart, ap_part, part_int, ap_chain2, then_t, then_f, ap_rng1, ap_rng2, ap_rgL, ap_rgT, ap_asg, ap_zip, ap_enumA, ap_par2, add_int, sub_int, lt_int, le_int, gt_int, ge_int, eq_int, ne_int, max2_int, min2_int, int_int, int_bl, it_lst, it_tup, seq_lst, any_lst, any_tup, nox_ok, runF, startL, wipeL, capL, putL, m1, m2, sz, k26, k27, k13, k7, h]
        · simp [mGx, ap_seq, ap_set, ap_ret, ap_expr, ap_ifS, ap_skip, ap_raise, ap_aug, ap_setSub, toS_some, toS_ok, bind_ok, of_some, ap_c, ap_var, ap_bin, ap_test, asB_bl, ap_if, ap_and, ap_or, ap_not, ap_andV, ap_orV, ap_notV, ap_nil, ap_cons, ap_tup, ap_lst, ap_val, ap_box, ap_cb, ap_cbl, ap_call, ap_for, ap_lc, ap_it, ap_yes, ap_sl, ap_noPart, ap_part, part_int, ap_chain2, then_t, then_f, ap_rng1, ap_rng2, ap_rgL, ap_rgT, ap_asg, ap_zip, ap_enumA, ap_par2, add_int, sub_int, lt_int, le_int, gt_int, ge_int, eq_int, ne_int, max2_int, min2_int, int_int, int_bl, it_lst, it_tup, seq_lst, any_lst, any_tup, nox_ok, runF, startL, wipeL, capL, putL, m1, m2, sz, k26, k27, k13, k7, h]
      · rw [ap_var, k27]
        rfl
theorem pl_best {o : Option Row} : (bestD o).pl 8 = true := by
  cases o <;> rfl
theorem c15 (S : St ls rs size asks ask) (ok : Ok1 rs size) (h1 : 1 ≤ ask) (h2 : ask ≤ 10) : s17_15 (ls.set 14 (some (.lst (movesL rs size ask)))) (dc a b c :: t) = .nx (ls.set 14 (some (.lst (movesL rs size ask)))) (dc a b c :: t) := by
  have S2 := S.set (i := 14) (by decide) (some (.lst (movesL rs size ask)))
  have g14 : (ls.set 14 (some (.lst (movesL rs size ask))))[14]? = some (some (.lst (movesL rs size ask))) := by simp [S.len]
  generalize ls.set 14 (some (.lst (movesL rs size ask))) = l at *
  have hg := f_moves (dc a b c :: t) ok h1 (by omega)
  have hp : (D.lst (movesL rs size ask)).pl 8 = true := by
    simp only [D.pl, movesL]
    rw [pls_map fun _ _ => rfl]
    rfl
  have hs := rI_sorted 0 (size - ask + 1)
  by_cases h : rI 0 (size - ask + 1) = []
  · have e : movesL rs size ask = [] := by simp [movesL, h]
    rw [e] at g14
    have e2 : neF (dc a b c :: t) (.lst []) (.lst []) = some (.bl false) := ne_same rfl
    rw [h] at hg
    have e3 : neF (dc a b c :: t) .non .non = some (.bl false) := ne_same rfl
    simp [mGx, ap_seq, ap_set, ap_ret, ap_expr, ap_ifS, ap_skip, ap_raise, ap_aug, ap_setSub, toS_some, toS_ok, bind_ok, of_some, ap_c, ap_var, ap_bin, ap_test, asB_bl, ap_if, ap_and, ap_or, ap_not, ap_andV, ap_orV, ap_notV, ap_nil, ap_cons, ap_tup, ap_lst, ap_val, ap_box, ap_cb, ap_cbl, ap_call, ap_for, ap_lc, ap_it, ap_yes, ap_sl, ap_noPart, ap_part, part_int, ap_chain2, then_t, then_f, ap_rng1, ap_rng2, ap_rgL, ap_rgT, ap_asg, ap_zip, ap_enumA, ap_par2, add_int, sub_int, lt_int, le_int, gt_int, ge_int, eq_int, ne_int, max2_int, min2_int, int_int, int_bl, it_lst, it_tup, seq_lst, any_lst, any_tup, nox_ok, runF, startL, wipeL, capL, putL, m1, m2, sz, S2.v2, S2.v3, S2.v7, hg, g14, e2, bestD, e3]
  · have e : movesL rs size ask ≠ [] := by simpa [movesL] using h
    have hm := min_moves (hs := dc a b c :: t) (w := wAt rs ask) hs h
    rw [show (rI 0 (size - ask + 1)).map (fun s => pD (wAt rs ask s, s)) = movesL rs size ask from rfl] at hm
    generalize movesL rs size ask = ms at *
    simp [mGx, ap_seq, ap_set, ap_ret, ap_expr, ap_ifS, ap_skip, ap_raise, ap_aug, ap_setSub, toS_some, toS_ok, bind_ok, of_some, ap_c, ap_var, ap_bin, ap_test, asB_bl, ap_if, ap_and, ap_or, ap_not, ap_andV, ap_orV, ap_notV, ap_nil, ap_cons, ap_tup, ap_lst, ap_val, ap_box, ap_cb, ap_cbl, ap_call, ap_for, ap_lc, ap_it, ap_yes, ap_sl, ap_noPart, ap_part, part_int, ap_chain2, then_t, then_f, ap_rng1, ap_rng2, ap_rgL, ap_rgT, ap_asg, ap_zip, ap_enumA, ap_par2, add_int, sub_int, lt_int, le_int, gt_int, ge_int, eq_int, ne_int, max2_int, min2_int, int_int, int_bl, it_lst, it_tup, seq_lst, any_lst, any_tup, nox_ok, runF, startL, wipeL, capL, putL, m1, m2, sz, S2.v2, S2.v3, S2.v7, hg, g14, ne_nil hp, e, hm, ne_same pl_best]
theorem joins_lc {l : LS} {k : Nat} {p : Row} {hs : HS} {spot : Int} (gl : l.length = 33) (g3 : l[3]? = some (some (rowsD rs))) (g15 : l[15]? = some (some (.int spot))) (g16 : l[16]? = some (some (rowsD (restR rs k (k + 1))))) (g2 : l[2]? = some (some (.int size))) (ok : Ok1 rs size)
    (h0 : 0 ≤ spot) (hp : rs[spot.toNat]? = some p) (hk : k = spot.toNat) : mLc [26, 27] (mIt (mCall 2 [] F__law_gaps (mCons (mVar 16) (mCons (mVar 2) mNil)))) (mgTup [(mgName 26), (mgName 27)]) t_law_7 (mVar 27) l hs = .ok ((joinL rs size k p).map D.int) hs := by
  have okr : Ok1 (restR rs k (k + 1)) size := ok.sub (rest_sub (by omega))
  have oz := Z_ok okr
  have hl2 := oz.len
  have hl' : (G size 0 (restR rs k (k + 1))).length ≤ 11 := by simpa [Z] using hl2
  have hg := f_lawgaps hs okr
  simp [mGx, ap_seq, ap_set, ap_ret, ap_expr, ap_ifS, ap_skip, ap_raise, ap_aug, ap_setSub, toS_some, toS_ok, bind_ok, of_some, ap_c, ap_var, ap_bin, ap_test, asB_bl, ap_if, ap_and, ap_or, ap_not, ap_andV, ap_orV, ap_notV, ap_nil, ap_cons, ap_tup, ap_lst, ap_val, ap_box, ap_cb, ap_cbl, ap_call, ap_for, ap_lc, ap_it, ap_yes, ap_sl, ap_noPart, ap_part, part_int, ap_chain2, then_t, then_f, ap_rng1, ap_rng2, ap_rgL, ap_rgT, ap_asg, ap_zip, ap_enumA, ap_par2, add_int, sub_int, lt_int, le_int, gt_int, ge_int, eq_int, ne_int, max2_int, min2_int, int_int, int_bl, it_lst, it_tup, seq_lst, any_lst, any_tup, nox_ok, runF, startL, wipeL, capL, putL, m1, m2, sz, g16, g2, hg]
  rw [lc_go (enc := pD) (p := fun q => decide (q.1 ≤ p.1) && decide (p.1 < q.1 + q.2)) (q := fun q => .int q.2) _ [] ?_ (by simp [sz]; omega)]
  · simp [joinL]
  · intro x hx
    have k26 : (putL ((l.set 27 none).set 26 none) [(26, .int x.1), (27, .int x.2)])[26]? = some (some (.int x.1)) := by
      simp [putL, wipeL, gl]
    have k27 : (putL ((l.set 27 none).set 26 none) [(26, .int x.1), (27, .int x.2)])[27]? = some (some (.int x.2)) := by
      simp [putL, wipeL, gl]
    have k3 : (putL ((l.set 27 none).set 26 none) [(26, .int x.1), (27, .int x.2)])[3]? = some (some (rowsD rs)) := by
      simp [putL, wipeL, g3]
    have k15 : (putL ((l.set 27 none).set 26 none) [(26, .int x.1), (27, .int x.2)])[15]? = some (some (.int spot)) := by
      simp [putL, wipeL, g15]
    refine ⟨[(26, .int x.1), (27, .int x.2)], rfl, rfl, ?_, fun _ => ?_⟩
    · generalize putL ((l.set 27 none).set 26 none) [(26, .int x.1), (27, .int x.2)] = m at *
      simp [mGx, ap_seq, ap_set, ap_ret, ap_expr, ap_ifS, ap_skip, ap_raise, ap_aug, ap_setSub, toS_some, toS_ok, bind_ok, of_some, ap_c, ap_var, ap_bin, ap_test, asB_bl, ap_if, ap_and, ap_or, ap_not, ap_andV, ap_orV, ap_notV, ap_nil, ap_cons, ap_tup, ap_lst, ap_val, ap_box, ap_cb, ap_cbl, ap_call, ap_for, ap_lc, ap_it, ap_yes, ap_sl, ap_noPart, ap_part, part_int, ap_chain2, then_t, then_f, ap_rng1, ap_rng2, ap_rgL, ap_rgT, ap_asg, ap_zip, ap_enumA, ap_par2, add_int, sub_int, lt_int, le_int, gt_int, ge_int, eq_int, ne_int, max2_int, min2_int, int_int, int_bl, it_lst, it_tup, seq_lst, any_lst, any_tup, nox_ok, runF, startL, wipeL, capL, putL, m1, m2, sz, k26, k27, k3, k15, ix_rows h0 hp]
      have hpix : ixF hs (pD p) (.int 0) = some (.int p.1) := by simp [pD, ix_tup]
      simp [mGx, ap_seq, ap_set, ap_ret, ap_expr, ap_ifS, ap_skip, ap_raise, ap_aug, ap_setSub, toS_some, toS_ok, bind_ok, of_some, ap_c, ap_var, ap_bin, ap_test, asB_bl, ap_if, ap_and, ap_or, ap_not, ap_andV, ap_orV, ap_notV, ap_nil, ap_cons, ap_tup, ap_lst, ap_val, ap_box, ap_cb, ap_cbl, ap_call, ap_for, ap_lc, ap_it, ap_yes, ap_sl, ap_noPart, ap_part, part_int, ap_chain2, then_t, then_f, ap_rng1, ap_rng2, ap_rgL, ap_rgT, ap_asg, ap_zip, ap_enumA, ap_par2, add_int, sub_int, lt_int, le_int, gt_int, ge_int, eq_int, ne_int, max2_int, min2_int, int_int, int_bl, it_lst, it_tup, seq_lst, any_lst, any_tup, nox_ok, runF, startL, wipeL, capL, putL, m1, m2, sz, hpix]
      by_cases cc : x.1 ≤ p.1
      · simp [cc, mGx, ap_seq, ap_set, ap_ret, ap_expr, ap_ifS, ap_skip, ap_raise, ap_aug, ap_setSub, toS_some, toS_ok, bind_ok, of_some, ap_c, ap_var, ap_bin, ap_test, asB_bl, ap_if, ap_and, ap_or, ap_not, ap_andV, ap_orV, ap_notV, ap_nil, ap_cons, ap_tup, ap_lst, ap_val, ap_box, ap_cb, ap_cbl, ap_call, ap_for, ap_lc, ap_it, ap_yes, ap_sl, ap_noPart, ap_part, part_int, ap_chain2, then_t, then_f, ap_rng1, ap_rng2, ap_rgL, ap_rgT, ap_asg, ap_zip, ap_enumA, ap_par2, add_int, sub_int, lt_int, le_int, gt_int, ge_int, eq_int, ne_int, max2_int, min2_int, int_int, int_bl, it_lst, it_tup, seq_lst, any_lst, any_tup, nox_ok, runF, startL, wipeL, capL, putL, m1, m2, sz]
      · simp [cc, mGx, ap_seq, ap_set, ap_ret, ap_expr, ap_ifS, ap_skip, ap_raise, ap_aug, ap_setSub, toS_some, toS_ok, bind_ok, of_some, ap_c, ap_var, ap_bin, ap_test, asB_bl, ap_if, ap_and, ap_or, ap_not, ap_andV, ap_orV, ap_notV, ap_nil, ap_cons, ap_tup, ap_lst, ap_val, ap_box, ap_cb, ap_cbl, ap_call, ap_for, ap_lc, ap_it, ap_yes, ap_sl, ap_noPart, ap_part, part_int, ap_chain2, then_t, then_f, ap_rng1, ap_rng2, ap_rgL, ap_rgT, ap_asg, ap_zip, ap_enumA, ap_par2, add_int, sub_int, lt_int, le_int, gt_int, ge_int, eq_int, ne_int, max2_int, min2_int, int_int, int_bl, it_lst, it_tup, seq_lst, any_lst, any_tup, nox_ok, runF, startL, wipeL, capL, putL, m1, m2, sz]
    · rw [ap_var, k27]
      rfl
theorem c16b {spot : Int} {p : Row} (S : St ls rs size asks ask) (ok : Ok1 rs size) (h0 : 0 ≤ spot) (hp : rs[spot.toNat]? = some p) : ∃ ls' t', b_law_8 (ls.set 15 (some (.int spot))) (dc a b c :: t) = .nx ls' (dc a b c :: t') ∧ St ls' rs size asks ask := by
  have s3 := ok.len
  have S1 := S.set (i := 15) (by decide) (some (.int spot))
  have g15 : (ls.set 15 (some (.int spot)))[15]? = some (some (.int spot)) := by simp [S.len]
  generalize ls.set 15 (some (.int spot)) = l at *
  have S2 := S1.set (i := 16) (by decide) (some (rowsD (restR rs spot.toNat (spot.toNat + 1))))
  have e1 : (mSet 16 (mBin addF (mSl slF (mVar 3) mNoPart (mPart (mVar 15))) (mSl slF (mVar 3) (mPart (mBin addF (mVar 15) (mC (.int 1)))) mNoPart))) l (dc a b c :: t) = .nx (l.set 16 (some (rowsD (restR rs spot.toNat (spot.toNat + 1))))) (dc a b c :: t) := set_nx (by
    have h1 : (spot + 1).toNat = spot.toNat + 1 := by omega
    simp [mGx, ap_seq, ap_set, ap_ret, ap_expr, ap_ifS, ap_skip, ap_raise, ap_aug, ap_setSub, toS_some, toS_ok, bind_ok, of_some, ap_c, ap_var, ap_bin, ap_test, asB_bl, ap_if, ap_and, ap_or, ap_not, ap_andV, ap_orV, ap_notV, ap_nil, ap_cons, ap_tup, ap_lst, ap_val, ap_box, ap_cb, ap_cbl, ap_call, ap_for, ap_lc, ap_it, ap_yes, ap_sl, ap_noPart, ap_part, part_int, ap_chain2, then_t, then_f, ap_rng1, ap_rng2, ap_rgL, ap_rgT, ap_asg, ap_zip, ap_enumA, ap_par2, add_int, sub_int, lt_int, le_int, gt_int, ge_int, eq_int, ne_int, max2_int, min2_int, int_int, int_bl, it_lst, it_tup, seq_lst, any_lst, any_tup, nox_ok, runF, startL, wipeL, capL, putL, m1, m2, sz, S1.v3, g15, sl_rows_to h0, sl_rows_from (show 0 ≤ spot + 1 by omega), h1]
    rw [add_rows (by simp; omega)]
    rfl)
  have k15 : (l.set 16 (some (rowsD (restR rs spot.toNat (spot.toNat + 1)))))[15]? = some (some (.int spot)) := by simp [g15]
  have k16 : (l.set 16 (some (rowsD (restR rs spot.toNat (spot.toNat + 1)))))[16]? = some (some (rowsD (restR rs spot.toNat (spot.toNat + 1)))) := by simp [S1.len]
  unfold b_law_8
  rw [seq_nx e1]
  clear e1
  generalize l.set 16 (some (rowsD (restR rs spot.toNat (spot.toNat + 1)))) = m at *
  obtain ⟨e, hj⟩ := f_joins (dc a b c :: t) ok h0 hp
  have hlc := joins_lc (hs := dc a b c :: (t ++ e)) S2.len S2.v3 k15 k16 S2.v2 ok h0 hp rfl
  have hne : ∀ h : HS, neF h (.int ((joinL rs size spot.toNat p).headD 0)) (.int ((joinL rs size spot.toNat p).headD 0)) = some (.bl false) := fun h => ne_same pl_int
  have hix : ∀ h : HS, ixF h (.lst ((joinL rs size spot.toNat p).map D.int)) (.int 0) = some (.int ((joinL rs size spot.toNat p).headD 0)) := fun h => ix_head (join_ne ok hp)
  refine ⟨m, t ++ e, ?_, S2⟩
  rw [ap_ifS, ap_test, ap_bin, ap_call]
  simp only [ap_cons, ap_nil, ap_var, S2.v2, S2.v3, k15, Option.bind_some, id, of_some, bind_ok, List.length_cons, List.length_nil, List.append_nil]
  simp only [if_true, hj, bind_ok, List.cons_append]
  rw [ap_bin, ap_val, hlc]
  simp only [bind_ok, ap_c, hix, of_some, hne, asB_bl, toS_ok, Bool.false_eq_true, if_false, ap_skip]
theorem c16 (S : St ls rs size asks ask) (ok : Ok1 rs size) : ∃ ls' t', s17_16 ls (dc a b c :: t) = .nx ls' (dc a b c :: t') ∧ St ls' rs size asks ask := by
  have s3 := ok.len
  obtain ⟨ls', hs', e1, S', t', rfl⟩ := for_go (enc := D.int) (tg := mgName 15) (body := b_law_8) (hs0 := dc a b c :: t) (xs0 := rI 0 rs.length)
    (fun pre l hs => St l rs size asks ask ∧ ∃ t, hs = dc a b c :: t)
    (fun pre x post l hs e0 ⟨S, t, e1⟩ => by
      subst e1
      have hx := mem_rI.mp (show x ∈ rI 0 rs.length by rw [e0]; simp)
      have hp : rs[x.toNat]? = some (rs[x.toNat]'(by omega)) := List.getElem?_eq_getElem (by omega)
      obtain ⟨ls', t', f1, f2⟩ := c16b (t := t) (a := a) (b := b) (c := c) S ok hx.1 hp
      exact ⟨_, rfl, ls', _, .inl f1, f2, t', rfl⟩) (rI 0 rs.length) [] ls (dc a b c :: t) rfl ⟨S, t, rfl⟩
  refine ⟨ls', t', ?_, S'⟩
  unfold s17_16
  rw [ap_for, rng_len S.v3 (by omega), toS_ok]
  exact e1
end
end K16

set_option Elab.async false
set_option linter.all false
set_option maxRecDepth 100000
set_option maxHeartbeats 1000000
namespace K16
open PySem Fx
theorem mul_way {hs : HS} {w : Way} {b : Bool} : mulF hs (.lst [wD w]) (.int (if b then 1 else 0)) = some (.lst ((if b then [w] else []).map wD)) := by
  cases b
  · simp [mulF, seqL, sz]
  · simp [mulF, seqL, sz]
theorem fitsAny_filter (rs : List Row) (size ask : Int) : (!decide (((G size 0 rs).filter fun q => decide (ask ≤ q.2)) = [])) = fitsAny rs size ask := by
  unfold fitsAny
  rw [Bool.eq_iff_iff]
  simp [List.filter_eq_nil_iff]
section
variable {ls : LS} {rs : List Row} {size ask a b c s e : Int} {asks : List Int} {t : HS} {acc : List Way}
theorem c18a {h : HS} (S : St ls rs size asks ask) (ok : Ok1 rs size) (g13 : ls[13]? = some (some (.int s))) (g18 : ls[18]? = some (some (.int e))) (h0 : 0 ≤ s) (he : s + 1 ≤ e) :
    mBin neF (mVal (mLc [26, 27] (mIt (mCall 2 [] F__law_gaps (mCons (mBin addF (mSl slF (mVar 3) mNoPart (mPart (mVar 13))) (mSl slF (mVar 3) (mPart (mVar 18)) mNoPart)) (mCons (mVar 2) mNil)))) (mgTup [(mgName 26), (mgName 27)]) (mTest (mBin geF (mVar 27) (mVar 7))) (mC (.int 1)))) (mVal (mLst mNil)) ls h =
      .ok (.bl (fitsAny (restR rs s.toNat e.toNat) size ask)) h := by
  have s3 := ok.len
  have okr : Ok1 (restR rs s.toNat e.toNat) size := ok.sub (rest_sub (by omega))
  have oz := Z_ok okr
  have hl2 := oz.len
  have hl' : (G size 0 (restR rs s.toNat e.toNat)).length ≤ 11 := by simpa [Z] using hl2
  have hg := f_lawgaps h okr
  have hadd : addF h (rowsD (rs.take s.toNat)) (rowsD (rs.drop e.toNat)) = some (rowsD (restR rs s.toNat e.toNat)) := add_rows (by simp; omega)
  have hlc : lcD [26, 27] (mgTup [mgName 26, mgName 27]) (mTest (mBin geF (mVar 27) (mVar 7))) (mC (D.int 1)) none h (wipeL ls [26, 27]) ((G size 0 (restR rs s.toNat e.toNat)).map pD) [] h = .ok (((G size 0 (restR rs s.toNat e.toNat)).filter fun q => decide (ask ≤ q.2)).map fun _ => D.int 1) h := by
    rw [lc_go (enc := pD) (p := fun q => decide (ask ≤ q.2)) (q := fun _ => .int 1) _ [] ?_ (by simp [sz]; omega)]
    · rfl
    · intro x hx
      have k27 : (putL (wipeL ls [26, 27]) [(26, .int x.1), (27, .int x.2)])[27]? = some (some (.int x.2)) := by
        simp [putL, wipeL, S.len]
      have k7 : (putL (wipeL ls [26, 27]) [(26, .int x.1), (27, .int x.2)])[7]? = some (some (.int ask)) := by
        simp [putL, wipeL, S.v7]
      refine ⟨[(26, .int x.1), (27, .int x.2)], rfl, rfl, ?_, fun _ => rfl⟩
      generalize putL (wipeL ls [26, 27]) [(26, .int x.1), (27, .int x.2)] = m at *
      simp [mGx, ap_seq, ap_set, ap_ret, ap_expr, ap_ifS, ap_skip, ap_raise, ap_aug, ap_setSub, toS_some, toS_ok, bind_ok, of_some, ap_c, ap_var, ap_bin, ap_test, asB_bl, ap_if, ap_and, ap_or, ap_not, ap_andV, ap_orV, ap_notV, ap_nil, ap_cons, ap_tup, ap_lst, ap_val, ap_box, ap_cb, ap_cbl, ap_call, ap_for, ap_lc, ap_it, ap_yes, ap_sl, ap_noPart, ap_part, part_int, ap_chain2, then_t, then_f, ap_rng1, ap_rng2, ap_rgL, ap_rgT, ap_asg, ap_zip, ap_enumA, ap_par2, add_int, sub_int, lt_int, le_int, gt_int, ge_int, eq_int, ne_int, max2_int, min2_int, int_int, int_bl, it_lst, it_tup, seq_lst, any_lst, any_tup, nox_ok, runF, startL, wipeL, capL, putL, m1, m2, sz, k27, k7]
  have hp : (D.lst (((G size 0 (restR rs s.toNat e.toNat)).filter fun q => decide (ask ≤ q.2)).map fun _ => D.int 1)).pl 8 = true := by
    simp only [D.pl]
    rw [pls_map fun _ _ => rfl]
    rfl
  have hmc : mCall 2 [] F__law_gaps (mCons (mBin addF (mSl slF (mVar 3) mNoPart (mPart (mVar 13))) (mSl slF (mVar 3) (mPart (mVar 18)) mNoPart)) (mCons (mVar 2) mNil)) ls h = .ok (.lst ((G size 0 (restR rs s.toNat e.toNat)).map pD)) h := by
    simp only [mGx, ap_seq, ap_set, ap_ret, ap_expr, ap_ifS, ap_skip, ap_raise, ap_aug, ap_setSub, toS_some, toS_ok, bind_ok, of_some, ap_c, ap_var, ap_bin, ap_test, asB_bl, ap_if, ap_and, ap_or, ap_not, ap_andV, ap_orV, ap_notV, ap_nil, ap_cons, ap_tup, ap_lst, ap_val, ap_box, ap_cb, ap_cbl, ap_call, ap_for, ap_lc, ap_it, ap_yes, ap_sl, ap_noPart, ap_part, part_int, ap_chain2, then_t, then_f, ap_rng1, ap_rng2, ap_rgL, ap_rgT, ap_asg, ap_zip, ap_enumA, ap_par2, add_int, sub_int, lt_int, le_int, gt_int, ge_int, eq_int, ne_int, max2_int, min2_int, int_int, int_bl, it_lst, it_tup, seq_lst, any_lst, any_tup, nox_ok, runF, startL, wipeL, capL, putL, m1, m2, sz, S.v3, g13, g18, S.v2, Option.bind_some, id, sl_rows_to h0, sl_rows_from (show 0 ≤ e by omega), hadd, List.length_cons, List.length_nil, List.append_nil]
    simp only [if_true, hg]
  rw [ap_bin, ap_val, ap_lc, ap_it, hmc, bind_ok, it_lst, of_some, bind_ok, hlc, bind_ok, bind_ok]
  simp only [ap_val, ap_lst, ap_nil, bind_ok, List.length_nil, sz, Nat.zero_le, if_true]
  rw [ne_nil hp]
  rw [← fitsAny_filter]
  simp [of_some]
theorem c18b (S : St ls rs size asks ask) (ok : Ok1 rs size) (g13 : ls[13]? = some (some (.int s))) (g17 : ls[17]? = some (some (.lst (acc.map wD)))) (h0 : 0 ≤ s) (he : s + 1 ≤ e) (hl : acc.length ≤ 1000) : ∃ ls', b_law_9 (ls.set 18 (some (.int e))) (dc a b c :: t) = .nx ls' (dc a b c :: t) ∧ St ls' rs size asks ask ∧ ls'[13]? = some (some (.int s)) ∧ ls'[17]? = some (some (.lst ((stW rs size ask s acc e).map wD))) := by
  have s2 := ok.s2
  have s3 := ok.len
  have S1 := S.set (i := 18) (by decide) (some (.int e))
  have k18 : (ls.set 18 (some (.int e)))[18]? = some (some (.int e)) := by simp [S.len]
  have k13 : (ls.set 18 (some (.int e)))[13]? = some (some (.int s)) := by simp [g13]
  have k17 : (ls.set 18 (some (.int e)))[17]? = some (some (.lst (acc.map wD))) := by simp [g17]
  generalize ls.set 18 (some (.int e)) = l at *
  have hf := c18a (h := dc a b c :: t) S1 ok k13 k18 h0 he
  unfold b_law_9
  rw [seq_nx (set_nx hf)]
  have S2 := S1.set (i := 19) (by decide) (some (.bl (fitsAny (restR rs s.toNat e.toNat) size ask)))
  have m18 : (l.set 19 (some (.bl (fitsAny (restR rs s.toNat e.toNat) size ask))))[18]? = some (some (.int e)) := by simp [k18]
  have m13 : (l.set 19 (some (.bl (fitsAny (restR rs s.toNat e.toNat) size ask))))[13]? = some (some (.int s)) := by simp [k13]
  have m17 : (l.set 19 (some (.bl (fitsAny (restR rs s.toNat e.toNat) size ask))))[17]? = some (some (.lst (acc.map wD))) := by simp [k17]
  have m19 : (l.set 19 (some (.bl (fitsAny (restR rs s.toNat e.toNat) size ask))))[19]? = some (some (.bl (fitsAny (restR rs s.toNat e.toNat) size ask))) := by simp [S1.len]
  generalize l.set 19 (some (.bl (fitsAny (restR rs s.toNat e.toNat) size ask))) = m at *
  refine ⟨m.set 17 (some (.lst ((stW rs size ask s acc e).map wD))), set_nx ?_, S2.set (by decide) _, by simp [m13], by simp [S2.len]⟩
  have hlc : lcD [26, 27] (mgTup [mgName 26, mgName 27]) mYes (mVar 27) none (dc a b c :: t) (wipeL m [26, 27]) (((rs.take e.toNat).drop s.toNat).map pD) [] (dc a b c :: t) = .ok ((((rs.take e.toNat).drop s.toNat).map (·.2)).map D.int) (dc a b c :: t) := by
    rw [lc_all (enc := pD) (q := fun x => .int x.2) _ [] (fun x hx => ⟨[(26, .int x.1), (27, .int x.2)], rfl, rfl, rfl, fun _ => ?_⟩) (by simp; omega)]
    · simp only [List.map_map, List.nil_append]; rfl
    · have k27 : (putL (wipeL m [26, 27]) [(26, .int x.1), (27, .int x.2)])[27]? = some (some (.int x.2)) := by
        simp [putL, wipeL, S2.len]
      rw [ap_var, k27]
      rfl
  have hmc : mSl slF (mVar 3) (mPart (mVar 13)) (mPart (mVar 18)) m (dc a b c :: t) = .ok (rowsD ((rs.take e.toNat).drop s.toNat)) (dc a b c :: t) := by
    simp only [mGx, ap_seq, ap_set, ap_ret, ap_expr, ap_ifS, ap_skip, ap_raise, ap_aug, ap_setSub, toS_some, toS_ok, bind_ok, of_some, ap_c, ap_var, ap_bin, ap_test, asB_bl, ap_if, ap_and, ap_or, ap_not, ap_andV, ap_orV, ap_notV, ap_nil, ap_cons, ap_tup, ap_lst, ap_val, ap_box, ap_cb, ap_cbl, ap_call, ap_for, ap_lc, ap_it, ap_yes, ap_sl, ap_noPart, ap_part, part_int, ap_chain2, then_t, then_f, ap_rng1, ap_rng2, ap_rgL, ap_rgT, ap_asg, ap_zip, ap_enumA, ap_par2, add_int, sub_int, lt_int, le_int, gt_int, ge_int, eq_int, ne_int, max2_int, min2_int, int_int, int_bl, it_lst, it_tup, seq_lst, any_lst, any_tup, nox_ok, runF, startL, wipeL, capL, putL, m1, m2, sz, S2.v3, m13, m18, Option.bind_some, id, sl_rows_mid h0 (show 0 ≤ e by omega)]
  have hsum : mCB sumC (m1 (mVal (mLc [26, 27] (mIt (mSl slF (mVar 3) (mPart (mVar 13)) (mPart (mVar 18)))) (mgTup [mgName 26, mgName 27]) mYes (mVar 27)))) m (dc a b c :: t) = .ok (.int (((rs.take e.toNat).drop s.toNat).map (·.2)).sum) (dc a b c :: t) := by
    rw [ap_cb]
    unfold m1
    rw [ap_cons, ap_val, ap_lc, ap_it, hmc, bind_ok, it_rows, of_some, bind_ok, hlc]
    simp only [bind_ok, ap_nil, sumC_lst, of_some]
  have hmul := mul_way (hs := dc a b c :: t) (w := wayAt rs s e) (b := fitsAny (restR rs s.toNat e.toNat) size ask)
  have hw : wD (wayAt rs s e) = .tup [.int (e - s), .int (((rs.take e.toNat).drop s.toNat).map (·.2)).sum, .int s] := rfl
  rw [hw] at hmul
  have hadd : addF (dc a b c :: t) (.lst (acc.map wD)) (.lst ((if fitsAny (restR rs s.toNat e.toNat) size ask then [wayAt rs s e] else []).map wD)) = some (.lst ((stW rs size ask s acc e).map wD)) := by
    rw [add_lst (by split <;> simp <;> omega), ← List.map_append]
    unfold stW
    split <;> simp
  generalize mCB sumC (m1 (mVal (mLc [26, 27] (mIt (mSl slF (mVar 3) (mPart (mVar 13)) (mPart (mVar 18)))) (mgTup [mgName 26, mgName 27]) mYes (mVar 27)))) = X at hsum ⊢
  simp only [mGx, ap_seq, ap_set, ap_ret, ap_expr, ap_ifS, ap_skip, ap_raise, ap_aug, ap_setSub, toS_some, toS_ok, bind_ok, of_some, ap_c, ap_var, ap_bin, ap_test, asB_bl, ap_if, ap_and, ap_or, ap_not, ap_andV, ap_orV, ap_notV, ap_nil, ap_cons, ap_tup, ap_lst, ap_val, ap_box, ap_cb, ap_cbl, ap_call, ap_for, ap_lc, ap_it, ap_yes, ap_sl, ap_noPart, ap_part, part_int, ap_chain2, then_t, then_f, ap_rng1, ap_rng2, ap_rgL, ap_rgT, ap_asg, ap_zip, ap_enumA, ap_par2, add_int, sub_int, lt_int, le_int, gt_int, ge_int, eq_int, ne_int, max2_int, min2_int, int_int, int_bl, it_lst, it_tup, seq_lst, any_lst, any_tup, nox_ok, runF, startL, wipeL, capL, putL, m1, m2, sz, m17, m18, m13, m19, hsum, Option.bind_some, id, List.length_cons, List.length_nil, Nat.reduceAdd, Nat.reduceLeDiff, if_true, hmul, hadd]
theorem c18c (S : St ls rs size asks ask) (ok : Ok1 rs size) (g17 : ls[17]? = some (some (.lst (acc.map wD)))) (h0 : 0 ≤ s) (h1 : s ≤ 100) (hl : acc.length ≤ 500) : ∃ ls', b_law_10 (ls.set 13 (some (.int s))) (dc a b c :: t) = .nx ls' (dc a b c :: t) ∧ St ls' rs size asks ask ∧ ls'[17]? = some (some (.lst ((rowW rs size ask acc s).map wD))) := by
  have s3 := ok.len
  have S1 := S.set (i := 13) (by decide) (some (.int s))
  have k13 : (ls.set 13 (some (.int s)))[13]? = some (some (.int s)) := by simp [S.len]
  have k17 : (ls.set 13 (some (.int s)))[17]? = some (some (.lst (acc.map wD))) := by simp [g17]
  generalize ls.set 13 (some (.int s)) = l at *
  obtain ⟨ls', hs', e1, S', q13, q17, rfl⟩ := for_go (enc := D.int) (tg := mgName 18) (body := b_law_9) (hs0 := dc a b c :: t) (xs0 := rI (s + 1) (rs.length + 1))
    (fun pre l hs => St l rs size asks ask ∧ l[13]? = some (some (.int s)) ∧ l[17]? = some (some (.lst ((pre.foldl (stW rs size ask s) acc).map wD))) ∧ hs = dc a b c :: t)
    (fun pre x post l hs e0 ⟨S, p13, p17, e1⟩ => by
      subst e1
      have hx := mem_rI.mp (show x ∈ rI (s + 1) (rs.length + 1) by rw [e0]; simp)
      have hp : pre.length ≤ 20 := by
        have : (rI (s + 1) (rs.length + 1)).length ≤ 20 := by rw [rI_len]; omega
        rw [e0] at this; simp at this; omega
      have hl2 := stW_foldl_len rs size ask s pre acc
      obtain ⟨ls', f1, f2, f3, f4⟩ := c18b (t := t) (a := a) (b := b) (c := c) S ok p13 p17 h0 hx.1 (by omega)
      rw [show stW rs size ask s (pre.foldl (stW rs size ask s) acc) x = (pre ++ [x]).foldl (stW rs size ask s) acc by rw [List.foldl_append]; rfl] at f4
      exact ⟨_, rfl, ls', _, .inl f1, f2, f3, f4, rfl⟩) (rI (s + 1) (rs.length + 1)) [] l (dc a b c :: t) rfl ⟨S1, k13, k17, rfl⟩
  refine ⟨ls', ?_, S', q17⟩
  have hr : mRng2 (mCons (mBin addF (mVar 13) (mC (.int 1))) (mCons (mBin addF (mCB lenC (m1 (mVar 3))) (mC (.int 1))) mNil)) l (dc a b c :: t) = .ok ((rI (s + 1) (rs.length + 1)).map D.int, none) (dc a b c :: t) := by
    have key : ∀ n : Int, n = rs.length → mRng2 (mCons (mBin addF (mVar 13) (mC (.int 1))) (mCons (mBin addF (mCB lenC (m1 (mVar 3))) (mC (.int 1))) mNil)) l (dc a b c :: t) = .ok ((rI (s + 1) (n + 1)).map D.int, none) (dc a b c :: t) := by
      intro n hn
      have h2 : ∀ h : HS, lenC h [rowsD rs] = some (.int n) := fun h => by rw [len_rows, hn]
      rw [ap_rng2]
      simp only [m1, ap_cons, ap_cb, ap_nil, ap_var, ap_bin, ap_c, S1.v3, k13, Option.bind_some, id, of_some, bind_ok, h2, add_int]
      rw [rng2_int (show -(2 ^ 62) ≤ s + 1 ∧ s + 1 < 2 ^ 62 by omega) (show -(2 ^ 62) ≤ n + 1 ∧ n + 1 < 2 ^ 62 by omega), rng_rI]
    exact key _ rfl
  unfold b_law_10
  rw [ap_for, hr, toS_ok]
  exact e1
theorem c18 (S : St ls rs size asks ask) (ok : Ok1 rs size) (g17 : ls[17]? = some (some (.lst []))) : ∃ ls', s17_18 ls (dc a b c :: t) = .nx ls' (dc a b c :: t) ∧ St ls' rs size asks ask ∧ ls'[17]? = some (some (.lst ((waysL rs size ask).map wD))) := by
  have s3 := ok.len
  obtain ⟨ls', hs', e1, S', q17, rfl⟩ := for_go (enc := D.int) (tg := mgName 13) (body := b_law_10) (hs0 := dc a b c :: t) (xs0 := rI 0 rs.length)
    (fun pre l hs => St l rs size asks ask ∧ l[17]? = some (some (.lst ((pre.foldl (rowW rs size ask) []).map wD))) ∧ hs = dc a b c :: t)
    (fun pre x post l hs e0 ⟨S, p17, e1⟩ => by
      subst e1
      have hmem : ∀ y ∈ pre ++ x :: post, 0 ≤ y ∧ y < (rs.length : Int) := fun y hy => mem_rI.mp (by rw [e0]; exact hy)
      have hx := hmem x (by simp)
      have hp : pre.length ≤ 10 := by
        have : (rI 0 rs.length).length ≤ 10 := by rw [rI_len]; omega
        rw [e0] at this; simp at this; omega
      have hl2 := rowW_foldl_len rs size ask pre [] (fun y hy => (hmem y (by simp [hy])).1)
      have hl3 : pre.length * rs.length ≤ 10 * 10 := Nat.mul_le_mul hp s3
      obtain ⟨ls', f1, f2, f4⟩ := c18c (t := t) (a := a) (b := b) (c := c) S ok p17 hx.1 (by omega) (by simp at hl2; omega)
      rw [show rowW rs size ask (pre.foldl (rowW rs size ask) []) x = (pre ++ [x]).foldl (rowW rs size ask) [] by rw [List.foldl_append]; rfl] at f4
      exact ⟨_, rfl, ls', _, .inl f1, f2, f4, rfl⟩) (rI 0 rs.length) [] ls (dc a b c :: t) rfl ⟨S, g17, rfl⟩
  refine ⟨ls', ?_, S', q17⟩
  unfold s17_18
  rw [ap_for, rng_len S.v3 (by omega), toS_ok]
  exact e1
theorem wne_nil {hs : HS} {ws : List Way} : neF hs (.lst (ws.map wD)) (.lst []) = some (.bl (!decide (ws = []))) := by
  rw [ne_nil pl_ways]
  simp
def bestW : Option Way → D
  | none => .non
  | some m => wD m
theorem c19 {o : Option Way} (S : St ls rs size asks ask) (hm : IsMin (waysL rs size ask) o) (g17 : ls[17]? = some (some (.lst ((waysL rs size ask).map wD)))) : s17_19 ls (dc a b c :: t) = .nx (ls.set 20 (some (bestW o))) (dc a b c :: t) := by
  refine set_nx ?_
  cases hm with
  | none h =>
    have := wne_nil (hs := dc a b c :: t) (ws := waysL rs size ask)
    simp only [mGx, ap_seq, ap_set, ap_ret, ap_expr, ap_ifS, ap_skip, ap_raise, ap_aug, ap_setSub, toS_some, toS_ok, bind_ok, of_some, ap_c, ap_var, ap_bin, ap_test, asB_bl, ap_if, ap_and, ap_or, ap_not, ap_andV, ap_orV, ap_notV, ap_nil, ap_cons, ap_tup, ap_lst, ap_val, ap_box, ap_cb, ap_cbl, ap_call, ap_for, ap_lc, ap_it, ap_yes, ap_sl, ap_noPart, ap_part, part_int, ap_chain2, then_t, then_f, ap_rng1, ap_rng2, ap_rgL, ap_rgT, ap_asg, ap_zip, ap_enumA, ap_par2, add_int, sub_int, lt_int, le_int, gt_int, ge_int, eq_int, ne_int, max2_int, min2_int, int_int, int_bl, it_lst, it_tup, seq_lst, any_lst, any_tup, nox_ok, runF, startL, wipeL, capL, putL, m1, m2, sz, g17, Option.bind_some, id, List.length_nil, Nat.zero_le, if_true, this, h, decide_true, Bool.not_true, Bool.false_eq_true, if_false]
    rfl
  | some m hm h hn =>
    have h1 := wne_nil (hs := dc a b c :: t) (ws := waysL rs size ask)
    have h2 := h (dc a b c :: t) (.lst ((waysL rs size ask).map wD)) rfl
    simp only [mGx, ap_seq, ap_set, ap_ret, ap_expr, ap_ifS, ap_skip, ap_raise, ap_aug, ap_setSub, toS_some, toS_ok, bind_ok, of_some, ap_c, ap_var, ap_bin, ap_test, asB_bl, ap_if, ap_and, ap_or, ap_not, ap_andV, ap_orV, ap_notV, ap_nil, ap_cons, ap_tup, ap_lst, ap_val, ap_box, ap_cb, ap_cbl, ap_call, ap_for, ap_lc, ap_it, ap_yes, ap_sl, ap_noPart, ap_part, part_int, ap_chain2, then_t, then_f, ap_rng1, ap_rng2, ap_rgL, ap_rgT, ap_asg, ap_zip, ap_enumA, ap_par2, add_int, sub_int, lt_int, le_int, gt_int, ge_int, eq_int, ne_int, max2_int, min2_int, int_int, int_bl, it_lst, it_tup, seq_lst, any_lst, any_tup, nox_ok, runF, startL, wipeL, capL, putL, m1, m2, sz, g17, Option.bind_some, id, List.length_nil, Nat.zero_le, if_true, h1, hn, decide_false, Bool.not_false, h2]
    rfl
theorem Z_fits (rs : List Row) (size ask : Int) : (!decide (((Z rs size).filter fun l => decide (ask ≤ l)) = [])) = fitsAny rs size ask := by
  unfold fitsAny Z
  rw [Bool.eq_iff_iff]
  simp [List.filter_eq_nil_iff]
  exact ⟨fun ⟨x, ⟨y, h⟩, k⟩ => ⟨y, x, h, k⟩, fun ⟨a, b, h, k⟩ => ⟨b, ⟨a, h⟩, k⟩⟩
theorem c20 {o : Option Way} (S : St ls rs size asks ask) (ok : Ok1 rs size) (hm : IsMin (waysL rs size ask) o) (g20 : ls[20]? = some (some (bestW o))) : s17_20 ls (dc a b c :: t) = .nx (ls.set 21 (some (dueD rs size ask o))) (dc a b c :: t) := by
  have s3 := ok.len
  have oz := Z_ok ok
  have hlz := oz.len
  refine set_nx ?_
  have hlc : mLc [27] (mIt (mVar 5)) (mgName 27) (mTest (mBin geF (mVar 27) (mVar 7))) (mVar 27) ls (dc a b c :: t) = .ok (((Z rs size).filter fun l => decide (ask ≤ l)).map D.int) (dc a b c :: t) := by
    rw [ap_lc, ap_it, ap_var, S.v5]
    simp only [Option.bind_some, id, of_some, bind_ok, it_lst]
    rw [lc_go (enc := D.int) (p := fun l => decide (ask ≤ l)) (q := D.int) (Z rs size) [] ?_ (by simp [sz]; omega)]
    · rfl
    · intro x hx
      have k27 : (putL (wipeL ls [27]) [(27, .int x)])[27]? = some (some (.int x)) := by
        simp [putL, wipeL, S.len]
      have k7 : (putL (wipeL ls [27]) [(27, .int x)])[7]? = some (some (.int ask)) := by
        simp [putL, wipeL, S.v7]
      refine ⟨[(27, .int x)], rfl, rfl, ?_, fun _ => ?_⟩
      · generalize putL (wipeL ls [27]) [(27, .int x)] = m at *
        simp [mGx, ap_seq, ap_set, ap_ret, ap_expr, ap_ifS, ap_skip, ap_raise, ap_aug, ap_setSub, toS_some, toS_ok, bind_ok, of_some, ap_c, ap_var, ap_bin, ap_test, asB_bl, ap_if, ap_and, ap_or, ap_not, ap_andV, ap_orV, ap_notV, ap_nil, ap_cons, ap_tup, ap_lst, ap_val, ap_box, ap_cb, ap_cbl, ap_call, ap_for, ap_lc, ap_it, ap_yes, ap_sl, ap_noPart, ap_part, part_int, ap_chain2, then_t, then_f, ap_rng1, ap_rng2, ap_rgL, ap_rgT, ap_asg, ap_zip, ap_enumA, ap_par2, add_int, sub_int, lt_int, le_int, gt_int, ge_int, eq_int, ne_int, max2_int, min2_int, int_int, int_bl, it_lst, it_tup, seq_lst, any_lst, any_tup, nox_ok, runF, startL, wipeL, capL, putL, m1, m2, sz, k27, k7]
      · rw [ap_var, k27]
        rfl
  have hne := ne_nil (hs := dc a b c :: t) (pl_ints (ns := (Z rs size).filter fun l => decide (ask ≤ l)))
  have hne2 : neF (dc a b c :: t) (.lst (((Z rs size).filter fun l => decide (ask ≤ l)).map D.int)) (.lst []) = some (.bl (fitsAny rs size ask)) := by
    rw [hne, ← Z_fits]
    simp
  rw [ap_if, ap_test, ap_bin, ap_val, hlc]
  simp only [bind_ok, ap_val, ap_lst, ap_nil, List.length_nil, sz, Nat.zero_le, if_true, hne2, of_some, asB_bl]
  unfold dueD
  by_cases c : fitsAny rs size ask = true
  · simp only [c, if_true, ap_tup, ap_nil, bind_ok, List.length_nil, sz, Nat.zero_le]
  · rw [if_neg c, if_neg c]
    cases hm with
    | none h =>
      simp only [mGx, ap_seq, ap_set, ap_ret, ap_expr, ap_ifS, ap_skip, ap_raise, ap_aug, ap_setSub, toS_some, toS_ok, bind_ok, of_some, ap_c, ap_var, ap_bin, ap_test, asB_bl, ap_if, ap_and, ap_or, ap_not, ap_andV, ap_orV, ap_notV, ap_nil, ap_cons, ap_tup, ap_lst, ap_val, ap_box, ap_cb, ap_cbl, ap_call, ap_for, ap_lc, ap_it, ap_yes, ap_sl, ap_noPart, ap_part, part_int, ap_chain2, then_t, then_f, ap_rng1, ap_rng2, ap_rgL, ap_rgT, ap_asg, ap_zip, ap_enumA, ap_par2, add_int, sub_int, lt_int, le_int, gt_int, ge_int, eq_int, ne_int, max2_int, min2_int, int_int, int_bl, it_lst, it_tup, seq_lst, any_lst, any_tup, nox_ok, runF, startL, wipeL, capL, putL, m1, m2, sz, g20, Option.bind_some, id, bestW, isNF, decide_true, if_true]
    | some m hm h hn =>
      obtain ⟨w0, w1, w2, w3⟩ := ways_ok s3 m hm
      simp only [ap_if, ap_test, ap_bin, ap_var, ap_c, g20, Option.bind_some, id, bestW, isNF, of_some, bind_ok]
      have i0 : ∀ h : HS, ixF h (wD m) (.int 0) = some (.int m.1) := fun h => by simp [wD, ix_tup]
      have i2 : ∀ h : HS, ixF h (wD m) (.int 2) = some (.int m.2.2) := fun h => by
        unfold wD
        rw [ix_tup (by decide) (by simp)]
        rfl
      have hd : decide (wD m = D.non) = false := by simp [wD]
      simp only [hd, asB_bl, bind_ok, Bool.false_eq_true, if_false, ap_rgT, ap_cons, ap_nil, ap_bin, ap_var, ap_c, g20, bestW, Option.bind_some, id, of_some, i0, i2, add_int]
      rw [rgO_ok (show -(2 ^ 20) ≤ m.2.2 by omega) (by omega) (show -(2 ^ 20) ≤ m.2.2 + m.1 by omega) (by omega), rng_rI]
      rfl
theorem pl_due {o : Option Way} : (dueD rs size ask o).pl 8 = true := by
  unfold dueD
  split
  · rfl
  · cases o with
    | none => rfl
    | some m =>
      simp only [D.pl]
      rw [pls_map fun _ _ => rfl]
      rfl
theorem c21 {o : Option Way} (S : St ls rs size asks ask) (ok : Ok1 rs size) (h1 : 1 ≤ ask) (hm : IsMin (waysL rs size ask) o) (g21 : ls[21]? = some (some (dueD rs size ask o))) : ∃ t', s17_21 ls (dc a b c :: t) = .nx ls (dc a b c :: t') := by
  obtain ⟨e, hg⟩ := f_best (dc a b c :: t) ok h1 hm
  refine ⟨t ++ e, ?_⟩
  simp [mGx, ap_seq, ap_set, ap_ret, ap_expr, ap_ifS, ap_skip, ap_raise, ap_aug, ap_setSub, toS_some, toS_ok, bind_ok, of_some, ap_c, ap_var, ap_bin, ap_test, asB_bl, ap_if, ap_and, ap_or, ap_not, ap_andV, ap_orV, ap_notV, ap_nil, ap_cons, ap_tup, ap_lst, ap_val, ap_box, ap_cb, ap_cbl, ap_call, ap_for, ap_lc, ap_it, ap_yes, ap_sl, ap_noPart, ap_part, part_int, ap_chain2, then_t, then_f, ap_rng1, ap_rng2, ap_rgL, ap_rgT, ap_asg, ap_zip, ap_enumA, ap_par2, add_int, sub_int, lt_int, le_int, gt_int, ge_int, eq_int, ne_int, max2_int, min2_int, int_int, int_bl, it_lst, it_tup, seq_lst, any_lst, any_tup, nox_ok, runF, startL, wipeL, capL, putL, m1, m2, sz, S.v2, S.v3, S.v7, g21, hg, ne_same pl_due]
end
end K16

set_option Elab.async false
set_option linter.all false
set_option maxRecDepth 100000
set_option maxHeartbeats 1000000
namespace K16
open PySem Fx
section
variable {ls : LS} {rs : List Row} {size ask a b c : Int} {asks : List Int} {t : HS}
theorem c22 (S : St ls rs size asks ask) : ∃ (line : Int) (L : List (List Row)) (a' b' c' : Int), s17_22 ls (dc a b c :: t) = .nx ((ls.set 22 (some (.int line))).set 23 (some (.lst (L.map lk20)))) (dc a' b' c' :: t) ∧ 1 ≤ line ∧ line ≤ 8 ∧ L.length ≤ 4 ∧ ∀ r ∈ L, Ok1 r 20 := by
  obtain ⟨a1, b1, c1, r1, e1, l1, u1⟩ := f_roll a b c 8 t (by decide) (by decide)
  obtain ⟨a2, b2, c2, r2, e2, l2, u2⟩ := f_roll a1 b1 c1 4 t (by decide) (by decide)
  obtain ⟨acc, hs', g1, L, a3, b3, c3, rfl, hL, hok, rfl⟩ := lc_inv (enc := D.int) (own := [28]) (tg := mgName 28) (t := mYes) (e := e_law_11) (hs1 := dc a2 b2 c2 :: t) (ls := wipeL ls [28]) (xs0 := rI 0 r2)
    (fun pre acc hs => ∃ (L : List (List Row)) (a b c : Int), acc = L.map lk20 ∧ L.length = pre.length ∧ (∀ r ∈ L, Ok1 r 20) ∧ hs = dc a b c :: t)
    (fun pre x post acc hs e0 ⟨L, a, b, c, f1, f2, f3, f4⟩ => by
      subst f1
      subst f4
      obtain ⟨rr, a4, b4, c4, g1, g2, g3⟩ := @f_rooms 20 a b c t (by decide) (by decide)
      refine ⟨[(28, .int x)], rfl, rfl, true, _, rfl, by simp, fun _ => ⟨?_, lk20 rr, dc a4 b4 c4 :: t, ?_, L ++ [rr], a4, b4, c4, by simp, by simp [f2], ?_, rfl⟩⟩
      · have : (rI 0 r2).length ≤ 10 := by rw [rI_len]; omega
        rw [e0] at this
        simp at this ⊢
        omega
      · have k1 : (putL (wipeL ls [28]) [(28, .int x)])[1]? = some (some (.ref 0)) := by
          simp [putL, wipeL, S.v1]
        generalize putL (wipeL ls [28]) [(28, .int x)] = m at *
        simp [mGx, ap_seq, ap_set, ap_ret, ap_expr, ap_ifS, ap_skip, ap_raise, ap_aug, ap_setSub, toS_some, toS_ok, bind_ok, of_some, ap_c, ap_var, ap_bin, ap_test, asB_bl, ap_if, ap_and, ap_or, ap_not, ap_andV, ap_orV, ap_notV, ap_nil, ap_cons, ap_tup, ap_lst, ap_val, ap_box, ap_cb, ap_cbl, ap_call, ap_for, ap_lc, ap_it, ap_yes, ap_sl, ap_noPart, ap_part, part_int, ap_chain2, then_t, then_f, ap_rng1, ap_rng2, ap_rgL, ap_rgT, ap_asg, ap_zip, ap_enumA, ap_par2, add_int, sub_int, lt_int, le_int, gt_int, ge_int, eq_int, ne_int, max2_int, min2_int, int_int, int_bl, it_lst, it_tup, seq_lst, any_lst, any_tup, nox_ok, runF, startL, wipeL, capL, putL, m1, m2, sz, k1, g1, lk20]
      · intro r hr
        rcases List.mem_append.mp hr with hr | hr
        · exact f3 r hr
        · simp at hr; subst hr; exact g2) (rI 0 r2) [] [] (dc a2 b2 c2 :: t) rfl ⟨[], a2, b2, c2, rfl, rfl, by simp, rfl⟩
  have hlc : mLc [28] (mRng1 (mCons (mCall 2 [] F__law_roll (mCons (mVar 1) (mCons (mC (.int 4)) mNil))) mNil)) (mgName 28) mYes e_law_11 ls (dc a1 b1 c1 :: t) = .ok (L.map lk20) (dc a3 b3 c3 :: t) := by
    rw [ap_lc, ap_rng1, ap_cons, ap_call]
    simp only [ap_cons, ap_nil, ap_var, ap_c, S.v1, Option.bind_some, id, of_some, bind_ok, List.length_cons, List.length_nil, List.append_nil]
    simp only [if_true, e2, bind_ok]
    rw [rng1_int (show -(2 ^ 62) ≤ r2 ∧ r2 < 2 ^ 62 by omega), rng_rI0, bind_ok]
    exact g1
  refine ⟨1 + r1, L, a3, b3, c3, ?_, by omega, by omega, ?_, hok⟩
  · unfold s17_22
    rw [ap_asg, ap_tup, ap_cons, ap_bin, ap_c, bind_ok, ap_call]
    simp only [ap_cons, ap_nil, ap_var, ap_c, S.v1, Option.bind_some, id, of_some, bind_ok, List.length_cons, List.length_nil, List.append_nil]
    simp only [if_true, e1, bind_ok, add_int, of_some]
    rw [ap_val, hlc]
    simp [mGx, ap_seq, ap_set, ap_ret, ap_expr, ap_ifS, ap_skip, ap_raise, ap_aug, ap_setSub, toS_some, toS_ok, bind_ok, of_some, ap_c, ap_var, ap_bin, ap_test, asB_bl, ap_if, ap_and, ap_or, ap_not, ap_andV, ap_orV, ap_notV, ap_nil, ap_cons, ap_tup, ap_lst, ap_val, ap_box, ap_cb, ap_cbl, ap_call, ap_for, ap_lc, ap_it, ap_yes, ap_sl, ap_noPart, ap_part, part_int, ap_chain2, then_t, then_f, ap_rng1, ap_rng2, ap_rgL, ap_rgT, ap_asg, ap_zip, ap_enumA, ap_par2, add_int, sub_int, lt_int, le_int, gt_int, ge_int, eq_int, ne_int, max2_int, min2_int, int_int, int_bl, it_lst, it_tup, seq_lst, any_lst, any_tup, nox_ok, runF, startL, wipeL, capL, putL, m1, m2, sz, mgTup, mgGo, mgName]
  · rw [hL, rI_len]; omega
theorem c23 {line : Int} (S : St ls rs size asks ask) (hn : asks.length = 4) (g22 : ls[22]? = some (some (.int line))) (h1 : 1 ≤ line) (h2 : line ≤ 8) : s17_23 ls (dc a b c :: t) = .nx (ls.set 24 (some (.int (moreV asks line)))) (dc a b c :: t) := by
  refine set_nx ?_
  have hlc : mLc [30] (mIt (mVar 6)) (mgName 30) mYes e_law_13 ls (dc a b c :: t) = .ok ((asks.map fun x => (0 - x) % line).map D.int) (dc a b c :: t) := by
    rw [ap_lc, ap_it, ap_var, S.v6]
    simp only [Option.bind_some, id, of_some, bind_ok, it_lst]
    rw [lc_all (enc := D.int) (q := fun x => .int ((0 - x) % line)) asks [] ?_ (by simp; omega)]
    · simp
    · intro x hx
      have k30 : (putL (wipeL ls [30]) [(30, .int x)])[30]? = some (some (.int x)) := by
        simp [putL, wipeL, S.len]
      have k22 : (putL (wipeL ls [30]) [(30, .int x)])[22]? = some (some (.int line)) := by
        simp [putL, wipeL, g22]
      have kl : (putL (wipeL ls [30]) [(30, .int x)]).length = 33 := by
        simp [putL, wipeL, S.len]
      refine ⟨[(30, .int x)], rfl, rfl, rfl, fun _ => ?_⟩
      generalize putL (wipeL ls [30]) [(30, .int x)] = m at *
      obtain ⟨tl, htl⟩ := @first_waste line x h1
      have hin : mLc [28] (mRng1 (mCons (mVar 22) mNil)) (mgName 28) t_law_12 (mVar 28) m (dc a b c :: t) = .ok (((0 - x) % line :: tl).map D.int) (dc a b c :: t) := by
        rw [ap_lc, ap_rng1, ap_cons, ap_var, k22]
        simp only [Option.bind_some, id, of_some, bind_ok, ap_nil]
        rw [rng1_int (show -(2 ^ 62) ≤ line ∧ line < 2 ^ 62 by omega), rng_rI0, bind_ok]
        rw [lc_go (enc := D.int) (p := fun k => decide ((x + k) % line = 0)) (q := D.int) (rI 0 line) [] ?_ (by simp [sz, rI_len]; omega)]
        · rw [htl]; rfl
        · intro k hk
          have i30 : (putL (wipeL m [28]) [(28, .int k)])[30]? = some (some (.int x)) := by
            simp [putL, wipeL, k30]
          have i28 : (putL (wipeL m [28]) [(28, .int k)])[28]? = some (some (.int k)) := by
            simp [putL, wipeL, kl]
          have i22 : (putL (wipeL m [28]) [(28, .int k)])[22]? = some (some (.int line)) := by
            simp [putL, wipeL, k22]
          refine ⟨[(28, .int k)], rfl, rfl, ?_, fun _ => ?_⟩
          · generalize putL (wipeL m [28]) [(28, .int k)] = w at *
            simp [mGx, ap_seq, ap_set, ap_ret, ap_expr, ap_ifS, ap_skip, ap_raise, ap_aug, ap_setSub, toS_some, toS_ok, bind_ok, of_some, ap_c, ap_var, ap_bin, ap_test, asB_bl, ap_if, ap_and, ap_or, ap_not, ap_andV, ap_orV, ap_notV, ap_nil, ap_cons, ap_tup, ap_lst, ap_val, ap_box, ap_cb, ap_cbl, ap_call, ap_for, ap_lc, ap_it, ap_yes, ap_sl, ap_noPart, ap_part, part_int, ap_chain2, then_t, then_f, ap_rng1, ap_rng2, ap_rgL, ap_rgT, ap_asg, ap_zip, ap_enumA, ap_par2, add_int, sub_int, lt_int, le_int, gt_int, ge_int, eq_int, ne_int, max2_int, min2_int, int_int, int_bl, it_lst, it_tup, seq_lst, any_lst, any_tup, nox_ok, runF, startL, wipeL, capL, putL, m1, m2, sz, i30, i28, i22, mod_int (show 0 < line by omega)]
          · rw [ap_var, i28]
            rfl
      unfold e_law_13
      rw [ap_bin, ap_val, hin]
      simp only [bind_ok, ap_c, ix_head (show ((0 - x) % line :: tl) ≠ [] by simp)]
      rfl
  rw [ap_cb]
  unfold m1
  rw [ap_cons, ap_val, hlc]
  simp only [bind_ok, ap_nil, sumC_lst, of_some]
  rfl
theorem c24 {L : List (List Row)} (S : St ls rs size asks ask) (g23 : ls[23]? = some (some (.lst (L.map lk20)))) (hL : L.length ≤ 4) (ok : ∀ r ∈ L, Ok1 r 20) : s17_24 ls (dc a b c :: t) = .nx (ls.set 25 (some (.lst ((shs L).map D.int)))) (dc a b c :: t) := by
  refine set_nx ?_
  rw [ap_val, ap_lc, ap_it, ap_var, g23]
  simp only [Option.bind_some, id, of_some, bind_ok, it_lst]
  rw [lc_all (enc := lk20) (q := fun r => .int (share (Z r 20))) L [] ?_ (by simp; omega)]
  · simp [bind_ok, shs]
  · intro r hr
    have k31 : (putL (wipeL ls [31, 27]) [(31, rowsD r), (27, .int 20)])[31]? = some (some (rowsD r)) := by
      simp [putL, wipeL, S.len]
    have k27 : (putL (wipeL ls [31, 27]) [(31, rowsD r), (27, .int 20)])[27]? = some (some (.int 20)) := by
      simp [putL, wipeL, S.len]
    refine ⟨[(31, rowsD r), (27, .int 20)], rfl, rfl, rfl, fun _ => ?_⟩
    generalize putL (wipeL ls [31, 27]) [(31, rowsD r), (27, .int 20)] = m at *
    simp [mGx, ap_seq, ap_set, ap_ret, ap_expr, ap_ifS, ap_skip, ap_raise, ap_aug, ap_setSub, toS_some, toS_ok, bind_ok, of_some, ap_c, ap_var, ap_bin, ap_test, asB_bl, ap_if, ap_and, ap_or, ap_not, ap_andV, ap_orV, ap_notV, ap_nil, ap_cons, ap_tup, ap_lst, ap_val, ap_box, ap_cb, ap_cbl, ap_call, ap_for, ap_lc, ap_it, ap_yes, ap_sl, ap_noPart, ap_part, part_int, ap_chain2, then_t, then_f, ap_rng1, ap_rng2, ap_rgL, ap_rgT, ap_asg, ap_zip, ap_enumA, ap_par2, add_int, sub_int, lt_int, le_int, gt_int, ge_int, eq_int, ne_int, max2_int, min2_int, int_int, int_bl, it_lst, it_tup, seq_lst, any_lst, any_tup, nox_ok, runF, startL, wipeL, capL, putL, m1, m2, sz, k31, k27, f_lawshare _ (ok r hr)]
theorem c25 {line : Int} (S : St ls rs size asks ask) (hn : asks.length = 4) (ha : ∀ x ∈ asks, 1 ≤ x ∧ x ≤ 12) (g22 : ls[22]? = some (some (.int line))) (g24 : ls[24]? = some (some (.int (moreV asks line)))) (h1 : 1 ≤ line) (h2 : line ≤ 8) : s17_25 ls (dc a b c :: t) = .nx ls (dc a b c :: t) := by
  have hg := f_waste (asks := asks) (dc a b c :: t) (fun x hx => by have := ha x hx; omega) (by omega) (by intro h; rw [h] at hn; cases hn) h1 (by omega)
  have hsum : 1 ≤ asks.sum ∧ asks.sum ≤ 1000 := by
    have gen : ∀ l : List Int, (∀ a ∈ l, 1 ≤ a ∧ a ≤ 12) → (l.length : Int) ≤ l.sum ∧ l.sum ≤ 100 * l.length := by
      intro l
      induction l with
      | nil => intro _; simp
      | cons a r ih =>
        intro h
        have := ih fun x hx => h x (List.mem_cons_of_mem _ hx)
        have := h a List.mem_cons_self
        rw [List.sum_cons, List.length_cons]; omega
    have := gen asks ha
    omega
  have hne : neF (dc a b c :: t) (.tup [.int (moreV asks line), .int (1000 * moreV asks line / asks.sum)]) (.tup [.int (moreV asks line), .int (1000 * moreV asks line / asks.sum)]) = some (.bl false) := ne_same rfl
  simp [mGx, ap_seq, ap_set, ap_ret, ap_expr, ap_ifS, ap_skip, ap_raise, ap_aug, ap_setSub, toS_some, toS_ok, bind_ok, of_some, ap_c, ap_var, ap_bin, ap_test, asB_bl, ap_if, ap_and, ap_or, ap_not, ap_andV, ap_orV, ap_notV, ap_nil, ap_cons, ap_tup, ap_lst, ap_val, ap_box, ap_cb, ap_cbl, ap_call, ap_for, ap_lc, ap_it, ap_yes, ap_sl, ap_noPart, ap_part, part_int, ap_chain2, then_t, then_f, ap_rng1, ap_rng2, ap_rgL, ap_rgT, ap_asg, ap_zip, ap_enumA, ap_par2, add_int, sub_int, lt_int, le_int, gt_int, ge_int, eq_int, ne_int, max2_int, min2_int, int_int, int_bl, it_lst, it_tup, seq_lst, any_lst, any_tup, nox_ok, runF, startL, wipeL, capL, putL, m1, m2, sz, S.v6, g22, g24, hg, mul_int, sumC_lst, div_int (show 0 < asks.sum ∧ asks.sum < 1073741824 by omega), hne]
theorem c26 {L : List (List Row)} (S : St ls rs size asks ask) (g23 : ls[23]? = some (some (.lst (L.map lk20)))) (g25 : ls[25]? = some (some (.lst ((shs L).map D.int)))) (hL : L.length ≤ 4) (ok : ∀ r ∈ L, Ok1 r 20) : ∃ t', s17_26 ls (dc a b c :: t) = .nx ls (dc a b c :: t') := by
  obtain ⟨e, hg⟩ := f_look (dc a b c :: t) ok (by omega)
  have hlen : (shs L).length ≤ 4 := by simpa [shs] using hL
  have hlk := lookF_eq (shs L) [] (-1) (fun s => by simp) (fun x hx => by
    obtain ⟨r, hr, rfl⟩ := List.mem_map.mp hx
    exact share_nonneg fun y hy => by have := (Z_ok (ok r hr)).each y hy; omega)
  simp only [List.length_nil, List.nil_append] at hlk
  refine ⟨t ++ e, ?_⟩
  have hlc : mLc [28, 32] (mEnumA (mCons (mVar 25) mNil)) (mgTup [(mgName 28), (mgName 32)]) t_law_15 e_law_16 ls (dc a b c :: (t ++ e)) = .ok ((lookF (-1) 0 (shs L)).map pD) (dc a b c :: (t ++ e)) := by
    rw [ap_lc, ap_enumA, ap_cons, ap_var, g25]
    simp only [Option.bind_some, id, of_some, bind_ok, ap_nil, seqI, Option.map_some]
    rw [enum_map]
    rw [lc_go (enc := fun q : Int × Nat => .tup [.int (q.2 : Nat), .int q.1]) (p := fun q => decide ((((shs L).take q.2).filter fun one => decide (q.1 ≤ one)) = [])) (q := fun q => pD ((q.2 : Int), q.1)) (shs L).zipIdx [] ?_ (by simp [sz]; omega)]
    · rw [hlk, List.map_map]
      rfl
    · intro q hq
      have k28 : (putL (wipeL ls [28, 32]) [(28, .int (q.2 : Nat)), (32, .int q.1)])[28]? = some (some (.int (q.2 : Nat))) := by
        simp [putL, wipeL, S.len]
      have k32 : (putL (wipeL ls [28, 32]) [(28, .int (q.2 : Nat)), (32, .int q.1)])[32]? = some (some (.int q.1)) := by
        simp [putL, wipeL, S.len]
      have k25 : (putL (wipeL ls [28, 32]) [(28, .int (q.2 : Nat)), (32, .int q.1)])[25]? = some (some (.lst ((shs L).map D.int))) := by
        simp [putL, wipeL, g25]
      have kl : (putL (wipeL ls [28, 32]) [(28, .int (q.2 : Nat)), (32, .int q.1)]).length = 33 := by
        simp [putL, wipeL, S.len]
      refine ⟨[(28, .int (q.2 : Nat)), (32, .int q.1)], rfl, rfl, ?_, fun _ => ?_⟩
      · generalize putL (wipeL ls [28, 32]) [(28, .int (q.2 : Nat)), (32, .int q.1)] = m at *
        have hin : mLc [30] (mIt (mSl slF (mVar 25) mNoPart (mPart (mVar 28)))) (mgName 30) (mTest (mBin geF (mVar 30) (mVar 32))) (mVar 30) m (dc a b c :: (t ++ e)) = .ok ((((shs L).take q.2).filter fun one => decide (q.1 ≤ one)).map D.int) (dc a b c :: (t ++ e)) := by
          rw [ap_lc, ap_it, ap_sl, ap_var, k25]
          simp only [Option.bind_some, id, of_some, bind_ok, ap_noPart, ap_part, ap_var, k28, part_int]
          rw [sl_to _ (Int.natCast_nonneg _), Int.toNat_natCast, of_some, bind_ok, it_lst, of_some, bind_ok, ← List.map_take]
          rw [lc_go (enc := D.int) (p := fun one => decide (q.1 ≤ one)) (q := D.int) _ [] ?_ (by simp [sz]; omega)]
          · rfl
          · intro y hy
            have i30 : (putL (wipeL m [30]) [(30, .int y)])[30]? = some (some (.int y)) := by
              simp [putL, wipeL, kl]
            have i32 : (putL (wipeL m [30]) [(30, .int y)])[32]? = some (some (.int q.1)) := by
              simp [putL, wipeL, k32]
            refine ⟨[(30, .int y)], rfl, rfl, ?_, fun _ => ?_⟩
            · generalize putL (wipeL m [30]) [(30, .int y)] = w at *
              simp [mGx, ap_seq, ap_set, ap_ret, ap_expr, ap_ifS, ap_skip, ap_raise, ap_aug, ap_setSub, toS_some, toS_ok, bind_ok, of_some, ap_c, ap_var, ap_bin, ap_test, asB_bl, ap_if, ap_and, ap_or, ap_not, ap_andV, ap_orV, ap_notV, ap_nil, ap_cons, ap_tup, ap_lst, ap_val, ap_box, ap_cb, ap_cbl, ap_call, ap_for, ap_lc, ap_it, ap_yes, ap_sl, ap_noPart, ap_part, part_int, ap_chain2, then_t, then_f, ap_rng1, ap_rng2, ap_rgL, ap_rgT, ap_asg, ap_zip, ap_enumA, ap_par2, add_int, sub_int, lt_int, le_int, gt_int, ge_int, eq_int, ne_int, max2_int, min2_int, int_int, int_bl, it_lst, it_tup, seq_lst, any_lst, any_tup, nox_ok, runF, startL, wipeL, capL, putL, m1, m2, sz, i30, i32]
            · rw [ap_var, i30]
              rfl
        unfold t_law_15
        rw [ap_test, ap_bin, ap_val, hin]
        simp only [bind_ok, ap_val, ap_lst, ap_nil, List.length_nil, sz, Nat.zero_le, if_true]
        rw [eq_nil pl_ints]
        simp [of_some, bind_ok, asB_bl]
      · generalize putL (wipeL ls [28, 32]) [(28, .int (q.2 : Nat)), (32, .int q.1)] = m at *
        unfold e_law_16
        rw [ap_tup]
        simp only [ap_cons, ap_nil, ap_var, k28, k32, Option.bind_some, id, of_some, bind_ok, List.length_cons, List.length_nil, sz, Nat.reduceAdd, Nat.reduceLeDiff, if_true]
        rfl
  have hne : ∀ h : HS, neF h (.lst ((lookF (-1) 0 (shs L)).map pD)) (.lst ((lookF (-1) 0 (shs L)).map pD)) = some (.bl false) := fun h => ne_same pl_rows
  unfold s17_26
  rw [ap_ifS, ap_test, ap_bin, ap_val, ap_cbl]
  unfold m1
  rw [ap_cons, ap_call]
  simp only [ap_cons, ap_nil, ap_var, g23, Option.bind_some, id, of_some, bind_ok, List.length_cons, List.length_nil, List.append_nil]
  simp only [if_true, hg, bind_ok, List.cons_append, listC_any any_tup, of_some]
  rw [ap_val, hlc]
  simp only [bind_ok, hne, of_some, asB_bl, toS_ok, Bool.false_eq_true, if_false, ap_skip]
end
theorem body (ls : LS) (a b c : Int) (t : HS) (hl : ls.length = 33) (h1 : ls[1]? = some (some (.ref 0))) : ∃ ls' hs', b_law_17 ls (dc a b c :: t) = .nx ls' hs' := by
  obtain ⟨l, rs, size, asks, ask, a, b, c, hpro, S, ok, hn, h6, h35, hal, ha, hk1, hk2⟩ := @pro ls a b c t hl h1
  rw [s17_eq, hpro]
  obtain ⟨t, e⟩ := c9 (a := a) (b := b) (c := c) (t := t) S ok
  rw [seq_nx e]
  obtain ⟨t, e⟩ := c10 (a := a) (b := b) (c := c) (t := t) S ok h35
  rw [seq_nx e]
  obtain ⟨t, e⟩ := c11 (a := a) (b := b) (c := c) (t := t) S ok hal ha
  rw [seq_nx e]
  obtain ⟨t, e⟩ := c12 (a := a) (b := b) (c := c) (t := t) S ok hk1 hk2
  rw [seq_nx e]
  obtain ⟨t, e⟩ := c13 (a := a) (b := b) (c := c) (t := t) S ok hk1 h6
  rw [seq_nx e]
  have e := c14 (a := a) (b := b) (c := c) (t := t) S ok hk1 hk2
  rw [seq_nx e]
  have e := c15 (a := a) (b := b) (c := c) (t := t) S ok hk1 hk2
  rw [seq_nx e]
  have S := S.set (i := 14) (by decide) (some (.lst (movesL rs size ask)))
  obtain ⟨l, t, e, S⟩ := c16 (a := a) (b := b) (c := c) (t := t) S ok
  rw [seq_nx e]
  have e : s17_17 l (dc a b c :: t) = .nx (l.set 17 (some (.lst []))) (dc a b c :: t) := set_nx rfl
  rw [seq_nx e]
  have g17 : (l.set 17 (some (.lst [])))[17]? = some (some (.lst [])) := by simp [S.len]
  have S := S.set (i := 17) (by decide) (some (.lst []))
  obtain ⟨l, e, S, g17⟩ := c18 (a := a) (b := b) (c := c) (t := t) S ok g17
  rw [seq_nx e]
  obtain ⟨o, hm⟩ := isMin (waysL rs size ask)
  have e := c19 (a := a) (b := b) (c := c) (t := t) S hm g17
  rw [seq_nx e]
  have g20 : (l.set 20 (some (bestW o)))[20]? = some (some (bestW o)) := by simp [S.len]
  have S := S.set (i := 20) (by decide) (some (bestW o))
  have e := c20 (a := a) (b := b) (c := c) (t := t) S ok hm g20
  rw [seq_nx e]
  have g21 : ((l.set 20 (some (bestW o))).set 21 (some (dueD rs size ask o)))[21]? = some (some (dueD rs size ask o)) := by simp [S.len]
  have S := S.set (i := 21) (by decide) (some (dueD rs size ask o))
  obtain ⟨t, e⟩ := c21 (a := a) (b := b) (c := c) (t := t) S ok hk1 hm g21
  rw [seq_nx e]
  obtain ⟨line, L, a, b, c, e, hl1, hl2, hL, hok⟩ := c22 (a := a) (b := b) (c := c) (t := t) S
  rw [seq_nx e]
  have g22 : ((((l.set 20 (some (bestW o))).set 21 (some (dueD rs size ask o))).set 22 (some (.int line))).set 23 (some (.lst (L.map lk20))))[22]? = some (some (.int line)) := by simp [S.len]
  have g23 : ((((l.set 20 (some (bestW o))).set 21 (some (dueD rs size ask o))).set 22 (some (.int line))).set 23 (some (.lst (L.map lk20))))[23]? = some (some (.lst (L.map lk20))) := by simp [S.len]
  have S := (S.set (i := 22) (by decide) (some (.int line))).set (i := 23) (by decide) (some (.lst (L.map lk20)))
  generalize (((l.set 20 (some (bestW o))).set 21 (some (dueD rs size ask o))).set 22 (some (.int line))).set 23 (some (.lst (L.map lk20))) = l at *
  have e := c23 (a := a) (b := b) (c := c) (t := t) S hal g22 hl1 hl2
  rw [seq_nx e]
  have g24 : (l.set 24 (some (.int (moreV asks line))))[24]? = some (some (.int (moreV asks line))) := by simp [S.len]
  have g22 : (l.set 24 (some (.int (moreV asks line))))[22]? = some (some (.int line)) := by simp [g22]
  have g23 : (l.set 24 (some (.int (moreV asks line))))[23]? = some (some (.lst (L.map lk20))) := by simp [g23]
  have S := S.set (i := 24) (by decide) (some (.int (moreV asks line)))
  generalize l.set 24 (some (.int (moreV asks line))) = l at *
  have e := c24 (a := a) (b := b) (c := c) (t := t) S g23 hL hok
  rw [seq_nx e]
  have g25 : (l.set 25 (some (.lst ((shs L).map D.int))))[25]? = some (some (.lst ((shs L).map D.int))) := by simp [S.len]
  have g24 : (l.set 25 (some (.lst ((shs L).map D.int))))[24]? = some (some (.int (moreV asks line))) := by simp [g24]
  have g22 : (l.set 25 (some (.lst ((shs L).map D.int))))[22]? = some (some (.int line)) := by simp [g22]
  have g23 : (l.set 25 (some (.lst ((shs L).map D.int))))[23]? = some (some (.lst (L.map lk20))) := by simp [g23]
  have S := S.set (i := 25) (by decide) (some (.lst ((shs L).map D.int)))
  generalize l.set 25 (some (.lst ((shs L).map D.int))) = l at *
  have e := c25 (a := a) (b := b) (c := c) (t := t) S hal ha g22 g24 hl1 hl2
  rw [seq_nx e]
  obtain ⟨t, e⟩ := c26 (a := a) (b := b) (c := c) (t := t) S g23 g25 hL hok
  exact ⟨_, _, e⟩
end K16

set_option Elab.async false
set_option linter.all false
set_option maxRecDepth 100000
set_option maxHeartbeats 1000000
namespace K16
open PySem Fx
theorem law_true (ns : List Int) : ∃ hs', F_law [.con ns] [] = .ok (.bl true) hs' := by
  obtain ⟨a, b, c, hr⟩ := f_rounds ns
  obtain ⟨ls', hs', hb⟩ := body (putL (startL 33 [.con ns]) [(1, .ref 0)]) a b c [] rfl rfl
  have h0 : mIt (mCall 2 [] F__law_rounds (mCons (mVar 0) (mCons (mC (.int 1)) mNil))) (startL 33 [.con ns]) [] = .ok ([.ref 0], none) [dc a b c] := by
    rw [ap_it, ap_call]
    simp only [ap_cons, ap_nil, ap_var, ap_c, bind_ok, of_some, List.length_cons, List.length_nil, List.append_nil, startL, List.map_cons, List.map_nil, List.cons_append, List.getElem?_cons_zero, Option.bind_some, id]
    simp only [if_true, hr, bind_ok, it_lst, of_some]
  have h1 : mFor (mIt (mCall 2 [] F__law_rounds (mCons (mVar 0) (mCons (mC (.int 1)) mNil)))) (mgName 1) b_law_17 (startL 33 [.con ns]) [] = .nx ls' hs' := by
    rw [ap_for, h0, toS_ok]
    simp only [forD, guardOk, if_true, mgName, hb]
  refine ⟨hs', runF_rt ?_⟩
  unfold m_law
  rw [seq_nx h1, ap_ret, ap_call, ap_nil, bind_ok]
  simp only [List.length_nil, List.append_nil, if_true, plain_true, toS_ok]
end K16

set_option Elab.async false
set_option linter.all false
set_option maxRecDepth 100000
set_option maxHeartbeats 0
namespace K16
open PySem PySem.Spec PyProof.Rows L2 Fx

def dd_check_rows : He.DefD := ⟨("check_rows", none), "check_rows", "check_rows", defArgs st_check_rows, defBody st_check_rows, defScope st_check_rows, [], []⟩
def dd_gaps_between : He.DefD := ⟨("gaps_between", none), "gaps_between", "gaps_between", defArgs st_gaps_between, defBody st_gaps_between, defScope st_gaps_between, [], []⟩
def dd_parted_share : He.DefD := ⟨("parted_share", none), "parted_share", "parted_share", defArgs st_parted_share, defBody st_parted_share, defScope st_parted_share, [], []⟩
def dd_even_share : He.DefD := ⟨("even_share", none), "even_share", "even_share", defArgs st_even_share, defBody st_even_share, defScope st_even_share, [], []⟩
def dd_gap_counts : He.DefD := ⟨("gap_counts", none), "gap_counts", "gap_counts", defArgs st_gap_counts, defBody st_gap_counts, defScope st_gap_counts, [], []⟩
def dd_cannot_fit : He.DefD := ⟨("cannot_fit", none), "cannot_fit", "cannot_fit", defArgs st_cannot_fit, defBody st_cannot_fit, defScope st_cannot_fit, [], []⟩
def dd_how_many_fit : He.DefD := ⟨("how_many_fit", none), "how_many_fit", "how_many_fit", defArgs st_how_many_fit, defBody st_how_many_fit, defScope st_how_many_fit, [], []⟩
def dd_map_text : He.DefD := ⟨("map_text", none), "map_text", "map_text", defArgs st_map_text, defBody st_map_text, defScope st_map_text, [], []⟩
def dd_moves_to_fit : He.DefD := ⟨("moves_to_fit", none), "moves_to_fit", "moves_to_fit", defArgs st_moves_to_fit, defBody st_moves_to_fit, defScope st_moves_to_fit, [], []⟩
def dd_joins_by_free : He.DefD := ⟨("joins_by_free", none), "joins_by_free", "joins_by_free", defArgs st_joins_by_free, defBody st_joins_by_free, defScope st_joins_by_free, [], []⟩
def dd_waste_of_lines : He.DefD := ⟨("waste_of_lines", none), "waste_of_lines", "waste_of_lines", defArgs st_waste_of_lines, defBody st_waste_of_lines, defScope st_waste_of_lines, [], []⟩
def dd_look_back : He.DefD := ⟨("look_back", none), "look_back", "look_back", defArgs st_look_back, defBody st_look_back, defScope st_look_back, [], []⟩
def dd__law_dice : He.DefD := ⟨("_law_dice", none), "_law_dice", "_law_dice", defArgs st__law_dice, defBody st__law_dice, defScope st__law_dice, [], []⟩
def dd__law_roll : He.DefD := ⟨("_law_roll", none), "_law_roll", "_law_roll", defArgs st__law_roll, defBody st__law_roll, defScope st__law_roll, [], []⟩
def dd__law_rounds : He.DefD := ⟨("_law_rounds", none), "_law_rounds", "_law_rounds", defArgs st__law_rounds, defBody st__law_rounds, defScope st__law_rounds, [], []⟩
def dd__law_rooms : He.DefD := ⟨("_law_rooms", none), "_law_rooms", "_law_rooms", defArgs st__law_rooms, defBody st__law_rooms, defScope st__law_rooms, [], []⟩
def dd__law_gaps : He.DefD := ⟨("_law_gaps", none), "_law_gaps", "_law_gaps", defArgs st__law_gaps, defBody st__law_gaps, defScope st__law_gaps, [], []⟩
def dd__law_share : He.DefD := ⟨("_law_share", none), "_law_share", "_law_share", defArgs st__law_share, defBody st__law_share, defScope st__law_share, [], []⟩
def dd__law_map : He.DefD := ⟨("_law_map", none), "_law_map", "_law_map", defArgs st__law_map, defBody st__law_map, defScope st__law_map, [], []⟩
def dd_best_to_free : He.DefD := ⟨("best_to_free", none), "best_to_free", "best_to_free", defArgs st_best_to_free, defBody st_best_to_free, defScope st_best_to_free, [], []⟩
def dd__law_plain : He.DefD := ⟨("_law_plain", none), "_law_plain", "_law_plain", defArgs st__law_plain, defBody st__law_plain, defScope st__law_plain, [], []⟩
def dd_law : He.DefD := ⟨("law", none), "law", "law", defArgs st_law, defBody st_law, defScope st_law, [], []⟩
def dd__law_told : He.DefD := ⟨("_law_told", none), "_law_told", "_law_told", defArgs st__law_told, defBody st__law_told, defScope st__law_told, [], []⟩
def fn : List He.DefD := ([dd_check_rows, dd_gaps_between, dd_parted_share, dd_even_share, dd_gap_counts, dd_cannot_fit, dd_how_many_fit, dd_map_text, dd_moves_to_fit, dd_joins_by_free, dd_waste_of_lines, dd_look_back, dd__law_dice, dd__law_roll, dd__law_rounds, dd__law_rooms, dd__law_gaps, dd__law_share, dd__law_map, dd_best_to_free, dd__law_plain, dd_law, dd__law_told] : List He.DefD)
def fa : List He.Fa := (([.glo "check_rows", .glo "gaps_between", .glo "parted_share", .glo "even_share", .glo "gap_counts", .glo "cannot_fit", .glo "how_many_fit", .glo "map_text", .glo "moves_to_fit", .glo "joins_by_free", .glo "waste_of_lines", .glo "look_back", .glo "_law_dice", .glo "_law_roll", .glo "_law_rounds", .glo "_law_rooms", .glo "_law_gaps", .glo "_law_share", .glo "_law_map", .glo "best_to_free", .glo "_law_plain", .glo "law", .glo "_law_told"] : List He.Fa)) ++ (bltNames.map He.Fa.free ++ (([.int "MOST_CELLS" 2000, .glo "GapError", .exc "GapError", .exm "GapError" "GapError" true] : List He.Fa)))
def tq : TQ := [("check_rows", "<genexpr>"), ("even_share", "<genexpr>"), ("cannot_fit", "<genexpr>"), ("how_many_fit", "<genexpr>"), ("map_text", "<genexpr>"), ("moves_to_fit", "<genexpr>"), ("waste_of_lines", "<genexpr>"), ("best_to_free", "<genexpr>"), ("_law_plain", "<lambda>")]
def ex (K : PySem.W.Frag) : Bool := decide (((tfOf tq).map fun p => (He.cT K p).2).Nodup)
abbrev rowR : PySem.W.OpenRow := PySem.W.OpenLaw.row PySem.Challenge.rw_memorystack_k16_gaps_and_maps
abbrev hk : PySem.W.Hook := He.hookX 4 fa fn [] (tfOf tq) ex
def ob (s : PySem.W.SharedT) : He.AlX := He.obsX 4 fa fn [] (tfOf tq) ex (HandSHeadRun.getT s)
theorem ob_eq (s : PySem.W.SharedT) : ob s = hk.obs s.abs := He.obsX_eq (HandSHeadRun.getT_eq s)
def loose : List Str := (["MemoryFault", "GapError", "MOST_CELLS", "check_rows", "gaps_between", "parted_share", "even_share", "gap_counts", "cannot_fit", "how_many_fit", "map_text", "moves_to_fit", "joins_by_free", "best_to_free", "waste_of_lines", "look_back", "_law_dice", "_law_roll", "_law_rounds", "_law_told", "_law_rooms", "_law_gaps", "_law_share", "_law_map", "_law_plain"] : List Str)
theorem run (w : World) : HandSHeadRun.RunEq rowR (PySem.W.view rowR.prog [28]) hk ob 4000 loose w := by
  intro os
  kernel_rfl
end K16

set_option Elab.async false
set_option linter.all false
set_option maxRecDepth 100000
set_option maxHeartbeats 0
namespace K16
open PySem PySem.Spec PyProof.Rows L2 Fx

structure Wd (K : PySem.W.Frag) (mg : Str → Option Value) : Prop where
  nb : NB mg
  nd : ((tfOf tq).map fun p => (He.cT K p).2).Nodup
  gm_check_rows : mg "check_rows" = some (.ref (He.ga K "check_rows"))
  fd_check_rows : ∃ fd, FunT K "check_rows" st_check_rows fd
  gm_gaps_between : mg "gaps_between" = some (.ref (He.ga K "gaps_between"))
  fd_gaps_between : ∃ fd, FunT K "gaps_between" st_gaps_between fd
  gm_parted_share : mg "parted_share" = some (.ref (He.ga K "parted_share"))
  fd_parted_share : ∃ fd, FunT K "parted_share" st_parted_share fd
  gm_even_share : mg "even_share" = some (.ref (He.ga K "even_share"))
  fd_even_share : ∃ fd, FunT K "even_share" st_even_share fd
  gm_gap_counts : mg "gap_counts" = some (.ref (He.ga K "gap_counts"))
  fd_gap_counts : ∃ fd, FunT K "gap_counts" st_gap_counts fd
  gm_cannot_fit : mg "cannot_fit" = some (.ref (He.ga K "cannot_fit"))
  fd_cannot_fit : ∃ fd, FunT K "cannot_fit" st_cannot_fit fd
  gm_how_many_fit : mg "how_many_fit" = some (.ref (He.ga K "how_many_fit"))
  fd_how_many_fit : ∃ fd, FunT K "how_many_fit" st_how_many_fit fd
  gm_map_text : mg "map_text" = some (.ref (He.ga K "map_text"))
  fd_map_text : ∃ fd, FunT K "map_text" st_map_text fd
  gm_moves_to_fit : mg "moves_to_fit" = some (.ref (He.ga K "moves_to_fit"))
  fd_moves_to_fit : ∃ fd, FunT K "moves_to_fit" st_moves_to_fit fd
  gm_joins_by_free : mg "joins_by_free" = some (.ref (He.ga K "joins_by_free"))
  fd_joins_by_free : ∃ fd, FunT K "joins_by_free" st_joins_by_free fd
  gm_waste_of_lines : mg "waste_of_lines" = some (.ref (He.ga K "waste_of_lines"))
  fd_waste_of_lines : ∃ fd, FunT K "waste_of_lines" st_waste_of_lines fd
  gm_look_back : mg "look_back" = some (.ref (He.ga K "look_back"))
  fd_look_back : ∃ fd, FunT K "look_back" st_look_back fd
  gm__law_dice : mg "_law_dice" = some (.ref (He.ga K "_law_dice"))
  fd__law_dice : ∃ fd, FunT K "_law_dice" st__law_dice fd
  gm__law_roll : mg "_law_roll" = some (.ref (He.ga K "_law_roll"))
  fd__law_roll : ∃ fd, FunT K "_law_roll" st__law_roll fd
  gm__law_rounds : mg "_law_rounds" = some (.ref (He.ga K "_law_rounds"))
  fd__law_rounds : ∃ fd, FunT K "_law_rounds" st__law_rounds fd
  gm__law_rooms : mg "_law_rooms" = some (.ref (He.ga K "_law_rooms"))
  fd__law_rooms : ∃ fd, FunT K "_law_rooms" st__law_rooms fd
  gm__law_gaps : mg "_law_gaps" = some (.ref (He.ga K "_law_gaps"))
  fd__law_gaps : ∃ fd, FunT K "_law_gaps" st__law_gaps fd
  gm__law_share : mg "_law_share" = some (.ref (He.ga K "_law_share"))
  fd__law_share : ∃ fd, FunT K "_law_share" st__law_share fd
  gm__law_map : mg "_law_map" = some (.ref (He.ga K "_law_map"))
  fd__law_map : ∃ fd, FunT K "_law_map" st__law_map fd
  gm_best_to_free : mg "best_to_free" = some (.ref (He.ga K "best_to_free"))
  fd_best_to_free : ∃ fd, FunT K "best_to_free" st_best_to_free fd
  gm__law_plain : mg "_law_plain" = some (.ref (He.ga K "_law_plain"))
  fd__law_plain : ∃ fd, FunT K "_law_plain" st__law_plain fd
  gm_law : mg "law" = some (.ref (He.ga K "law"))
  fd_law : ∃ fd, FunT K "law" st_law fd
  gm__law_told : mg "_law_told" = some (.ref (He.ga K "_law_told"))
  fd__law_told : ∃ fd, FunT K "_law_told" st__law_told fd
  c_MOST_CELLS : ∃ t, mg "MOST_CELLS" = some (.int 2000 t)
  e_GapError : mg "GapError" = some (.ref (He.ga K "GapError"))
  x_GapError : (He.Fa.exc "GapError").ok K = true
  exm : PySem.W.exmOne K (.ref (He.ga K "GapError")) (.ref (He.ga K "GapError")) = some true
theorem wd_of {w : World} {K : PySem.W.Frag} {h : Heap} {mg : Str → Option Value} (X : K.In h) (G : h.Ns mainGlobals mg) (c : He.SaysX fa fn [] (tfOf tq) ex w h K) : Wd K mg :=
  ⟨fun x hx => He.free_ok X G (c.t.d.facts (f := .free x) (List.mem_append_right _ (List.mem_append_left _ (List.mem_map_of_mem hx)))),
  of_decide_eq_true c.more,
  He.glo_ok X G (c.t.d.fact 0 (f := .glo "check_rows") rfl),
  c.t.d.def_ 0 (d := dd_check_rows) rfl,
  He.glo_ok X G (c.t.d.fact 1 (f := .glo "gaps_between") rfl),
  c.t.d.def_ 1 (d := dd_gaps_between) rfl,
  He.glo_ok X G (c.t.d.fact 2 (f := .glo "parted_share") rfl),
  c.t.d.def_ 2 (d := dd_parted_share) rfl,
  He.glo_ok X G (c.t.d.fact 3 (f := .glo "even_share") rfl),
  c.t.d.def_ 3 (d := dd_even_share) rfl,
  He.glo_ok X G (c.t.d.fact 4 (f := .glo "gap_counts") rfl),
  c.t.d.def_ 4 (d := dd_gap_counts) rfl,
  He.glo_ok X G (c.t.d.fact 5 (f := .glo "cannot_fit") rfl),
  c.t.d.def_ 5 (d := dd_cannot_fit) rfl,
  He.glo_ok X G (c.t.d.fact 6 (f := .glo "how_many_fit") rfl),
  c.t.d.def_ 6 (d := dd_how_many_fit) rfl,
  He.glo_ok X G (c.t.d.fact 7 (f := .glo "map_text") rfl),
  c.t.d.def_ 7 (d := dd_map_text) rfl,
  He.glo_ok X G (c.t.d.fact 8 (f := .glo "moves_to_fit") rfl),
  c.t.d.def_ 8 (d := dd_moves_to_fit) rfl,
  He.glo_ok X G (c.t.d.fact 9 (f := .glo "joins_by_free") rfl),
  c.t.d.def_ 9 (d := dd_joins_by_free) rfl,
  He.glo_ok X G (c.t.d.fact 10 (f := .glo "waste_of_lines") rfl),
  c.t.d.def_ 10 (d := dd_waste_of_lines) rfl,
  He.glo_ok X G (c.t.d.fact 11 (f := .glo "look_back") rfl),
  c.t.d.def_ 11 (d := dd_look_back) rfl,
  He.glo_ok X G (c.t.d.fact 12 (f := .glo "_law_dice") rfl),
  c.t.d.def_ 12 (d := dd__law_dice) rfl,
  He.glo_ok X G (c.t.d.fact 13 (f := .glo "_law_roll") rfl),
  c.t.d.def_ 13 (d := dd__law_roll) rfl,
  He.glo_ok X G (c.t.d.fact 14 (f := .glo "_law_rounds") rfl),
  c.t.d.def_ 14 (d := dd__law_rounds) rfl,
  He.glo_ok X G (c.t.d.fact 15 (f := .glo "_law_rooms") rfl),
  c.t.d.def_ 15 (d := dd__law_rooms) rfl,
  He.glo_ok X G (c.t.d.fact 16 (f := .glo "_law_gaps") rfl),
  c.t.d.def_ 16 (d := dd__law_gaps) rfl,
  He.glo_ok X G (c.t.d.fact 17 (f := .glo "_law_share") rfl),
  c.t.d.def_ 17 (d := dd__law_share) rfl,
  He.glo_ok X G (c.t.d.fact 18 (f := .glo "_law_map") rfl),
  c.t.d.def_ 18 (d := dd__law_map) rfl,
  He.glo_ok X G (c.t.d.fact 19 (f := .glo "best_to_free") rfl),
  c.t.d.def_ 19 (d := dd_best_to_free) rfl,
  He.glo_ok X G (c.t.d.fact 20 (f := .glo "_law_plain") rfl),
  c.t.d.def_ 20 (d := dd__law_plain) rfl,
  He.glo_ok X G (c.t.d.fact 21 (f := .glo "law") rfl),
  c.t.d.def_ 21 (d := dd_law) rfl,
  He.glo_ok X G (c.t.d.fact 22 (f := .glo "_law_told") rfl),
  c.t.d.def_ 22 (d := dd__law_told) rfl,
  He.int_ok X G (c.t.d.fact 39 (f := .int "MOST_CELLS" 2000) rfl),
  He.glo_ok X G (c.t.d.fact 40 (f := .glo "GapError") rfl),
  c.t.d.fact 41 (f := .exc "GapError") rfl,
  of_decide_eq_true (c.t.d.fact 42 (f := .exm "GapError" "GapError" true) rfl)⟩
def clsOf (K : PySem.W.Frag) (n : Nat) : Addr := He.ga K (([("GapError" : Str)] : List Str).getD n "")
abbrev GT (K : PySem.W.Frag) (lm : Nat → Addr → Addr → HO) (lq : Str) : Sta := ⟨K, clsOf K, tabsOf K tq, lm, lq⟩
section
variable {P : Program} {w : World} {K : PySem.W.Frag} {mg : Str → Option Value} {base : Heap}
theorem told (W : Wd K mg) : ToldD K mg st__law_told (clsOf K 0) "GapError" := by
  obtain ⟨fd, F⟩ := W.fd__law_told
  exact toldD_of (e := "GapError") F W.gm__law_told ⟨rfl, rfl, rfl, by decide +kernel, rfl, by decide +kernel, by decide +kernel⟩ (fun _ _ _ _ _ _ us hl => match us, hl with | [_], _ => rfl) rfl rfl (by decide) (by first | exact Or.inl rfl | exact Or.inr (Or.inl rfl) | exact Or.inr (Or.inr rfl)) W.e_GapError W.exm
theorem n_check_rows (W : Wd K mg) (TB : ∀ p ∈ (tfOf tq).map (He.cT K), LamX.TabB base mg p.1 p.2) (lm : Nat → Addr → Addr → HO) (lq : Str) : Fnd P w K mg base (GT K lm lq) "check_rows" 6 2 F_check_rows := by
  obtain ⟨fd, F⟩ := W.fd_check_rows
  exact fnd_of (N := nm_check_rows) (ps := ["rows", "size"]) F W.gm_check_rows ⟨rfl, rfl, rfl, nd_check_rows, rfl, by decide +kernel, by decide +kernel⟩ rfl (fun _ _ _ _ _ _ us hl => match us, hl with | [_, _], _ => rfl) fun A outer s H E hr => d_check_rows ⟨W.nb, W.c_MOST_CELLS, (fun {X} hK hm hg => excOk_of (by rw [hK]; exact W.x_GapError) (by rw [hm, hK]; exact W.e_GapError) hg (by rw [hK]; rfl))⟩ (fun _ _ _ _ _ => gxT_of W.nd TB (by decide +kernel)) A outer s H E hr
theorem n_gaps_between (W : Wd K mg) (TB : ∀ p ∈ (tfOf tq).map (He.cT K), LamX.TabB base mg p.1 p.2) (lm : Nat → Addr → Addr → HO) (lq : Str) : Fnd P w K mg base (GT K lm lq) "gaps_between" 7 2 F_gaps_between := by
  obtain ⟨fd, F⟩ := W.fd_gaps_between
  exact fnd_of (N := nm_gaps_between) (ps := ["rows", "size"]) F W.gm_gaps_between ⟨rfl, rfl, rfl, nd_gaps_between, rfl, by decide +kernel, by decide +kernel⟩ rfl (fun _ _ _ _ _ _ us hl => match us, hl with | [_, _], _ => rfl) fun A outer s H E hr => d_gaps_between ⟨W.nb, n_check_rows W TB lm lq⟩ A outer s H E hr
theorem n_parted_share (W : Wd K mg) (TB : ∀ p ∈ (tfOf tq).map (He.cT K), LamX.TabB base mg p.1 p.2) (lm : Nat → Addr → Addr → HO) (lq : Str) : Fnd P w K mg base (GT K lm lq) "parted_share" 8 2 F_parted_share := by
  obtain ⟨fd, F⟩ := W.fd_parted_share
  exact fnd_of (N := nm_parted_share) (ps := ["rows", "size"]) F W.gm_parted_share ⟨rfl, rfl, rfl, nd_parted_share, rfl, by decide +kernel, by decide +kernel⟩ rfl (fun _ _ _ _ _ _ us hl => match us, hl with | [_, _], _ => rfl) fun A outer s H E hr => d_parted_share ⟨W.nb, n_gaps_between W TB lm lq⟩ A outer s H E hr
theorem n_even_share (W : Wd K mg) (TB : ∀ p ∈ (tfOf tq).map (He.cT K), LamX.TabB base mg p.1 p.2) (lm : Nat → Addr → Addr → HO) (lq : Str) : Fnd P w K mg base (GT K lm lq) "even_share" 8 2 F_even_share := by
  obtain ⟨fd, F⟩ := W.fd_even_share
  exact fnd_of (N := nm_even_share) (ps := ["rows", "size"]) F W.gm_even_share ⟨rfl, rfl, rfl, nd_even_share, rfl, by decide +kernel, by decide +kernel⟩ rfl (fun _ _ _ _ _ _ us hl => match us, hl with | [_, _], _ => rfl) fun A outer s H E hr => d_even_share ⟨W.nb, n_gaps_between W TB lm lq⟩ (fun _ _ _ _ _ => gxT_of W.nd TB (by decide +kernel)) A outer s H E hr
theorem n_gap_counts (W : Wd K mg) (TB : ∀ p ∈ (tfOf tq).map (He.cT K), LamX.TabB base mg p.1 p.2) (lm : Nat → Addr → Addr → HO) (lq : Str) : Fnd P w K mg base (GT K lm lq) "gap_counts" 8 2 F_gap_counts := by
  obtain ⟨fd, F⟩ := W.fd_gap_counts
  exact fnd_of (N := nm_gap_counts) (ps := ["rows", "size"]) F W.gm_gap_counts ⟨rfl, rfl, rfl, nd_gap_counts, rfl, by decide +kernel, by decide +kernel⟩ rfl (fun _ _ _ _ _ _ us hl => match us, hl with | [_, _], _ => rfl) fun A outer s H E hr => d_gap_counts ⟨W.nb, n_gaps_between W TB lm lq⟩ A outer s H E hr
theorem n_cannot_fit (W : Wd K mg) (TB : ∀ p ∈ (tfOf tq).map (He.cT K), LamX.TabB base mg p.1 p.2) (lm : Nat → Addr → Addr → HO) (lq : Str) : Fnd P w K mg base (GT K lm lq) "cannot_fit" 8 3 F_cannot_fit := by
  obtain ⟨fd, F⟩ := W.fd_cannot_fit
  exact fnd_of (N := nm_cannot_fit) (ps := ["rows", "size", "asks"]) F W.gm_cannot_fit ⟨rfl, rfl, rfl, nd_cannot_fit, rfl, by decide +kernel, by decide +kernel⟩ rfl (fun _ _ _ _ _ _ us hl => match us, hl with | [_, _, _], _ => rfl) fun A outer s H E hr => d_cannot_fit ⟨W.nb, (fun {X} hK hm hg => excOk_of (by rw [hK]; exact W.x_GapError) (by rw [hm, hK]; exact W.e_GapError) hg (by rw [hK]; rfl)), n_gaps_between W TB lm lq⟩ (fun _ _ _ _ _ => gxT_of W.nd TB (by decide +kernel)) A outer s H E hr
theorem n_how_many_fit (W : Wd K mg) (TB : ∀ p ∈ (tfOf tq).map (He.cT K), LamX.TabB base mg p.1 p.2) (lm : Nat → Addr → Addr → HO) (lq : Str) : Fnd P w K mg base (GT K lm lq) "how_many_fit" 8 3 F_how_many_fit := by
  obtain ⟨fd, F⟩ := W.fd_how_many_fit
  exact fnd_of (N := nm_how_many_fit) (ps := ["rows", "size", "ask"]) F W.gm_how_many_fit ⟨rfl, rfl, rfl, nd_how_many_fit, rfl, by decide +kernel, by decide +kernel⟩ rfl (fun _ _ _ _ _ _ us hl => match us, hl with | [_, _, _], _ => rfl) fun A outer s H E hr => d_how_many_fit ⟨W.nb, (fun {X} hK hm hg => excOk_of (by rw [hK]; exact W.x_GapError) (by rw [hm, hK]; exact W.e_GapError) hg (by rw [hK]; rfl)), n_gaps_between W TB lm lq⟩ (fun _ _ _ _ _ => gxT_of W.nd TB (by decide +kernel)) A outer s H E hr
theorem n_map_text (W : Wd K mg) (TB : ∀ p ∈ (tfOf tq).map (He.cT K), LamX.TabB base mg p.1 p.2) (lm : Nat → Addr → Addr → HO) (lq : Str) : Fnd P w K mg base (GT K lm lq) "map_text" 7 3 F_map_text := by
  obtain ⟨fd, F⟩ := W.fd_map_text
  exact fnd_of (N := nm_map_text) (ps := ["rows", "size", "wide"]) F W.gm_map_text ⟨rfl, rfl, rfl, nd_map_text, rfl, by decide +kernel, by decide +kernel⟩ rfl (fun _ _ _ _ _ _ us hl => match us, hl with | [_, _, _], _ => rfl) fun A outer s H E hr => d_map_text ⟨W.nb, (fun {X} hK hm hg => excOk_of (by rw [hK]; exact W.x_GapError) (by rw [hm, hK]; exact W.e_GapError) hg (by rw [hK]; rfl)), n_check_rows W TB lm lq⟩ (fun _ _ _ _ _ => gxT_of W.nd TB (by decide +kernel)) A outer s H E hr
theorem n_moves_to_fit (W : Wd K mg) (TB : ∀ p ∈ (tfOf tq).map (He.cT K), LamX.TabB base mg p.1 p.2) (lm : Nat → Addr → Addr → HO) (lq : Str) : Fnd P w K mg base (GT K lm lq) "moves_to_fit" 7 3 F_moves_to_fit := by
  obtain ⟨fd, F⟩ := W.fd_moves_to_fit
  exact fnd_of (N := nm_moves_to_fit) (ps := ["rows", "size", "ask"]) F W.gm_moves_to_fit ⟨rfl, rfl, rfl, nd_moves_to_fit, rfl, by decide +kernel, by decide +kernel⟩ rfl (fun _ _ _ _ _ _ us hl => match us, hl with | [_, _, _], _ => rfl) fun A outer s H E hr => d_moves_to_fit ⟨W.nb, (fun {X} hK hm hg => excOk_of (by rw [hK]; exact W.x_GapError) (by rw [hm, hK]; exact W.e_GapError) hg (by rw [hK]; rfl)), n_check_rows W TB lm lq⟩ (fun _ _ _ _ _ => gxT_of W.nd TB (by decide +kernel)) A outer s H E hr
theorem n_joins_by_free (W : Wd K mg) (TB : ∀ p ∈ (tfOf tq).map (He.cT K), LamX.TabB base mg p.1 p.2) (lm : Nat → Addr → Addr → HO) (lq : Str) : Fnd P w K mg base (GT K lm lq) "joins_by_free" 8 3 F_joins_by_free := by
  obtain ⟨fd, F⟩ := W.fd_joins_by_free
  exact fnd_of (N := nm_joins_by_free) (ps := ["rows", "size", "spot"]) F W.gm_joins_by_free ⟨rfl, rfl, rfl, nd_joins_by_free, rfl, by decide +kernel, by decide +kernel⟩ rfl (fun _ _ _ _ _ _ us hl => match us, hl with | [_, _, _], _ => rfl) fun A outer s H E hr => d_joins_by_free ⟨W.nb, (fun {X} hK hm hg => excOk_of (by rw [hK]; exact W.x_GapError) (by rw [hm, hK]; exact W.e_GapError) hg (by rw [hK]; rfl)), n_check_rows W TB lm lq, n_gaps_between W TB lm lq⟩ A outer s H E hr
theorem n_waste_of_lines (W : Wd K mg) (TB : ∀ p ∈ (tfOf tq).map (He.cT K), LamX.TabB base mg p.1 p.2) (lm : Nat → Addr → Addr → HO) (lq : Str) : Fnd P w K mg base (GT K lm lq) "waste_of_lines" 6 2 F_waste_of_lines := by
  obtain ⟨fd, F⟩ := W.fd_waste_of_lines
  exact fnd_of (N := nm_waste_of_lines) (ps := ["sizes", "line"]) F W.gm_waste_of_lines ⟨rfl, rfl, rfl, nd_waste_of_lines, rfl, by decide +kernel, by decide +kernel⟩ rfl (fun _ _ _ _ _ _ us hl => match us, hl with | [_, _], _ => rfl) fun A outer s H E hr => d_waste_of_lines ⟨W.nb, (fun {X} hK hm hg => excOk_of (by rw [hK]; exact W.x_GapError) (by rw [hm, hK]; exact W.e_GapError) hg (by rw [hK]; rfl))⟩ (fun _ _ _ _ _ => gxT_of W.nd TB (by decide +kernel)) A outer s H E hr
theorem n_look_back (W : Wd K mg) (TB : ∀ p ∈ (tfOf tq).map (He.cT K), LamX.TabB base mg p.1 p.2) (lm : Nat → Addr → Addr → HO) (lq : Str) : Fnd P w K mg base (GT K lm lq) "look_back" 9 1 F_look_back := by
  obtain ⟨fd, F⟩ := W.fd_look_back
  exact fnd_of (N := nm_look_back) (ps := ["looks"]) F W.gm_look_back ⟨rfl, rfl, rfl, nd_look_back, rfl, by decide +kernel, by decide +kernel⟩ rfl (fun _ _ _ _ _ _ us hl => match us, hl with | [_], _ => rfl) fun A outer s H E hr => d_look_back ⟨W.nb, n_parted_share W TB lm lq⟩ A outer s H E hr
theorem n__law_dice (W : Wd K mg) (TB : ∀ p ∈ (tfOf tq).map (He.cT K), LamX.TabB base mg p.1 p.2) (lm : Nat → Addr → Addr → HO) (lq : Str) : Fnd P w K mg base (GT K lm lq) "_law_dice" 1 1 F__law_dice := by
  obtain ⟨fd, F⟩ := W.fd__law_dice
  exact fnd_of (N := nm__law_dice) (ps := ["cell"]) F W.gm__law_dice ⟨rfl, rfl, rfl, nd__law_dice, rfl, by decide +kernel, by decide +kernel⟩ rfl (fun _ _ _ _ _ _ us hl => match us, hl with | [_], _ => rfl) fun A outer s H E hr => d__law_dice ⟨W.nb⟩ A outer s H E hr
theorem n__law_roll (W : Wd K mg) (TB : ∀ p ∈ (tfOf tq).map (He.cT K), LamX.TabB base mg p.1 p.2) (lm : Nat → Addr → Addr → HO) (lq : Str) : Fnd P w K mg base (GT K lm lq) "_law_roll" 2 2 F__law_roll := by
  obtain ⟨fd, F⟩ := W.fd__law_roll
  exact fnd_of (N := nm__law_roll) (ps := ["dice", "many"]) F W.gm__law_roll ⟨rfl, rfl, rfl, nd__law_roll, rfl, by decide +kernel, by decide +kernel⟩ rfl (fun _ _ _ _ _ _ us hl => match us, hl with | [_, _], _ => rfl) fun A outer s H E hr => d__law_roll ⟨W.nb⟩ A outer s H E hr
theorem n__law_rounds (W : Wd K mg) (TB : ∀ p ∈ (tfOf tq).map (He.cT K), LamX.TabB base mg p.1 p.2) (lm : Nat → Addr → Addr → HO) (lq : Str) : Fnd P w K mg base (GT K lm lq) "_law_rounds" 2 2 F__law_rounds := by
  obtain ⟨fd, F⟩ := W.fd__law_rounds
  exact fnd_of (N := nm__law_rounds) (ps := ["script", "most"]) F W.gm__law_rounds ⟨rfl, rfl, rfl, nd__law_rounds, rfl, by decide +kernel, by decide +kernel⟩ rfl (fun _ _ _ _ _ _ us hl => match us, hl with | [_, _], _ => rfl) fun A outer s H E hr => d__law_rounds ⟨W.nb, n__law_dice W TB lm lq⟩ A outer s H E hr
theorem n__law_rooms (W : Wd K mg) (TB : ∀ p ∈ (tfOf tq).map (He.cT K), LamX.TabB base mg p.1 p.2) (lm : Nat → Addr → Addr → HO) (lq : Str) : Fnd P w K mg base (GT K lm lq) "_law_rooms" 3 2 F__law_rooms := by
  obtain ⟨fd, F⟩ := W.fd__law_rooms
  exact fnd_of (N := nm__law_rooms) (ps := ["dice", "size"]) F W.gm__law_rooms ⟨rfl, rfl, rfl, nd__law_rooms, rfl, by decide +kernel, by decide +kernel⟩ rfl (fun _ _ _ _ _ _ us hl => match us, hl with | [_, _], _ => rfl) fun A outer s H E hr => d__law_rooms ⟨W.nb, n__law_roll W TB lm lq⟩ A outer s H E hr
theorem n__law_gaps (W : Wd K mg) (TB : ∀ p ∈ (tfOf tq).map (He.cT K), LamX.TabB base mg p.1 p.2) (lm : Nat → Addr → Addr → HO) (lq : Str) : Fnd P w K mg base (GT K lm lq) "_law_gaps" 1 2 F__law_gaps := by
  obtain ⟨fd, F⟩ := W.fd__law_gaps
  exact fnd_of (N := nm__law_gaps) (ps := ["rows", "size"]) F W.gm__law_gaps ⟨rfl, rfl, rfl, nd__law_gaps, rfl, by decide +kernel, by decide +kernel⟩ rfl (fun _ _ _ _ _ _ us hl => match us, hl with | [_, _], _ => rfl) fun A outer s H E hr => d__law_gaps ⟨W.nb⟩ A outer s H E hr
theorem n__law_share (W : Wd K mg) (TB : ∀ p ∈ (tfOf tq).map (He.cT K), LamX.TabB base mg p.1 p.2) (lm : Nat → Addr → Addr → HO) (lq : Str) : Fnd P w K mg base (GT K lm lq) "_law_share" 2 2 F__law_share := by
  obtain ⟨fd, F⟩ := W.fd__law_share
  exact fnd_of (N := nm__law_share) (ps := ["rows", "size"]) F W.gm__law_share ⟨rfl, rfl, rfl, nd__law_share, rfl, by decide +kernel, by decide +kernel⟩ rfl (fun _ _ _ _ _ _ us hl => match us, hl with | [_, _], _ => rfl) fun A outer s H E hr => d__law_share ⟨W.nb, n__law_gaps W TB lm lq⟩ A outer s H E hr
theorem n__law_map (W : Wd K mg) (TB : ∀ p ∈ (tfOf tq).map (He.cT K), LamX.TabB base mg p.1 p.2) (lm : Nat → Addr → Addr → HO) (lq : Str) : Fnd P w K mg base (GT K lm lq) "_law_map" 1 3 F__law_map := by
  obtain ⟨fd, F⟩ := W.fd__law_map
  exact fnd_of (N := nm__law_map) (ps := ["rows", "size", "wide"]) F W.gm__law_map ⟨rfl, rfl, rfl, nd__law_map, rfl, by decide +kernel, by decide +kernel⟩ rfl (fun _ _ _ _ _ _ us hl => match us, hl with | [_, _, _], _ => rfl) fun A outer s H E hr => d__law_map ⟨W.nb⟩ A outer s H E hr
theorem n_best_to_free (W : Wd K mg) (TB : ∀ p ∈ (tfOf tq).map (He.cT K), LamX.TabB base mg p.1 p.2) (lm : Nat → Addr → Addr → HO) (lq : Str) : Fnd P w K mg base (GT K lm lq) "best_to_free" 8 3 F_best_to_free := by
  obtain ⟨fd, F⟩ := W.fd_best_to_free
  exact fnd_of (N := nm_best_to_free) (ps := ["rows", "size", "ask"]) F W.gm_best_to_free ⟨rfl, rfl, rfl, nd_best_to_free, rfl, by decide +kernel, by decide +kernel⟩ rfl (fun _ _ _ _ _ _ us hl => match us, hl with | [_, _, _], _ => rfl) fun A outer s H E hr => d_best_to_free ⟨W.nb, (fun {X} hK hm hg => excOk_of (by rw [hK]; exact W.x_GapError) (by rw [hm, hK]; exact W.e_GapError) hg (by rw [hK]; rfl)), n_gaps_between W TB lm lq⟩ (fun _ _ _ _ _ => gxT_of W.nd TB (by decide +kernel)) A outer s H E hr
theorem n__law_plain (W : Wd K mg) (TB : ∀ p ∈ (tfOf tq).map (He.cT K), LamX.TabB base mg p.1 p.2) (lm : Nat → Addr → Addr → HO) (lq : Str) : Fnd P w K mg base (GT K lm lq) "_law_plain" 12 0 F__law_plain := by
  obtain ⟨fd, F⟩ := W.fd__law_plain
  exact fndL_of (lamOf := fun X => lamsHO (X.env.qual ++ "<lambda>") X.env.cells rows__law_plain) (N := nm__law_plain) (ps := []) F W.gm__law_plain ⟨rfl, rfl, rfl, nd__law_plain, rfl, by decide +kernel, by decide +kernel⟩ rfl (fun _ _ _ _ _ _ us hl => match us, hl with | [], _ => rfl) fun A outer s H E hr => d__law_plain (fun lm lq => ⟨W.nb, W.c_MOST_CELLS, n_best_to_free W TB lm lq, n_cannot_fit W TB lm lq, n_check_rows W TB lm lq, n_even_share W TB lm lq, n_gap_counts W TB lm lq, n_gaps_between W TB lm lq, n_how_many_fit W TB lm lq, n_joins_by_free W TB lm lq, n_look_back W TB lm lq, n_map_text W TB lm lq, n_moves_to_fit W TB lm lq, n_parted_share W TB lm lq, n_waste_of_lines W TB lm lq⟩) (fun _ _ _ _ _ _ _ => lmT_of W.nd TB (by decide +kernel)) (told W) A outer s H E hr
theorem n_law (W : Wd K mg) (TB : ∀ p ∈ (tfOf tq).map (He.cT K), LamX.TabB base mg p.1 p.2) (lm : Nat → Addr → Addr → HO) (lq : Str) {fd : FuncData} (F : FunT K "law" st_law fd) : FnOk P w K mg base (L2.CX P w) 13 (He.ga K "law") fd ["script"] (spF (GT K lm lq) 1 F_law) :=
  fnOk_of (N := nm_law) (ps := ["script"]) (n := 1) F ⟨rfl, rfl, rfl, nd_law, rfl, by decide +kernel, by decide +kernel⟩ rfl fun A outer s H E hr => d_law ⟨W.nb, n__law_gaps W TB lm lq, n__law_map W TB lm lq, n__law_plain W TB lm lq, n__law_roll W TB lm lq, n__law_rooms W TB lm lq, n__law_rounds W TB lm lq, n__law_share W TB lm lq, n_best_to_free W TB lm lq, n_cannot_fit W TB lm lq, n_even_share W TB lm lq, n_gap_counts W TB lm lq, n_gaps_between W TB lm lq, n_how_many_fit W TB lm lq, n_joins_by_free W TB lm lq, n_look_back W TB lm lq, n_map_text W TB lm lq, n_moves_to_fit W TB lm lq, n_parted_share W TB lm lq, n_waste_of_lines W TB lm lq⟩ A outer s H E hr
end
end K16
open PySem PySem.W PySem.Calls PyProof.Rows in
theorem PySem.Challenge.cw_memorystack_k16_gaps_and_maps_holds : PySem.Challenge.rw_memorystack_k16_gaps_and_maps.Holds := by
  have law : ∀ ns : List Int, ns.length ≤ 63 → ∃ hs', K16.F_law [.con ns] [] = .ok (.bl true) hs' := fun ns _ => K16.law_true ns
  w_on; o_law
  refine HandSHeadRun.head_any (r := OpenLaw.row PySem.Challenge.rw_memorystack_k16_gaps_and_maps) (q := view (OpenLaw.row PySem.Challenge.rw_memorystack_k16_gaps_and_maps).prog [28]) (H := K16.hk) (ob := K16.ob) (M := 4000) (loose := K16.loose) (d := HandSHeadRun.topDef (OpenLaw.row PySem.Challenge.rw_memorystack_k16_gaps_and_maps).prog 28) (kwd := []) K16.ob_eq
    (by kernel_rfl) (fun s => by kernel_rfl) K16.run (by kernel_rfl) (by kernel_rfl) (by kernel_rfl) (by rfl) (by first | assumption | decide +kernel) (by decide +kernel) ⟨rfl, rfl, rfl, rfl, rfl, by decide +kernel⟩ ?hw ?hc
  case hw => w_witness2
  case hc =>
    refine LamX.walk_ofTsE (l := PySem.Challenge.rw_memorystack_k16_gaps_and_maps) (n := 63) (k := 13) (x := "script") (CX := fun w => L2.CX (PySem.Challenge.rw_memorystack_k16_gaps_and_maps).prog w) rfl (by decide) (by kernel_rfl) ⟨rfl, by decide, by decide⟩ ?F (fun _ _ _ _ _ z => by
      obtain ⟨_, _, _, _, _, _, _, _, _, _, _, _, h⟩ := z
      exact h.elim)
    intro w mg fa h Y G hmg0
    obtain ⟨K, KX, c⟩ := Y
    have hmg : mg ("law" : PySem.Str) = some (.ref fa) := by
      have e : (HandSHeadRun.topDef (OpenLaw.row PySem.Challenge.rw_memorystack_k16_gaps_and_maps).prog 28).name = ("law" : PySem.Str) := by kernel_rfl
      rw [← e]
      exact hmg0
    have W := K16.wd_of KX G c
    have e := hmg.symm.trans W.gm_law
    cases e
    obtain ⟨fd, F⟩ := W.fd_law
    exact ⟨K, KX, Fx.law_end (Γ := K16.GT K (fun _ _ _ => .lst []) "") (F := K16.F_law) KX c F (fun _ _ _ _ _ _ us hl => match us, hl with | [_], _ => rfl) rfl rfl (fun base _ _ TB => K16.n_law W TB _ _ F) law⟩
