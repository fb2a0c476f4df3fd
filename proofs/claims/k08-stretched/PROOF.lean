import PyProof.Rows.All
import Wide.All
import OpenK.AllK
import Wide.FinOn
import KE.KStateDown
import HandS.ForMost
import HandS.Exc
import HandS.TryOnly
import HandS.ExcOwn
import HandS.Deep
import HandS.IsInst
import HandS.Style
import HandS.TupAny
import HandS.TupMul
import HandS.RaiseMore
import HandS.More
import HandS.Walk
import HandS.Zip
import HandS.HeadHook1
import HandS.NoneIn
import KE.KDictPairs
import HandS.Conv
import HandS.Strs
import HandS.TupSets
import KE.KSortTupG
import KE.KDictSum
import PyProof.TupleOfSeq
import HandS.SortInts
import KE.GoesMore
import PyProof.Draws
import HandS.Set
import HandS.SetKeys
import HandS.ExcInit
import PyProof.ExcBaseAll.ValueError
import HandS.Ends
import HandS.Defaults
import HandS.Head0
import HandS.Head1
import HandS.Head2
import HandS.HeadEnd
import HandS.HeadHook2
import KE.KExcIs
import HandS.ExcIs
import HandS.ExcField
import HandS.Words
import HandS.WordsExc
import PySem.Challenge.RW_manytongues_k08_stretched
set_option Elab.async false
set_option linter.all false
set_option maxRecDepth 100000
set_option maxHeartbeats 0
/-! MA: values without a heap (PV), what stands for them, an evaluator's results. -/
namespace M
open PySem PySem.Spec PyProof.Rows L2

/-- a text that may be: its size, its codes -/
def SOk (l : List Nat) : Prop := l.length ≤ sizeLine ∧ l.all (· < 0x110000) = true
instance (l : List Nat) : Decidable (SOk l) := inferInstanceAs (Decidable (_ ∧ _))
theorem SOk.cat {a b : List Nat} (ha : SOk a) (hb : SOk b) (h : a.length + b.length ≤ sizeLine) : SOk (a ++ b) := ⟨by rw [List.length_append]; exact h, by rw [List.all_append, ha.2, hb.2]; rfl⟩
theorem SOk.sub {a b : List Nat} (ha : SOk a) (h : b.Sublist a) : SOk b := ⟨Nat.le_trans h.length_le ha.1, List.all_eq_true.mpr fun x hx => List.all_eq_true.mp ha.2 x (h.subset hx)⟩
theorem SOk.one {a : List Nat} (ha : SOk a) {c : Nat} (h : c ∈ a) : SOk [c] := ha.sub (List.singleton_sublist.mpr h)

abbrev K1 := Sum Int (List Nat)

/-- a key that may be -/
def KOk : K1 → Prop
  | .inl _ => True
  | .inr l => SOk l
/-- a value, whole -/
inductive PV where
  | non
  | bl (b : Bool)
  | int (i : Int)
  | str (s : List Nat)
  | tup (xs : List PV)
  | wt (xs : List PV)
  | lst (xs : List PV)
  | dic (kvs : List (K1 × PV))
  | dct (kvs : List (List K1 × PV))
  | scr (ns : List Int)
  | fn (f : Str) (vs : List PV)
instance : Inhabited PV := ⟨.non⟩

inductive Ex where
  | e0 (cls : Str)
  | e1 (cls : Str) (a : PV)

inductive R (α : Type) where
  | ok (a : α)
  | ex (e : Ex)
  | no
namespace R
def bind {α β : Type} : R α → (α → R β) → R β
  | .ok a, f => f a
  | .ex e, _ => .ex e
  | .no, _ => .no
instance : Monad R where
  pure := .ok
  bind := bind
@[simp] theorem ok_bind {α β : Type} (a : α) (f : α → R β) : (R.ok a >>= f) = f a := rfl
@[simp] theorem ex_bind {α β : Type} (e : Ex) (f : α → R β) : ((R.ex e : R α) >>= f) = .ex e := rfl
@[simp] theorem no_bind {α β : Type} (f : α → R β) : ((R.no : R α) >>= f) = .no := rfl
@[simp] theorem pure_ok {α : Type} (a : α) : (pure a : R α) = .ok a := rfl
/-- nothing may be raised here -/
def nox {α : Type} : R α → R α
  | .ok a => .ok a
  | _ => .no
@[simp] theorem nox_ok {α : Type} (a : α) : (R.ok a).nox = .ok a := rfl
theorem bind_eq_ok {α β : Type} {r : R α} {f : α → R β} {b : β} (h : (r >>= f) = .ok b) : ∃ a, r = .ok a ∧ f a = .ok b := by
  cases r with
  | ok a => exact ⟨a, rfl, h⟩
  | ex e => cases h
  | no => cases h
theorem nox_eq_ok {α : Type} {r : R α} {a : α} (h : r.nox = .ok a) : r = .ok a := by
  cases r with
  | ok b => exact h
  | ex e => cases h
  | no => cases h
end R

/-! ### what stands for a value -/
def strOf (l : List Nat) : Str := ⟨l.toArray⟩
@[simp] theorem strOf_len (l : List Nat) : (strOf l).length = l.length := by simp [strOf, Str.length]
@[simp] theorem strOf_cps (l : List Nat) : (strOf l).cps.toList = l := by simp [strOf]
theorem strOf_cps' (x : Str) : strOf x.cps.toList = x := by simp [strOf]
theorem strOf_inj {a b : List Nat} (h : strOf a = strOf b) : a = b := by
  have := congrArg (fun x : Str => x.cps.toList) h
  simpa using this
def toKey : K1 → Key
  | .inl i => .inl i
  | .inr l => .inr (strOf l)
theorem toKey_inj {a b : K1} (h : toKey a = toKey b) : a = b := by
  cases a with
  | inl i => cases b with
    | inl j => exact congrArg Sum.inl (Sum.inl.inj h)
    | inr l => exact nomatch h
  | inr l => cases b with
    | inl j => exact nomatch h
    | inr l' => exact congrArg Sum.inr (strOf_inj (Sum.inr.inj h))

/-- the script: locked, or of the written part -/
def ScrAt (K : PySem.W.Frag) (H : Hp) (a : Addr) (xs : List V) : Prop :=
  (∃ o, H a = some (.frz o (.lst xs))) ∨
    ∃ (o : Obj) (its : Array Value) (n : Nat), K.lookup a = some o ∧ o.cls = .type "list" ∧ o.dict = none ∧ o.data = .seq its n ∧ its.size ≤ sizeLine ∧ Vals xs its.toList
theorem ScrAt.sq {K : PySem.W.Frag} {H : Hp} {a : Addr} {xs : List V} (h : ScrAt K H a xs) : SqL K H a xs := by
  rcases h with ⟨o, h⟩ | h
  · exact .inl (.inr ⟨o, h⟩)
  · exact .inr h
/-- a tuple of which is known that it has no attributes of its own -/
def SqG (K : PySem.W.Frag) (H : Hp) (a : Addr) (vs : List V) : Prop :=
  (∃ ob : Obj, H a = some (.frz ob (.tup vs)) ∧ ob.dict = none) ∨ ∃ (o : Obj) (its : Array Value) (n : Nat), K.lookup a = some o ∧ o.cls = .type "tuple" ∧ o.dict = none ∧ o.data = .seq its n ∧ its.size ≤ sizeLine ∧ Vals vs its.toList
theorem SqG.sq {K : PySem.W.Frag} {H : Hp} {a : Addr} {vs : List V} (h : SqG K H a vs) : SqT K H a vs := by
  rcases h with ⟨ob, h, _⟩ | ⟨o, its, n, h1, h2, _, h4, h5, h6⟩
  · exact .inl (.inr ⟨ob, h⟩)
  · exact .inr ⟨o, its, n, h1, h2, h4, h5, h6⟩
mutual
inductive Rep (K : PySem.W.Frag) (S : Addr → Prop) (H : Hp) : V → PV → Prop
  | non : Rep K S H .non .non
  | bl (b : Bool) : Rep K S H (.bl b) (.bl b)
  | int (i : Int) : Rep K S H (.int i) (.int i)
  | str (l : List Nat) : SOk l → Rep K S H (.str (strOf l)) (.str l)
  | tup {a : Addr} {vs : List V} {ps : List PV} : SqG K H a vs → Reps K S H vs ps → ps.length ≤ sizeLine → Rep K S H (.ref a) (.tup ps)
  | wt {a : Addr} {vs : List V} {ps : List PV} : SqT K H a vs → Reps K S H vs ps → ps.length ≤ sizeLine → Rep K S H (.ref a) (.wt ps)
  | lst {a : Addr} {vs : List V} {ps : List PV} : S a → H a = some (.lst vs) → Reps K S H vs ps → ps.length ≤ sizeLine → Rep K S H (.ref a) (.lst ps)
  | dK {a : Addr} {d : List (Key × V)} {kvs : List (K1 × PV)} : S a → H a = some (.dK d) → KReps K S H d kvs → kvs.length ≤ sizeLine → Rep K S H (.ref a) (.dic kvs)
  | dT {a : Addr} {d : List (List Key × V)} {kvs : List (List K1 × PV)} : S a → H a = some (.dT d) → TReps K S H d kvs → kvs.length ≤ sizeLine → Rep K S H (.ref a) (.dct kvs)
  | scr {a : Addr} {ns : List Int} : ScrAt K H a (ns.map V.int) → ns.length ≤ 63 → Rep K S H (.ref a) (.scr ns)
  | fn (f : Str) : Rep K S H (.ref (He.ga K f)) (.fn f [])
inductive Reps (K : PySem.W.Frag) (S : Addr → Prop) (H : Hp) : List V → List PV → Prop
  | nil : Reps K S H [] []
  | cons {v : V} {p : PV} {vs : List V} {ps : List PV} : Rep K S H v p → Reps K S H vs ps → Reps K S H (v :: vs) (p :: ps)
inductive KReps (K : PySem.W.Frag) (S : Addr → Prop) (H : Hp) : List (Key × V) → List (K1 × PV) → Prop
  | nil : KReps K S H [] []
  | cons {k : K1} {v : V} {p : PV} {d : List (Key × V)} {kvs : List (K1 × PV)} : KOk k → Rep K S H v p → KReps K S H d kvs → KReps K S H ((toKey k, v) :: d) ((k, p) :: kvs)
inductive TReps (K : PySem.W.Frag) (S : Addr → Prop) (H : Hp) : List (List Key × V) → List (List K1 × PV) → Prop
  | nil : TReps K S H [] []
  | cons {k : List K1} {v : V} {p : PV} {d : List (List Key × V)} {kvs : List (List K1 × PV)} : (∀ x ∈ k, KOk x) → Rep K S H v p → TReps K S H d kvs → TReps K S H ((k.map toKey, v) :: d) ((k, p) :: kvs)
end

structure Keep (S : Addr → Prop) (H H' : Hp) : Prop where
  s : ∀ b o, S b → H b = some o → H' b = some o
  t : ∀ b o, H b = some o → ¬ Mut (some o) → H' b = some o

theorem sqT_keep {K : PySem.W.Frag} {S : Addr → Prop} {H H' : Hp} {a : Addr} {vs : List V} (k : Keep S H H') (h : SqT K H a vs) : SqT K H' a vs := by
  rcases h with (h | ⟨o, h⟩) | h
  · exact .inl (.inl (k.t _ _ h (fun z => z)))
  · exact .inl (.inr ⟨o, k.t _ _ h (fun z => z)⟩)
  · exact .inr h
theorem sqG_keep {K : PySem.W.Frag} {S : Addr → Prop} {H H' : Hp} {a : Addr} {vs : List V} (k : Keep S H H') (h : SqG K H a vs) : SqG K H' a vs := by
  rcases h with ⟨o, h, d⟩ | h
  · exact .inl ⟨o, k.t _ _ h (fun z => z), d⟩
  · exact .inr h
theorem sqL_keep {K : PySem.W.Frag} {S : Addr → Prop} {H H' : Hp} {a : Addr} {vs : List V} (k : Keep S H H') (s : S a) (h : SqL K H a vs) : SqL K H' a vs := by
  rcases h with (h | ⟨o, h⟩) | h
  · exact .inl (.inl (k.s _ _ s h))
  · exact .inl (.inr ⟨o, k.s _ _ s h⟩)
  · exact .inr h

section
variable {K : PySem.W.Frag} {S S' : Addr → Prop} {H H' : Hp}
mutual
theorem Rep.keep (k : Keep S H H') (hs : ∀ b, S b → S' b) : ∀ {v : V} {p : PV}, Rep K S H v p → Rep K S' H' v p
  | _, _, .non => .non
  | _, _, .bl b => .bl b
  | _, _, .int i => .int i
  | _, _, .str l z => .str l z
  | _, _, .tup h r z => .tup (sqG_keep k h) (Reps.keep k hs r) z
  | _, _, .wt h r z => .wt (sqT_keep k h) (Reps.keep k hs r) z
  | _, _, .lst s h r z => .lst (hs _ s) (k.s _ _ s h) (Reps.keep k hs r) z
  | _, _, .dK s h r z => .dK (hs _ s) (k.s _ _ s h) (KReps.keep k hs r) z
  | _, _, .dT s h r z => .dT (hs _ s) (k.s _ _ s h) (TReps.keep k hs r) z
  | _, _, .scr h z => .scr (h.elim (fun ⟨o, e⟩ => .inl ⟨o, k.t _ _ e fun z => z⟩) .inr) z
  | _, _, .fn f => .fn f
theorem Reps.keep (k : Keep S H H') (hs : ∀ b, S b → S' b) : ∀ {v : List V} {p : List PV}, Reps K S H v p → Reps K S' H' v p
  | _, _, .nil => .nil
  | _, _, .cons r t => .cons (Rep.keep k hs r) (Reps.keep k hs t)
theorem KReps.keep (k : Keep S H H') (hs : ∀ b, S b → S' b) : ∀ {v : List (Key × V)} {p : List (K1 × PV)}, KReps K S H v p → KReps K S' H' v p
  | _, _, .nil => .nil
  | _, _, .cons z r t => .cons z (Rep.keep k hs r) (KReps.keep k hs t)
theorem TReps.keep (k : Keep S H H') (hs : ∀ b, S b → S' b) : ∀ {v : List (List Key × V)} {p : List (List K1 × PV)}, TReps K S H v p → TReps K S' H' v p
  | _, _, .nil => .nil
  | _, _, .cons z r t => .cons z (Rep.keep k hs r) (TReps.keep k hs t)
end
end

section
variable {K : PySem.W.Frag} {S : Addr → Prop} {H : Hp}
theorem Reps.length : ∀ {vs : List V} {ps : List PV}, Reps K S H vs ps → vs.length = ps.length
  | _, _, .nil => rfl
  | _, _, .cons _ t => congrArg (· + 1) (Reps.length t)
theorem KReps.length : ∀ {vs : List (Key × V)} {ps : List (K1 × PV)}, KReps K S H vs ps → vs.length = ps.length
  | _, _, .nil => rfl
  | _, _, .cons _ _ t => congrArg (· + 1) (KReps.length t)
theorem TReps.length : ∀ {vs : List (List Key × V)} {ps : List (List K1 × PV)}, TReps K S H vs ps → vs.length = ps.length
  | _, _, .nil => rfl
  | _, _, .cons _ _ t => congrArg (· + 1) (TReps.length t)
theorem Reps.append : ∀ {vs ws : List V} {ps qs : List PV}, Reps K S H vs ps → Reps K S H ws qs → Reps K S H (vs ++ ws) (ps ++ qs)
  | _, _, _, _, .nil, s => s
  | _, _, _, _, .cons r t, s => .cons r (Reps.append t s)
theorem Reps.drop : ∀ {vs : List V} {ps : List PV} (n : Nat), Reps K S H vs ps → Reps K S H (vs.drop n) (ps.drop n)
  | _, _, 0, r => r
  | _, _, _ + 1, .nil => .nil
  | _, _, n + 1, .cons _ t => Reps.drop n t
theorem Reps.take : ∀ {vs : List V} {ps : List PV} (n : Nat), Reps K S H vs ps → Reps K S H (vs.take n) (ps.take n)
  | _, _, 0, _ => .nil
  | _, _, _ + 1, .nil => .nil
  | _, _, n + 1, .cons r t => .cons r (Reps.take n t)
theorem Reps.get : ∀ {vs : List V} {ps : List PV} {i : Nat} {p : PV}, Reps K S H vs ps → ps[i]? = some p → ∃ v, vs[i]? = some v ∧ Rep K S H v p
  | _, _, _, _, .nil, e => by simp at e
  | _, _, 0, _, .cons r _, e => by simp at e; subst e; exact ⟨_, rfl, r⟩
  | _, _, i + 1, p, .cons _ t, e => by
    obtain ⟨v, h1, h2⟩ := Reps.get (i := i) (p := p) t (by simpa using e)
    exact ⟨v, by simpa using h1, h2⟩
theorem Reps.get' : ∀ {vs : List V} {ps : List PV} {i : Nat} {v : V}, Reps K S H vs ps → vs[i]? = some v → ∃ p, ps[i]? = some p ∧ Rep K S H v p
  | _, _, _, _, .nil, e => by simp at e
  | _, _, 0, _, .cons r _, e => by simp at e; subst e; exact ⟨_, rfl, r⟩
  | _, _, i + 1, v, .cons _ t, e => by
    obtain ⟨p, h1, h2⟩ := Reps.get' (i := i) (v := v) t (by simpa using e)
    exact ⟨p, by simpa using h1, h2⟩
theorem Reps.reverse {vs : List V} {ps : List PV} (r : Reps K S H vs ps) : Reps K S H vs.reverse ps.reverse := by
  induction r using Reps.rec (motive_1 := fun _ _ _ => True) (motive_3 := fun _ _ _ => True) (motive_4 := fun _ _ _ => True) with
  | nil => exact .nil
  | cons r t _ ih =>
    rw [List.reverse_cons, List.reverse_cons]
    exact ih.append (.cons r .nil)
  | _ => trivial
theorem Reps.rep {vs : List V} {ps : List PV} (r : Reps K S H vs ps) : ∀ k : Nat, Reps K S H (List.replicate k vs).flatten (List.replicate k ps).flatten
  | 0 => .nil
  | k + 1 => by
    rw [List.replicate_succ, List.replicate_succ, List.flatten_cons, List.flatten_cons]
    exact r.append (Reps.rep r k)
theorem Reps.strs : ∀ {vs : List V} {ls : List (List Nat)}, Reps K S H vs (ls.map PV.str) → vs = (ls.map strOf).map V.str
  | _, [], .nil => rfl
  | _, l :: ls, .cons r t => by
    cases r
    rw [Reps.strs t]
    rfl
theorem Reps.ints : ∀ {vs : List V} {ls : List Int}, Reps K S H vs (ls.map PV.int) → vs = ls.map V.int
  | _, [], .nil => rfl
  | _, l :: ls, .cons r t => by
    cases r
    rw [Reps.ints t]
    rfl
theorem Reps.bls : ∀ {vs : List V} {ls : List Bool}, Reps K S H vs (ls.map PV.bl) → vs = ls.map V.bl
  | _, [], .nil => rfl
  | _, l :: ls, .cons r t => by
    cases r
    rw [Reps.bls t]
    rfl
theorem Reps.of_strs : ∀ {ls : List (List Nat)}, (∀ l ∈ ls, SOk l) → Reps K S H ((ls.map strOf).map V.str) (ls.map PV.str)
  | [], _ => .nil
  | l :: ls, h => .cons (.str l (h l (by simp))) (Reps.of_strs fun x hx => h x (List.mem_cons_of_mem _ hx))
theorem Reps.of_ints : ∀ {ls : List Int}, Reps K S H (ls.map V.int) (ls.map PV.int)
  | [] => .nil
  | l :: ls => .cons (.int l) Reps.of_ints
end

/-! ### growth -/
structure Ext (S : Addr → Prop) (H : Hp) (S' : Addr → Prop) (H' : Hp) : Prop where
  same : Same H H'
  sub : ∀ b, S b → S' b
  new : ∀ b, S' b → S b ∨ H b = none
  dom : (∀ b, S b → H b ≠ none) → ∀ b, S' b → H' b ≠ none
theorem Ext.refl (S : Addr → Prop) (H : Hp) : Ext S H S H := ⟨Same.refl H, fun _ h => h, fun _ h => .inl h, fun h => h⟩
theorem Ext.trans {S S1 S2 : Addr → Prop} {H H1 H2 : Hp} (a : Ext S H S1 H1) (b : Ext S1 H1 S2 H2) : Ext S H S2 H2 :=
  ⟨a.same.trans b.same, fun c h => b.sub c (a.sub c h), fun c h => (b.new c h).elim (a.new c) fun z => .inr (a.same.free z), fun h => b.dom (a.dom h)⟩
theorem Ext.keep {S S' : Addr → Prop} {H H' : Hp} (x : Ext S H S' H') (T : Addr → Prop) : Keep T H H' := ⟨fun b o _ h => x.same b o h, fun b o h _ => x.same b o h⟩
theorem Rep.ext {K : PySem.W.Frag} {S S' : Addr → Prop} {H H' : Hp} {v : V} {p : PV} (r : Rep K S H v p) (x : Ext S H S' H') : Rep K S' H' v p := r.keep (x.keep S) x.sub
theorem Reps.ext {K : PySem.W.Frag} {S S' : Addr → Prop} {H H' : Hp} {v : List V} {p : List PV} (r : Reps K S H v p) (x : Ext S H S' H') : Reps K S' H' v p := r.keep (x.keep S) x.sub
theorem same_upd {H : Hp} {a : Addr} {o : HO} (h : H a = none) : Same H (upd H a o) := fun b u e => by
  rw [upd_ne (ne_of_none e h)]
  exact e
/-- a new object laid -/
theorem Ext.laid {S : Addr → Prop} {H : Hp} {a : Addr} {o : HO} (h : H a = none) : Ext S H S (upd H a o) :=
  ⟨same_upd h, fun _ h => h, fun _ h => .inl h, fun hd b hb z => hd b hb (Same.free (same_upd h) z)⟩
/-- a new object laid and frozen -/
theorem Ext.laidS {S : Addr → Prop} {H : Hp} {a : Addr} {o : HO} (h : H a = none) : Ext S H (fun b => S b ∨ b = a) (upd H a o) :=
  ⟨same_upd h, fun _ h => .inl h, fun b hb => hb.elim .inl fun e => .inr (by rw [e]; exact h), fun hd b hb z => by
    rcases hb with hb | rfl
    · exact hd b hb (Same.free (same_upd h) z)
    · rw [upd_same] at z
      cases z⟩

/-- what an object of one's own holds -/
def Own (K : PySem.W.Frag) (S : Addr → Prop) (H : Hp) (a : Addr) : PV → Prop
  | .lst ps => (∃ vs, H a = some (.lst vs) ∧ Reps K S H vs ps) ∧ ps.length ≤ sizeLine
  | .dic kvs => (∃ d, H a = some (.dK d) ∧ KReps K S H d kvs) ∧ kvs.length ≤ sizeLine
  | .dct kvs => (∃ d, H a = some (.dT d) ∧ TReps K S H d kvs) ∧ kvs.length ≤ sizeLine
  | _ => False
theorem Own.some {K : PySem.W.Frag} {S : Addr → Prop} {H : Hp} {a : Addr} {p : PV} (h : Own K S H a p) : ∃ o, H a = some o ∧ Mut (some o) := by
  cases p with
  | lst ps => obtain ⟨⟨vs, e, _⟩, _⟩ := h; exact ⟨_, e, trivial⟩
  | dic kvs => obtain ⟨⟨d, e, _⟩, _⟩ := h; exact ⟨_, e, trivial⟩
  | dct kvs => obtain ⟨⟨d, e, _⟩, _⟩ := h; exact ⟨_, e, trivial⟩
  | _ => exact h.elim
theorem Own.keep {K : PySem.W.Frag} {S S' : Addr → Prop} {H H' : Hp} {a : Addr} {p : PV} (h : Own K S H a p) (k : Keep S H H') (hs : ∀ b, S b → S' b) (ha : ∀ o, H a = Option.some o → H' a = Option.some o) : Own K S' H' a p := by
  cases p with
  | lst ps => obtain ⟨⟨vs, e, r⟩, z⟩ := h; exact ⟨⟨vs, ha _ e, r.keep k hs⟩, z⟩
  | dic kvs => obtain ⟨⟨d, e, r⟩, z⟩ := h; exact ⟨⟨d, ha _ e, r.keep k hs⟩, z⟩
  | dct kvs => obtain ⟨⟨d, e, r⟩, z⟩ := h; exact ⟨⟨d, ha _ e, r.keep k hs⟩, z⟩
  | _ => exact h.elim
theorem Own.ext {K : PySem.W.Frag} {S S' : Addr → Prop} {H H' : Hp} {a : Addr} {p : PV} (h : Own K S H a p) (x : Ext S H S' H') : Own K S' H' a p := h.keep (x.keep S) x.sub fun o e => x.same _ _ e
theorem Own.rep {K : PySem.W.Frag} {S : Addr → Prop} {H : Hp} {a : Addr} {p : PV} (h : Own K S H a p) (s : S a) : Rep K S H (.ref a) p := by
  cases p with
  | lst ps => obtain ⟨⟨vs, e, r⟩, z⟩ := h; exact .lst s e r z
  | dic kvs => obtain ⟨⟨d, e, r⟩, z⟩ := h; exact .dK s e r z
  | dct kvs => obtain ⟨⟨d, e, r⟩, z⟩ := h; exact .dT s e r z
  | _ => exact h.elim

/-- looked at -/
def Pk (K : PySem.W.Frag) (S : Addr → Prop) (H : Hp) (v : V) (p : PV) : Prop := Rep K S H v p ∨ ∃ a, v = .ref a ∧ Own K S H a p
theorem Pk.ext {K : PySem.W.Frag} {S S' : Addr → Prop} {H H' : Hp} {v : V} {p : PV} (h : Pk K S H v p) (x : Ext S H S' H') : Pk K S' H' v p := by
  rcases h with h | ⟨a, e, h⟩
  · exact .inl (h.ext x)
  · exact .inr ⟨a, e, h.ext x⟩

inductive Md where
  | pk | sh | ow
  deriving DecidableEq
def isObjP : PV → Bool
  | .lst _ => true
  | .dic _ => true
  | .dct _ => true
  | _ => false
/-- what comes, by mode: looked at; shared for ever; new and one's own (H₀: the heap ahead) -/
def Post (K : PySem.W.Frag) (m : Md) (H₀ : Hp) (S : Addr → Prop) (H : Hp) (v : V) (p : PV) : Prop :=
  match m with
  | .pk => Pk K S H v p
  | .sh => Rep K S H v p
  | .ow => if isObjP p = true then ∃ a, v = .ref a ∧ H₀ a = none ∧ ¬ S a ∧ Own K S H a p else Rep K S H v p
theorem Own.isObj {K : PySem.W.Frag} {S : Addr → Prop} {H : Hp} {a : Addr} {p : PV} (h : Own K S H a p) : isObjP p = true := by
  cases p with
  | lst ps => rfl
  | dic kvs => rfl
  | dct kvs => rfl
  | _ => exact h.elim

/-! ### slots -/
abbrev Env' := List (Option PV)
structure RE (K : PySem.W.Frag) (mu : List Nat) (S : Addr → Prop) (σ : L2.St) (H : Hp) (ρ : Env') : Prop where
  len : σ.length = ρ.length
  dom : ∀ b, S b → H b ≠ none
  sh : ∀ i p, i ∉ mu → ρ[i]? = some (some p) → ∃ v, σ[i]? = some (some v) ∧ Rep K S H v p
  ow : ∀ i p, i ∈ mu → ρ[i]? = some (some p) → ∃ a, σ[i]? = some (some (.ref a)) ∧ ¬ S a ∧ Own K S H a p
  df : ∀ i j p q a, i ∈ mu → j ∈ mu → i ≠ j → ρ[i]? = some (some p) → ρ[j]? = some (some q) → σ[i]? = some (some (.ref a)) → σ[j]? ≠ some (some (.ref a))
theorem RE.ext {K : PySem.W.Frag} {mu : List Nat} {S S' : Addr → Prop} {σ : L2.St} {H H' : Hp} {ρ : Env'} (r : RE K mu S σ H ρ) (x : Ext S H S' H') : RE K mu S' σ H' ρ := by
  refine ⟨r.len, x.dom r.dom, fun i p hi e => ?_, fun i p hi e => ?_, r.df⟩
  · obtain ⟨v, e1, q⟩ := r.sh i p hi e
    exact ⟨v, e1, q.ext x⟩
  · obtain ⟨a, e1, n, q⟩ := r.ow i p hi e
    refine ⟨a, e1, fun z => ?_, q.ext x⟩
    rcases x.new a z with z | z
    · exact n z
    · obtain ⟨o, e, _⟩ := q.some
      rw [e] at z
      cases z

/-- a slot that is shared is stored -/
theorem RE.set {K : PySem.W.Frag} {mu : List Nat} {S : Addr → Prop} {σ : L2.St} {H : Hp} {ρ : Env'} (r : RE K mu S σ H ρ) {i : Nat} (hi : i ∉ mu) {v : V} {p : PV} (q : Rep K S H v p) : RE K mu S (σ.set i (some v)) H (ρ.set i (some p)) := by
  refine ⟨by simp [r.len], r.dom, fun j p' hj e => ?_, fun j p' hj e => ?_, fun j k p' q' a hj hk hne e1 e2 e3 => ?_⟩
  · by_cases h : i = j
    · subst h
      have hl : i < ρ.length := by
        cases q : ρ[i]? with
        | none =>
          have := List.getElem?_eq_none_iff.mp q
          rw [List.getElem?_eq_none (by simpa using this)] at e
          cases e
        | some x => exact (List.getElem?_eq_some_iff.mp q).1
      rw [List.getElem?_set_self hl] at e
      cases e
      exact ⟨v, List.getElem?_set_self (by rw [r.len]; exact hl), q⟩
    · rw [List.getElem?_set_ne h] at e ⊢
      exact r.sh j p' hj e
  · have h : i ≠ j := fun e => hi (e ▸ hj)
    rw [List.getElem?_set_ne h] at e ⊢
    exact r.ow j p' hj e
  · have h1 : i ≠ j := fun e => hi (e ▸ hj)
    have h2 : i ≠ k := fun e => hi (e ▸ hk)
    rw [List.getElem?_set_ne h1] at e1 e3
    rw [List.getElem?_set_ne h2] at e2 ⊢
    exact r.df j k p' q' a hj hk hne e1 e2 e3
/-- slots forgotten -/
def wipeP (ρ : Env') : List Nat → Env'
  | [] => ρ
  | v :: vs => (wipeP ρ vs).set v none
theorem wipeP_length (ρ : Env') : ∀ vs : List Nat, (wipeP ρ vs).length = ρ.length
  | [] => rfl
  | v :: vs => by unfold wipeP; rw [List.length_set, wipeP_length ρ vs]
theorem RE.clear {K : PySem.W.Frag} {mu : List Nat} {S : Addr → Prop} {σ : L2.St} {H : Hp} {ρ : Env'} (r : RE K mu S σ H ρ) (i : Nat) : RE K mu S (σ.set i none) H (ρ.set i none) := by
  have get : ∀ {j : Nat} {p : PV}, (ρ.set i none)[j]? = some (some p) → i ≠ j ∧ ρ[j]? = some (some p) := fun {j p} e => by
    by_cases h : i = j
    · subst h
      rw [List.getElem?_set] at e
      rw [if_pos rfl] at e
      split at e <;> cases e
    · rw [List.getElem?_set_ne h] at e
      exact ⟨h, e⟩
  refine ⟨by simp [r.len], r.dom, fun j p' hj e => ?_, fun j p' hj e => ?_, fun j k p' q' a hj hk hne e1 e2 e3 => ?_⟩
  · obtain ⟨h, e⟩ := get e
    rw [List.getElem?_set_ne h]
    exact r.sh j p' hj e
  · obtain ⟨h, e⟩ := get e
    rw [List.getElem?_set_ne h]
    exact r.ow j p' hj e
  · obtain ⟨h1, e1⟩ := get e1
    obtain ⟨h2, e2⟩ := get e2
    rw [List.getElem?_set_ne h1] at e3
    rw [List.getElem?_set_ne h2]
    exact r.df j k p' q' a hj hk hne e1 e2 e3
theorem RE.wipe {K : PySem.W.Frag} {mu : List Nat} {S : Addr → Prop} {σ : L2.St} {H : Hp} {ρ : Env'} (r : RE K mu S σ H ρ) : ∀ vs : List Nat, RE K mu S (wipe σ vs) H (wipeP ρ vs)
  | [] => r
  | v :: vs => (r.wipe vs).clear v

/-! ### results -/
/-- the wish about exceptions, and what an exception is by its name -/
def ExOk (K : PySem.W.Frag) (cl : Str → Value) (S : Addr → Prop) (H : Hp) (cls : Value) (d : Option Addr) : Ex → Prop
  | .e0 c => cls = cl c ∧ d = none
  | .e1 c p => cls = cl c ∧ ∃ dd v, d = some dd ∧ H dd = some (.xd [("name", v)]) ∧ Rep K S H v p
def GoR {α : Type} (K : PySem.W.Frag) (cl : Str → Value) (W : WX) (σ : L2.St) (S : Addr → Prop) (H : Hp) (r : R α) (k : α → (Addr → Prop) → Hp → Prop) : Prop :=
  match r with
  | .ok a => ∀ S' H', Ext S H S' H' → k a S' H'
  | .ex x => ∀ S' H' cls d, Ext S H S' H' → ExOk K cl S' H' cls d x → W cls d σ H'
  | .no => False
section
variable {K : PySem.W.Frag} {cl : Str → Value} {W : WX} {σ : L2.St} {S S1 : Addr → Prop} {H H1 : Hp} {α β : Type}
theorem GoR.bind {r : R α} {f : α → R β} {k : β → (Addr → Prop) → Hp → Prop} (h : GoR K cl W σ S H (r >>= f) k) : GoR K cl W σ S H r (fun a S1 H1 => GoR K cl W σ S1 H1 (f a) k) := by
  cases r with
  | ok a =>
    intro S1 H1 x
    have h : GoR K cl W σ S H (f a) k := h
    show GoR K cl W σ S1 H1 (f a) k
    cases e : f a with
    | ok b =>
      rw [e] at h
      exact fun S' H' y => h S' H' (x.trans y)
    | ex z =>
      rw [e] at h
      exact fun S' H' cls d y => h S' H' cls d (x.trans y)
    | no =>
      rw [e] at h
      exact h
  | ex z => exact h
  | no => exact h
theorem GoR.mono {r : R α} {k k' : α → (Addr → Prop) → Hp → Prop} (h : GoR K cl W σ S H r k) (hk : ∀ a S' H', r = .ok a → Ext S H S' H' → k a S' H' → k' a S' H') : GoR K cl W σ S H r k' := by
  cases r with
  | ok a => exact fun S' H' x => hk a S' H' rfl x (h S' H' x)
  | ex z => exact h
  | no => exact h
theorem GoR.here {a : α} {k : α → (Addr → Prop) → Hp → Prop} (h : GoR K cl W σ S H (.ok a) k) : k a S H := h S H (Ext.refl S H)
theorem GoR.at {a : α} {k : α → (Addr → Prop) → Hp → Prop} (h : GoR K cl W σ S H (.ok a) k) (x : Ext S H S1 H1) : k a S1 H1 := h S1 H1 x
theorem GoR.okI {a : α} {k : α → (Addr → Prop) → Hp → Prop} (h : ∀ S' H', Ext S H S' H' → k a S' H') : GoR K cl W σ S H (.ok a) k := h
end
end M
/-! MB: operations on whole values, and that the machine's do the same. -/
namespace M
open PySem PySem.Spec PyProof.Rows L2

/-! ### data -/
mutual
def dat : PV → PyData
  | .non => .none
  | .bl b => .bool b
  | .int i => .int i
  | .str l => .str (strOf l)
  | .tup xs => .tuple (dats xs)
  | .wt xs => .tuple (dats xs)
  | .lst xs => .list (dats xs)
  | .dic _ => .none
  | .dct _ => .none
  | .scr _ => .none
  | .fn _ _ => .none
def dats : List PV → List PyData
  | [] => []
  | x :: xs => dat x :: dats xs
end
mutual
def isDat : PV → Bool
  | .tup xs => isDats xs
  | .wt xs => isDats xs
  | .lst xs => isDats xs
  | .dic _ => false
  | .dct _ => false
  | .scr _ => false
  | .fn _ _ => false
  | _ => true
def isDats : List PV → Bool
  | [] => true
  | x :: xs => isDat x && isDats xs
end
mutual
def dep : PV → Nat
  | .tup xs => deps xs + 1
  | .wt xs => deps xs + 1
  | .lst xs => deps xs + 1
  | _ => 0
def deps : List PV → Nat
  | [] => 0
  | x :: xs => max (dep x) (deps xs)
end
mutual
def eqP : PV → PV → Bool
  | .non, .non => true
  | .bl a, .bl b => a == b
  | .bl a, .int j => (if a then 1 else 0) == j
  | .int i, .bl b => i == (if b then 1 else 0)
  | .int i, .int j => i == j
  | .str x, .str y => x == y
  | .lst xs, .lst ys => eqPs xs ys
  | .tup xs, .tup ys => eqPs xs ys
  | .tup xs, .wt ys => eqPs xs ys
  | .wt xs, .tup ys => eqPs xs ys
  | .wt xs, .wt ys => eqPs xs ys
  | _, _ => false
def eqPs : List PV → List PV → Bool
  | [], [] => true
  | x :: xs, y :: ys => eqP x y && eqPs xs ys
  | _, _ => false
end
theorem str_beq (a b : List Nat) : (strOf a == strOf b) = (a == b) := by
  by_cases h : a = b
  · subst h; simp
  · have h' : strOf a ≠ strOf b := fun e => h (strOf_inj e)
    rw [beq_eq_false_iff_ne.mpr h, beq_eq_false_iff_ne.mpr h']
mutual
theorem eqv_dat : ∀ (p q : PV), isDat p = true → isDat q = true → PyData.eqv (dat p) (dat q) = eqP p q
  | .tup xs, .tup ys, h1, h2 => by
    simp only [dat, PyData.eqv, eqP]
    exact eqv_dats xs ys (by simpa [isDat] using h1) (by simpa [isDat] using h2)
  | .tup xs, .wt ys, h1, h2 => by
    simp only [dat, PyData.eqv, eqP]
    exact eqv_dats xs ys (by simpa [isDat] using h1) (by simpa [isDat] using h2)
  | .wt xs, .tup ys, h1, h2 => by
    simp only [dat, PyData.eqv, eqP]
    exact eqv_dats xs ys (by simpa [isDat] using h1) (by simpa [isDat] using h2)
  | .wt xs, .wt ys, h1, h2 => by
    simp only [dat, PyData.eqv, eqP]
    exact eqv_dats xs ys (by simpa [isDat] using h1) (by simpa [isDat] using h2)
  | .lst xs, .lst ys, h1, h2 => by
    simp only [dat, PyData.eqv, eqP]
    exact eqv_dats xs ys (by simpa [isDat] using h1) (by simpa [isDat] using h2)
  | .str x, .str y, _, _ => by simp only [dat, PyData.eqv, eqP]; exact str_beq x y
  | .non, q, _, h => by cases q <;> first | rfl | (simp [isDat] at h)
  | .bl _, q, _, h => by cases q <;> first | rfl | (simp [isDat] at h)
  | .int _, q, _, h => by cases q <;> first | rfl | (simp [isDat] at h)
  | .str _, .non, _, _ => rfl
  | .str _, .bl _, _, _ => rfl
  | .str _, .int _, _, _ => rfl
  | .str _, .tup _, _, _ => rfl
  | .str _, .wt _, _, _ => rfl
  | .str _, .lst _, _, _ => rfl
  | .tup _, .non, _, _ => rfl
  | .wt _, .non, _, _ => rfl
  | .tup _, .bl _, _, _ => rfl
  | .wt _, .bl _, _, _ => rfl
  | .tup _, .int _, _, _ => rfl
  | .wt _, .int _, _, _ => rfl
  | .tup _, .str _, _, _ => rfl
  | .wt _, .str _, _, _ => rfl
  | .tup _, .lst _, _, _ => rfl
  | .wt _, .lst _, _, _ => rfl
  | .lst _, .non, _, _ => rfl
  | .lst _, .bl _, _, _ => rfl
  | .lst _, .int _, _, _ => rfl
  | .lst _, .str _, _, _ => rfl
  | .lst _, .tup _, _, _ => rfl
  | .lst _, .wt _, _, _ => rfl
  | .dic _, _, h, _ => by simp [isDat] at h
  | .dct _, _, h, _ => by simp [isDat] at h
  | .scr _, _, h, _ => by simp [isDat] at h
  | .fn _ _, _, h, _ => by simp [isDat] at h
  | _, .dic _, _, h => by simp [isDat] at h
  | _, .dct _, _, h => by simp [isDat] at h
  | _, .scr _, _, h => by simp [isDat] at h
  | _, .fn _ _, _, h => by simp [isDat] at h
theorem eqv_dats : ∀ (p q : List PV), isDats p = true → isDats q = true → PyData.eqvAll (dats p) (dats q) = eqPs p q
  | [], [], _, _ => rfl
  | [], _ :: _, _, _ => rfl
  | _ :: _, [], _, _ => rfl
  | x :: xs, y :: ys, h1, h2 => by
    simp only [isDats, Bool.and_eq_true] at h1 h2
    simp only [dats, PyData.eqvAll, eqPs]
    rw [eqv_dat x y h1.1 h2.1, eqv_dats xs ys h1.2 h2.2]
end
mutual
theorem depth_dat : ∀ p : PV, (dat p).depth ≤ dep p
  | .tup xs => by simp only [dat, PyData.depth, dep]; exact Nat.succ_le_succ (depth_dats xs)
  | .wt xs => by simp only [dat, PyData.depth, dep]; exact Nat.succ_le_succ (depth_dats xs)
  | .lst xs => by simp only [dat, PyData.depth, dep]; exact Nat.succ_le_succ (depth_dats xs)
  | .non => Nat.le_refl _
  | .bl _ => Nat.le_refl _
  | .int _ => Nat.le_refl _
  | .str _ => Nat.le_refl _
  | .dic _ => Nat.le_refl _
  | .dct _ => Nat.le_refl _
  | .scr _ => Nat.le_refl _
  | .fn _ _ => Nat.le_refl _
theorem depth_dats : ∀ p : List PV, PyData.depthAll (dats p) ≤ deps p
  | [] => Nat.le_refl _
  | x :: xs => by
    simp only [dats, PyData.depthAll, deps]
    have h1 := depth_dat x
    have h2 := depth_dats xs
    omega
end
section
variable {K : PySem.W.Frag} {S : Addr → Prop} {H : Hp}
mutual
theorem Rep.dp : ∀ {v : V} {p : PV}, Rep K S H v p → isDat p = true → Dp K H v (dat p)
  | _, _, .non, _ => .non
  | _, _, .bl b, _ => .bl b
  | _, _, .int i, _ => .int i
  | _, _, .str l z, _ => .str _
  | _, _, .tup h r z, i => by
    simp only [isDat] at i
    exact .tup h.sq (Reps.dp r i)
  | _, _, .wt h r z, i => by
    simp only [isDat] at i
    exact .tup h (Reps.dp r i)
  | _, _, .lst s h r z, i => by
    simp only [isDat] at i
    exact .lst (.inl (.inl h)) (Reps.dp r i)
  | _, _, .dK _ _ _ _, i => by simp [isDat] at i
  | _, _, .dT _ _ _ _, i => by simp [isDat] at i
  | _, _, .scr _ _, i => by simp [isDat] at i
  | _, _, .fn _, i => by simp [isDat] at i
theorem Reps.dp : ∀ {v : List V} {p : List PV}, Reps K S H v p → isDats p = true → DpAll K H v (dats p)
  | _, _, .nil, _ => .nil
  | _, _, .cons r t, i => by
    simp only [isDats, Bool.and_eq_true] at i
    exact .cons (Rep.dp r i.1) (Reps.dp t i.2)
end
mutual
theorem Rep.lay : ∀ {v : V} {p : PV}, Rep K S H v p → isDat p = true → (dat p).canLay0 = true
  | _, _, .non, _ => by simp [dat, PyData.canLay0]
  | _, _, .bl b, _ => by simp [dat, PyData.canLay0]
  | _, _, .int i, _ => by simp [dat, PyData.canLay0]
  | _, _, .str l z, _ => by
    simp only [dat, PyData.canLay0, PyData.strOk]
    rw [← Array.all_toList, strOf_cps]
    exact z.2
  | _, _, .tup h r z, i => by
    simp only [isDat] at i
    simp only [dat, PyData.canLay0]
    exact Reps.lay r i
  | _, _, .wt h r z, i => by
    simp only [isDat] at i
    simp only [dat, PyData.canLay0]
    exact Reps.lay r i
  | _, _, .lst s h r z, i => by
    simp only [isDat] at i
    simp only [dat, PyData.canLay0]
    exact Reps.lay r i
  | _, _, .dK _ _ _ _, i => by simp [isDat] at i
  | _, _, .dT _ _ _ _, i => by simp [isDat] at i
  | _, _, .scr _ _, i => by simp [isDat] at i
  | _, _, .fn _, i => by simp [isDat] at i
theorem Reps.lay : ∀ {v : List V} {p : List PV}, Reps K S H v p → isDats p = true → PyData.canLayAll0 (dats p) = true
  | _, _, .nil, _ => by simp [dats, PyData.canLayAll0]
  | _, _, .cons r t, i => by
    simp only [isDats, Bool.and_eq_true] at i
    simp only [dats, PyData.canLayAll0, Bool.and_eq_true]
    exact ⟨Rep.lay r i.1, Reps.lay t i.2⟩
end
theorem Pk.dp {v : V} {p : PV} (h : Pk K S H v p) (i : isDat p = true) : Dp K H v (dat p) := by
  rcases h with h | ⟨a, rfl, h⟩
  · exact h.dp i
  · cases p with
    | lst ps =>
      obtain ⟨⟨vs, e, r⟩, _⟩ := h
      simp only [isDat] at i
      simp only [dat]
      exact .lst (.inl (.inl e)) (r.dp i)
    | dic _ => simp [isDat] at i
    | dct _ => simp [isDat] at i
    | _ => exact h.elim
theorem Pk.lay {v : V} {p : PV} (h : Pk K S H v p) (i : isDat p = true) : (dat p).canLay0 = true := by
  rcases h with h | ⟨a, rfl, h⟩
  · exact h.lay i
  · cases p with
    | lst ps =>
      obtain ⟨⟨vs, e, r⟩, _⟩ := h
      simp only [isDat] at i
      simp only [dat, PyData.canLay0]
      exact r.lay i
    | dic _ => simp [isDat] at i
    | dct _ => simp [isDat] at i
    | _ => exact h.elim
theorem shaped_of {p : PV} (h : (dat p).canLay0 = true) (d : dep p ≤ 64) : SeqAt.shaped (dat p) = true := by
  unfold SeqAt.shaped
  rw [h, decide_eq_true (Nat.le_trans (depth_dat p) d)]
  rfl

/-! ### what a looked-at value is, by its shape -/
theorem Pk.non {v : V} (h : Pk K S H v .non) : v = .non := by
  rcases h with h | ⟨a, rfl, h⟩
  · cases h; rfl
  · exact h.elim
theorem Pk.bl {v : V} {b : Bool} (h : Pk K S H v (.bl b)) : v = .bl b := by
  rcases h with h | ⟨a, rfl, h⟩
  · cases h; rfl
  · exact h.elim
theorem Pk.int {v : V} {i : Int} (h : Pk K S H v (.int i)) : v = .int i := by
  rcases h with h | ⟨a, rfl, h⟩
  · cases h; rfl
  · exact h.elim
theorem Pk.str {v : V} {l : List Nat} (h : Pk K S H v (.str l)) : v = .str (strOf l) ∧ SOk l := by
  rcases h with h | ⟨a, rfl, h⟩
  · cases h; exact ⟨rfl, by assumption⟩
  · exact h.elim
theorem Pk.tupG {v : V} {ps : List PV} (h : Pk K S H v (.tup ps)) : ∃ a vs, v = .ref a ∧ SqG K H a vs ∧ Reps K S H vs ps ∧ ps.length ≤ sizeLine := by
  rcases h with h | ⟨a, rfl, h⟩
  · cases h; exact ⟨_, _, rfl, by assumption, by assumption, by assumption⟩
  · exact h.elim
theorem Pk.wt {v : V} {ps : List PV} (h : Pk K S H v (.wt ps)) : ∃ a vs, v = .ref a ∧ SqT K H a vs ∧ Reps K S H vs ps ∧ ps.length ≤ sizeLine := by
  rcases h with h | ⟨a, rfl, h⟩
  · cases h; exact ⟨_, _, rfl, by assumption, by assumption, by assumption⟩
  · exact h.elim
theorem Pk.tup {v : V} {ps : List PV} (h : Pk K S H v (.tup ps)) : ∃ a vs, v = .ref a ∧ SqT K H a vs ∧ Reps K S H vs ps ∧ ps.length ≤ sizeLine := by
  obtain ⟨a, vs, e, g, r, z⟩ := h.tupG
  exact ⟨a, vs, e, g.sq, r, z⟩
theorem Pk.lst {v : V} {ps : List PV} (h : Pk K S H v (.lst ps)) : ∃ a vs, v = .ref a ∧ H a = some (.lst vs) ∧ Reps K S H vs ps ∧ ps.length ≤ sizeLine := by
  rcases h with h | ⟨a, rfl, h⟩
  · cases h; exact ⟨_, _, rfl, by assumption, by assumption, by assumption⟩
  · obtain ⟨⟨vs, e, r⟩, z⟩ := h
    exact ⟨a, vs, rfl, e, r, z⟩
theorem Pk.scr {v : V} {ns : List Int} (h : Pk K S H v (.scr ns)) : ∃ a, v = .ref a ∧ SqL K H a (ns.map V.int) ∧ ns.length ≤ 63 := by
  rcases h with h | ⟨a, rfl, h⟩
  · cases h with
    | scr h z => exact ⟨_, rfl, h.sq, z⟩
  · exact h.elim
theorem Pk.dic {v : V} {kvs : List (K1 × PV)} (h : Pk K S H v (.dic kvs)) : ∃ a d, v = .ref a ∧ H a = some (.dK d) ∧ KReps K S H d kvs ∧ kvs.length ≤ sizeLine := by
  rcases h with h | ⟨a, rfl, h⟩
  · cases h with
    | dK s e r z => exact ⟨_, _, rfl, e, r, z⟩
  · obtain ⟨⟨d, e, r⟩, z⟩ := h
    exact ⟨a, d, rfl, e, r, z⟩
theorem Pk.dct {v : V} {kvs : List (List K1 × PV)} (h : Pk K S H v (.dct kvs)) : ∃ a d, v = .ref a ∧ H a = some (.dT d) ∧ TReps K S H d kvs ∧ kvs.length ≤ sizeLine := by
  rcases h with h | ⟨a, rfl, h⟩
  · cases h with
    | dT s e r z => exact ⟨_, _, rfl, e, r, z⟩
  · obtain ⟨⟨d, e, r⟩, z⟩ := h
    exact ⟨a, d, rfl, e, r, z⟩
theorem Rep.pk {v : V} {p : PV} (h : Rep K S H v p) : Pk K S H v p := .inl h
end

/-! ### giving an answer -/
section
variable {K : PySem.W.Frag} {cl : Str → Value} {W : WX} {σ : L2.St} {S : Addr → Prop} {H H0 : Hp} {m : Md} {Q : VK}
/-- what is wanted of the value p -/
abbrev Wn (K : PySem.W.Frag) (m : Md) (H0 : Hp) (Q : VK) : PV → (Addr → Prop) → Hp → Prop := fun p S' H' => ∀ v, Post K m H0 S' H' v p → Q v H'
theorem post_of {v : V} {p : PV} (r : Rep K S H v p) (h : isObjP p = false) : Post K m H0 S H v p := by
  cases m with
  | pk => exact .inl r
  | sh => exact r
  | ow => show if isObjP p = true then _ else _; rw [h]; exact r
/-- a value without an object of its own, as it is -/
theorem give {v : V} {p : PV} (h : GoR K cl W σ S H (.ok p) (Wn K m H0 Q)) (r : Rep K S H v p) (n : isObjP p = false) : Q v H := h.here v (post_of r n)
theorem give_int {i : Int} (h : GoR K cl W σ S H (.ok (.int i)) (Wn K m H0 Q)) : Q (.int i) H := give h (.int i) rfl
theorem give_bl {i : Bool} (h : GoR K cl W σ S H (.ok (.bl i)) (Wn K m H0 Q)) : Q (.bl i) H := give h (.bl i) rfl
theorem give_non (h : GoR K cl W σ S H (.ok .non) (Wn K m H0 Q)) : Q .non H := give h .non rfl
theorem give_str {l : List Nat} (h : GoR K cl W σ S H (.ok (.str l)) (Wn K m H0 Q)) (z : SOk l) : Q (.str (strOf l)) H := give h (.str l z) rfl
/-- a new tuple -/
theorem give_tup {ps : List PV} {vs : List V} {a : Addr} {ob : Obj} (h : GoR K cl W σ S H (.ok (.tup ps)) (Wn K m H0 Q)) (hn : H a = none) (hd : ob.dict = none) (r : Reps K S H vs ps) (z : ps.length ≤ sizeLine) : Q (.ref a) (upd H a (.frz ob (.tup vs))) := by
  have x : Ext S H S (upd H a (.frz ob (.tup vs))) := Ext.laid hn
  exact h.at x _ (post_of (.tup (.inl ⟨ob, upd_same, hd⟩) (r.ext x) z) rfl)
theorem give_wt {ps : List PV} {vs : List V} {a : Addr} (h : GoR K cl W σ S H (.ok (.wt ps)) (Wn K m H0 Q)) (hn : H a = none) (r : Reps K S H vs ps) (z : ps.length ≤ sizeLine) : Q (.ref a) (upd H a (.tup vs)) := by
  have x : Ext S H S (upd H a (.tup vs)) := Ext.laid hn
  exact h.at x _ (post_of (.wt (.inl (.inl upd_same)) (r.ext x) z) rfl)
/-- a new object that is written -/
theorem give_new {p : PV} {o : HO} {a : Addr} (h : GoR K cl W σ S H (.ok p) (Wn K m H0 Q)) (hs : Same H0 H) (hd : ∀ b, S b → H b ≠ none) (hn : H a = none) (ho : Own K S (upd H a o) a p) : Q (.ref a) (upd H a o) := by
  have ns : ¬ S a := fun z => hd a z hn
  cases m with
  | pk => exact h.at (Ext.laid hn) _ (.inr ⟨a, rfl, ho⟩)
  | sh =>
    have k : Keep S (upd H a o) (upd H a o) := ⟨fun _ _ _ e => e, fun _ _ e _ => e⟩
    exact h.at (Ext.laidS hn) _ ((ho.keep k (fun _ z => .inl z) fun _ e => e).rep (.inr rfl))
  | ow =>
    refine h.at (Ext.laid hn) _ ?_
    show if isObjP p = true then _ else _
    rw [if_pos ho.isObj]
    exact ⟨a, rfl, hs.free hn, ns, ho⟩
theorem give_lst {ps : List PV} {vs : List V} {a : Addr} (h : GoR K cl W σ S H (.ok (.lst ps)) (Wn K m H0 Q)) (hs : Same H0 H) (hd : ∀ b, S b → H b ≠ none) (hn : H a = none) (r : Reps K S H vs ps) (z : ps.length ≤ sizeLine) : Q (.ref a) (upd H a (.lst vs)) :=
  give_new h hs hd hn ⟨⟨vs, upd_same, r.ext (Ext.laid hn)⟩, z⟩
theorem give_dK {kvs : List (K1 × PV)} {d : List (Key × V)} {a : Addr} (h : GoR K cl W σ S H (.ok (.dic kvs)) (Wn K m H0 Q)) (hs : Same H0 H) (hd : ∀ b, S b → H b ≠ none) (hn : H a = none) (r : KReps K S H d kvs) (z : kvs.length ≤ sizeLine) : Q (.ref a) (upd H a (.dK d)) :=
  give_new h hs hd hn ⟨⟨d, upd_same, r.keep ((Ext.laid (S := S) hn).keep S) fun _ z => z⟩, z⟩
end
end M
/-! MC: operators, comparisons, built-ins on whole values. -/
namespace M
open PySem PySem.Spec PyProof.Rows L2

/-! ### results' meanings -/
def addP : PV → PV → R PV
  | .int i, .int j => .ok (.int (i + j))
  | .str a, .str b => if a.length + b.length ≤ sizeLine then .ok (.str (a ++ b)) else .no
  | .tup a, .tup b => if a.length + b.length ≤ sizeLine then .ok (.tup (a ++ b)) else .no
  | .lst a, .lst b => if a.length + b.length ≤ sizeLine then .ok (.lst (a ++ b)) else .no
  | _, _ => .no
def subP : PV → PV → R PV
  | .int i, .int j => .ok (.int (i - j))
  | _, _ => .no
def repL {α : Type} (k : Int) (l : List α) : List α := (List.replicate k.toNat l).flatten
def mulOk (i j : Int) : Bool := decide ((-(2 ^ 64) < i ∧ i < 2 ^ 64) ∨ (-(2 ^ 64) < j ∧ j < 2 ^ 64))
def mulP : PV → PV → R PV
  | .int i, .int j => if mulOk i j then .ok (.int (i * j)) else .no
  | .str a, .int k => if 0 ≤ k ∧ k ≤ 1000 ∧ a.length ≤ 1000 then .ok (.str (repL k a)) else .no
  | .lst a, .int k => if 0 ≤ k ∧ k ≤ 1000 ∧ a.length ≤ 1000 then .ok (.lst (repL k a)) else .no
  | _, _ => .no
def modP : PV → PV → R PV
  | .int i, .int j => if 0 < j then .ok (.int (i % j)) else .no
  | _, _ => .no
def fdivP : PV → PV → R PV
  | .int i, .int j => if 0 < j ∧ j < 1073741824 then .ok (.int (i / j)) else .no
  | _, _ => .no
def powP : PV → PV → R PV
  | .int i, .int j => if 0 ≤ j ∧ j ≤ 1000 ∧ i.natAbs < 2 ^ 64 then .ok (.int (i ^ j.toNat)) else .no
  | _, _ => .no
def binP : Operator → PV → PV → R PV
  | .Add => addP
  | .Sub => subP
  | .Mult => mulP
  | .Mod => modP
  | .FloorDiv => fdivP
  | .Pow => powP
  | _ => fun _ _ => .no

def addI : PV → PV → R PV
  | .int i, .int j => .ok (.int (i + j))
  | _, _ => .no
def addS : PV → PV → R PV
  | .str a, .str b => if a.length + b.length ≤ sizeLine then .ok (.str (a ++ b)) else .no
  | _, _ => .no
def addT : PV → PV → R PV
  | .tup a, .tup b => if a.length + b.length ≤ sizeLine then .ok (.tup (a ++ b)) else .no
  | _, _ => .no
def addL : PV → PV → R PV
  | .lst a, .lst b => if a.length + b.length ≤ sizeLine then .ok (.lst (a ++ b)) else .no
  | _, _ => .no
def mulI : PV → PV → R PV
  | .int i, .int j => if mulOk i j then .ok (.int (i * j)) else .no
  | _, _ => .no
def mulS : PV → PV → R PV
  | .str a, .int k => if 0 ≤ k ∧ k ≤ 1000 ∧ a.length ≤ 1000 then .ok (.str (repL k a)) else .no
  | _, _ => .no
def mulL : PV → PV → R PV
  | .lst a, .int k => if 0 ≤ k ∧ k ≤ 1000 ∧ a.length ≤ 1000 then .ok (.lst (repL k a)) else .no
  | _, _ => .no
/-- an operator on looked-at values does as f -/
def OpS (X : Cx) (g : Value → Value → Sem Value) (f : PV → PV → R PV) : Prop :=
  ∃ r : R2, OpR X g r ∧ ∀ (cl : Str → Value) (W : WX) (σ : L2.St) (S : Addr → Prop) (H H0 : Hp) (m : Md) (Q : VK) (v u : V) (p q : PV), Same H0 H → (∀ b, S b → H b ≠ none) →
    Pk X.K S H v p → Pk X.K S H u q → GoR X.K cl W σ S H (f p q) (Wn X.K m H0 Q) → r v u H Q
def orR {α : Type} (a b : R α) : R α := match a with
  | .no => b
  | x => x
theorem OpS.or {X : Cx} {g : Value → Value → Sem Value} {f f' : PV → PV → R PV} (h : OpS X g f) (h' : OpS X g f') : OpS X g (fun p q => orR (f p q) (f' p q)) := by
  obtain ⟨r, o, h⟩ := h
  obtain ⟨r', o', h'⟩ := h'
  refine ⟨_, o.or o', fun cl W σ S H H0 m Q v u p q hs hd hv hu h1 => ?_⟩
  have h1 : GoR X.K cl W σ S H (orR (f p q) (f' p q)) (Wn X.K m H0 Q) := h1
  cases e : f p q with
  | ok x => rw [e] at h1; exact .inl (h cl W σ S H H0 m Q v u p q hs hd hv hu (by rw [e]; exact h1))
  | ex x => rw [e] at h1; exact .inl (h cl W σ S H H0 m Q v u p q hs hd hv hu (by rw [e]; exact h1))
  | no => rw [e] at h1; exact .inr (h' cl W σ S H H0 m Q v u p q hs hd hv hu h1)
theorem OpS.congr {X : Cx} {g : Value → Value → Sem Value} {f f' : PV → PV → R PV} (h : OpS X g f) (e : ∀ p q, f' p q = .no ∨ f' p q = f p q) : OpS X g f' := by
  obtain ⟨r, o, h⟩ := h
  refine ⟨r, o, fun cl W σ S H H0 m Q v u p q hs hd hv hu h1 => h cl W σ S H H0 m Q v u p q hs hd hv hu ?_⟩
  rcases e p q with e | e
  · rw [e] at h1; exact h1.elim
  · rw [← e]; exact h1

section
variable {X : Cx}
theorem strOf_append (a b : List Nat) : strOf a ++ strOf b = strOf (a ++ b) := by
  show Str.append _ _ = _
  simp [Str.append, strOf]
theorem s_addI : OpS X (binaryOp .Add) addI := by
  refine ⟨_, op_add, fun cl W σ S H H0 m Q v u p q hs hd hv hu h => ?_⟩
  unfold addI at h
  split at h
  · exact ⟨_, _, hv.int, hu.int, give_int h⟩
  · exact h.elim
theorem s_addS : OpS X (binaryOp .Add) addS := by
  refine ⟨_, op_add_str, fun cl W σ S H H0 m Q v u p q hs hd hv hu h => ?_⟩
  unfold addS at h
  split at h
  · rename_i a b
    split at h
    · rename_i z
      obtain ⟨rfl, za⟩ := hv.str
      obtain ⟨rfl, zb⟩ := hu.str
      refine ⟨_, _, rfl, rfl, by simpa using z, ?_⟩
      rw [strOf_append]
      exact give_str h (za.cat zb z)
    · exact h.elim
  · exact h.elim
/-- a new tuple, known to the object -/
abbrev tob (us : List Value) : Obj := { cls := .type "tuple", data := .seq us.toArray }
theorem lay_tob {pins : List (Addr × Obj)} {σ : L2.St} {H : Hp} {s : Shared} {xs : List V} {us : List Value} (I : Inv X pins σ H s) (r : Vals xs us) (z : xs.length ≤ sizeLine) :
    Inv X pins σ (upd H s.heap.objs.size (.frz (tob us) (.tup xs))) { s with heap := s.heap.push (tob us) } :=
  I.laid (t' := s.toks) (o := .frz (tob us) (.tup xs)) (fun _ _ e => Heap.get?_push_of_some _ e) (Nat.le_refl _) ⟨Heap.get?_push_size _ rfl, z, us, r, IsTup.new _ _⟩
/-- what is wanted of a new tuple of xs -/
def NewG (H : Hp) (xs : List V) (Q : VK) : Prop := ∀ (p : Addr) (ob : Obj), H p = none → ob.dict = none → Q (.ref p) (upd H p (.frz ob (.tup xs)))
theorem NewG.at {pins : List (Addr × Obj)} {σ : L2.St} {H : Hp} {s : Shared} {xs : List V} {us : List Value} {Q : VK} (q : NewG H xs Q) (I : Inv X pins σ H s) (r : Vals xs us) (z : xs.length ≤ sizeLine) :
    EP X pins σ Q (.ref s.heap.objs.size) { s with heap := s.heap.push (tob us) } :=
  ⟨.ref s.heap.objs.size, _, lay_tob I r z, rfl, q _ (tob us) (I.hok.fresh (Nat.le_refl _)) rfl⟩
def rCatG (K : PySem.W.Frag) : R2 := fun x y H Q => ∃ (a b : Addr) (xs ys : List V), x = .ref a ∧ y = .ref b ∧ SqT K H a xs ∧ SqT K H b ys ∧ xs.length + ys.length ≤ sizeLine ∧
  (xs = [] → Q (.ref b) H) ∧ (xs ≠ [] → ys = [] → Q (.ref a) H) ∧ (xs ≠ [] → ys ≠ [] → NewG H (xs ++ ys) Q)
theorem op_catG : OpR X (binaryOp .Add) (rCatG X.K) := by
  intro pins s σ H x y v u Q I r1 r2 hq
  obtain ⟨a, b, xs, ys, rfl, rfl, h1, h2, z, k0, k1, k2⟩ := hq
  by_cases e : xs = []
  · exact op_catA pins s σ H _ _ v u Q I r1 r2 ⟨a, b, xs, ys, rfl, rfl, h1, h2, z, k0, fun n => absurd e n, fun n => absurd e n⟩
  · cases r1
    cases r2
    obtain ⟨us, g1, t1, _⟩ := I.tuple h1
    obtain ⟨ws, g2, t2, _⟩ := I.tuple h2
    have z' : us.length + ws.length ≤ sizeLine := by rw [← g1.length, ← g2.length]; exact z
    exact HT.cat_tup t1 t2 (fun n => e (g1.nil_iff.mp n)) (fun n => ⟨.ref a, H, I, rfl, k1 e (g2.nil_iff.mp n)⟩) (fun n => (k2 e fun m => n (g2.nil_iff.mpr m)).at I (g1.append g2) (by rw [List.length_append]; exact z)) z'
theorem s_addT : OpS X (binaryOp .Add) addT := by
  refine ⟨_, op_catG, fun cl W σ S H H0 m Q v u p q hs hd hv hu h => ?_⟩
  unfold addT at h
  split at h
  · rename_i a b
    split at h
    · rename_i z
      obtain ⟨x, xs, rfl, hx, rx, zx⟩ := hv.tupG
      obtain ⟨y, ys, rfl, hy, ry, zy⟩ := hu.tupG
      refine ⟨_, _, xs, ys, rfl, rfl, hx.sq, hy.sq, by rw [rx.length, ry.length]; exact z, fun e => ?_, fun _ e => ?_, fun _ _ t ob ht hb => ?_⟩
      · subst e
        cases rx
        exact give h (.tup hy ry zy) rfl
      · subst e
        cases ry
        rw [List.append_nil] at h
        exact give h (.tup hx rx zx) rfl
      · exact give_tup h ht hb (rx.append ry) (by rw [List.length_append]; exact z)
    · exact h.elim
  · exact h.elim
theorem s_addL : OpS X (binaryOp .Add) addL := by
  refine ⟨_, op_cat, fun cl W σ S H H0 m Q v u p q hs hd hv hu h => ?_⟩
  unfold addL at h
  split at h
  · rename_i a b
    split at h
    · rename_i z
      obtain ⟨x, xs, rfl, hx, rx, zx⟩ := hv.lst
      obtain ⟨y, ys, rfl, hy, ry, zy⟩ := hu.lst
      refine ⟨_, _, xs, ys, rfl, rfl, hx, hy, by rw [rx.length, ry.length]; exact z, fun t ht => ?_⟩
      exact give_lst h hs hd ht (rx.append ry) (by rw [List.length_append]; exact z)
    · exact h.elim
  · exact h.elim
theorem s_add : OpS X (binaryOp .Add) addP := by
  refine (s_addI.or (s_addS.or (s_addT.or s_addL))).congr fun p q => ?_
  cases p <;> cases q <;> first
    | exact .inl rfl
    | exact .inr rfl
    | (simp only [addP]; split <;> first | exact .inl rfl | (rename_i hc; right; simp [addI, addS, addT, addL, orR, hc]))
theorem s_sub : OpS X (binaryOp .Sub) subP := by
  refine ⟨_, op_sub, fun cl W σ S H H0 m Q v u p q hs hd hv hu h => ?_⟩
  unfold subP at h
  split at h
  · exact ⟨_, _, hv.int, hu.int, give_int h⟩
  · exact h.elim
theorem s_mulI : OpS X (binaryOp .Mult) mulI := by
  refine ⟨_, op_mul, fun cl W σ S H H0 m Q v u p q hs hd hv hu h => ?_⟩
  unfold mulI at h
  split at h
  · split at h
    · rename_i z
      exact ⟨_, _, hv.int, hu.int, by unfold mulOk at z; have z2 := of_decide_eq_true z; exact z2, give_int h⟩
    · exact h.elim
  · exact h.elim
theorem line_big : (1000000 : Nat) ≤ sizeLine := by rw [sizeLine_eq]; decide
theorem repL_length {α : Type} (k : Int) (l : List α) : (repL k l).length = k.toNat * l.length := by simp [repL]
theorem s_mulL : OpS X (binaryOp .Mult) mulL := by
  refine ⟨_, op_rep, fun cl W σ S H H0 m Q v u p q hs hd hv hu h => ?_⟩
  unfold mulL at h
  split at h
  · split at h
    · rename_i a k z
      obtain ⟨x, xs, rfl, hx, rx, zx⟩ := hv.lst
      have hl : k.toNat * a.length ≤ 1000 * 1000 := Nat.mul_le_mul (by omega) z.2.2
      have lb := line_big
      refine ⟨_, _, xs, rfl, hu.int, hx, by omega, by omega, by rw [rx.length, Nat.mul_comm]; omega, fun t ht => ?_⟩
      exact give_lst h hs hd ht (rx.rep _) (by rw [repL_length]; omega)
    · exact h.elim
  · exact h.elim
theorem repL_mem {α : Type} {k : Int} {l : List α} {x : α} (h : x ∈ repL k l) : x ∈ l := by
  unfold repL at h
  obtain ⟨m, hm, hx⟩ := List.mem_flatten.mp h
  rw [(List.mem_replicate.mp hm).2] at hx
  exact hx
theorem SOk.rep {l : List Nat} {k : Int} (h : SOk l) (z : k.toNat * l.length ≤ sizeLine) : SOk (repL k l) :=
  ⟨by rw [repL_length]; exact z, List.all_eq_true.mpr fun x hx => List.all_eq_true.mp h.2 x (repL_mem hx)⟩
theorem foldl_app (x : Array Nat) : ∀ (n : Nat) (acc : Array Nat), ((List.replicate n x).foldl (· ++ ·) acc).toList = acc.toList ++ (List.replicate n x.toList).flatten
  | 0, acc => by simp
  | n + 1, acc => by
    rw [List.replicate_succ, List.foldl_cons, foldl_app x n, List.replicate_succ, List.flatten_cons, Array.toList_append, List.append_assoc]
def rStrMul : R2 := fun x y H Q => ∃ (a : List Nat) (k : Int), x = .str (strOf a) ∧ y = .int k ∧ 0 ≤ k ∧ k ≤ 1000 ∧ a.length ≤ 1000 ∧ Q (.str (strOf (repL k a))) H
theorem op_strMul : OpR X (binaryOp .Mult) rStrMul := by
  intro pins s σ H x y v u Q I rx ry h
  obtain ⟨a, k, rfl, rfl, h0, h1, hl, q⟩ := h
  obtain ⟨t, rfl⟩ := rx
  obtain ⟨t', rfl⟩ := ry
  have lb := line_big
  have hm : k.toNat * a.length ≤ 1000 * 1000 := Nat.mul_le_mul (by omega) hl
  have fin : ∀ w', w' = repL k a → Q (.str (strOf w')) H := fun w' e => by rw [e]; exact q
  refine PySem.P.mul_str (by rw [decide_eq_false (by omega), decide_eq_false (by omega)]; rfl) (fun hn _ hg => ?_) (fun _ _ => ?_) ?_
  · have h2 : (1000 : Int) ≤ (2 ^ 63 - 1) / k := (Int.le_ediv_iff_mul_le (by omega)).mpr (by omega)
    rw [strOf_len] at hg
    omega
  · unfold Builtin.Str.tooLong
    rw [strOf_len]
    exact decide_eq_false (by rw [Nat.mul_comm]; omega)
  · split
    · rename_i hk
      have e : repL k a = [] := by
        have : k.toNat = 0 := by omega
        simp [repL, this]
      exact ⟨by decide, ⟨.str Str.empty, H, I.tok _, ⟨_, rfl⟩, by have := fin [] e.symm; exact this⟩⟩
    · split
      · rename_i hk hc
        have e : a = repL k a := by
          rw [Bool.or_eq_true] at hc
          rcases hc with hc | hc
          · have : k = 1 := by simpa using hc
            subst this
            simp [repL]
          · have : a = [] := by simpa using hc
            subst this
            simp [repL]
        exact ⟨.str (strOf a), H, I, ⟨_, rfl⟩, fin a e⟩
      · have e : (⟨(List.replicate k.toNat (strOf a).cps).foldl (· ++ ·) #[]⟩ : Str) = strOf (repL k a) := by
          show _ = (⟨(repL k a).toArray⟩ : Str)
          refine congrArg Str.mk ?_
          apply Array.toList_inj.mp
          rw [foldl_app]
          simp [repL]
        refine ⟨?_, ⟨.str (strOf (repL k a)), H, I.tok _, ⟨s.toks, by rw [← e]⟩, q⟩⟩
        have e2 := congrArg Str.length e
        rw [e2, strOf_len, repL_length]
        omega
theorem s_mulS : OpS X (binaryOp .Mult) mulS := by
  refine ⟨_, op_strMul, fun cl W σ S H H0 m Q v u p q hs hd hv hu h => ?_⟩
  unfold mulS at h
  split at h
  · split at h
    · rename_i a k z
      obtain ⟨rfl, za⟩ := hv.str
      have lb := line_big
      have hl : k.toNat * a.length ≤ 1000 * 1000 := Nat.mul_le_mul (by omega) z.2.2
      exact ⟨a, k, rfl, hu.int, z.1, z.2.1, z.2.2, give_str h (za.rep (by omega))⟩
    · exact h.elim
  · exact h.elim
theorem s_mul : OpS X (binaryOp .Mult) mulP := by
  refine (s_mulI.or (s_mulS.or s_mulL)).congr fun p q => ?_
  cases p <;> cases q <;> first
    | exact .inl rfl
    | exact .inr rfl
    | (simp only [mulP]; split <;> first | exact .inl rfl | exact .inr rfl | (rename_i hc; right; simp [mulI, mulS, mulL, orR, hc]))
theorem s_mod : OpS X (binaryOp .Mod) modP := by
  refine ⟨_, op_mod, fun cl W σ S H H0 m Q v u p q hs hd hv hu h => ?_⟩
  unfold modP at h
  split at h
  · split at h
    · rename_i z
      exact ⟨_, _, hv.int, hu.int, z, give_int h⟩
    · exact h.elim
  · exact h.elim
theorem s_fdiv : OpS X (binaryOp .FloorDiv) fdivP := by
  refine ⟨_, op_fdiv, fun cl W σ S H H0 m Q v u p q hs hd hv hu h => ?_⟩
  unfold fdivP at h
  split at h
  · split at h
    · rename_i z
      exact ⟨_, _, hv.int, hu.int, z, give_int h⟩
    · exact h.elim
  · exact h.elim
theorem s_pow : OpS X (binaryOp .Pow) powP := by
  refine ⟨_, op_pow, fun cl W σ S H H0 m Q v u p q hs hd hv hu h => ?_⟩
  unfold powP at h
  split at h
  · split at h
    · rename_i z
      exact ⟨_, _, hv.int, hu.int, ⟨z.1, by omega, z.2.2⟩, give_int h⟩
    · exact h.elim
  · exact h.elim
theorem s_bin (op : Operator) : OpS X (binaryOp op) (binP op) := by
  cases op with
  | Add => exact s_add
  | Sub => exact s_sub
  | Mult => exact s_mul
  | Mod => exact s_mod
  | FloorDiv => exact s_fdiv
  | Pow => exact s_pow
  | _ => exact ⟨fun _ _ _ _ => False, fun _ _ _ _ _ _ _ _ _ _ _ _ h => h.elim, fun cl W σ S H H0 m Q v u p q hs hd hv hu h => h.elim⟩
end
end M
/-! MD: comparisons, subscripts, slices, truth. -/
namespace M
open PySem PySem.Spec PyProof.Rows L2

def okEq (p q : PV) : Bool := isDat p && isDat q && decide (dep p ≤ 64) && decide (dep q ≤ 64)
def eqR (p q : PV) : R PV := if okEq p q then .ok (.bl (eqP p q)) else .no
def neR (p q : PV) : R PV := if okEq p q then .ok (.bl (!eqP p q)) else .no
def ltL (a b : List Nat) : Bool := decide (a < b)
def ltR : PV → PV → R PV
  | .int i, .int j => .ok (.bl (decide (i < j)))
  | .str a, .str b => .ok (.bl (ltL a b))
  | _, _ => .no
def leR : PV → PV → R PV
  | .int i, .int j => .ok (.bl (decide (i ≤ j)))
  | .str a, .str b => .ok (.bl (!ltL b a))
  | _, _ => .no
def gtR : PV → PV → R PV
  | .int i, .int j => .ok (.bl (decide (j < i)))
  | .str a, .str b => .ok (.bl (ltL b a))
  | _, _ => .no
def geR : PV → PV → R PV
  | .int i, .int j => .ok (.bl (decide (j ≤ i)))
  | .str a, .str b => .ok (.bl (!ltL a b))
  | _, _ => .no
def flatP : PV → Bool
  | .non => true
  | .bl _ => true
  | .int _ => true
  | .str _ => true
  | _ => false
/-- a key, as it is handed -/
def asKey : PV → Option K1
  | .int i => some (.inl i)
  | .str l => some (.inr l)
  | _ => none
def asKeys : List PV → Option (List K1)
  | [] => some []
  | p :: r => match asKey p with
    | some k => (asKeys r).map (k :: ·)
    | none => none
section
variable {κ : Type} [DecidableEq κ]
def getD (kvs : List (κ × PV)) (k : κ) : Option PV := (kvs.find? fun kv => decide (kv.1 = k)).map (·.2)
def putD (kvs : List (κ × PV)) (k : κ) (v : PV) : List (κ × PV) :=
  if kvs.any (fun kv => decide (kv.1 = k)) then kvs.map (fun kv => if kv.1 = k then (kv.1, v) else kv) else kvs ++ [(k, v)]
def dropD (kvs : List (κ × PV)) (k : κ) : List (κ × PV) := kvs.filter fun kv => decide (kv.1 ≠ k)
end
def inD (k : PV) (kvs : List (K1 × PV)) : R Bool := match asKey k with
  | some k => .ok (getD kvs k).isSome
  | none => .no
def inL (x : PV) (ys : List PV) : Bool := ys.any fun y => eqP y x
def isTupP : PV → Bool
  | .tup _ => true
  | .wt _ => true
  | _ => false
def inB : PV → PV → R Bool
  | .str [c], .str z => .ok (z.contains c)
  | x, .tup ys => if flatP x && ys.all flatP then .ok (inL x ys) else if isTupP x && okEq x (.tup ys) then .ok (inL x ys) else .no
  | x, .wt ys => if isTupP x && okEq x (.wt ys) then .ok (inL x ys) else .no
  | x, .lst ys => if okEq x (.lst ys) then .ok (inL x ys) else .no
  | x, .dic kvs => inD x kvs
  | _, _ => .no
def inR (p q : PV) : R PV := inB p q >>= fun b => .ok (.bl b)
def ninR (p q : PV) : R PV := inB p q >>= fun b => .ok (.bl (!b))
def isB : PV → PV → R Bool
  | .bl a, .bl b => .ok (a == b)
  | .non, .non => .ok true
  | _, .non => .ok false
  | _, _ => .no
def isR (p q : PV) : R PV := isB p q >>= fun b => .ok (.bl b)
def isnR (p q : PV) : R PV := isB p q >>= fun b => .ok (.bl (!b))
def cmpP : CmpOp → PV → PV → R PV
  | .Eq => eqR
  | .NotEq => neR
  | .Lt => ltR
  | .LtE => leR
  | .Gt => gtR
  | .GtE => geR
  | .Is => isR
  | .IsNot => isnR
  | .In => inR
  | .NotIn => ninR

section
variable {X : Cx}
theorem okEq_of {p q : PV} (h : okEq p q = true) : isDat p = true ∧ isDat q = true ∧ dep p ≤ 64 ∧ dep q ≤ 64 := by
  unfold okEq at h
  simp only [Bool.and_eq_true, decide_eq_true_eq] at h
  exact ⟨h.1.1.1, h.1.1.2, h.1.2, h.2⟩
theorem s_eq (hu : X.A.units + 64 < cLine) : OpS X (compareOp .Eq) eqR := by
  refine ⟨_, op_eqD hu, fun cl W σ S H H0 m Q v u p q hs hd hv hq h => ?_⟩
  unfold eqR at h
  split at h
  · rename_i z
    obtain ⟨z1, z2, z3, z4⟩ := okEq_of z
    refine ⟨dat p, dat q, hv.dp z1, hq.dp z2, shaped_of (hv.lay z1) z3, shaped_of (hq.lay z2) z4, ?_⟩
    rw [eqv_dat p q z1 z2]
    exact give_bl h
  · exact h.elim
theorem s_ne (hu : X.A.units + 64 < cLine) : OpS X (compareOp .NotEq) neR := by
  refine ⟨_, op_neD hu, fun cl W σ S H H0 m Q v u p q hs hd hv hq h => ?_⟩
  unfold neR at h
  split at h
  · rename_i z
    obtain ⟨z1, z2, z3, z4⟩ := okEq_of z
    refine ⟨dat p, dat q, hv.dp z1, hq.dp z2, shaped_of (hv.lay z1) z3, shaped_of (hq.lay z2) z4, ?_⟩
    rw [eqv_dat p q z1 z2]
    exact give_bl h
  · exact h.elim
theorem s_lt : OpS X (compareOp .Lt) ltR := by
  refine ⟨_, op_lt.or op_lt_str, fun cl W σ S H H0 m Q v u p q hs hd hv hq h => ?_⟩
  unfold ltR at h
  split at h
  · exact .inl ⟨_, _, hv.int, hq.int, give_bl h⟩
  · refine .inr ⟨_, _, hv.str.1, hq.str.1, ?_⟩
    rw [strOf_cps, strOf_cps]
    exact give_bl h
  · exact h.elim
theorem s_le : OpS X (compareOp .LtE) leR := by
  refine ⟨_, op_le.or op_le_str, fun cl W σ S H H0 m Q v u p q hs hd hv hq h => ?_⟩
  unfold leR at h
  split at h
  · exact .inl ⟨_, _, hv.int, hq.int, give_bl h⟩
  · refine .inr ⟨_, _, hv.str.1, hq.str.1, ?_⟩
    rw [strOf_cps, strOf_cps]
    exact give_bl h
  · exact h.elim
theorem s_gt : OpS X (compareOp .Gt) gtR := by
  refine ⟨_, op_gt.or op_gt_str, fun cl W σ S H H0 m Q v u p q hs hd hv hq h => ?_⟩
  unfold gtR at h
  split at h
  · exact .inl ⟨_, _, hv.int, hq.int, give_bl h⟩
  · refine .inr ⟨_, _, hv.str.1, hq.str.1, ?_⟩
    rw [strOf_cps, strOf_cps]
    exact give_bl h
  · exact h.elim
theorem s_ge : OpS X (compareOp .GtE) geR := by
  refine ⟨_, op_ge.or op_ge_str, fun cl W σ S H H0 m Q v u p q hs hd hv hq h => ?_⟩
  unfold geR at h
  split at h
  · exact .inl ⟨_, _, hv.int, hq.int, give_bl h⟩
  · refine .inr ⟨_, _, hv.str.1, hq.str.1, ?_⟩
    rw [strOf_cps, strOf_cps]
    exact give_bl h
  · exact h.elim

/-! ### is -/
def isNonP : PV → Bool
  | .non => true
  | _ => false
theorem isN_pk {K : PySem.W.Frag} {S : Addr → Prop} {H : Hp} {v : V} {p : PV} (h : Pk K S H v p) : decide (v = .non) = isNonP p := by
  rcases h with h | ⟨a, rfl, h⟩
  · cases h <;> simp [isNonP]
  · cases p with
    | lst _ => simp [isNonP]
    | dic _ => simp [isNonP]
    | dct _ => simp [isNonP]
    | _ => exact h.elim
theorem isB_cases {p q : PV} {b : Bool} (h : isB p q = .ok b) : (∃ c d, p = .bl c ∧ q = .bl d ∧ b = (c == d)) ∨ (q = .non ∧ b = isNonP p) := by
  cases q with
  | bl d => cases p with
    | bl c => exact .inl ⟨c, d, rfl, rfl, (R.ok.inj h).symm⟩
    | _ => cases h
  | non => cases p <;> exact .inr ⟨rfl, (R.ok.inj h).symm⟩
  | _ => cases p <;> cases h
theorem isB_noex {p q : PV} {e : Ex} (h : isB p q = .ex e) : False := by
  cases q <;> cases p <;> cases h
theorem gor_noex {α : Type} {K : PySem.W.Frag} {cl : Str → Value} {W : WX} {σ : L2.St} {S : Addr → Prop} {H : Hp} {β : Type} {r : R α} {f : α → R β} {k : β → (Addr → Prop) → Hp → Prop} (h : GoR K cl W σ S H (r >>= f) k) (hx : ∀ e, r ≠ .ex e) : ∃ a, r = .ok a ∧ GoR K cl W σ S H (f a) k := by
  cases r with
  | ok a => exact ⟨a, rfl, h⟩
  | ex e => exact absurd rfl (hx e)
  | no => exact h.elim
theorem beq_dec (a b : Bool) : decide (a = b) = (a == b) := by cases a <;> cases b <;> rfl
theorem s_is : OpS X (compareOp .Is) isR := by
  refine ⟨_, op_isN.or op_isBl, fun cl W σ S H H0 m Q v u p q hs hd hv hq h => ?_⟩
  obtain ⟨b, e, h2⟩ := gor_noex h fun e => isB_noex
  rcases isB_cases e with ⟨c, d, rfl, rfl, rfl⟩ | ⟨rfl, rfl⟩
  · refine .inr ⟨_, _, hv.bl, hq.bl, ?_⟩
    rw [beq_dec]
    exact give_bl h2
  · refine .inl ⟨hq.non, ?_⟩
    rw [isN_pk hv]
    exact give_bl h2
theorem s_isn : OpS X (compareOp .IsNot) isnR := by
  refine ⟨_, op_notN.or op_notBl, fun cl W σ S H H0 m Q v u p q hs hd hv hq h => ?_⟩
  obtain ⟨b, e, h2⟩ := gor_noex h fun e => isB_noex
  rcases isB_cases e with ⟨c, d, rfl, rfl, rfl⟩ | ⟨rfl, rfl⟩
  · refine .inr ⟨_, _, hv.bl, hq.bl, ?_⟩
    rw [beq_dec]
    exact give_bl h2
  · refine .inl ⟨hq.non, ?_⟩
    rw [isN_pk hv]
    exact give_bl h2

/-! ### in -/
theorem flat_pk {K : PySem.W.Frag} {S : Addr → Prop} {H : Hp} {v : V} {p : PV} (h : Pk K S H v p) (f : flatP p = true) : flatV v = true := by
  rcases h with h | ⟨a, rfl, h⟩
  · cases h <;> first | rfl | (simp [flatP] at f)
  · cases p with
    | lst _ => simp [flatP] at f
    | dic _ => simp [flatP] at f
    | dct _ => simp [flatP] at f
    | _ => exact h.elim
theorem flat_all {K : PySem.W.Frag} {S : Addr → Prop} {H : Hp} : ∀ {vs : List V} {ps : List PV}, Reps K S H vs ps → ps.all flatP = true → vs.all flatV = true
  | _, _, .nil, _ => rfl
  | _, _, .cons r t, f => by
    simp only [List.all_cons, Bool.and_eq_true] at f ⊢
    exact ⟨flat_pk (.inl r) f.1, flat_all t f.2⟩
theorem eqV_pk {K : PySem.W.Frag} {S : Addr → Prop} {H : Hp} {v u : V} {p q : PV} (hv : Rep K S H v p) (hu : Pk K S H u q) (f : flatP p = true) (g : flatP q = true) : eqV v u = eqP p q := by
  rcases hu with hu | ⟨a, rfl, hu⟩
  · cases hv <;> cases hu <;> first
      | rfl
      | (simp [flatP] at f; done)
      | (simp [flatP] at g; done)
      | exact str_beq _ _
  · cases q with
    | lst _ => simp [flatP] at g
    | dic _ => simp [flatP] at g
    | dct _ => simp [flatP] at g
    | _ => exact hu.elim
theorem inV_pk {K : PySem.W.Frag} {S : Addr → Prop} {H : Hp} {u : V} {q : PV} (hu : Pk K S H u q) (g : flatP q = true) : ∀ {vs : List V} {ps : List PV}, Reps K S H vs ps → ps.all flatP = true → inV u vs = inL q ps
  | _, _, .nil, _ => rfl
  | _, _, .cons r t, f => by
    simp only [List.all_cons, Bool.and_eq_true] at f
    have ih := inV_pk hu g t f.2
    unfold inV inL at ih ⊢
    rw [List.any_cons, List.any_cons, ih, eqV_pk r hu f.1 g]
theorem dats_any (x : PV) (hx : isDat x = true) : ∀ ys : List PV, isDats ys = true → ((dats ys).any fun z => PyData.eqv z (dat x)) = inL x ys
  | [], _ => rfl
  | y :: ys, h => by
    simp only [isDats, Bool.and_eq_true] at h
    simp only [dats, List.any_cons, inL]
    rw [eqv_dat y x h.1 hx, dats_any x hx ys h.2]
    rfl
/-- a key's own value -/
theorem asKey_rep {K : PySem.W.Frag} {S : Addr → Prop} {H : Hp} {v : V} {p : PV} {k : K1} (h : Pk K S H v p) (e : asKey p = some k) : v = kV (toKey k) := by
  cases p with
  | int i => cases e; exact h.int
  | str l => cases e; exact h.str.1
  | _ => cases e
theorem asKeys_rep {K : PySem.W.Frag} {S : Addr → Prop} {H : Hp} : ∀ {vs : List V} {ps : List PV} {ks : List K1}, Reps K S H vs ps → asKeys ps = some ks → vs = (ks.map toKey).map kV
  | _, _, _, .nil, e => by cases e; rfl
  | _, p :: ps, ks, .cons r t, e => by
    simp only [asKeys] at e
    cases q : asKey p with
    | none => rw [q] at e; cases e
    | some k =>
      rw [q] at e
      cases q2 : asKeys ps with
      | none => rw [q2] at e; cases e
      | some l =>
        rw [q2] at e; cases e
        rw [asKeys_rep t q2, asKey_rep (.inl r) q]
        rfl
theorem getD_cons {κ : Type} [DecidableEq κ] (k : κ) (kv : κ × PV) (r : List (κ × PV)) : getD (kv :: r) k = if kv.1 = k then some kv.2 else getD r k := by
  unfold getD
  rw [List.find?_cons]
  by_cases h : kv.1 = k
  · simp [h]
  · simp [h]
/-- a look-up -/
theorem KReps.get {K : PySem.W.Frag} {S : Addr → Prop} {H : Hp} (k : K1) : ∀ {d : List (Key × V)} {kvs : List (K1 × PV)}, KReps K S H d kvs →
    (∃ v p, valV d (toKey k) = some v ∧ getD kvs k = some p ∧ Rep K S H v p) ∨ (valV d (toKey k) = none ∧ getD kvs k = none)
  | _, _, .nil => .inr ⟨rfl, rfl⟩
  | _, _, .cons (k := j) _ r t => by
    by_cases h : j = k
    · subst h
      exact .inl ⟨_, _, valV_pos rfl, by rw [getD_cons, if_pos rfl], r⟩
    · have h1 : toKey j ≠ toKey k := fun e => h (toKey_inj e)
      rw [valV_neg h1, getD_cons, if_neg h]
      exact KReps.get k t
theorem toKeys_inj : ∀ {a b : List K1}, a.map toKey = b.map toKey → a = b
  | [], [], _ => rfl
  | [], _ :: _, h => by cases h
  | _ :: _, [], h => by cases h
  | x :: xs, y :: ys, h => by
    simp only [List.map_cons, List.cons.injEq] at h
    rw [toKey_inj h.1, toKeys_inj h.2]

theorem inB_noex {p q : PV} {e : Ex} (h : inB p q = .ex e) : False := by
  unfold inB at h
  split at h
  · cases h
  · split at h
    · cases h
    · split at h <;> cases h
  · split at h <;> cases h
  · split at h <;> cases h
  · unfold inD at h
    split at h <;> cases h
  · cases h
theorem contains_dec (c : Nat) (z : List Nat) : decide (c ∈ z) = z.contains c := by
  by_cases h : c ∈ z
  · rw [decide_eq_true h]; exact (List.contains_iff_mem.mpr h).symm
  · rw [decide_eq_false h]
    cases q : z.contains c with
    | false => rfl
    | true => exact absurd (List.contains_iff_mem.mp q) h
/-- what in asks and tells -/
theorem in_tells {K : PySem.W.Frag} {S : Addr → Prop} {H : Hp} {v u : V} {p q : PV} {b : Bool} (hv : Pk K S H v p) (hq : Pk K S H u q) (e : inB p q = .ok b) :
    (∃ c z, v = .str ⟨#[c]⟩ ∧ u = .str (strOf z) ∧ b = decide (c ∈ (strOf z).cps.toList)) ∨
    (∃ a xs, u = .ref a ∧ (SqL K H a xs ∨ SqT K H a xs) ∧ flatV v = true ∧ xs.all flatV = true ∧ b = inV v xs) ∨
    (∃ d ds, Dp K H v d ∧ Dp K H u (.list ds) ∧ SeqAt.shaped d = true ∧ SeqAt.shaped (.list ds) = true ∧ b = ds.any fun z => PyData.eqv z d) ∨
    (∃ a kvs k, u = .ref a ∧ v = kV k ∧ H a = some (.dK kvs) ∧ b = (valV kvs k).isSome) ∨
    (∃ d ds, Dp K H v d ∧ Dp K H u (.tuple ds) ∧ SeqAt.shaped d = true ∧ SeqAt.shaped (.tuple ds) = true ∧ b = ds.any fun z => PyData.eqv z d) := by
  unfold inB at e
  split at e
  · rename_i c z
    refine .inl ⟨c, z, hv.str.1, hq.str.1, ?_⟩
    rw [strOf_cps, contains_dec]
    exact (R.ok.inj e).symm
  · rename_i ys
    split at e
    · rename_i hf
      rw [Bool.and_eq_true] at hf
      obtain ⟨a, xs, rfl, hs, r, _⟩ := hq.tup
      refine .inr (.inl ⟨a, xs, rfl, .inr hs, flat_pk hv hf.1, flat_all r hf.2, ?_⟩)
      rw [inV_pk hv hf.1 r hf.2]
      exact (R.ok.inj e).symm
    · split at e
      · rename_i hf
        rw [Bool.and_eq_true] at hf
        obtain ⟨z1, z2, z3, z4⟩ := okEq_of hf.2
        refine .inr (.inr (.inr (.inr ⟨dat p, dats ys, hv.dp z1, by simpa only [dat] using hq.dp z2, shaped_of (hv.lay z1) z3, by simpa only [dat] using shaped_of (hq.lay z2) z4, ?_⟩)))
        rw [dats_any p z1 ys (by simpa [isDat] using z2)]
        exact (R.ok.inj e).symm
      · cases e
  · rename_i ys
    split at e
    · rename_i hf
      rw [Bool.and_eq_true] at hf
      obtain ⟨z1, z2, z3, z4⟩ := okEq_of hf.2
      refine .inr (.inr (.inr (.inr ⟨dat p, dats ys, hv.dp z1, by simpa only [dat] using hq.dp z2, shaped_of (hv.lay z1) z3, by simpa only [dat] using shaped_of (hq.lay z2) z4, ?_⟩)))
      rw [dats_any p z1 ys (by simpa [isDat] using z2)]
      exact (R.ok.inj e).symm
    · cases e
  · rename_i ys
    split at e
    · rename_i hf
      obtain ⟨z1, z2, z3, z4⟩ := okEq_of hf
      refine .inr (.inr (.inl ⟨dat p, dats ys, hv.dp z1, by simpa only [dat] using hq.dp z2, shaped_of (hv.lay z1) z3, by simpa only [dat] using shaped_of (hq.lay z2) z4, ?_⟩))
      rw [dats_any p z1 ys (by simpa [isDat] using z2)]
      exact (R.ok.inj e).symm
    · cases e
  · rename_i kvs
    unfold inD at e
    split at e
    · rename_i k hk
      obtain ⟨a, d, rfl, ha, r, _⟩ := hq.dic
      refine .inr (.inr (.inr (.inl ⟨a, d, toKey k, rfl, asKey_rep hv hk, ha, ?_⟩)))
      rcases r.get k with ⟨v', p', e1, e2, _⟩ | ⟨e1, e2⟩
      · rw [e1]
        rw [e2] at e
        exact (R.ok.inj e).symm
      · rw [e1]
        rw [e2] at e
        exact (R.ok.inj e).symm
    · cases e
  · cases e
def rInDk : R2 := fun x y H Q => ∃ a kvs k, y = .ref a ∧ x = kV k ∧ H a = some (.dK kvs) ∧ Q (.bl (valV kvs k).isSome) H
def rNinDk : R2 := fun x y H Q => ∃ a kvs k, y = .ref a ∧ x = kV k ∧ H a = some (.dK kvs) ∧ Q (.bl (!(valV kvs k).isSome)) H
theorem op_inDk (hu : X.A.units + 1 < cLine) : OpR X (compareOp .In) rInDk := by
  intro pins s σ H x y v u Q I rx ry h
  obtain ⟨a, kvs, k, rfl, rfl, e, q⟩ := h
  cases ry
  exact d_in hu I (DGet.k (k := k) e) rx fun s' I' => ⟨.bl _, H, I', rfl, q⟩
theorem op_ninDk (hu : X.A.units + 1 < cLine) : OpR X (compareOp .NotIn) rNinDk := by
  intro pins s σ H x y v u Q I rx ry h
  obtain ⟨a, kvs, k, rfl, rfl, e, q⟩ := h
  cases ry
  exact d_notIn hu I (DGet.k (k := k) e) rx fun s' I' => ⟨.bl _, H, I', rfl, q⟩
def rInT (K : PySem.W.Frag) : R2 := fun x y H Q => ∃ d ds, Dp K H x d ∧ Dp K H y (.tuple ds) ∧ SeqAt.shaped d = true ∧ SeqAt.shaped (.tuple ds) = true ∧ Q (.bl (ds.any fun z => PyData.eqv z d)) H
def rNinT (K : PySem.W.Frag) : R2 := fun x y H Q => ∃ d ds, Dp K H x d ∧ Dp K H y (.tuple ds) ∧ SeqAt.shaped d = true ∧ SeqAt.shaped (.tuple ds) = true ∧ Q (.bl (!ds.any fun z => PyData.eqv z d)) H
theorem op_inT (hu : X.A.units + 65 < cLine) : OpR X (compareOp .In) (rInT X.K) := by
  intro pins s σ H x y v u Q I rx ry h
  obtain ⟨d, ds, h1, h2, s1, s2, q⟩ := h
  obtain ⟨_, r1⟩ := Dp.reads I d x v h1 rx
  obtain ⟨_, r2⟩ := Dp.reads I (.tuple ds) y u h2 ry
  exact SeqAt.in_tuple_reads r2 r1 (SeqAt.canLay_of_shaped s2) (SeqAt.canLay_of_shaped s1) (room_in_shaped s1 hu) ⟨.bl _, H, I, rfl, q⟩
theorem op_ninT (hu : X.A.units + 65 < cLine) : OpR X (compareOp .NotIn) (rNinT X.K) := by
  intro pins s σ H x y v u Q I rx ry h
  obtain ⟨d, ds, h1, h2, s1, s2, q⟩ := h
  obtain ⟨_, r1⟩ := Dp.reads I d x v h1 rx
  obtain ⟨_, r2⟩ := Dp.reads I (.tuple ds) y u h2 ry
  exact SeqAt.notIn_tuple_reads r2 r1 (SeqAt.canLay_of_shaped s2) (SeqAt.canLay_of_shaped s1) (room_in_shaped s1 hu) ⟨.bl _, H, I, rfl, q⟩
theorem s_in (hu : X.A.units + 65 < cLine) : OpS X (compareOp .In) inR := by
  refine ⟨_, op_in_sign.or (op_in_seq.or ((op_inD hu).or ((op_inDk (by omega)).or (op_inT hu)))), fun cl W σ S H H0 m Q v u p q hs hd hv hq h => ?_⟩
  obtain ⟨b, e, h2⟩ := gor_noex h fun e => inB_noex
  rcases in_tells hv hq e with ⟨c, z, rfl, rfl, rfl⟩ | ⟨a, xs, rfl, h1, h3, h4, rfl⟩ | ⟨d, ds, h1, h3, h4, h5, rfl⟩ | ⟨a, kvs, k, rfl, rfl, h1, rfl⟩ | ⟨d, ds, h1, h3, h4, h5, rfl⟩
  · exact .inl ⟨c, _, rfl, rfl, give_bl h2⟩
  · exact .inr (.inl ⟨a, xs, rfl, h1, h3, h4, give_bl h2⟩)
  · exact .inr (.inr (.inl ⟨d, ds, h1, h3, h4, h5, give_bl h2⟩))
  · exact .inr (.inr (.inr (.inl ⟨a, kvs, k, rfl, rfl, h1, give_bl h2⟩)))
  · exact .inr (.inr (.inr (.inr ⟨d, ds, h1, h3, h4, h5, give_bl h2⟩)))
theorem s_nin (hu : X.A.units + 65 < cLine) : OpS X (compareOp .NotIn) ninR := by
  refine ⟨_, op_notIn_sign.or (op_notIn_seq.or ((op_notInD hu).or ((op_ninDk (by omega)).or (op_ninT hu)))), fun cl W σ S H H0 m Q v u p q hs hd hv hq h => ?_⟩
  obtain ⟨b, e, h2⟩ := gor_noex h fun e => inB_noex
  rcases in_tells hv hq e with ⟨c, z, rfl, rfl, rfl⟩ | ⟨a, xs, rfl, h1, h3, h4, rfl⟩ | ⟨d, ds, h1, h3, h4, h5, rfl⟩ | ⟨a, kvs, k, rfl, rfl, h1, rfl⟩ | ⟨d, ds, h1, h3, h4, h5, rfl⟩
  · exact .inl ⟨c, _, rfl, rfl, give_bl h2⟩
  · exact .inr (.inl ⟨a, xs, rfl, h1, h3, h4, give_bl h2⟩)
  · exact .inr (.inr (.inl ⟨d, ds, h1, h3, h4, h5, give_bl h2⟩))
  · exact .inr (.inr (.inr (.inl ⟨a, kvs, k, rfl, rfl, h1, give_bl h2⟩)))
  · exact .inr (.inr (.inr (.inr ⟨d, ds, h1, h3, h4, h5, give_bl h2⟩)))
theorem s_cmp (op : CmpOp) (hu : X.A.units + 65 < cLine) : OpS X (compareOp op) (cmpP op) := by
  cases op with
  | Eq => exact s_eq (by omega)
  | NotEq => exact s_ne (by omega)
  | Lt => exact s_lt
  | LtE => exact s_le
  | Gt => exact s_gt
  | GtE => exact s_ge
  | Is => exact s_is
  | IsNot => exact s_isn
  | In => exact s_in hu
  | NotIn => exact s_nin hu
end
end M
/-! ME: subscripts, slices, truth, built-ins and methods by values. -/
namespace M
open PySem PySem.Spec PyProof.Rows L2

def ixI : PV → PV → R PV
  | .tup xs, .int i => match atI xs i with
    | some p => .ok p
    | none => .no
  | .wt xs, .int i => match atI xs i with
    | some p => .ok p
    | none => .no
  | .lst xs, .int i => match atI xs i with
    | some p => .ok p
    | none => .no
  | .scr xs, .int i => match atI xs i with
    | some p => .ok (.int p)
    | none => .no
  | .str s, .int i => match atI s i with
    | some c => .ok (.str [c])
    | none => .no
  | .dic kvs, k => match asKey k with
    | some k => match getD kvs k with
      | some p => .ok p
      | none => .no
    | none => .no
  | _, _ => .no
def ixP (p q : PV) : R PV := ixI p q
section
variable {X : Cx}
def IxS (X : Cx) (f : PV → PV → R PV) : Prop :=
  ∃ r : R2, IxR X r ∧ ∀ (cl : Str → Value) (W : WX) (σ : L2.St) (S : Addr → Prop) (H H0 : Hp) (m : Md) (Q : VK) (v u : V) (p q : PV), m ≠ .ow → Same H0 H → (∀ b, S b → H b ≠ none) →
    Pk X.K S H v p → Pk X.K S H u q → GoR X.K cl W σ S H (f p q) (Wn X.K m H0 Q) → r v u H Q
theorem give' {K : PySem.W.Frag} {cl : Str → Value} {W : WX} {σ : L2.St} {S : Addr → Prop} {H H0 : Hp} {m : Md} {Q : VK} {v : V} {p : PV} (h : GoR K cl W σ S H (.ok p) (Wn K m H0 Q)) (r : Rep K S H v p) (hm : m ≠ .ow) : Q v H := by
  refine h.here v ?_
  cases m with
  | pk => exact .inl r
  | sh => exact r
  | ow => exact absurd rfl hm
theorem atI_reps {K : PySem.W.Frag} {S : Addr → Prop} {H : Hp} {vs : List V} {ps : List PV} {i : Int} {p : PV} (r : Reps K S H vs ps) (h : atI ps i = some p) : ∃ v, atI vs i = some v ∧ Rep K S H v p := by
  unfold atI at h ⊢
  rw [r.length]
  cases e : ixN ps.length i with
  | none => rw [e] at h; cases h
  | some j =>
    rw [e] at h
    exact r.get h
theorem atI_map {α β : Type} (f : α → β) (xs : List α) (i : Int) : atI (xs.map f) i = (atI xs i).map f := by
  unfold atI
  rw [List.length_map]
  cases ixN xs.length i with
  | none => rfl
  | some j => simp
def rIxDk : R2 := fun x y H Q => ∃ a kvs k v, x = .ref a ∧ y = kV k ∧ H a = some (.dK kvs) ∧ valV kvs k = some v ∧ Q v H
theorem ix_dK (hu : X.A.units + 1 < cLine) : IxR X rIxDk := by
  intro value slice pins s σ H x y v u Q I rx ry h hs
  obtain ⟨a, kvs, k, v', rfl, rfl, e, ev, q⟩ := h
  obtain rfl : v = Value.ref a := rx
  have g : DGet H a (kV k) (some v') := ev ▸ DGet.k (k := k) e
  exact tail_any (dict_typeIs I g) slot_dict_getitem.lookup (d_getItem hu I g ry fun w' s3 I3 rw' => ⟨v', H, I3, rw', q⟩) hs
theorem s_ix (hu : X.A.units + 1 < cLine) : IxS X ixP := by
  refine ⟨_, ix_seq.or (ix_dK hu), fun cl W σ S H H0 m Q v u p q hm hs hd hv hq h => ?_⟩
  unfold ixP ixI at h
  split at h
  · split at h
    · rename_i e
      obtain ⟨a, vs, rfl, ha, r, _⟩ := hv.tup
      obtain ⟨w, e1, rw⟩ := atI_reps r e
      exact .inl (.inr (.inl ⟨a, vs, _, w, rfl, hq.int, ha, e1, give' h rw hm⟩))
    · exact h.elim
  · split at h
    · rename_i e
      obtain ⟨a, vs, rfl, ha, r, _⟩ := hv.wt
      obtain ⟨w, e1, rw⟩ := atI_reps r e
      exact .inl (.inr (.inl ⟨a, vs, _, w, rfl, hq.int, ha, e1, give' h rw hm⟩))
    · exact h.elim
  · split at h
    · rename_i e
      obtain ⟨a, vs, rfl, ha, r, _⟩ := hv.lst
      obtain ⟨w, e1, rw⟩ := atI_reps r e
      exact .inl (.inl ⟨a, vs, _, w, rfl, hq.int, .inl (.inl ha), e1, give' h rw hm⟩)
    · exact h.elim
  · split at h
    · rename_i ns i j e
      obtain ⟨a, rfl, ha, _⟩ := hv.scr
      exact .inl (.inl ⟨a, _, _, _, rfl, hq.int, ha, by rw [atI_map, e]; rfl, give_int h⟩)
    · exact h.elim
  · split at h
    · rename_i c e
      obtain ⟨rfl, z⟩ := hv.str
      refine .inl (.inr (.inr ⟨_, _, c, rfl, hq.int, by rw [strOf_len]; exact z.1, by rw [strOf_cps]; exact e, ?_⟩))
      refine give_str (l := [c]) h (z.one ?_)
      unfold atI at e
      obtain ⟨j, _, e2⟩ := Option.bind_eq_some_iff.mp e
      exact List.mem_of_getElem? e2
    · exact h.elim
  · split at h
    · rename_i k hk
      split at h
      · rename_i e
        obtain ⟨a, d, rfl, ha, r, _⟩ := hv.dic
        rcases r.get k with ⟨w, p', e1, e2, rw⟩ | ⟨e1, e2⟩
        · rw [e] at e2
          cases e2
          exact .inr ⟨a, d, toKey k, w, rfl, asKey_rep hq hk, ha, e1, give' h rw hm⟩
        · rw [e] at e2
          cases e2
      · exact h.elim
    · exact h.elim
  · exact h.elim

/-! ### slices -/
def cutL {α : Type} (xs : List α) (lo hi : Option Int) : List α := (xs.drop (HT.sIx xs.length 0 lo)).take (HT.sIx xs.length xs.length hi - HT.sIx xs.length 0 lo)
theorem cutL_length {α : Type} (xs : List α) (lo hi : Option Int) : (cutL xs lo hi).length ≤ xs.length := by
  unfold cutL
  rw [List.length_take, List.length_drop]
  omega
theorem cutL_sub {α : Type} (xs : List α) (lo hi : Option Int) : (cutL xs lo hi).Sublist xs := (List.take_sublist _ _).trans (List.drop_sublist _ _)
theorem cutL_reps {K : PySem.W.Frag} {S : Addr → Prop} {H : Hp} {vs : List V} {ps : List PV} (r : Reps K S H vs ps) (lo hi : Option Int) : Reps K S H (cutV vs lo hi) (cutL ps lo hi) := by
  unfold cutV cutL
  rw [r.length]
  exact (r.drop _).take _
theorem cutL_whole {α : Type} {xs : List α} {lo hi : Option Int} (h : HT.sIx xs.length 0 lo = 0 ∧ HT.sIx xs.length xs.length hi = xs.length) : cutL xs lo hi = xs := by
  unfold cutL
  rw [h.1, h.2, List.drop_zero, Nat.sub_zero, List.take_length]
def slP (p : PV) (lo hi : Option Int) : R PV := match p with
  | .tup xs => .ok (.tup (cutL xs lo hi))
  | .lst xs => .ok (.lst (cutL xs lo hi))
  | .str s => .ok (.str (cutL s lo hi))
  | _ => .no
theorem cutS_of (l : List Nat) (lo hi : Option Int) : cutS (strOf l) lo hi = strOf (cutL l lo hi) := by
  unfold cutS cutL
  rw [strOf_cps, strOf_len]
  rfl
def rSlG (K : PySem.W.Frag) : V → Option Int → Option Int → Hp → VK → Prop := fun x lo hi H Q => ∃ (a : Addr) (xs : List V), x = .ref a ∧ SqT K H a xs ∧
  (HT.sIx xs.length 0 lo = 0 ∧ HT.sIx xs.length xs.length hi = xs.length → Q (.ref a) H) ∧ (¬ (HT.sIx xs.length 0 lo = 0 ∧ HT.sIx xs.length xs.length hi = xs.length) → NewG H (cutV xs lo hi) Q)
theorem sl_tupG : SlR X (rSlG X.K) := by
  intro pins s σ H x v vl vu lo hi sl Q I r1 hs pl pu hq
  obtain ⟨a, xs, rfl, hx, k1, k2⟩ := hq
  by_cases e : HT.sIx xs.length 0 lo = 0 ∧ HT.sIx xs.length xs.length hi = xs.length
  · exact sl_tupA pins s σ H _ v vl vu lo hi sl Q I r1 hs pl pu ⟨a, xs, rfl, hx, k1, fun n => absurd e n⟩
  · cases r1
    obtain ⟨us, g, t, z⟩ := I.tuple hx
    have hl : us.toArray.size = xs.length := by rw [List.size_toArray, g.length]
    refine ⟨"tuple", _, PyProof.Rows.slot_tuple_getitem.lookup, t.typeIs, HT.getItem_tuple_cut t hs pl pu (by rw [hl]; exact e) ?_ (by rw [hl]; exact z)⟩
    rw [hl]
    exact (k2 e).at I ((g.drop _).take _) (Nat.le_trans (cutV_length xs lo hi) z)
theorem s_sl : ∃ r, SlR X r ∧ ∀ (cl : Str → Value) (W : WX) (σ : L2.St) (S : Addr → Prop) (H H0 : Hp) (m : Md) (Q : VK) (v : V) (p : PV) (lo hi : Option Int), Same H0 H → (∀ b, S b → H b ≠ none) →
    Pk X.K S H v p → GoR X.K cl W σ S H (slP p lo hi) (Wn X.K m H0 Q) → r v lo hi H Q := by
  refine ⟨_, sl_tupG.or (sl_list.or sl_str), fun cl W σ S H H0 m Q v p lo hi hs hd hv h => ?_⟩
  unfold slP at h
  split at h
  · obtain ⟨a, vs, rfl, ha, r, z⟩ := hv.tupG
    refine .inl ⟨a, vs, rfl, ha.sq, fun e => ?_, fun _ t ob ht hb => ?_⟩
    · rw [r.length] at e
      rw [cutL_whole e] at h
      exact give h (.tup ha r z) rfl
    · exact give_tup h ht hb (cutL_reps r lo hi) (Nat.le_trans (cutL_length _ _ _) z)
  · obtain ⟨a, vs, rfl, ha, r, z⟩ := hv.lst
    exact .inr (.inl ⟨a, vs, rfl, .inl (.inl ha), fun t ht => give_lst h hs hd ht (cutL_reps r lo hi) (Nat.le_trans (cutL_length _ _ _) z)⟩)
  · rename_i l
    obtain ⟨rfl, z⟩ := hv.str
    refine .inr (.inr ⟨_, rfl, by rw [strOf_len]; exact z.1, ?_⟩)
    rw [cutS_of]
    exact give_str h (z.sub (cutL_sub _ _ _))
  · exact h.elim

/-! ### truth -/
def truP : PV → R Bool
  | .non => .ok false
  | .bl b => .ok b
  | .int i => .ok (i != 0)
  | .str l => .ok (!l.isEmpty)
  | .tup xs => .ok (!xs.isEmpty)
  | .lst xs => .ok (!xs.isEmpty)
  | .dic kvs => .ok (!kvs.isEmpty)
  | _ => .no
theorem empty_len {α : Type} (l : List α) : (!l.isEmpty) = (((l.length : Nat) : Int) != 0) := by cases l <;> simp <;> omega
theorem Reps.isEmpty {K : PySem.W.Frag} {S : Addr → Prop} {H : Hp} {vs : List V} {ps : List PV} (r : Reps K S H vs ps) : (!vs.isEmpty) = !ps.isEmpty := by cases r <;> rfl
theorem KReps.isEmpty {K : PySem.W.Frag} {S : Addr → Prop} {H : Hp} {vs : List (Key × V)} {ps : List (K1 × PV)} (r : KReps K S H vs ps) : (!vs.isEmpty) = !ps.isEmpty := by cases r <;> rfl
theorem tru_pk {S : Addr → Prop} {H : Hp} {v : V} {p : PV} {b : Bool} (hv : Pk X.K S H v p) (e : truP p = .ok b) : TruV X.K v H b := by
  cases p with
  | non => rw [hv.non]; exact (R.ok.inj e).symm
  | bl c => rw [hv.bl]; exact (R.ok.inj e).symm
  | int i => rw [hv.int]; exact (R.ok.inj e).symm
  | str l =>
    obtain ⟨rfl, z⟩ := hv.str
    refine ⟨by rw [strOf_len]; exact z.1, ?_⟩
    rw [strOf_len, ← empty_len]
    exact (R.ok.inj e).symm
  | tup xs =>
    obtain ⟨a, vs, rfl, ha, r, _⟩ := hv.tup
    exact .inr (.inl ⟨vs, ha, by rw [r.isEmpty]; exact (R.ok.inj e).symm⟩)
  | lst xs =>
    obtain ⟨a, vs, rfl, ha, r, _⟩ := hv.lst
    exact .inl ⟨vs, .inl (.inl ha), by rw [r.isEmpty]; exact (R.ok.inj e).symm⟩
  | dic kvs =>
    obtain ⟨a, d, rfl, ha, r, _⟩ := hv.dic
    exact .inr (.inr ⟨d, ha, by rw [r.isEmpty]; exact (R.ok.inj e).symm⟩)
  | _ => cases e
end

/-! ### a call by values -/
inductive Pks (K : PySem.W.Frag) (S : Addr → Prop) (H : Hp) : List V → List PV → Prop
  | nil : Pks K S H [] []
  | cons {v : V} {p : PV} {vs : List V} {ps : List PV} : Pk K S H v p → Pks K S H vs ps → Pks K S H (v :: vs) (p :: ps)
theorem Pks.ext {K : PySem.W.Frag} {S S' : Addr → Prop} {H H' : Hp} (x : Ext S H S' H') : ∀ {vs : List V} {ps : List PV}, Pks K S H vs ps → Pks K S' H' vs ps
  | _, _, .nil => .nil
  | _, _, .cons r t => .cons (r.ext x) (Pks.ext x t)
theorem Pks.one {K : PySem.W.Frag} {S : Addr → Prop} {H : Hp} {vs : List V} {p : PV} (h : Pks K S H vs [p]) : ∃ v, vs = [v] ∧ Pk K S H v p := by
  cases h with
  | cons r t => cases t; exact ⟨_, rfl, r⟩
theorem Pks.two {K : PySem.W.Frag} {S : Addr → Prop} {H : Hp} {vs : List V} {p q : PV} (h : Pks K S H vs [p, q]) : ∃ v u, vs = [v, u] ∧ Pk K S H v p ∧ Pk K S H u q := by
  cases h with
  | cons r t =>
    obtain ⟨u, rfl, r2⟩ := t.one
    exact ⟨_, _, rfl, r, r2⟩
/-- the call of a built-in does as f -/
def CaS (X : Cx) (g : Value) (f : List PV → R PV) : Prop :=
  ∃ r : List V → Hp → VK → Prop, CallR X g r ∧ ∀ (cl : Str → Value) (W : WX) (σ : L2.St) (S : Addr → Prop) (H H0 : Hp) (m : Md) (Q : VK) (vs : List V) (ps : List PV), Same H0 H → (∀ b, S b → H b ≠ none) →
    Pks X.K S H vs ps → GoR X.K cl W σ S H (f ps) (Wn X.K m H0 Q) → r vs H Q

def lenP : List PV → R PV
  | [.str l] => .ok (.int l.length)
  | [.tup l] => .ok (.int l.length)
  | [.wt l] => .ok (.int l.length)
  | [.lst l] => .ok (.int l.length)
  | [.scr l] => .ok (.int l.length)
  | _ => .no
def blsOf : List PV → Option (List Bool)
  | [] => some []
  | .bl b :: r => (blsOf r).map (b :: ·)
  | _ :: _ => none
def intsOf : List PV → Option (List Int)
  | [] => some []
  | .int b :: r => (intsOf r).map (b :: ·)
  | _ :: _ => none
def strsOf : List PV → Option (List (List Nat))
  | [] => some []
  | .str b :: r => (strsOf r).map (b :: ·)
  | _ :: _ => none
theorem blsOf_eq : ∀ {ps : List PV} {bs : List Bool}, blsOf ps = some bs → ps = bs.map PV.bl
  | [], bs, h => by cases h; rfl
  | p :: ps, bs, h => by
    cases p with
    | bl b =>
      simp only [blsOf] at h
      cases q : blsOf ps with
      | none => rw [q] at h; cases h
      | some l => rw [q] at h; cases h; rw [blsOf_eq q]; rfl
    | _ => cases h
theorem intsOf_eq : ∀ {ps : List PV} {bs : List Int}, intsOf ps = some bs → ps = bs.map PV.int
  | [], bs, h => by cases h; rfl
  | p :: ps, bs, h => by
    cases p with
    | int b =>
      simp only [intsOf] at h
      cases q : intsOf ps with
      | none => rw [q] at h; cases h
      | some l => rw [q] at h; cases h; rw [intsOf_eq q]; rfl
    | _ => cases h
theorem strsOf_eq : ∀ {ps : List PV} {bs : List (List Nat)}, strsOf ps = some bs → ps = bs.map PV.str
  | [], bs, h => by cases h; rfl
  | p :: ps, bs, h => by
    cases p with
    | str b =>
      simp only [strsOf] at h
      cases q : strsOf ps with
      | none => rw [q] at h; cases h
      | some l => rw [q] at h; cases h; rw [strsOf_eq q]; rfl
    | _ => cases h
@[simp] theorem blsOf_map : ∀ bs : List Bool, blsOf (bs.map PV.bl) = some bs
  | [] => rfl
  | b :: r => by simp [blsOf, blsOf_map r]
@[simp] theorem intsOf_map : ∀ bs : List Int, intsOf (bs.map PV.int) = some bs
  | [] => rfl
  | b :: r => by simp [intsOf, intsOf_map r]
@[simp] theorem strsOf_map : ∀ bs : List (List Nat), strsOf (bs.map PV.str) = some bs
  | [] => rfl
  | b :: r => by simp [strsOf, strsOf_map r]
def allP : List PV → R PV
  | [.lst l] => match blsOf l with
    | some bs => .ok (.bl (bs.all id))
    | none => .no
  | _ => .no
def anyP : List PV → R PV
  | [.lst l] => match blsOf l with
    | some bs => .ok (.bl (bs.any id))
    | none => .no
  | _ => .no
def intOk (l : List Nat) : Bool := decide (l.length ≤ 640)
def intP : List PV → R PV
  | [.int i] => .ok (.int i)
  | [.bl b] => .ok (.int (if b then 1 else 0))
  | [.str l] => if l.length ≤ 640 then (match intText? (strOf l) with
    | some n => .ok (.int n)
    | none => .no) else .no
  | _ => .no
def numOf (i : Int) : List Nat := (toString i : Str).cps.toList
def strP : List PV → R PV
  | [.int i] => if i.natAbs.log2 < 1920 ∧ SOk (numOf i) then .ok (.str (numOf i)) else .no
  | [.str l] => .ok (.str l)
  | _ => .no
def tupleP : List PV → R PV
  | [.lst l] => .ok (.tup l)
  | [.tup l] => .ok (.tup l)
  | _ => .no
def unKey : K1 → PV
  | .inl i => .int i
  | .inr l => .str l
def listP : List PV → R PV
  | [.lst l] => .ok (.lst l)
  | [.tup l] => .ok (.lst l)
  | _ => .no
def absP : List PV → R PV
  | [.int i] => .ok (.int (if i < 0 then -i else i))
  | _ => .no
def minP : List PV → R PV
  | [.int i, .int j] => .ok (.int (if j < i then j else i))
  | _ => .no
section
variable {X : Cx}
theorem c_len : CaS X (.builtin "len") lenP := by
  refine ⟨_, call_len, fun cl W σ S H H0 m Q vs ps hs hd hp h => ?_⟩
  unfold lenP at h
  split at h
  · obtain ⟨v, rfl, hv⟩ := hp.one
    obtain ⟨rfl, z⟩ := hv.str
    exact ⟨_, _, rfl, ⟨by rw [strOf_len]; exact z.1, rfl⟩, by rw [strOf_len]; exact give_int h⟩
  · obtain ⟨v, rfl, hv⟩ := hp.one
    obtain ⟨a, vs, rfl, ha, r, _⟩ := hv.tup
    exact ⟨_, _, rfl, .inr ⟨vs, ha, rfl⟩, by rw [r.length]; exact give_int h⟩
  · obtain ⟨v, rfl, hv⟩ := hp.one
    obtain ⟨a, vs, rfl, ha, r, _⟩ := hv.wt
    exact ⟨_, _, rfl, .inr ⟨vs, ha, rfl⟩, by rw [r.length]; exact give_int h⟩
  · obtain ⟨v, rfl, hv⟩ := hp.one
    obtain ⟨a, vs, rfl, ha, r, _⟩ := hv.lst
    exact ⟨_, _, rfl, .inl ⟨vs, .inl (.inl ha), rfl⟩, by rw [r.length]; exact give_int h⟩
  · obtain ⟨v, rfl, hv⟩ := hp.one
    obtain ⟨a, rfl, ha, _⟩ := hv.scr
    exact ⟨_, _, rfl, .inl ⟨_, ha, rfl⟩, by rw [List.length_map]; exact give_int h⟩
  · exact h.elim
theorem c_all (hc : X.calm = true) : CaS X (.builtin "all") allP := by
  refine ⟨_, cr_all hc, fun cl W σ S H H0 m Q vs ps hs hd hp h => ?_⟩
  unfold allP at h
  split at h
  · split at h
    · rename_i e
      obtain ⟨v, rfl, hv⟩ := hp.one
      obtain ⟨a, vs, rfl, ha, r, _⟩ := hv.lst
      rw [blsOf_eq e] at r
      rw [r.bls] at ha
      exact ⟨a, _, rfl, .inl (.inl ha), give_bl h⟩
    · exact h.elim
  · exact h.elim
theorem c_any (hc : X.calm = true) : CaS X (.builtin "any") anyP := by
  refine ⟨_, cr_any hc, fun cl W σ S H H0 m Q vs ps hs hd hp h => ?_⟩
  unfold anyP at h
  split at h
  · split at h
    · rename_i e
      obtain ⟨v, rfl, hv⟩ := hp.one
      obtain ⟨a, vs, rfl, ha, r, _⟩ := hv.lst
      rw [blsOf_eq e] at r
      rw [r.bls] at ha
      exact ⟨a, _, rfl, .inl (.inl ha), give_bl h⟩
    · exact h.elim
  · exact h.elim
theorem c_int : CaS X (.type "int") intP := by
  refine ⟨_, call_int1.or call_int_str, fun cl W σ S H H0 m Q vs ps hs hd hp h => ?_⟩
  unfold intP at h
  split at h
  · obtain ⟨v, rfl, hv⟩ := hp.one
    exact .inl (.inl ⟨_, by rw [hv.int], give_int h⟩)
  · obtain ⟨v, rfl, hv⟩ := hp.one
    exact .inl (.inr ⟨_, by rw [hv.bl], give_int h⟩)
  · split at h
    · rename_i z
      split at h
      · rename_i e
        obtain ⟨v, rfl, hv⟩ := hp.one
        obtain ⟨rfl, _⟩ := hv.str
        exact .inr ⟨_, _, rfl, e, by rw [strOf_len]; exact z, give_int h⟩
      · exact h.elim
    · exact h.elim
  · exact h.elim
theorem c_str : CaS X (.type "str") strP := by
  refine ⟨_, call_str_int.or SkE.call_str_str, fun cl W σ S H H0 m Q vs ps hs hd hp h => ?_⟩
  unfold strP at h
  split at h
  · split at h
    · rename_i i z
      obtain ⟨v, rfl, hv⟩ := hp.one
      refine .inl ⟨_, by rw [hv.int], z.1, ?_⟩
      rw [show ((toString i : String) : Str) = strOf (numOf i) from (strOf_cps' _).symm]
      exact give_str h z.2
    · exact h.elim
  · obtain ⟨v, rfl, hv⟩ := hp.one
    obtain ⟨rfl, z⟩ := hv.str
    exact .inr ⟨_, rfl, give_str h z⟩
  · exact h.elim
theorem call_tupleG : CallR X (.type "tuple") (fun xs H Q => ∃ (p : Addr) (ys : List V), xs = [.ref p] ∧ ((SqL X.K H p ys ∧ NewG H ys Q) ∨ (SqT X.K H p ys ∧ Q (.ref p) H))) := by
  intro pins s σ H vs us Q I rv hq
  obtain ⟨p, ys, rfl, hq⟩ := hq
  rcases hq with ⟨h1, q⟩ | ⟨h1, q⟩
  · obtain ⟨u, rfl, ru⟩ := vals1 rv
    cases ru
    obtain ⟨ws, g, pl, z⟩ := I.list h1
    refine call_tuple_list pl.isList (fun h2 kp => ?_) (by rw [List.size_toArray, ← g.length]; exact z)
    have I2 : Inv X pins σ H { s with heap := h2 } := I.kept (t' := s.toks) kp
    exact q.at I2 g z
  · exact call_tuple_of pins s σ H _ us Q I rv ⟨p, ys, rfl, .inr ⟨h1, q⟩⟩
theorem c_tuple : CaS X (.type "tuple") tupleP := by
  refine ⟨_, call_tupleG, fun cl W σ S H H0 m Q vs ps hs hd hp h => ?_⟩
  unfold tupleP at h
  split at h
  · obtain ⟨v, rfl, hv⟩ := hp.one
    obtain ⟨a, vs, rfl, ha, r, z⟩ := hv.lst
    exact ⟨a, vs, rfl, .inl ⟨.inl (.inl ha), fun l ob hl hb => give_tup h hl hb r z⟩⟩
  · obtain ⟨v, rfl, hv⟩ := hp.one
    obtain ⟨a, vs, rfl, ha, r, z⟩ := hv.tupG
    exact ⟨a, vs, rfl, .inr ⟨ha.sq, give h (.tup ha r z) rfl⟩⟩
  · exact h.elim
theorem c_list : CaS X (.type "list") listP := by
  refine ⟨_, call_list_of, fun cl W σ S H H0 m Q vs ps hs hd hp h => ?_⟩
  unfold listP at h
  split at h
  · obtain ⟨v, rfl, hv⟩ := hp.one
    obtain ⟨a, vs, rfl, ha, r, z⟩ := hv.lst
    exact ⟨a, vs, rfl, .inl (.inl (.inl ha)), fun l hl => give_lst h hs hd hl r z⟩
  · obtain ⟨v, rfl, hv⟩ := hp.one
    obtain ⟨a, vs, rfl, ha, r, z⟩ := hv.tup
    exact ⟨a, vs, rfl, .inr ha, fun l hl => give_lst h hs hd hl r z⟩
  · exact h.elim
theorem c_abs : CaS X (.builtin "abs") absP := by
  refine ⟨_, call_abs, fun cl W σ S H H0 m Q vs ps hs hd hp h => ?_⟩
  unfold absP at h
  split at h
  · obtain ⟨v, rfl, hv⟩ := hp.one
    exact ⟨_, by rw [hv.int], give_int h⟩
  · exact h.elim
theorem c_min (hc : X.calm = true) : CaS X (.builtin "min") minP := by
  refine ⟨_, call_min2 hc, fun cl W σ S H H0 m Q vs ps hs hd hp h => ?_⟩
  unfold minP at h
  split at h
  · obtain ⟨v, u, rfl, hv, hu⟩ := hp.two
    exact ⟨_, _, by rw [hv.int, hu.int], give_int h⟩
  · exact h.elim
end
end M
/-! MF: expressions of the text, by functions on whole slots. -/
namespace M
open PySem PySem.Spec PyProof.Rows L2

theorem pe_imp {X : Cx} {e : Expr} {t t' : TE} (h : PE X e t) (i : ∀ σ H Q, t' σ H Q → t σ H Q) : PE X e t' := ⟨fun pins s σ H Q I q => h.run pins s σ H Q I (i σ H Q q)⟩
theorem pt_imp {X : Cx} {e : Expr} {t t' : TT} (h : PT X e t) (i : ∀ σ H Q, t' σ H Q → t σ H Q) : PT X e t' := ⟨fun pins s σ H Q I q => h.run pins s σ H Q I (i σ H Q q)⟩
theorem pw_imp {X : Cx} {e : Expr} {t t' : TT} (h : PW X e t) (i : ∀ σ H Q, t' σ H Q → t σ H Q) : PW X e t' := ⟨fun wh pins s σ H Q I q => h.run wh pins s σ H Q I (i σ H Q q)⟩
theorem pa_imp {X : Cx} {e : List Expr} {t t' : TA} (h : PA X e t) (i : ∀ σ H Q, t' σ H Q → t σ H Q) : PA X e t' := ⟨fun ps pins s σ H Q I q => h.run ps pins s σ H Q I (i σ H Q q)⟩
theorem pg_imp {X : Cx} {e : Expr} {t t' : TG} (h : PG X e t) (i : ∀ v σ H Q, t' v σ H Q → t v σ H Q) : PG X e t' := ⟨fun pins s σ H v u Q I r q => h.run pins s σ H v u Q I r (i v σ H Q q)⟩
theorem pi_imp {X : Cx} {tg e : Expr} {t t' : TI} (h : PI X tg e t) (i : ∀ σ H R, t' σ H R → t σ H R) : PI X tg e t' := ⟨fun pins s σ H R I q => h.run pins s σ H R I (i σ H R q)⟩
theorem ps_imp {X : Cx} {e : Stmt} {t t' : TS} (h : PS X e t) (i : ∀ D σ H, t' D σ H → t D σ H) : PS X e t' := ⟨fun pins s σ H D I q => h.run pins s σ H D I (i D σ H q)⟩
theorem pss_imp {X : Cx} {e : List Stmt} {t t' : TS} (h : PSs X e t) (i : ∀ D σ H, t' D σ H → t D σ H) : PSs X e t' := ⟨fun pins s σ H D I q => h.run pins s σ H D I (i D σ H q)⟩

section
variable (K : PySem.W.Frag) (cl : Str → Value) (W : WX) (mu : List Nat)
/-- an expression's reading, by a function on slots -/
def tE (m : Md) (f : Env' → R PV) : TE := fun σ H Q => ∃ S ρ, RE K mu S σ H ρ ∧ GoR K cl W σ S H (f ρ) (Wn K m H Q)
def tT (f : Env' → R Bool) : TT := fun σ H Q => ∃ S ρ, RE K mu S σ H ρ ∧ GoR K cl W σ S H (f ρ) (fun b _ H' => Q b H')
def tA (m : Md) (f : Env' → R (List PV)) : TA := fun σ H Q => ∃ S ρ, RE K mu S σ H ρ ∧ GoR K cl W σ S H (f ρ) (fun ps S' H' => ∀ vs, (match m with
  | .sh => Reps K S' H' vs ps
  | _ => Pks K S' H' vs ps) → Q vs H')
end
abbrev PX (X : Cx) (cl : Str → Value) (W : WX) (mu : List Nat) (m : Md) (e : Expr) (f : Env' → R PV) : Prop := PE X e (tE X.K cl W mu m f)
abbrev PTX (X : Cx) (cl : Str → Value) (W : WX) (mu : List Nat) (e : Expr) (f : Env' → R Bool) : Prop := PT X e (tT X.K cl W mu f)
abbrev PWX (X : Cx) (cl : Str → Value) (W : WX) (mu : List Nat) (e : Expr) (f : Env' → R Bool) : Prop := PW X e (tT X.K cl W mu f)
abbrev PAX (X : Cx) (cl : Str → Value) (W : WX) (mu : List Nat) (m : Md) (e : List Expr) (f : Env' → R (List PV)) : Prop := PA X e (tA X.K cl W mu m f)

section
variable {X : Cx} {cl : Str → Value} {W : WX} {mu : List Nat} {m : Md} {a b c e : Expr} {f g h : Env' → R PV} {pos : Pos}
/-- what is shared may be looked at; what is one's own may be shared -/
theorem px_pk (p : PX X cl W mu .sh e f) : PX X cl W mu .pk e f := pe_imp p fun σ H Q ⟨S, ρ, re, go⟩ => ⟨S, ρ, re, go.mono fun p S' H' _ x w v hv => w v (.inl hv)⟩
theorem px_sh (p : PX X cl W mu .ow e f) : PX X cl W mu .sh e f := pe_imp p fun σ H Q ⟨S, ρ, re, go⟩ => by
  refine ⟨S, ρ, re, ?_⟩
  cases q : f ρ with
  | no => rw [q] at go; exact go.elim
  | ex z => rw [q] at go; exact go
  | ok r =>
    rw [q] at go
    intro S' H' x v hv
    cases o : isObjP r with
    | false =>
      have hv : if isObjP r = true then _ else _ := hv
      rw [o] at hv
      exact go.at x v hv
    | true =>
      have hv : if isObjP r = true then _ else _ := hv
      rw [o] at hv
      obtain ⟨a, rfl, hn, ns, ow⟩ := hv
      have x2 : Ext S H (fun b => S' b ∨ b = a) H' := by
        refine ⟨x.same, fun b z => .inl (x.sub b z), fun b z => z.elim (x.new b) fun e => .inr (by rw [e]; exact hn), fun hd b z => ?_⟩
        rcases z with z | rfl
        · exact x.dom hd b z
        · obtain ⟨o, e, _⟩ := ow.some
          rw [e]
          exact fun z => nomatch z
      refine go.at x2 _ ?_
      exact (ow.keep ⟨fun _ _ _ e => e, fun _ _ e _ => e⟩ (fun _ z => .inl z) fun _ e => e).rep (.inr rfl)

/-! ### names, constants -/
def fVar (i : Nat) : Env' → R PV := fun ρ => match ρ[i]? with
  | some (some p) => .ok p
  | _ => .no
theorem px_var {i : Nat} {x : Str} (hi : i ∉ mu) (hN : X.N[i]? = some x) (hv : Vis X.env.scope x) (hd : (x == ("__debug__" : Str)) = false) (hcd : (x == ("__classdict__" : Str)) = false) : PX X cl W mu .sh (.Name x pos) (fVar i) := by
  refine pe_imp (pe_var hN hv hd hcd) fun σ H Q ⟨S, ρ, re, go⟩ => ?_
  unfold fVar at go
  split at go
  · rename_i p q
    obtain ⟨v, e1, r⟩ := re.sh i p hi q
    exact ⟨v, e1, go.here v r⟩
  · exact go.elim
theorem px_varP {i : Nat} {x : Str} (hN : X.N[i]? = some x) (hv : Vis X.env.scope x) (hd : (x == ("__debug__" : Str)) = false) (hcd : (x == ("__classdict__" : Str)) = false) : PX X cl W mu .pk (.Name x pos) (fVar i) := by
  refine pe_imp (pe_var hN hv hd hcd) fun σ H Q ⟨S, ρ, re, go⟩ => ?_
  unfold fVar at go
  split at go
  · rename_i p q
    by_cases hi : i ∈ mu
    · obtain ⟨a, e1, _, o⟩ := re.ow i p hi q
      exact ⟨_, e1, go.here _ (.inr ⟨a, rfl, o⟩)⟩
    · obtain ⟨v, e1, r⟩ := re.sh i p hi q
      exact ⟨v, e1, go.here v (.inl r)⟩
  · exact go.elim
def fC (p : PV) : Env' → R PV := fun _ => .ok p
theorem px_int {i : Int} {j : Nat} : PX X cl W mu m (.Constant (.int i) j pos) (fC (.int i)) := pe_imp pe_int fun σ H Q ⟨S, ρ, re, go⟩ => give_int go
theorem px_bl {i : Bool} {j : Nat} : PX X cl W mu m (.Constant (.bool i) j pos) (fC (.bl i)) := pe_imp pe_bl fun σ H Q ⟨S, ρ, re, go⟩ => give_bl go
theorem px_non {j : Nat} : PX X cl W mu m (.Constant .none j pos) (fC .non) := pe_imp pe_non fun σ H Q ⟨S, ρ, re, go⟩ => give_non go
theorem px_str {x : Str} {j : Nat} (z : SOk x.cps.toList) : PX X cl W mu m (.Constant (.str x) j pos) (fC (.str x.cps.toList)) := pe_imp pe_str fun σ H Q ⟨S, ρ, re, go⟩ => by
  have q := give_str go z
  rw [strOf_cps'] at q
  exact q
/-- a module's constant -/
theorem px_glob {x : Str} {p : PV} {v : V} {u : Value} (hg : Gl X x) (hm : X.mg x = some u) (r : RelV v u) (hr : ∀ S H, Rep X.K S H v p) (hn : isObjP p = false) (hd : (x == ("__debug__" : Str)) = false) : PX X cl W mu m (.Name x pos) (fC p) :=
  pe_imp (pe_glob hg hm r hd) fun σ H Q ⟨S, ρ, re, go⟩ => give go (hr S H) hn

/-! ### operators -/
def fBin (k : PV → PV → R PV) (f g : Env' → R PV) : Env' → R PV := fun ρ => f ρ >>= fun p => g ρ >>= fun q => k p q
/-- two looked-at values, then what r asks -/
theorem two {S : Addr → Prop} {σ : L2.St} {H : Hp} {ρ : Env'} {k : PV → PV → R PV} {Q : VK} {r : V → V → Hp → Prop} (re : RE X.K mu S σ H ρ) (go : GoR X.K cl W σ S H (fBin k f g ρ) (Wn X.K m H Q))
    (hk : ∀ S2 H2 v u p q, Same H H2 → (∀ b, S2 b → H2 b ≠ none) → Pk X.K S2 H2 v p → Pk X.K S2 H2 u q → GoR X.K cl W σ S2 H2 (k p q) (Wn X.K m H Q) → r v u H2) :
    tE X.K cl W mu .pk f σ H fun x H1 => tE X.K cl W mu .pk g σ H1 fun y H2 => r x y H2 := by
  refine ⟨S, ρ, re, go.bind.mono fun p S1 H1 _ x go1 v hv => ⟨S1, ρ, re.ext x, go1.bind.mono fun q S2 H2 _ y go2 u hu => ?_⟩⟩
  exact hk S2 H2 v u p q (x.same.trans y.same) ((re.ext x).ext y).dom (hv.ext y) hu go2
theorem px_bin {op : Operator} {k : PV → PV → R PV} (hO : OpS X (binaryOp op) k) (ha : PX X cl W mu .pk a f) (hb : PX X cl W mu .pk b g) : PX X cl W mu m (.BinOp a op b pos) (fBin k f g) := by
  obtain ⟨r, o, hop⟩ := hO
  exact pe_imp (pe_op o ha hb) fun σ H Q ⟨S, ρ, re, go⟩ => two re go fun S2 H2 v u p q hs hd hv hu go2 => hop cl W σ S2 H2 H m Q v u p q hs hd hv hu go2
theorem px_cmp {op : CmpOp} {k : PV → PV → R PV} (hO : OpS X (compareOp op) k) (ha : PX X cl W mu .pk a f) (hb : PX X cl W mu .pk b g) (hm : behindInMarks op b = false) : PX X cl W mu m (.Compare a [op] [b] pos) (fBin k f g) := by
  obtain ⟨r, o, hop⟩ := hO
  exact pe_imp (pe_cmpR o ha hb hm) fun σ H Q ⟨S, ρ, re, go⟩ => two re go fun S2 H2 v u p q hs hd hv hu go2 => hop cl W σ S2 H2 H m Q v u p q hs hd hv hu go2
def asBl : PV → R Bool
  | .bl b => .ok b
  | _ => .no
theorem asBl_ok {p : PV} {b : Bool} (h : asBl p = .ok b) : p = .bl b := by
  cases p <;> first | (cases h; rfl) | cases h
def fTst (k : PV → R Bool) (f : Env' → R PV) : Env' → R Bool := fun ρ => f ρ >>= k
theorem asBl_noex {p : PV} {e : Ex} (h : asBl p = .ex e) : False := by cases p <;> cases h
/-- a comparison as a test -/
theorem pt_cmp' {op : CmpOp} {k : PV → PV → R PV} (hO : OpS X (compareOp op) k) (ha : PX X cl W mu .pk a f) (hb : PX X cl W mu .pk b g) (hm : behindInMarks op b = false) : PTX X cl W mu (.Compare a [op] [b] pos) (fTst asBl (fBin k f g)) := by
  obtain ⟨r, o, hop⟩ := hO
  refine pt_imp (pt_cmpR o ha hb hm) fun σ H Q ⟨S, ρ, re, go⟩ => ?_
  have go' : GoR X.K cl W σ S H (fBin k f g ρ) (Wn X.K .pk H fun x H' => ∃ c, x = .bl c ∧ Q c H') := go.bind.mono fun p S1 H1 _ x go1 v hv => by
    obtain ⟨b, e, go2⟩ := gor_noex (f := fun b => R.ok b) (show GoR X.K cl W σ S1 H1 (asBl p >>= fun b => R.ok b) _ by
      cases q : asBl p with
      | ok b => rw [q] at go1; exact go1
      | ex z => exact (asBl_noex q).elim
      | no => rw [q] at go1; exact go1.elim) fun z => asBl_noex
    rw [asBl_ok e] at hv
    exact ⟨b, hv.bl, go2.here⟩
  exact two re go' fun S2 H2 v u p q hs hd hv hu go2 => hop cl W σ S2 H2 H .pk _ v u p q hs hd hv hu go2
/-- a < b < c -/
def fChain (k k' : PV → PV → R PV) (f g h : Env' → R PV) : Env' → R PV := fun ρ => f ρ >>= fun p => g ρ >>= fun q => k p q >>= fun r => asBl r >>= fun b => if b then h ρ >>= fun s => k' q s else .ok (.bl false)
/-- what a chain asks -/
theorem chain_go {op op' : CmpOp} {k k' : PV → PV → R PV} {r r' : R2} {m0 : Md}
    (h1 : ∀ (cl : Str → Value) (W : WX) (σ : L2.St) (S : Addr → Prop) (H H0 : Hp) (m : Md) (Q : VK) (v u : V) (p q : PV), Same H0 H → (∀ b, S b → H b ≠ none) → Pk X.K S H v p → Pk X.K S H u q → GoR X.K cl W σ S H (k p q) (Wn X.K m H0 Q) → r v u H Q)
    (h2 : ∀ (cl : Str → Value) (W : WX) (σ : L2.St) (S : Addr → Prop) (H H0 : Hp) (m : Md) (Q : VK) (v u : V) (p q : PV), Same H0 H → (∀ b, S b → H b ≠ none) → Pk X.K S H v p → Pk X.K S H u q → GoR X.K cl W σ S H (k' p q) (Wn X.K m H0 Q) → r' v u H Q)
    {S : Addr → Prop} {σ : L2.St} {H : Hp} {ρ : Env'} {Q : VK} (re : RE X.K mu S σ H ρ) (go : GoR X.K cl W σ S H (fChain k k' f g h ρ) (Wn X.K m0 H Q)) :
    tChain r r' (tE X.K cl W mu .pk f) (tE X.K cl W mu .pk g) (tE X.K cl W mu .pk h) σ H Q := by
  refine ⟨S, ρ, re, go.bind.mono fun p S1 H1 _ x go1 v hv => ⟨S1, ρ, re.ext x, go1.bind.mono fun q S2 H2 _ y go2 u hu => ?_⟩⟩
  refine h1 cl W σ S2 H2 H .pk _ v u p q (x.same.trans y.same) ((re.ext x).ext y).dom (hv.ext y) hu (go2.bind.mono fun t S3 H3 _ z go3 w hw => ?_)
  obtain ⟨b, e, go4⟩ := gor_noex go3 fun e => asBl_noex
  rw [asBl_ok e] at hw
  refine ⟨b, hw.bl, ?_⟩
  cases b with
  | false =>
    rw [if_neg Bool.false_ne_true]
    rw [if_neg Bool.false_ne_true] at go4
    exact give_bl go4
  | true =>
    rw [if_pos rfl]
    rw [if_pos rfl] at go4
    refine ⟨S3, ρ, (((re.ext x).ext y).ext z), go4.bind.mono fun s S4 H4 _ w5 go5 u5 hu5 => ?_⟩
    exact h2 cl W σ S4 H4 H m0 _ u u5 q s (((x.same.trans y.same).trans z.same).trans w5.same) ((((re.ext x).ext y).ext z).ext w5).dom ((hu.ext z).ext w5) hu5 go5
theorem px_chain {op op' : CmpOp} {k k' : PV → PV → R PV} (hO : OpS X (compareOp op) k) (hO' : OpS X (compareOp op') k') (ha : PX X cl W mu .pk a f) (hb : PX X cl W mu .pk b g) (hc : PX X cl W mu .pk c h) (hm : lastMarks [op, op'] [b, c] = false) :
    PX X cl W mu m (.Compare a [op, op'] [b, c] pos) (fChain k k' f g h) := by
  obtain ⟨r, o, h1⟩ := hO
  obtain ⟨r', o', h2⟩ := hO'
  exact pe_imp (pe_chain o o' ha hb hc hm) fun σ H Q ⟨S, ρ, re, go⟩ => chain_go (op := op) (op' := op') h1 h2 re go
/-- a truth's continuation -/
theorem tst_bl {S : Addr → Prop} {σ : L2.St} {H : Hp} {r : R PV} {Q : Bool → Hp → Prop} (go : GoR X.K cl W σ S H (r >>= asBl) (fun b _ H' => Q b H')) : GoR X.K cl W σ S H r (Wn X.K .pk H fun x H' => ∃ c, x = .bl c ∧ Q c H') :=
  go.bind.mono fun p S1 H1 _ x go1 v hv => by
    cases q : asBl p with
    | ok b =>
      rw [q] at go1
      rw [asBl_ok q] at hv
      exact ⟨b, hv.bl, go1.here⟩
    | ex z => exact (asBl_noex q).elim
    | no => rw [q] at go1; exact go1.elim
theorem pt_chain' {op op' : CmpOp} {k k' : PV → PV → R PV} (hO : OpS X (compareOp op) k) (hO' : OpS X (compareOp op') k') (ha : PX X cl W mu .pk a f) (hb : PX X cl W mu .pk b g) (hc : PX X cl W mu .pk c h) (hm : lastMarks [op, op'] [b, c] = false) :
    PTX X cl W mu (.Compare a [op, op'] [b, c] pos) (fTst asBl (fChain k k' f g h)) := by
  obtain ⟨r, o, h1⟩ := hO
  obtain ⟨r', o', h2⟩ := hO'
  exact pt_imp (pt_chain o o' ha hb hc hm) fun σ H Q ⟨S, ρ, re, go⟩ => chain_go (op := op) (op' := op') h1 h2 re (tst_bl go)

/-! ### tests -/
/-- any expression whose test is its value's truth -/
theorem pt_tru (ha : PX X cl W mu .pk a f) (he : ∀ whole, isTrue a X.env whole = (do let v ← whole; standAt a.pos; holding [v] (truthy v))) : PTX X cl W mu a (fTst truP f) := by
  refine pt_imp (pt_truth ha he) fun σ H Q ⟨S, ρ, re, go⟩ => ⟨S, ρ, re, go.bind.mono fun p S1 H1 _ x go1 v hv => ?_⟩
  cases q : truP p with
  | ok b =>
    rw [q] at go1
    exact ⟨b, tru_pk hv q, go1.here⟩
  | ex z => cases p <;> cases q
  | no => rw [q] at go1; exact go1.elim
def fNotT (f : Env' → R Bool) : Env' → R Bool := fun ρ => f ρ >>= fun b => .ok (!b)
def fAndT (f g : Env' → R Bool) : Env' → R Bool := fun ρ => f ρ >>= fun b => if b then g ρ else .ok false
def fOrT (f g : Env' → R Bool) : Env' → R Bool := fun ρ => f ρ >>= fun b => if b then .ok true else g ρ
theorem ptx_not {f : Env' → R Bool} (ha : PTX X cl W mu a f) : PTX X cl W mu (.UnaryOp .Not a pos) (fNotT f) :=
  pt_imp (pt_not ha) fun σ H Q ⟨S, ρ, re, go⟩ => ⟨S, ρ, re, go.bind.mono fun b S1 H1 _ x go1 => go1.here⟩
theorem pwx_and1 {f : Env' → R Bool} (ha : PTX X cl W mu a f) : PWX X cl W mu (.BoolOp .And [a] pos) f := pw_and1 ha
theorem pwx_or1 {f : Env' → R Bool} (ha : PTX X cl W mu a f) : PWX X cl W mu (.BoolOp .Or [a] pos) f := pw_or1 ha
theorem pwx_and {f g : Env' → R Bool} {rest : List Expr} (ha : PTX X cl W mu a f) (hb : PWX X cl W mu (.BoolOp .And (b :: rest) pos) g) : PWX X cl W mu (.BoolOp .And (a :: b :: rest) pos) (fAndT f g) :=
  pw_imp (pw_and ha hb) fun σ H Q ⟨S, ρ, re, go⟩ => ⟨S, ρ, re, go.bind.mono fun p S1 H1 _ x go1 => by
    cases p with
    | true => exact ⟨S1, ρ, re.ext x, go1⟩
    | false => exact go1.here⟩
theorem pwx_or {f g : Env' → R Bool} {rest : List Expr} (ha : PTX X cl W mu a f) (hb : PWX X cl W mu (.BoolOp .Or (b :: rest) pos) g) : PWX X cl W mu (.BoolOp .Or (a :: b :: rest) pos) (fOrT f g) :=
  pw_imp (pw_or ha hb) fun σ H Q ⟨S, ρ, re, go⟩ => ⟨S, ρ, re, go.bind.mono fun p S1 H1 _ x go1 => by
    cases p with
    | true => exact go1.here
    | false => exact ⟨S1, ρ, re.ext x, go1⟩⟩
/-! .. as values -/
def fAndV (f g : Env' → R PV) : Env' → R PV := fun ρ => f ρ >>= fun p => asBl p >>= fun b => if b then g ρ else .ok (.bl false)
def fOrV (f g : Env' → R PV) : Env' → R PV := fun ρ => f ρ >>= fun p => asBl p >>= fun b => if b then .ok (.bl true) else g ρ
def fNotV (f : Env' → R PV) : Env' → R PV := fun ρ => f ρ >>= fun p => asBl p >>= fun b => .ok (.bl (!b))
theorem own_same {m : Md} {H H1 : Hp} {Q : VK} {S : Addr → Prop} {σ : L2.St} {r : R PV} (hs : Same H H1) (go : GoR X.K cl W σ S H1 r (Wn X.K m H Q)) : GoR X.K cl W σ S H1 r (Wn X.K m H1 Q) := go.mono fun p S' H' _ x w v hv => w v (by
  cases m with
  | pk => exact hv
  | sh => exact hv
  | ow =>
    have hv : if isObjP p = true then _ else _ := hv
    show if isObjP p = true then _ else _
    split at hv
    · rename_i o
      rw [if_pos o]
      obtain ⟨a, e, n, r⟩ := hv
      exact ⟨a, e, hs.free n, r⟩
    · rename_i o
      rw [if_neg o]
      exact hv)
theorem px_and {rest : List Expr} (ha : PX X cl W mu .pk a f) (hb : PX X cl W mu m (.BoolOp .And (b :: rest) pos) g) : PX X cl W mu m (.BoolOp .And (a :: b :: rest) pos) (fAndV f g) :=
  pe_imp (pe_and ha hb) fun σ H Q ⟨S, ρ, re, go⟩ => ⟨S, ρ, re, go.bind.mono fun p S1 H1 _ x go1 v hv => by
    obtain ⟨c, e, go2⟩ := gor_noex go1 fun e => asBl_noex
    rw [asBl_ok e] at hv
    refine ⟨c, hv.bl, ?_⟩
    cases c with
    | true => exact ⟨S1, ρ, re.ext x, own_same x.same go2⟩
    | false => exact give_bl go2⟩
theorem px_or {rest : List Expr} (ha : PX X cl W mu .pk a f) (hb : PX X cl W mu m (.BoolOp .Or (b :: rest) pos) g) : PX X cl W mu m (.BoolOp .Or (a :: b :: rest) pos) (fOrV f g) :=
  pe_imp (pe_or ha hb) fun σ H Q ⟨S, ρ, re, go⟩ => ⟨S, ρ, re, go.bind.mono fun p S1 H1 _ x go1 v hv => by
    obtain ⟨c, e, go2⟩ := gor_noex go1 fun e => asBl_noex
    rw [asBl_ok e] at hv
    refine ⟨c, hv.bl, ?_⟩
    cases c with
    | true => exact give_bl go2
    | false => exact ⟨S1, ρ, re.ext x, own_same x.same go2⟩⟩
theorem px_one {op : BoolOp} (ha : PX X cl W mu m a f) : PX X cl W mu m (.BoolOp op [a] pos) f := pe_one ha
theorem px_not (ha : PX X cl W mu .pk a f) : PX X cl W mu m (.UnaryOp .Not a pos) (fNotV f) :=
  pe_imp (pe_not ha) fun σ H Q ⟨S, ρ, re, go⟩ => ⟨S, ρ, re, go.bind.mono fun p S1 H1 _ x go1 v hv => by
    obtain ⟨c, e, go2⟩ := gor_noex go1 fun e => asBl_noex
    rw [asBl_ok e] at hv
    exact ⟨c, hv.bl, give_bl go2⟩⟩
def fIte (c : Env' → R Bool) (f g : Env' → R PV) : Env' → R PV := fun ρ => c ρ >>= fun b => if b then f ρ else g ρ
theorem px_ite {t : Env' → R Bool} (hc : PTX X cl W mu c t) (ha : PX X cl W mu m a f) (hb : PX X cl W mu m b g) : PX X cl W mu m (.IfExp c a b pos) (fIte t f g) :=
  pe_imp (pe_ifExp hc ha hb) fun σ H Q ⟨S, ρ, re, go⟩ => ⟨S, ρ, re, go.bind.mono fun p S1 H1 _ x go1 => by
    cases p with
    | true => exact ⟨S1, ρ, re.ext x, own_same x.same go1⟩
    | false => exact ⟨S1, ρ, re.ext x, own_same x.same go1⟩⟩
def fNeg (f : Env' → R PV) : Env' → R PV := fun ρ => f ρ >>= fun p => match p with
  | .int i => .ok (.int (-i))
  | _ => .no
theorem px_neg (ha : PX X cl W mu .pk a f) : PX X cl W mu m (.UnaryOp .USub a pos) (fNeg f) :=
  pe_imp (pe_un un_neg ha) fun σ H Q ⟨S, ρ, re, go⟩ => ⟨S, ρ, re, go.bind.mono fun p S1 H1 _ x go1 v hv => by
    cases p with
    | int i => exact ⟨i, hv.int, give_int go1⟩
    | _ => exact go1.elim⟩

/-! ### argument lists, displays -/
def fNil : Env' → R (List PV) := fun _ => .ok []
def fCons (f : Env' → R PV) (g : Env' → R (List PV)) : Env' → R (List PV) := fun ρ => f ρ >>= fun p => g ρ >>= fun ps => .ok (p :: ps)
theorem pax_nil (hm : m ≠ .ow) : PAX X cl W mu m [] fNil := pa_imp pa_nil fun σ H Q ⟨S, ρ, re, go⟩ => by
  cases m with
  | sh => exact go.here [] .nil
  | pk => exact go.here [] .nil
  | ow => exact absurd rfl hm
theorem pax_cons {es : List Expr} {fs : Env' → R (List PV)} (hm : m ≠ .ow) (he : PX X cl W mu m e f) (hs : PAX X cl W mu m es fs) (st : starEach (e :: es) X.env = (false, eval e X.env) :: starEach es X.env) : PAX X cl W mu m (e :: es) (fCons f fs) :=
  pa_imp (pa_cons he hs st) fun σ H Q ⟨S, ρ, re, go⟩ => ⟨S, ρ, re, go.bind.mono fun p S1 H1 _ x go1 v hv => ⟨S1, ρ, re.ext x, go1.bind.mono fun ps S2 H2 _ y go2 vs hvs => by
    cases m with
    | sh => exact go2.here _ (.cons (Rep.ext hv y) hvs)
    | pk => exact go2.here _ (.cons (Pk.ext hv y) hvs)
    | ow => exact absurd rfl hm⟩⟩
def fTup (fs : Env' → R (List PV)) : Env' → R PV := fun ρ => fs ρ >>= fun ps => if ps.length ≤ 1000 then .ok (.tup ps) else .no
def fLst (fs : Env' → R (List PV)) : Env' → R PV := fun ρ => fs ρ >>= fun ps => if ps.length ≤ 1000 then .ok (.lst ps) else .no
theorem pe_tupG {es : List Expr} {t : TA} {k : Nat} (h : PA X es t) : PE X (.Tuple es k pos) (fun σ H Q => t σ H fun xs H1 => xs.length ≤ sizeLine ∧ NewG H1 xs Q) := by
  refine ⟨fun pins s σ H Q I hq => ?_⟩
  refine wpAny_Tuple_spliced (thn (h.run pos pins s σ H _ I hq) fun us s1 ⟨xs, H1, I1, r, z, q⟩ => ⟨?_, q.at I1 r z⟩)
  rw [← r.length]
  exact z
theorem px_tup {es : List Expr} {fs : Env' → R (List PV)} {k : Nat} (hs : PAX X cl W mu .sh es fs) : PX X cl W mu m (.Tuple es k pos) (fTup fs) :=
  pe_imp (pe_tupG hs) fun σ H Q ⟨S, ρ, re, go⟩ => ⟨S, ρ, re, go.bind.mono fun ps S1 H1 _ x go1 vs hv => by
    split at go1
    · rename_i z
      have lb := line_big
      have r : Reps X.K S1 H1 vs ps := hv
      exact ⟨by rw [r.length]; omega, fun p ob hp hb => give_tup go1 hp hb r (by omega)⟩
    · exact go1.elim⟩
theorem px_lst {es : List Expr} {fs : Env' → R (List PV)} (hs : PAX X cl W mu .sh es fs) : PX X cl W mu m (.List es pos) (fLst fs) :=
  pe_imp (pe_lst hs) fun σ H Q ⟨S, ρ, re, go⟩ => ⟨S, ρ, re, go.bind.mono fun ps S1 H1 _ x go1 vs hv => by
    split at go1
    · rename_i z
      have lb := line_big
      have r : Reps X.K S1 H1 vs ps := hv
      exact ⟨by rw [r.length]; omega, fun p hp => give_lst go1 x.same (re.ext x).dom hp r (by omega)⟩
    · exact go1.elim⟩
def fDic : Env' → R PV := fun _ => .ok (.dic [])
def fDct : Env' → R PV := fun _ => .ok (.dct [])
theorem px_dic : PX X cl W mu m (.Dict [] [] pos) fDic := pe_imp pe_dnewK fun σ H Q ⟨S, ρ, re, go⟩ p hp => give_dK go (Same.refl H) re.dom hp .nil (Nat.zero_le _)
theorem px_dct : PX X cl W mu m (.Dict [] [] pos) fDct := pe_imp pe_dnewT fun σ H Q ⟨S, ρ, re, go⟩ p hp => give_new go (Same.refl H) re.dom hp ⟨⟨[], upd_same, .nil⟩, Nat.zero_le _⟩

/-! ### subscripts -/
theorem px_ix {k : PV → PV → R PV} (hm : m ≠ .ow) (hO : IxS X k) (ha : PX X cl W mu .pk a f) (hb : PX X cl W mu .pk b g) (hs : PlainIx b) : PX X cl W mu m (.Subscript a b pos) (fBin k f g) := by
  obtain ⟨r, o, hop⟩ := hO
  exact pe_imp (pe_ix o ha hb hs) fun σ H Q ⟨S, ρ, re, go⟩ => two re go fun S2 H2 v u p q hs hd hv hu go2 => hop cl W σ S2 H2 H m Q v u p q hm hs hd hv hu go2
def asPart (f : Option (Env' → R PV)) : Env' → R (Option Int) := fun ρ => match f with
  | none => .ok none
  | some f => f ρ >>= fun p => match p with
    | .int i => .ok (some i)
    | _ => .no
def tPO (K : PySem.W.Frag) (cl : Str → Value) (W : WX) (mu : List Nat) (f : Option (Env' → R PV)) : TO := fun σ H Q => ∃ S ρ, RE K mu S σ H ρ ∧ GoR K cl W σ S H (asPart f ρ) (fun o _ H' => Q o H')
theorem po_imp {e : Option Expr} {t t' : TO} (h : PO X e t) (i : ∀ σ H Q, t' σ H Q → t σ H Q) : PO X e t' := ⟨fun pins s σ H Q I q => h.run pins s σ H Q I (i σ H Q q)⟩
theorem pox_none : PO X none (tPO X.K cl W mu none) := po_imp po_none fun σ H Q ⟨S, ρ, re, go⟩ => go.here
theorem pox_some (ha : PX X cl W mu .pk a f) : PO X (some a) (tPO X.K cl W mu (some f)) := po_imp (po_some ha) fun σ H Q ⟨S, ρ, re, go⟩ => ⟨S, ρ, re, go.bind.mono fun p S1 H1 _ x go1 v hv => by
  cases p with
  | int i => exact ⟨i, hv.int, go1.here⟩
  | _ => exact go1.elim⟩
def fSl (f : Env' → R PV) (lo hi : Option (Env' → R PV)) : Env' → R PV := fun ρ => f ρ >>= fun p => asPart lo ρ >>= fun l => asPart hi ρ >>= fun h => slP p l h
theorem px_sl {lo hi : Option Expr} {fl fh : Option (Env' → R PV)} {p2 : Pos} (ha : PX X cl W mu .pk a f) (hl : PO X lo (tPO X.K cl W mu fl)) (hh : PO X hi (tPO X.K cl W mu fh)) : PX X cl W mu m (.Subscript a (.Slice lo hi none p2) pos) (fSl f fl fh) := by
  obtain ⟨r, o, hop⟩ := s_sl (X := X)
  refine pe_imp (pe_slice o ha hl hh) fun σ H Q ⟨S, ρ, re, go⟩ => ⟨S, ρ, re, go.bind.mono fun p S1 H1 _ x go1 v hv => ⟨S1, ρ, re.ext x, go1.bind.mono fun l S2 H2 _ y go2 => ⟨S2, ρ, (re.ext x).ext y, go2.bind.mono fun h S3 H3 _ z go3 => ?_⟩⟩⟩
  exact hop cl W σ S3 H3 H m Q v p l h ((x.same.trans y.same).trans z.same) (((re.ext x).ext y).ext z).dom ((hv.ext y).ext z) go3

/-! ### built-ins by name -/
def fPr (k : List PV → R PV) (fs : Env' → R (List PV)) : Env' → R PV := fun ρ => fs ρ >>= k
theorem px_prB {x : Str} {id : String} {es : List Expr} {fs : Env' → R (List PV)} {k : List PV → R PV} {p : Pos} (hc : CaS X (.builtin id) k) (hg : Gl X x) (hm : X.mg x = none) (hv : bootBuiltins x = some (.builtin id)) (ha : PAX X cl W mu .pk (e :: es) fs) (hn : x ≠ "__name__") (hdb : (x == ("__debug__" : Str)) = false)
    (he : starEach (e :: es) X.env = (false, eval e X.env) :: starEach es X.env) (hpl : (backTo pos (starEach es X.env)).any (·.1) = false) : PX X cl W mu m (.Call (.Name x p) (e :: es) [] pos) (fPr k fs) := by
  obtain ⟨r, o, hop⟩ := hc
  exact pe_imp (pe_callB o hg hm hv ha hn hdb he hpl) fun σ H Q ⟨S, ρ, re, go⟩ => ⟨S, ρ, re, go.bind.mono fun ps S1 H1 _ x go1 vs hv => hop cl W σ S1 H1 H m Q vs ps x.same (re.ext x).dom hv go1⟩
theorem px_prT {x : Str} {id : String} {es : List Expr} {fs : Env' → R (List PV)} {k : List PV → R PV} {p : Pos} (hc : CaS X (.type id) k) (hg : Gl X x) (hm : X.mg x = none) (hv : bootBuiltins x = some (.type id)) (ha : PAX X cl W mu .pk (e :: es) fs) (hn : x ≠ "__name__") (hdb : (x == ("__debug__" : Str)) = false)
    (he : starEach (e :: es) X.env = (false, eval e X.env) :: starEach es X.env) (hpl : (backTo pos (starEach es X.env)).any (·.1) = false) : PX X cl W mu m (.Call (.Name x p) (e :: es) [] pos) (fPr k fs) := by
  obtain ⟨r, o, hop⟩ := hc
  exact pe_imp (pe_callTy o hg hm hv ha hn hdb he hpl) fun σ H Q ⟨S, ρ, re, go⟩ => ⟨S, ρ, re, go.bind.mono fun ps S1 H1 _ x go1 vs hv => hop cl W σ S1 H1 H m Q vs ps x.same (re.ext x).dom hv go1⟩
end
end M
/-! MG: what is walked, targets, comprehensions. -/
namespace M
open PySem PySem.Spec PyProof.Rows L2 RZ

/-! ### targets -/
inductive Tg where
  | nm (i : Nat)
  | tp (is : List Nat)
def setP : List Nat → List PV → Env' → Env'
  | i :: is, p :: ps, ρ => setP is ps (ρ.set i (some p))
  | _, _, ρ => ρ
def bindT : Tg → PV → Env' → R Env'
  | .nm i, p, ρ => .ok (ρ.set i (some p))
  | .tp is, .tup ps, ρ => if ps.length = is.length then .ok (setP is ps ρ) else .no
  | .tp is, .wt ps, ρ => if ps.length = is.length then .ok (setP is ps ρ) else .no
  | .tp is, .lst ps, ρ => if ps.length = is.length then .ok (setP is ps ρ) else .no
  | _, _, _ => .no
def Tg.slots : Tg → List Nat
  | .nm i => [i]
  | .tp is => is
def setV : List Nat → List V → L2.St → L2.St
  | i :: is, p :: ps, ρ => setV is ps (ρ.set i (some p))
  | _, _, ρ => ρ
theorem wipe_set {own : List Nat} {i : Nat} {x : Option V} (h : i ∈ own) (σ : L2.St) : wipe (σ.set i x) own = wipe σ own := by
  have key : ∀ (own : List Nat) (σ : L2.St), wipe (σ.set i x) own = if i ∈ own then wipe σ own else (wipe σ own).set i x := by
    intro own
    induction own with
    | nil => intro σ; simp [wipe]
    | cons v vs ih =>
      intro σ
      show (wipe (σ.set i x) vs).set v none = if i ∈ v :: vs then (wipe σ vs).set v none else ((wipe σ vs).set v none).set i x
      rw [ih]
      by_cases h1 : i ∈ vs
      · simp [h1]
      · by_cases h2 : i = v
        · subst h2
          simp [h1, List.set_set]
        · simp [h1, h2]
          exact List.set_comm _ _ h2
  rw [key, if_pos h]
theorem wipe_setV {own : List Nat} : ∀ {is : List Nat} {vs : List V} {σ : L2.St}, (∀ i ∈ is, i ∈ own) → wipe (setV is vs σ) own = wipe σ own
  | [], _, _, _ => by simp [setV]
  | _ :: _, [], _, _ => by simp [setV]
  | i :: is, v :: vs, σ, h => by
    show wipe (setV is vs (σ.set i (some v))) own = _
    rw [wipe_setV fun j hj => h j (List.mem_cons_of_mem _ hj), wipe_set (h i List.mem_cons_self)]
theorem RE.setV {K : PySem.W.Frag} {mu : List Nat} {S : Addr → Prop} {H : Hp} : ∀ {is : List Nat} {vs : List V} {ps : List PV} {σ : L2.St} {ρ : Env'}, RE K mu S σ H ρ → (∀ i ∈ is, i ∉ mu) → Reps K S H vs ps → RE K mu S (setV is vs σ) H (setP is ps ρ)
  | [], _, _, _, _, re, _, _ => by simpa [M.setV, setP] using re
  | _ :: _, _, _, _, _, re, _, .nil => by simpa [M.setV, setP] using re
  | i :: is, v :: vs, p :: ps, σ, ρ, re, h, .cons r t => by
    show RE K mu S (M.setV is vs (σ.set i (some v))) H (setP is ps (ρ.set i (some p)))
    exact RE.setV (re.set (h i List.mem_cons_self) r) (fun j hj => h j (List.mem_cons_of_mem _ hj)) t
/-- a name of one's own in slot i -/
def NmOk (X : Cx) (e : Expr) (i : Nat) : Prop := ∃ x pos, e = .Name x pos ∧ X.N[i]? = some x ∧ Loc X.env.scope x ∧ (X.fn x = true ∨ X.env.scope.names.lookup x = some .local)
def NmsOk (X : Cx) : List Expr → List Nat → Prop
  | [], [] => True
  | e :: es, i :: is => NmOk X e i ∧ NmsOk X es is
  | _, _ => False
def TgOk (X : Cx) (e : Expr) : Tg → Prop
  | .nm i => NmOk X e i
  | .tp is => ∃ es k pos, e = .Tuple es k pos ∧ NmsOk X es is
def tG (K : PySem.W.Frag) (mu own : List Nat) (tg : Tg) : TG := fun v σ H Q => ∃ S ρ p ρ', RE K mu S σ H ρ ∧ Rep K S H v p ∧ bindT tg p ρ = .ok ρ' ∧ ∀ σ', RE K mu S σ' H ρ' → ((∀ i ∈ tg.slots, i ∈ own) → wipe σ' own = wipe σ own) → Q σ' H
section
variable {X : Cx} {cl : Str → Value} {W : WX} {mu own : List Nat} {m : Md}
def gNames (is : List Nat) : TGs := fun vs σ H Q => vs.length = is.length ∧ Q (setV is vs σ) H
theorem pgs_imp {es : List Expr} {t t' : TGs} (h : PGs X es t) (i : ∀ v σ H Q, t' v σ H Q → t v σ H Q) : PGs X es t' := ⟨fun pins s σ H v u Q I r q => h.run pins s σ H v u Q I r (i v σ H Q q)⟩
theorem pgs_names (hN : X.N.Nodup) : ∀ {es : List Expr} {is : List Nat}, NmsOk X es is → PGs X es (gNames is)
  | [], [], _ => pgs_imp pgs_nil fun vs σ H Q ⟨e, q⟩ => by
    have : vs = [] := List.eq_nil_of_length_eq_zero e
    subst this
    exact ⟨rfl, q⟩
  | [], _ :: _, h => h.elim
  | _ :: _, [], h => h.elim
  | e :: es, i :: is, ⟨⟨x, pos, he, hi, hx, hf⟩, h⟩ => by
    subst he
    refine pgs_imp (pgs_cons (pg_name hN hi hx hf) (pgs_names hN h)) fun vs σ H Q ⟨e, q⟩ => ?_
    cases vs with
    | nil => cases e
    | cons v vs => exact ⟨v, vs, rfl, by simpa using e, q⟩
theorem names_each : ∀ {es : List Expr} {is : List Nat}, NmsOk X es is → (assignEach es X.env).length = is.length ∧ (assignEach es X.env).findIdx? (·.1) = none
  | [], [], _ => ⟨rfl, rfl⟩
  | [], _ :: _, h => h.elim
  | _ :: _, [], h => h.elim
  | e :: es, i :: is, ⟨⟨x, pos, he, hi, hx, hf⟩, h⟩ => by
    subst he
    obtain ⟨h1, h2⟩ := names_each h
    refine ⟨congrArg (· + 1) h1, ?_⟩
    show List.findIdx? (·.1) ((false, assign (.Name x pos) X.env) :: assignEach es X.env) = none
    rw [List.findIdx?_cons, h2]
    rfl
theorem pg_or {e : Expr} {t t' : TG} (h : PG X e t) (h' : PG X e t') : PG X e (fun v σ H Q => t v σ H Q ∨ t' v σ H Q) := ⟨fun pins s σ H v u Q I r q => q.elim (h.run pins s σ H v u Q I r) (h'.run pins s σ H v u Q I r)⟩
theorem pgx (hc : X.calm = true) (hN : X.N.Nodup) {e : Expr} {tg : Tg} (h : TgOk X e tg) (hmu : ∀ i ∈ tg.slots, i ∉ mu) : PG X e (tG X.K mu own tg) := by
  cases tg with
  | nm i =>
    obtain ⟨x, pos, rfl, hi, hx, hf⟩ := h
    refine pg_imp (pg_name hN hi hx hf) fun v σ H Q ⟨S, ρ, p, ρ', re, r, e, q⟩ => ?_
    cases e
    exact q _ (re.set (hmu i (by simp [Tg.slots])) r) fun ho => wipe_set (ho i (by simp [Tg.slots])) σ
  | tp is =>
    obtain ⟨es, k, pos, rfl, hn⟩ := h
    obtain ⟨e1, e2⟩ := names_each hn
    refine pg_imp (pg_or (pg_tup (n := is.length) hc (pgs_names hN hn) e1 e2) (pg_unl (n := is.length) hc (pgs_names hN hn) e1 e2)) fun v σ H Q ⟨S, ρ, p, ρ', re, r, e, q⟩ => ?_
    cases p with
    | tup ps =>
      simp only [bindT] at e
      split at e
      · rename_i hl
        cases e
        obtain ⟨a, vs, rfl, ha, rs, _⟩ := (Pk.tup (.inl r))
        have hv : vs.length = is.length := by rw [rs.length]; exact hl
        exact .inl ⟨a, vs, rfl, ha, hv, hv, q _ (re.setV hmu rs) fun ho => wipe_setV ho⟩
      · cases e
    | wt ps =>
      simp only [bindT] at e
      split at e
      · rename_i hl
        cases e
        obtain ⟨a, vs, rfl, ha, rs, _⟩ := (Pk.wt (.inl r))
        have hv : vs.length = is.length := by rw [rs.length]; exact hl
        exact .inl ⟨a, vs, rfl, ha, hv, hv, q _ (re.setV hmu rs) fun ho => wipe_setV ho⟩
      · cases e
    | lst ps =>
      simp only [bindT] at e
      split at e
      · rename_i hl
        cases e
        obtain ⟨a, vs, rfl, ha, rs, _⟩ := (Pk.lst (.inl r))
        have hv : vs.length = is.length := by rw [rs.length]; exact hl
        exact .inr ⟨a, vs, rfl, .inl (.inl ha), hv, hv, q _ (re.setV hmu rs) fun ho => wipe_setV ho⟩
      · cases e
    | _ => cases e
end

/-! ### what is walked -/
def Grow (m : Md) (S : Addr → Prop) (H H' : Hp) : Prop := match m with
  | .sh => Keep S H H'
  | _ => Same H H'
theorem Grow.same {m : Md} {S : Addr → Prop} {H H' : Hp} (h : Same H H') : Grow m S H H' := by
  cases m with
  | sh => exact ⟨fun b o _ e => h b o e, fun b o e _ => h b o e⟩
  | pk => exact h
  | ow => exact h
theorem Grow.keep {m : Md} {S : Addr → Prop} {H H' : Hp} (h : Grow m S H H') : Keep S H H' := by
  cases m with
  | sh => exact h
  | pk => exact ⟨fun b o _ e => h b o e, fun b o e _ => h b o e⟩
  | ow => exact ⟨fun b o _ e => h b o e, fun b o e _ => h b o e⟩
/-- a walk that gives the values xs -/
def Wk (K : PySem.W.Frag) (m : Md) (S : Addr → Prop) (H : Hp) (J : It) (xs : List PV) : Prop :=
  ∃ (G : Hp → Prop) (Y : Nat → Hp → V → Hp → Prop), Walk J xs.length G Y ∧ xs.length ≤ sizeLine ∧ (∀ H', Grow m S H H' → G H') ∧
    ∀ i S' H' x H'' p, (∀ b, S b → S' b) → Grow m S H H' → xs[i]? = some p → Y i H' x H'' → Ext S' H' S' H'' ∧ Rep K S' H'' x p
def tI (K : PySem.W.Frag) (cl : Str → Value) (W : WX) (mu : List Nat) (m : Md) (f : Env' → R (List PV)) : TI := fun σ H R => ∃ S ρ, RE K mu S σ H ρ ∧ GoR K cl W σ S H (f ρ) (fun xs S1 H1 => ∀ J, Wk K m S1 H1 J xs → R J H1)
abbrev PIX (X : Cx) (cl : Str → Value) (W : WX) (mu : List Nat) (m : Md) (tg e : Expr) (f : Env' → R (List PV)) : Prop := PI X tg e (tI X.K cl W mu m f)
def itemsP : PV → R (List PV)
  | .tup xs => .ok xs
  | .wt xs => .ok xs
  | .lst xs => .ok xs
  | .str s => .ok (s.map fun c => .str [c])
  | _ => .no
def fIt (f : Env' → R PV) : Env' → R (List PV) := fun ρ => f ρ >>= itemsP
section
variable {X : Cx} {cl : Str → Value} {W : WX} {mu own : List Nat} {m : Md} {tg e : Expr} {f g : Env' → R PV}
def iAny (K : PySem.W.Frag) (tl : TE) : TI := fun σ H R => tl σ H fun x H1 => (∃ a xs, x = .ref a ∧ SqL K H1 a xs ∧ R (Itl K a) H1) ∨ (∃ a xs, x = .ref a ∧ SqT K H1 a xs ∧ R (Itt K a) H1) ∨ ∃ z, x = .str z ∧ R (Its z) H1
theorem pi_any {l : Expr} {tl : TE} (hl : PE X l tl) : PI X tg l (iAny X.K tl) := by
  refine ⟨fun pins s σ H R I h => ?_⟩
  refine thn (hl.run pins s σ H _ I h) fun v s1 ⟨x, H1, I1, r1, q1⟩ => ?_
  rcases q1 with ⟨a, xs, e, hq, q⟩ | ⟨a, xs, e, hq, q⟩ | ⟨z, e, q⟩
  · subst e
    cases r1
    obtain ⟨its, rv, p, hz⟩ := I1.list hq
    refine wpAny_pyIter_list p.isList ?_
    refine ⟨s1.heap.objs.size, [s1.heap.objs.size], _, _, H1, rfl, I1.kept (t' := s1.toks) fun b o e => Heap.get?_push_of_some _ e, turn_list a _, ⟨_, Heap.get?_push_size _ rfl, rfl, rfl⟩, fun b hb => ?_, q⟩
    have e : b = s1.heap.objs.size := by simpa using hb
    subst e
    exact I1.fpOk (Nat.le_refl _) (I1.hok.fresh (Nat.le_refl _))
  · subst e
    cases r1
    obtain ⟨its, rv, p, hz⟩ := I1.tuple hq
    refine wpAny_pyIter_tuple (show s1.heap.IsTuple a its.toArray from p) ?_
    refine ⟨s1.heap.objs.size, [s1.heap.objs.size], _, _, H1, rfl, I1.kept (t' := s1.toks) fun b o e => Heap.get?_push_of_some _ e, turn_tuple a _, ⟨_, Heap.get?_push_size _ rfl, rfl, rfl⟩, fun b hb => ?_, q⟩
    have e : b = s1.heap.objs.size := by simpa using hb
    subst e
    exact I1.fpOk (Nat.le_refl _) (I1.hok.fresh (Nat.le_refl _))
  · subst e
    obtain ⟨t, rfl⟩ := r1
    cases ha : z.cps.all (· < 128)
    · exact wpAny_pyIter_wide ha (pi_one (tk := s1.toks) I1 _ (turn_str _ z t "str_iterator" (.inr rfl)) ⟨_, Heap.get?_push_size _ rfl, rfl, rfl⟩ q)
    · exact wpAny_pyIter_ascii ha (pi_one (tk := s1.toks) I1 _ (turn_str _ z t "str_ascii_iterator" (.inl rfl)) ⟨_, Heap.get?_push_size _ rfl, rfl, rfl⟩ q)
theorem wk_tup {K : PySem.W.Frag} {S : Addr → Prop} {H : Hp} {a : Addr} {vs : List V} {ps : List PV} (h : SqT K H a vs) (r : Reps K S H vs ps) (z : ps.length ≤ sizeLine) : Wk K m S H (Itt K a) ps := by
  refine ⟨fun H' => SqT K H' a vs, YAt vs, by rw [← r.length]; exact walk_tup, z, fun H' g => sqT_keep g.keep h, fun i S' H' x H'' p hs g e y => ?_⟩
  obtain ⟨rfl, e2⟩ := y
  obtain ⟨v, e3, rv⟩ := r.get e
  rw [e2] at e3
  cases e3
  exact ⟨Ext.refl _ _, rv.keep g.keep hs⟩
theorem wk_str {K : PySem.W.Frag} {S : Addr → Prop} {H : Hp} {l : List Nat} (z : SOk l) : Wk K m S H (Its (strOf l)) (l.map fun c => .str [c]) := by
  refine ⟨fun _ => True, _, by rw [List.length_map, show l.length = (strOf l).cps.size by simp [strOf]]; exact walk_str, by rw [List.length_map]; exact z.1, fun _ _ => trivial, fun i S' H' x H'' p hs g e y => ?_⟩
  obtain ⟨rfl, c, e2, rfl⟩ := y
  have e3 : l[i]? = some c := by simpa [strOf] using e2
  rw [List.getElem?_map, e3] at e
  cases e
  exact ⟨Ext.refl _ _, .str [c] (z.one (List.mem_of_getElem? e3))⟩
theorem wk_lst_sh {K : PySem.W.Frag} {S : Addr → Prop} {H : Hp} {a : Addr} {vs : List V} {ps : List PV} (s : S a) (h : H a = some (.lst vs)) (r : Reps K S H vs ps) (z : ps.length ≤ sizeLine) : Wk K m S H (Itl K a) ps := by
  refine ⟨fun H' => SqL K H' a vs, YAt vs, by rw [← r.length]; exact walk_list, z, fun H' g => sqL_keep g.keep s (.inl (.inl h)), fun i S' H' x H'' p hs g e y => ?_⟩
  obtain ⟨rfl, e2⟩ := y
  obtain ⟨v, e3, rv⟩ := r.get e
  rw [e2] at e3
  cases e3
  exact ⟨Ext.refl _ _, rv.keep g.keep hs⟩
theorem wk_lst_pk {K : PySem.W.Frag} {S : Addr → Prop} {H : Hp} {a : Addr} {vs : List V} {ps : List PV} (h : H a = some (.lst vs)) (r : Reps K S H vs ps) (z : ps.length ≤ sizeLine) : Wk K .pk S H (Itl K a) ps := by
  refine ⟨fun H' => SqL K H' a vs, YAt vs, by rw [← r.length]; exact walk_list, z, fun H' g => .inl (.inl (g _ _ h)), fun i S' H' x H'' p hs g e y => ?_⟩
  obtain ⟨rfl, e2⟩ := y
  obtain ⟨v, e3, rv⟩ := r.get e
  rw [e2] at e3
  cases e3
  exact ⟨Ext.refl _ _, rv.keep (Grow.keep (m := .pk) g) hs⟩
/-- over a value, looked at (in a comprehension) -/
theorem pix_pk (he : PX X cl W mu .pk e f) : PIX X cl W mu .pk tg e (fIt f) :=
  pi_imp (pi_any he) fun σ H R ⟨S, ρ, re, go⟩ => ⟨S, ρ, re, go.bind.mono fun p S1 H1 _ x go1 v hv => by
    cases p with
    | tup ps =>
      obtain ⟨a, vs, rfl, ha, r, z⟩ := hv.tup
      exact .inr (.inl ⟨a, vs, rfl, ha, go1.here _ (wk_tup ha r z)⟩)
    | wt ps =>
      obtain ⟨a, vs, rfl, ha, r, z⟩ := hv.wt
      exact .inr (.inl ⟨a, vs, rfl, ha, go1.here _ (wk_tup ha r z)⟩)
    | lst ps =>
      obtain ⟨a, vs, rfl, ha, r, z⟩ := hv.lst
      exact .inl ⟨a, vs, rfl, .inl (.inl ha), go1.here _ (wk_lst_pk ha r z)⟩
    | str l =>
      obtain ⟨rfl, z⟩ := hv.str
      exact .inr (.inr ⟨_, rfl, go1.here _ (wk_str z)⟩)
    | _ => exact go1.elim⟩
/-- .. shared (in a for) -/
theorem pix_sh (he : PX X cl W mu .sh e f) : PIX X cl W mu .sh tg e (fIt f) :=
  pi_imp (pi_any he) fun σ H R ⟨S, ρ, re, go⟩ => ⟨S, ρ, re, go.bind.mono fun p S1 H1 _ x go1 v hv => by
    have hv : Rep X.K S1 H1 v p := hv
    cases p with
    | tup ps =>
      obtain ⟨a, vs, rfl, ha, r, z⟩ := (Pk.tup (.inl hv))
      exact .inr (.inl ⟨a, vs, rfl, ha, go1.here _ (wk_tup ha r z)⟩)
    | wt ps =>
      obtain ⟨a, vs, rfl, ha, r, z⟩ := (Pk.wt (.inl hv))
      exact .inr (.inl ⟨a, vs, rfl, ha, go1.here _ (wk_tup ha r z)⟩)
    | lst ps =>
      cases hv with
      | lst s ha r z => exact .inl ⟨_, _, rfl, .inl (.inl ha), go1.here _ (wk_lst_sh s ha r z)⟩
    | str l =>
      obtain ⟨rfl, z⟩ := (Pk.str (.inl hv))
      exact .inr (.inr ⟨_, rfl, go1.here _ (wk_str z)⟩)
    | _ => exact go1.elim⟩
def rngP (a b : Int) : R (List PV) := if -1000000 ≤ a ∧ a ≤ 1000000 ∧ -1000000 ≤ b ∧ b ≤ 1000000 then .ok ((List.range (b - a).toNat).map fun i => .int (a + (i : Nat))) else .no
def fRng1 (f : Env' → R PV) : Env' → R (List PV) := fun ρ => f ρ >>= fun p => match p with
  | .int n => rngP 0 n
  | _ => .no
def fRng2 (f g : Env' → R PV) : Env' → R (List PV) := fun ρ => f ρ >>= fun p => g ρ >>= fun q => match p, q with
  | .int a, .int b => rngP a b
  | _, _ => .no
theorem line16 : (2000000 : Nat) ≤ sizeLine := by rw [sizeLine_eq]; decide
theorem wk_rng {K : PySem.W.Frag} {S : Addr → Prop} {H : Hp} {a : Int} {n : Nat} (z : n ≤ 2000000) : Wk K m S H (Itr a n) ((List.range n).map fun i => .int (a + (i : Nat))) := by
  have lb := line16
  refine ⟨fun _ => True, _, by rw [List.length_map, List.length_range]; exact walk_range, by rw [List.length_map, List.length_range]; omega, fun _ _ => trivial, fun i S' H' x H'' p hs g e y => ?_⟩
  obtain ⟨rfl, rfl⟩ := y
  rw [List.getElem?_map] at e
  cases q : (List.range n)[i]? with
  | none => rw [q] at e; cases e
  | some j =>
    rw [q] at e
    cases e
    obtain ⟨h1, h2⟩ := List.getElem?_eq_some_iff.mp q
    rw [List.getElem_range] at h2
    subst h2
    exact ⟨Ext.refl _ _, .int _⟩
theorem pix_rng1 {p pos : Pos} (hg : Gl X "range") (hm : X.mg "range" = none) (he : PX X cl W mu .pk e f) (hs : starEach [e] X.env = [(false, eval e X.env)]) : PIX X cl W mu m tg (.Call (.Name "range" p) [e] [] pos) (fRng1 f) :=
  pi_imp (pi_range1 hg hm (pa_cons he pa_nil hs) hs) fun σ H R ⟨S, ρ, re, go⟩ => ⟨S, ρ, re, go.bind.mono fun p S1 H1 _ x go1 v hv => by
    cases p with
    | int n =>
      have go1 : GoR X.K cl W σ S1 H1 (rngP 0 n) _ := go1
      unfold rngP at go1
      split at go1
      · rename_i z
        have e : (n - 0).toNat = n.toNat := by rw [Int.sub_zero]
        rw [e] at go1
        exact ⟨n, by rw [hv.int], by omega, by omega, go1.here _ (wk_rng (by omega))⟩
      · exact go1.elim
    | _ => exact go1.elim⟩
theorem pix_rng2 {e2 : Expr} {p pos : Pos} (hg : Gl X "range") (hm : X.mg "range" = none) (he : PX X cl W mu .pk e f) (he2 : PX X cl W mu .pk e2 g) (hs : starEach [e, e2] X.env = [(false, eval e X.env), (false, eval e2 X.env)]) (hs2 : starEach [e2] X.env = [(false, eval e2 X.env)]) :
    PIX X cl W mu m tg (.Call (.Name "range" p) [e, e2] [] pos) (fRng2 f g) :=
  pi_imp (pi_range2 hg hm (pa_cons he (pa_cons he2 pa_nil hs2) (by rw [hs, hs2])) hs hs2) fun σ H R ⟨S, ρ, re, go⟩ => ⟨S, ρ, re, go.bind.mono fun p S1 H1 _ x go1 v hv => ⟨S1, ρ, re.ext x, go1.bind.mono fun q S2 H2 _ y go2 u hu => by
    cases p with
    | int a =>
      cases q with
      | int b =>
        have go2 : GoR X.K cl W σ S2 H2 (rngP a b) _ := go2
        unfold rngP at go2
        split at go2
        · rename_i z
          exact ⟨a, b, by rw [hv.int, hu.int], ⟨by omega, by omega, by omega, by omega⟩, go2.here _ (wk_rng (by omega))⟩
        · exact go2.elim
      | _ => exact go2.elim
    | _ => exact go2.elim⟩⟩
/-! zip of two tuples, of two lists -/
def zipP (xs ys : List PV) : List PV := List.zipWith (fun x y => .wt [x, y]) xs ys
def asTup : PV → R (List PV)
  | .tup xs => .ok xs
  | .wt xs => .ok xs
  | _ => .no
theorem asTup_pk {K : PySem.W.Frag} {S : Addr → Prop} {H : Hp} {v : V} {p : PV} {xs : List PV} (h : Pk K S H v p) (e : asTup p = .ok xs) : ∃ a vs, v = .ref a ∧ SqT K H a vs ∧ Reps K S H vs xs ∧ xs.length ≤ sizeLine := by
  cases p with
  | tup ps => cases e; exact h.tup
  | wt ps => cases e; exact h.wt
  | _ => cases e
theorem asTup_noex {p : PV} {x : Ex} (e : asTup p = .ex x) : False := by cases p <;> cases e
def fZip (f g : Env' → R PV) : Env' → R (List PV) := fun ρ => f ρ >>= fun p => g ρ >>= fun q => asTup p >>= fun a => asTup q >>= fun b => .ok (zipP a b)
theorem zipP_get {xs ys : List PV} {i : Nat} {p : PV} (h : (zipP xs ys)[i]? = some p) : ∃ x y, xs[i]? = some x ∧ ys[i]? = some y ∧ p = .wt [x, y] := by
  unfold zipP at h
  rw [List.getElem?_zipWith] at h
  cases e1 : xs[i]? with
  | none => rw [e1] at h; cases h
  | some x =>
    cases e2 : ys[i]? with
    | none => rw [e1, e2] at h; cases h
    | some y => rw [e1, e2] at h; cases h; exact ⟨x, y, rfl, rfl, rfl⟩
theorem two_line : 2 ≤ sizeLine := by rw [sizeLine_eq]; decide
theorem wk_zip {K : PySem.W.Frag} {S : Addr → Prop} {H : Hp} {a b : Addr} {vs us : List V} {ps qs : List PV} (ha : SqT K H a vs) (hb : SqT K H b us) (r : Reps K S H vs ps) (r2 : Reps K S H us qs) (z : ps.length ≤ sizeLine) : Wk K m S H (ItzT K a b) (zipP ps qs) := by
  have hl : (zipP ps qs).length = min vs.length us.length := by unfold zipP; rw [List.length_zipWith, r.length, r2.length]
  refine ⟨fun H' => SqT K H' a vs ∧ SqT K H' b us, fun i H v H' => ∃ T x y, v = .ref T ∧ H T = none ∧ H' = upd H T (.tup [x, y]) ∧ vs[i]? = some x ∧ us[i]? = some y, ?_, ?_, fun H' g => ⟨sqT_keep g.keep ha, sqT_keep g.keep hb⟩, fun i S' H' x H'' p hs g e y => ?_⟩
  · rw [hl]
    refine ⟨fun i H hi ⟨h1, h2⟩ => ⟨vs, us, vs[i]'(by omega), us[i]'(by omega), h1, h2, by simp, by simp⟩, fun H ⟨h1, h2⟩ => ⟨vs, us, h1, h2, by omega⟩, fun i H x H' hi ⟨h1, h2⟩ y => ?_⟩
    obtain ⟨T, x', y', e1, e2, e3, e4, e5⟩ := y
    exact ⟨T, x', y', e1, e2, e3, e4 _ h1, e5 _ h2⟩
  · rw [hl, r.length]; omega
  · obtain ⟨T, x', y', rfl, hT, rfl, e1, e2⟩ := y
    obtain ⟨p1, p2, g1, g2, rfl⟩ := zipP_get e
    obtain ⟨v1, f1, rv1⟩ := r.get g1
    obtain ⟨v2, f2, rv2⟩ := r2.get g2
    rw [e1] at f1
    rw [e2] at f2
    cases f1
    cases f2
    have ex : Ext S' H' S' (upd H' T (.tup [x', y'])) := Ext.laid hT
    exact ⟨ex, .wt (.inl (.inl upd_same)) (.cons ((rv1.keep g.keep hs).ext ex) (.cons ((rv2.keep g.keep hs).ext ex) .nil)) two_line⟩
theorem pix_zip {e2 : Expr} {p pos tpos : Pos} {elts : List Expr} {kk : Nat} (hg : Gl X "zip") (hm : X.mg "zip" = none) (he : PX X cl W mu .pk e f) (he2 : PX X cl W mu .pk e2 g) (hs : starEach [e, e2] X.env = (false, eval e X.env) :: starEach [e2] X.env) (hs2 : starEach [e2] X.env = [(false, eval e2 X.env)]) :
    PIX X cl W mu m (.Tuple elts kk tpos) (.Call (.Name "zip" p) [e, e2] [] pos) (fZip f g) :=
  pi_imp (pi_zipA hg hm (pa_cons he (pa_cons he2 pa_nil hs2) hs) hs (by rw [hs2]; rfl)) fun σ H R ⟨S, ρ, re, go⟩ => ⟨S, ρ, re, go.bind.mono fun p S1 H1 _ x go1 v hv => ⟨S1, ρ, re.ext x, go1.bind.mono fun q S2 H2 _ y go2 u hu => by
    obtain ⟨ps, ea, go3⟩ := gor_noex go2 fun e => asTup_noex
    obtain ⟨qs, eb, go4⟩ := gor_noex go3 fun e => asTup_noex
    obtain ⟨a, vs, rfl, ha, r, z⟩ := asTup_pk (hv.ext y) ea
    obtain ⟨b, us, rfl, hb, r2, z2⟩ := asTup_pk hu eb
    exact ⟨a, b, vs, us, rfl, .inr ⟨ha, hb, go4.here _ (wk_zip ha hb r r2 z)⟩⟩⟩⟩
end
end M
/-! MH: comprehensions, calls of defs. -/
namespace M
open PySem PySem.Spec PyProof.Rows L2

def compL (f : PV → R (Option PV)) : List PV → R (List PV)
  | [] => .ok []
  | x :: xs => f x >>= fun o => compL f xs >>= fun ys => .ok (o.toList ++ ys)
def condR (c : Option (Env' → R Bool)) (ρ : Env') : R Bool := match c with
  | none => .ok true
  | some c => c ρ
def turnC (own : List Nat) (tg : Tg) (c : Option (Env' → R Bool)) (e : Env' → R PV) (ρ : Env') (x : PV) : R (Option PV) :=
  bindT tg x (wipeP ρ own) >>= fun ρ1 => condR c ρ1 >>= fun b => if b then e ρ1 >>= fun y => .ok (some y) else .ok none
def fComp (own : List Nat) (tg : Tg) (it : Env' → R (List PV)) (c : Option (Env' → R Bool)) (e : Env' → R PV) : Env' → R PV :=
  fun ρ => it ρ >>= fun xs => (compL (turnC own tg c e ρ) xs).nox >>= fun ys => .ok (.lst ys)
theorem compL_snoc (f : PV → R (Option PV)) (x : PV) : ∀ l : List PV, compL f (l ++ [x]) = (compL f l >>= fun ys => f x >>= fun o => .ok (ys ++ o.toList))
  | [] => by
    simp only [List.nil_append, compL, R.ok_bind]
    cases f x with
    | ok o => simp [compL]
    | ex e => rfl
    | no => rfl
  | y :: l => by
    simp only [List.cons_append, compL, compL_snoc f x l]
    cases f y with
    | ok o =>
      simp only [R.ok_bind]
      cases compL f l with
      | ok ys =>
        simp only [R.ok_bind]
        cases f x with
        | ok o2 => simp
        | ex e => rfl
        | no => rfl
      | ex e => rfl
      | no => rfl
    | ex e => rfl
    | no => rfl
theorem compL_app {f : PV → R (Option PV)} : ∀ {l m : List PV} {ys : List PV}, compL f (l ++ m) = .ok ys → ∃ zs ws, compL f l = .ok zs ∧ compL f m = .ok ws ∧ ys = zs ++ ws
  | [], m, ys, h => ⟨[], ys, rfl, h, rfl⟩
  | x :: l, m, ys, h => by
    simp only [List.cons_append, compL] at h ⊢
    obtain ⟨o, e1, h⟩ := R.bind_eq_ok h
    obtain ⟨zs, e2, h⟩ := R.bind_eq_ok h
    obtain ⟨a, b, e3, e4, rfl⟩ := compL_app e2
    cases h
    exact ⟨o.toList ++ a, b, by rw [e1, e3]; rfl, e4, by simp⟩
theorem compL_len {f : PV → R (Option PV)} : ∀ {l : List PV} {ys : List PV}, compL f l = .ok ys → ys.length ≤ l.length
  | [], ys, h => by cases h; simp
  | x :: l, ys, h => by
    simp only [compL] at h
    obtain ⟨o, e1, h⟩ := R.bind_eq_ok h
    obtain ⟨zs, e2, h⟩ := R.bind_eq_ok h
    cases h
    have := compL_len e2
    cases o <;> simp <;> omega
theorem compL_at {f : PV → R (Option PV)} {xs ys : List PV} (h : compL f xs = .ok ys) {i : Nat} {p : PV} (e : xs[i]? = some p) : ∃ o, f p = .ok o ∧ ∀ ys', compL f (xs.take i) = .ok ys' → compL f (xs.take (i + 1)) = .ok (ys' ++ o.toList) := by
  have e2 : xs.take (i + 1) = xs.take i ++ [p] := by rw [List.take_add_one, e]; rfl
  have e3 : xs = xs.take (i + 1) ++ xs.drop (i + 1) := (List.take_append_drop _ _).symm
  rw [e3, e2] at h
  obtain ⟨zs, ws, h1, h2, _⟩ := compL_app h
  obtain ⟨z1, z2, h3, h4, _⟩ := compL_app h1
  simp only [compL] at h4
  obtain ⟨o, h5, _⟩ := R.bind_eq_ok h4
  refine ⟨o, h5, fun ys' h6 => ?_⟩
  rw [e2, compL_snoc, h6]
  simp only [R.ok_bind, h5]
theorem wipe_wipe (σ : L2.St) : ∀ own : List Nat, wipe (wipe σ own) own = wipe σ own := by
  have key : ∀ (own vs : List Nat) (σ : L2.St), (∀ v ∈ vs, v ∈ own) → wipe (wipe σ vs) own = wipe σ own := by
    intro own vs
    induction vs with
    | nil => intro σ _; rfl
    | cons v vs ih =>
      intro σ h
      show wipe ((wipe σ vs).set v none) own = _
      rw [wipe_set (h v List.mem_cons_self), ih σ fun w hw => h w (List.mem_cons_of_mem _ hw)]
  exact fun own => key own own σ fun _ h => h
section
variable {X : Cx} {cl : Str → Value} {W : WX} {mu own : List Nat} {m : Md} {pos : Pos}
theorem give_own {K : PySem.W.Frag} {σ : L2.St} {S1 S' : Addr → Prop} {H0 H1 H' : Hp} {Q : VK} {p : PV} {a : Addr} (h : GoR K cl W σ S1 H1 (.ok p) (Wn K m H0 Q)) (x : Ext S1 H1 S' H') (hs : Same H0 H1) (hn : H1 a = none) (ns : ¬ S' a) (ho : Own K S' H' a p) : Q (.ref a) H' := by
  cases m with
  | pk => exact h.at x _ (.inr ⟨a, rfl, ho⟩)
  | sh =>
    have x2 : Ext S1 H1 (fun b => S' b ∨ b = a) H' := by
      refine ⟨x.same, fun b z => .inl (x.sub b z), fun b z => z.elim (x.new b) fun e => .inr (by rw [e]; exact hn), fun hd b z => ?_⟩
      rcases z with z | rfl
      · exact x.dom hd b z
      · obtain ⟨o, e, _⟩ := ho.some
        rw [e]
        exact fun z => nomatch z
    exact h.at x2 _ ((ho.keep ⟨fun _ _ _ e => e, fun _ _ e _ => e⟩ (fun _ z => .inl z) fun _ e => e).rep (.inr rfl))
  | ow =>
    refine h.at x _ ?_
    show if isObjP p = true then _ else _
    rw [if_pos ho.isObj]
    exact ⟨a, rfl, hs.free hn, ns, ho⟩
def W0 : WX := fun _ _ _ _ => False
/-- the reading of a comprehension -/
theorem comp_go {tg : Tg} {it : Env' → R (List PV)} {c : Option (Env' → R Bool)} {e : Env' → R PV} {K : PySem.W.Frag} {tt : TT}
    (htt : ∀ σ H Q, (match c with
      | none => Q true H
      | some c => tT K cl W0 mu c σ H Q) → tt σ H Q) (ho : ∀ i ∈ tg.slots, i ∈ own)
    {S : Addr → Prop} {σ : L2.St} {H : Hp} {ρ : Env'} {Q : VK} (re : RE K mu S σ H ρ) (go : GoR K cl W σ S H (fComp own tg it c e ρ) (Wn K m H Q)) :
    tLc (tI K cl W mu .pk it) (tG K mu own tg) tt (tE K cl W0 mu .sh e) own σ H Q := by
  refine ⟨S, ρ, re, go.bind.mono fun xs S1 H1 _ x go1 J wk D hD => ?_⟩
  have re1 := re.ext x
  cases q : compL (turnC own tg c e ρ) xs with
  | ex z => rw [q] at go1; exact go1.elim
  | no => rw [q] at go1; exact go1.elim
  | ok ys =>
    rw [q] at go1
    have go2 : GoR K cl W σ S1 H1 (.ok (.lst ys)) (Wn K m H Q) := go1
    obtain ⟨G, Y, w, hz, hG, hY⟩ := wk
    have nD : ¬ S1 D := fun z => re1.dom D z hD
    refine lc_it w (fun i Hc => ∃ S' vs ys', Same H1 Hc ∧ (∀ b, S1 b → S' b) ∧ (∀ b, S' b → S1 b ∨ (H1 b = none ∧ b ≠ D)) ∧ (∀ b, S' b → Hc b ≠ none) ∧ Hc D = some (.lst vs) ∧ Reps K S' Hc vs ys' ∧ compL (turnC own tg c e ρ) (xs.take i) = .ok ys')
      ⟨S1, [], [], same_upd hD, fun _ h => h, fun b h => .inl h, fun b h z => re1.dom b h (Same.free (same_upd hD) z), upd_same, .nil, by simp [compL]⟩ (fun i Hc _ ⟨S', vs, ys', h1, _⟩ => hG Hc h1) (fun i v Hc H' hi ⟨S', vs, ys', h1, h2, h3, h4, h5, h6, h7⟩ y => ?_) (fun Hc ⟨S', vs, ys', h1, h2, h3, h4, h5, h6, h7⟩ => ?_)
    · have e1 : xs[i]? = some xs[i] := List.getElem?_eq_getElem hi
      obtain ⟨ex1, r1⟩ := hY i S' Hc v H' xs[i] h2 h1 e1 y
      obtain ⟨o, f1, f2⟩ := compL_at q e1
      have f3 := f2 ys' h7
      unfold turnC at f1
      obtain ⟨ρ1, g1, f1⟩ := R.bind_eq_ok f1
      obtain ⟨b, g2, f1⟩ := R.bind_eq_ok f1
      have nS' : ¬ S' D := fun z => (h3 D z).elim nD fun z => z.2 rfl
      have exA : Ext S1 H1 S' H' := ⟨h1.trans ex1.same, h2, fun b z => (h3 b z).elim .inl fun z => .inr z.1, fun _ b z => ex1.dom h4 b z⟩
      refine ⟨S', wipeP ρ own, xs[i], ρ1, (re1.wipe own).ext exA, r1, g1, fun σ2 re2 hw => ⟨?_, htt σ2 H' _ ?_⟩⟩
      · rw [hw ho, wipe_wipe]
      · have fin : ∀ S2 H2, Ext S' H' S2 H2 → (if b = true then tE K cl W0 mu .sh e σ2 H2 fun y H4 => ∃ acc, H4 D = some (.lst acc) ∧ acc.length < sizeLine ∧ (∃ S' vs ys', Same H1 (upd H4 D (.lst (acc ++ [y]))) ∧ (∀ b, S1 b → S' b) ∧ (∀ b, S' b → S1 b ∨ (H1 b = none ∧ b ≠ D)) ∧ (∀ b, S' b → (upd H4 D (.lst (acc ++ [y]))) b ≠ none) ∧ (upd H4 D (.lst (acc ++ [y]))) D = some (.lst vs) ∧ Reps K S' (upd H4 D (.lst (acc ++ [y]))) vs ys' ∧ compL (turnC own tg c e ρ) (xs.take (i + 1)) = .ok ys')
            else (∃ S' vs ys', Same H1 H2 ∧ (∀ b, S1 b → S' b) ∧ (∀ b, S' b → S1 b ∨ (H1 b = none ∧ b ≠ D)) ∧ (∀ b, S' b → H2 b ≠ none) ∧ H2 D = some (.lst vs) ∧ Reps K S' H2 vs ys' ∧ compL (turnC own tg c e ρ) (xs.take (i + 1)) = .ok ys')) := by
          intro S2 H2 ex2
          have exB : Ext S' Hc S2 H2 := ex1.trans ex2
          have newS : ∀ {S3 : Addr → Prop} {H3 : Hp}, Ext S' Hc S3 H3 → ∀ b, S3 b → S1 b ∨ (H1 b = none ∧ b ≠ D) := fun {S3 H3} ex b z => by
            rcases ex.new b z with z | z
            · exact h3 b z
            · exact .inr ⟨h1.free z, fun e => by rw [e, h5] at z; cases z⟩
          cases b with
          | false =>
            rw [if_neg Bool.false_ne_true] at f1 ⊢
            cases f1
            refine ⟨S2, vs, ys', h1.trans exB.same, fun b z => exB.sub b (h2 b z), newS exB, exB.dom h4, exB.same _ _ h5, h6.ext exB, ?_⟩
            rw [f3]
            simp
          | true =>
            rw [if_pos rfl] at f1 ⊢
            obtain ⟨y1, g3, f1⟩ := R.bind_eq_ok f1
            cases f1
            refine ⟨S2, ρ1, re2.ext ex2, ?_⟩
            rw [g3]
            intro S3 H4 ex3 u hu
            have exC : Ext S' Hc S3 H4 := exB.trans ex3
            have hD4 : H4 D = some (.lst vs) := exC.same _ _ h5
            have n3 : ¬ S3 D := fun z => (newS exC D z).elim nD fun z => z.2 rfl
            have k1 : Keep S' Hc (upd H4 D (.lst (vs ++ [u]))) := ⟨fun b o z e => by
              rw [upd_ne (show b ≠ D from fun e2 => nS' (e2 ▸ z))]
              exact exC.same _ _ e, fun b o e nm => by
              rw [upd_ne (show b ≠ D from fun e2 => by rw [e2, h5] at e; cases e; exact nm trivial)]
              exact exC.same _ _ e⟩
            have k2 : Keep S3 H4 (upd H4 D (.lst (vs ++ [u]))) := ⟨fun b o z e => by
              rw [upd_ne (show b ≠ D from fun e2 => n3 (e2 ▸ z))]
              exact e, fun b o e nm => by
              rw [upd_ne (show b ≠ D from fun e2 => by rw [e2, hD4] at e; cases e; exact nm trivial)]
              exact e⟩
            have hl := compL_len h7
            rw [List.length_take] at hl
            refine ⟨vs, hD4, by rw [h6.length]; omega, S3, vs ++ [u], ys' ++ [y1], fun b o e => ?_, fun b z => exC.sub b (h2 b z), newS exC, fun b z => ?_, upd_same, (h6.keep k1 exC.sub).append (.cons (Rep.keep k2 (fun _ z => z) hu) .nil), f3⟩
            · rw [upd_ne (ne_of_none e hD)]
              exact exC.same _ _ (h1 _ _ e)
            · rw [upd_ne (show b ≠ D from fun e2 => n3 (e2 ▸ z))]
              exact exC.dom h4 b z
        cases c with
        | none =>
          cases g2
          exact fin S' H' (Ext.refl _ _)
        | some c =>
          refine ⟨S', ρ1, re2, ?_⟩
          have g2 : c ρ1 = .ok b := g2
          rw [g2]
          exact fun S2 H2 ex2 => fin S2 H2 ex2
    · rw [List.take_length, q] at h7
      cases h7
      have nS' : ¬ S' D := fun z => (h3 D z).elim nD fun z => z.2 rfl
      have exA : Ext S1 H1 S' Hc := ⟨h1, h2, fun b z => (h3 b z).elim .inl fun z => .inr z.1, fun _ => h4⟩
      have hl := compL_len q
      exact give_own go2 exA x.same hD nS' ⟨⟨vs, h5, h6⟩, by omega⟩
abbrev PGX (X : Cx) (mu own : List Nat) (e : Expr) (tg : Tg) : Prop := PG X e (tG X.K mu own tg)
end
end M
/-! MI: comprehensions in the text, calls of defs, isinstance, methods of texts. -/
namespace M
open PySem PySem.Spec PyProof.Rows L2

section
variable {X : Cx} {cl : Str → Value} {W : WX} {mu : List Nat} {m : Md} {pos : Pos} {f g : Env' → R PV}
/-- a block that a comprehension of X may run in -/
abbrev Blk (X : Cx) (scope : Scope) (P : Cx → Prop) : Prop := ∀ (s : Shared) (H : Hp) (C : Addr) (cl : List (Str × Addr)) (fp : List Addr), P (X.blk s H scope (compEnvC scope cl C X.env) fp)
theorem px_comp {tgE itE elt : Expr} {scope : Scope} {own : List (Str × Nat)} {tg : Tg} {it : Env' → R (List PV)} {e : Env' → R PV} (hc : X.calm = true) (hN : X.N.Nodup) (hi : PIX X cl W mu .pk tgE itE it) (ok : BlkOk X.N X.env.scope scope own)
    (ho : ∀ i ∈ tg.slots, i ∈ own.map (·.2)) (hg : Blk X scope fun X => PGX X mu (own.map (·.2)) tgE tg) (he : Blk X scope fun X => PX X cl W0 mu .sh elt e) (hs : ∀ x, foldedSetIterable itE X.env x = pure x) :
    PX X cl W mu m (.ListComp elt [⟨tgE, itE, [], 0⟩] scope pos) (fComp (own.map (·.2)) tg it none e) :=
  pe_imp (pe_lc hc hN hi ok hg (fun _ _ _ _ _ => pts_nil) he hs) fun σ H Q ⟨S, ρ, re, go⟩ => comp_go (fun _ _ _ h => h) ho re go
theorem px_compIf {tgE itE elt cE : Expr} {scope : Scope} {own : List (Str × Nat)} {tg : Tg} {it : Env' → R (List PV)} {e : Env' → R PV} {c : Env' → R Bool} (hc : X.calm = true) (hN : X.N.Nodup) (hi : PIX X cl W mu .pk tgE itE it) (ok : BlkOk X.N X.env.scope scope own)
    (ho : ∀ i ∈ tg.slots, i ∈ own.map (·.2)) (hg : Blk X scope fun X => PGX X mu (own.map (·.2)) tgE tg) (hC : Blk X scope fun X => PTX X cl W0 mu cE c) (he : Blk X scope fun X => PX X cl W0 mu .sh elt e) (hs : ∀ x, foldedSetIterable itE X.env x = pure x) :
    PX X cl W mu m (.ListComp elt [⟨tgE, itE, [cE], 0⟩] scope pos) (fComp (own.map (·.2)) tg it (some c) e) :=
  pe_imp (pe_lc hc hN hi ok hg (fun s H C cl fp => pts_one (hC s H C cl fp)) he hs) fun σ H Q ⟨S, ρ, re, go⟩ => comp_go (fun _ _ _ h => h) ho re go

/-! ### calls -/
/-- a def's promise: it does as f on shared arguments; ro: what it hands back is new and one's own -/
def roM (ro : Bool) : Md := if ro then .ow else .sh
def spF (K : PySem.W.Frag) (cl : Str → Value) (np : Nat) (ro : Bool) (f : List PV → R PV) : Sp := fun vs H Q E =>
  ∃ S ps, (∀ b, S b → H b ≠ none) ∧ Reps K S H vs ps ∧ ps.length = np ∧ GoR K cl (fun cls d _ H' => E cls d H') [] S H (f ps) (Wn K (roM ro) H Q)
theorem GoR.wish {α : Type} {K : PySem.W.Frag} {W W' : WX} {σ σ' : L2.St} {S : Addr → Prop} {H : Hp} {r : R α} {k : α → (Addr → Prop) → Hp → Prop} (h : GoR K cl W σ S H r k) (hw : ∀ cls d H', W cls d σ H' → W' cls d σ' H') : GoR K cl W' σ' S H r k := by
  cases r with
  | ok a => exact h
  | ex x => exact fun S' H' cls d x y => hw _ _ _ (h S' H' cls d x y)
  | no => exact h
/-- a call of a def, its arguments by a list of any length -/
theorem run_fS {σ : L2.St} {pins : List (Addr × Obj)} {H : Hp} {s : Shared} {Q : VK} {us : List Value} {vs : List V} {k : Nat} {fa : Addr} {fd : FuncData} {ps : List Str} {sp : Sp} (F : FnOk X.prog X.w X.K X.mg X.base (L2.CX X.prog X.w) k fa fd ps sp) (hr : Room k X.A) (hb : Binds X.K fd ps []) (tk : Takes X W)
    (I : Inv X pins σ H s) (r : Vals vs us) (h : sp vs H Q (WE W σ)) : wpAny (model X.prog X.w) X.A (call (.ref fa) us) (EP X pins σ Q) X.xe s := run_fnS (E := WE W) F hr hb (passAt tk σ) I r h
theorem pe_callS0 {x : Str} {p : Pos} {k : Nat} {fa : Addr} {fd : FuncData} {ps : List Str} {sp : Sp} (F : FnOk X.prog X.w X.K X.mg X.base (L2.CX X.prog X.w) k fa fd ps sp) (hr : Room k X.A) (hg : Gl X x) (hm : X.mg x = some (.ref fa)) (hk : PySem.W.keepIn X.K (.ref fa) = true) (hb : Binds X.K fd ps []) (tk : Takes X W)
    (hdb : (x == ("__debug__" : Str)) = false) : PE X (.Call (.Name x p) [] [] pos) (tCallS sp (WE W) tNil) := by
  refine ⟨fun pins s σ H Q I h => ?_⟩
  refine wpAny_Call_Name_kw (ld_glob I hg hm ?_ hdb)
  exact PySem.W.callWith_K0 I.kIn hk (run_fS (us := []) F hr hb tk I .nil h)
def fCall (k : List PV → R PV) (fs : Env' → R (List PV)) (np : Nat) : Env' → R PV := fun ρ => fs ρ >>= fun ps => if ps.length = np then k ps else .no
theorem call_go {np : Nat} {ro : Bool} {k : List PV → R PV} {fs : Env' → R (List PV)} {S : Addr → Prop} {σ : L2.St} {H : Hp} {ρ : Env'} {Q : VK} (re : RE X.K mu S σ H ρ) (go : GoR X.K cl W σ S H (fCall k fs np ρ) (Wn X.K (roM ro) H Q)) :
    tCallS (spF X.K cl np ro k) (WE W) (tA X.K cl W mu .sh fs) σ H Q := by
  refine ⟨S, ρ, re, go.bind.mono fun ps S1 H1 _ x go1 vs hv => ?_⟩
  split at go1
  · rename_i hl
    exact ⟨S1, ps, (re.ext x).dom, hv, hl, (own_same x.same go1).wish fun _ _ _ h => h⟩
  · exact go1.elim
theorem px_call {x : Str} {p : Pos} {e : Expr} {es : List Expr} {fs : Env' → R (List PV)} {np : Nat} {ro : Bool} {h : List PV → R PV} {k : Nat} {fa : Addr} {fd : FuncData} {ps : List Str} (F : FnOk X.prog X.w X.K X.mg X.base (L2.CX X.prog X.w) k fa fd ps (spF X.K cl np ro h)) (hr : Room k X.A) (hg : Gl X x) (hm : X.mg x = some (.ref fa))
    (hk : PySem.W.keepIn X.K (.ref fa) = true) (hb : Binds X.K fd ps []) (tk : Takes X W) (ha : PAX X cl W mu .sh (e :: es) fs) (hdb : (x == ("__debug__" : Str)) = false) (he : starEach (e :: es) X.env = (false, eval e X.env) :: starEach es X.env) (hpl : (backTo pos (starEach es X.env)).any (·.1) = false) :
    PX X cl W mu (roM ro) (.Call (.Name x p) (e :: es) [] pos) (fCall h fs np) :=
  pe_imp (pe_callS F hr hg hm hk hb (fun σ => passAt tk σ) ha hdb he hpl) fun σ H Q ⟨S, ρ, re, go⟩ => call_go re go
theorem px_call0 {x : Str} {p : Pos} {np : Nat} {ro : Bool} {h : List PV → R PV} {k : Nat} {fa : Addr} {fd : FuncData} {ps : List Str} (F : FnOk X.prog X.w X.K X.mg X.base (L2.CX X.prog X.w) k fa fd ps (spF X.K cl np ro h)) (hr : Room k X.A) (hg : Gl X x) (hm : X.mg x = some (.ref fa))
    (hk : PySem.W.keepIn X.K (.ref fa) = true) (hb : Binds X.K fd ps []) (tk : Takes X W) (hdb : (x == ("__debug__" : Str)) = false) : PX X cl W mu (roM ro) (.Call (.Name x p) [] [] pos) (fCall h fNil np) :=
  pe_imp (pe_callS0 F hr hg hm hk hb tk hdb) fun σ H Q ⟨S, ρ, re, go⟩ => by
    have go1 : GoR X.K cl W σ S H (if ([] : List PV).length = np then h [] else .no) (Wn X.K (roM ro) H Q) := go
    split at go1
    · rename_i hl
      exact ⟨S, [], re.dom, .nil, hl, go1.wish fun _ _ _ h => h⟩
    · exact go1.elim

/-! ### a def's name in a local variable -/
def fnOfP (tab : List Str) : PV → R Str
  | .fn f [] => if f ∈ tab then .ok f else .no
  | _ => .no
def fCallV (dn : Str → List PV → R PV) (tab : List Str) (np i : Nat) (fs : Env' → R (List PV)) : Env' → R PV := fun ρ => fVar i ρ >>= fun p => fnOfP tab p >>= fun f => fCall (dn f) fs np ρ
theorem px_callv {dn : Str → List PV → R PV} {x : Str} {p : Pos} {e : Expr} {es : List Expr} {fs : Env' → R (List PV)} {np i : Nat} {tab : List Str} (hN : X.N[i]? = some x) (hv : Vis X.env.scope x) (hd : (x == ("__debug__" : Str)) = false) (hcd : (x == ("__classdict__" : Str)) = false)
    (hT : ∀ f ∈ tab, ∃ k fa fd ps, FnOk X.prog X.w X.K X.mg X.base (L2.CX X.prog X.w) k fa fd ps (spF X.K cl np false (dn f)) ∧ Room k X.A ∧ PySem.W.keepIn X.K (.ref fa) = true ∧ Binds X.K fd ps [] ∧ fa = He.ga X.K f)
    (tk : Takes X W) (ha : PAX X cl W mu .sh (e :: es) fs) (he : starEach (e :: es) X.env = (false, eval e X.env) :: starEach es X.env) (hpl : (backTo pos (starEach es X.env)).any (·.1) = false) :
    PX X cl W mu .sh (.Call (.Name x p) (e :: es) [] pos) (fCallV dn tab np i fs) := by
  refine ⟨fun pins s σ H Q I h => ?_⟩
  obtain ⟨S, ρ, re, go⟩ := h
  have go : GoR X.K cl W σ S H (fVar i ρ >>= fun p => fnOfP tab p >>= fun f => fCall (dn f) fs np ρ) (Wn X.K .sh H Q) := go
  obtain ⟨q, hq⟩ : ∃ q, ρ[i]? = some (some q) := by
    unfold fVar at go
    split at go
    · rename_i q hq; exact ⟨q, hq⟩
    · exact go.elim
  have ev : fVar i ρ = .ok q := by unfold fVar; rw [hq]
  rw [ev] at go
  have go : GoR X.K cl W σ S H (fnOfP tab q >>= fun f => fCall (dn f) fs np ρ) (Wn X.K .sh H Q) := go
  have get : ∀ q, GoR X.K cl W σ S H (fnOfP tab q >>= fun f => fCall (dn f) fs np ρ) (Wn X.K .sh H Q) → ∃ f, q = .fn f [] ∧ f ∈ tab := fun q go => by
    cases q with
    | fn f vs =>
      cases vs with
      | nil =>
        by_cases hf : f ∈ tab
        · exact ⟨f, rfl, hf⟩
        · have e : fnOfP tab (.fn f []) = .no := if_neg hf
          rw [e] at go
          exact go.elim
      | cons => exact go.elim
    | _ => exact go.elim
  obtain ⟨f, rfl, hf⟩ := get q go
  have ef : fnOfP tab (.fn f []) = .ok f := if_pos hf
  rw [ef] at go
  have go : GoR X.K cl W σ S H (fCall (dn f) fs np ρ) (Wn X.K (roM false) H Q) := go
  obtain ⟨k, fa, fd, ps, F, hr, hk, hb, rfl⟩ := hT f hf
  have e1 : σ[i]? = some (some (.ref (He.ga X.K f))) := by
    by_cases hi : i ∈ mu
    · obtain ⟨a, _, _, o⟩ := re.ow i _ hi hq
      exact absurd o.isObj (by simp [isObjP])
    · obtain ⟨v, e1, r⟩ := re.sh i _ hi hq
      cases r
      exact e1
  refine wpAny_Call_Name_kw (thn ((pe_var (pos := p) hN hv hd hcd).run pins s σ H (fun v H1 => v = .ref (He.ga X.K f) ∧ H1 = H) I ⟨.ref (He.ga X.K f), e1, rfl, rfl⟩) fun u s1 ⟨v, H1, I1, r1, q1⟩ => ?_)
  obtain ⟨ev, eH⟩ := q1
  subst ev
  rw [eH] at I1
  obtain rfl : u = Value.ref _ := r1
  refine PySem.W.callWith_K (h₀ := X.base) I1.ok.mod.kin hk (thn (ha.run pos pins s1 σ H _ I1 (call_go re go)) fun us s2 ⟨vs, H2, I2, r, q⟩ => ⟨I2.kIn, ?_⟩) he hpl
  exact run_fnS F hr hb (passAt tk σ) I2 r q

/-! ### isinstance -/
inductive Ty where
  | str | int | bool | tuple
def Ty.name : Ty → String
  | .str => "str"
  | .int => "int"
  | .bool => "bool"
  | .tuple => "tuple"
def tyN : PV → Option String
  | .non => some "NoneType"
  | .bl _ => some "bool"
  | .int _ => some "int"
  | .str _ => some "str"
  | .tup _ => some "tuple"
  | .wt _ => some "tuple"
  | .lst _ => some "list"
  | .dic _ => some "dict"
  | _ => none
def isT (p : PV) (t : Ty) : Option Bool := match p, t with
  | .non, _ => some false
  | .bl _, .int => some true
  | .bl _, .bool => some true
  | .bl _, _ => some false
  | .int _, .int => some true
  | .int _, _ => some false
  | .str _, .str => some true
  | .str _, _ => some false
  | .tup _, .tuple => some true
  | .tup _, _ => some false
  | .wt _, .tuple => some true
  | .wt _, _ => some false
  | .lst _, _ => some false
  | .dic _, _ => some false
  | _, _ => none
theorem tyX_pk {S : Addr → Prop} {H : Hp} {v : V} {p : PV} {n : String} (hv : Pk X.K S H v p) (e : tyN p = some n) : TyX X.K H v (.type n) := by
  cases p with
  | non => cases e; rw [hv.non]; exact .base .non
  | bl b => cases e; rw [hv.bl]; exact .base (.bl _)
  | int b => cases e; rw [hv.int]; exact .base (.int _)
  | str b => cases e; rw [hv.str.1]; exact .base (.str _)
  | tup xs =>
    cases e
    obtain ⟨a, vs, rfl, ha, r, _⟩ := hv.tup
    rcases ha with (h | ⟨o, h⟩) | ⟨o, its, n, h1, h2, _⟩
    · exact .base (.tup h)
    · exact .fTuple h
    · exact .kTuple h1 h2
  | wt xs =>
    cases e
    obtain ⟨a, vs, rfl, ha, r, _⟩ := hv.wt
    rcases ha with (h | ⟨o, h⟩) | ⟨o, its, n, h1, h2, _⟩
    · exact .base (.tup h)
    · exact .fTuple h
    · exact .kTuple h1 h2
  | lst xs =>
    cases e
    obtain ⟨a, vs, rfl, ha, r, _⟩ := hv.lst
    exact .base (.lst ha)
  | dic xs =>
    cases e
    obtain ⟨a, vs, rfl, ha, r, _⟩ := hv.dic
    exact .base (.dK ha)
  | _ => cases e
theorem kit_tab {p : PV} {t : Ty} {b : Bool} (h : isT p t = some b) : ∃ n, tyN p = some n ∧ kitB n t.name = some b := by
  cases p <;> cases t <;> first
    | (cases h; done)
    | (cases h; exact ⟨_, rfl, by decide +kernel⟩)
def isP (f : Env' → R PV) (t : Ty) : Env' → R PV := fun ρ => f ρ >>= fun p => match isT p t with
  | some b => .ok (.bl b)
  | none => .no
/-- a value and a type, as arguments -/
theorem px_isin {a : Expr} {T : Str} {p p2 : Pos} {t : Ty} (ha : PX X cl W mu .pk a f) (hg : Gl X "isinstance") (hm : X.mg "isinstance" = none) (hgT : Gl X T) (hmT : X.mg T = none) (hvT : bootBuiltins T = some (.type t.name)) (hnT : T ≠ "__name__") (hdT : (T == ("__debug__" : Str)) = false)
    (he : starEach [a, .Name T p2] X.env = (false, eval a X.env) :: starEach [.Name T p2] X.env) : PX X cl W mu m (.Call (.Name "isinstance" p) [a, .Name T p2] [] pos) (isP f t) :=
  pe_imp (pe_callB call_isi hg hm boot_isinstance (pa_cons ha (pa_cons (pe_bltn (v := .ty t.name) hgT hmT hvT rfl hnT hdT) pa_nil) he) (by decide) (by decide) he rfl) fun σ H Q ⟨S, ρ, re, go⟩ => ⟨S, ρ, re, go.bind.mono fun p S1 H1 _ x go1 v hv => by
    split at go1
    · rename_i b e
      obtain ⟨n, e1, e2⟩ := kit_tab e
      exact ⟨v, .ty t.name, _, _, b, rfl, .ty _, tyX_pk hv e1, kit_ty e2, give_bl go1⟩
    · exact go1.elim⟩
end
end M
/-! MJ: methods of texts, of dicts. -/
namespace M
open PySem PySem.Spec PyProof.Rows L2

def asStr : PV → R (List Nat)
  | .str l => .ok l
  | _ => .no
theorem asStr_ok {p : PV} {l : List Nat} (h : asStr p = .ok l) : p = .str l := by cases p <;> first | (cases h; rfl) | cases h
theorem asStr_noex {p : PV} {e : Ex} (h : asStr p = .ex e) : False := by cases p <;> cases h
def partL (l : List Nat) (c : Nat) : PV := match TL.par [c] [] l with
  | some (a, b) => .wt [.str a, .str [c], .str b]
  | none => .wt [.str l, .str [], .str []]
def partP (l : List Nat) : PV → R PV
  | .str [c] => .ok (partL l c)
  | _ => .no
def splitP (l : List Nat) : PV → R PV
  | .str [c] => if c < 256 ∧ l.length ≤ 1000000 ∧ (∀ x ∈ TL.spl [c] 0 [] l, SOk x) ∧ (TL.spl [c] 0 [] l).length ≤ sizeLine then .ok (.lst ((TL.spl [c] 0 [] l).map .str)) else .no
  | _ => .no
def joinP (l : List Nat) : PV → R PV
  | .lst xs => match strsOf xs with
    | some ls => if (ls.map (·.length)).sum + ls.length * l.length ≤ 16777216 then .ok (.str (TL.joinL l ls)) else .no
    | none => .no
  | _ => .no
def fM1 (k : List Nat → PV → R PV) (f g : Env' → R PV) : Env' → R PV := fun ρ => f ρ >>= fun p => asStr p >>= fun l => g ρ >>= fun q => k l q
section
variable {X : Cx} {cl : Str → Value} {W : WX} {mu : List Nat} {m : Md} {f g : Env' → R PV}
def MtS (X : Cx) (id : String) (k : List Nat → PV → R PV) : Prop :=
  ∃ r : V → List V → Hp → VK → Prop, MtR X id r ∧ ∀ (cl : Str → Value) (W : WX) (σ : L2.St) (S : Addr → Prop) (H H0 : Hp) (m : Md) (Q : VK) (l : List Nat) (u : V) (q : PV), Same H0 H → (∀ b, S b → H b ≠ none) →
    SOk l → Pk X.K S H u q → GoR X.K cl W σ S H (k l q) (Wn X.K m H0 Q) → r (.str (strOf l)) [u] H Q
theorem px_m1 {o e : Expr} {id : String} {name : Str} {apos pos : Pos} {k : List Nat → PV → R PV} (slot : Slot "str" name id) (ty : typeOf (.builtin id) = pure (.type "method_descriptor")) (rule : MtS X id k) (ho : PX X cl W mu .pk o f) (he : PX X cl W mu .pk e g)
    (hs : starEach [e] X.env = [(false, eval e X.env)]) (hbase : attributeBase o name X.env (eval o X.env) = eval o X.env) (hline : (apos.endLine == pos.line) = true) : PX X cl W mu m (.Call (.Attribute o name apos) [e] [] pos) (fM1 k f g) := by
  obtain ⟨r, o', hop⟩ := rule
  refine pe_imp (pe_m1 slot ty o' ho he hs hbase hline) fun σ H Q ⟨S, ρ, re, go⟩ => ⟨S, ρ, re, go.bind.mono fun p S1 H1 _ x go1 v hv => ?_⟩
  obtain ⟨l, e1, go2⟩ := gor_noex go1 fun e => asStr_noex
  rw [asStr_ok e1] at hv
  obtain ⟨rfl, z⟩ := hv.str
  refine ⟨⟨_, rfl⟩, S1, ρ, re.ext x, go2.bind.mono fun q S2 H2 _ y go3 u hu => ?_⟩
  exact hop cl W σ S2 H2 H m Q l u q (x.same.trans y.same) ((re.ext x).ext y).dom z hu go3
theorem par_sub {c : Nat} : ∀ {l acc a b : List Nat}, TL.par [c] acc l = some (a, b) → (∀ x ∈ a, x ∈ acc ++ l) ∧ (∀ x ∈ b, x ∈ l) ∧ a.length + b.length ≤ acc.length + l.length ∧ c ∈ l
  | [], acc, a, b, h => by cases h
  | d :: l, acc, a, b, h => by
    by_cases hp : TL.pre [c] (d :: l) = true
    · rw [TL.par_hit hp] at h
      cases h
      have e : c = d := by
        have h1 : ((d :: l).take 1 == [c]) = true := hp
        simp at h1
        exact h1.symm
      refine ⟨fun x hx => List.mem_append_left _ hx, fun x hx => ?_, by simp, by simp [e]⟩
      exact List.mem_of_mem_drop hx
    · rw [TL.par_miss (by simpa using hp)] at h
      obtain ⟨h1, h2, h3, h4⟩ := par_sub h
      refine ⟨fun x hx => ?_, fun x hx => List.mem_cons_of_mem _ (h2 x hx), by simp at h3 ⊢; omega, List.mem_cons_of_mem _ h4⟩
      have := h1 x hx
      simp only [List.append_assoc, List.singleton_append] at this
      exact this
theorem SOk.mem {l a : List Nat} (h : SOk l) (hm : ∀ x ∈ a, x ∈ l) (hl : a.length ≤ l.length) : SOk a := ⟨Nat.le_trans hl h.1, List.all_eq_true.mpr fun x hx => List.all_eq_true.mp h.2 x (hm x hx)⟩
theorem SOk.nil : SOk [] := by decide
theorem m_partition : MtS X "str.partition" partP := by
  refine ⟨_, mt_partition, fun cl W σ S H H0 m Q l u q hs hd zl hu h => ?_⟩
  unfold partP at h
  split at h
  · rename_i c
    obtain ⟨rfl, zc⟩ := hu.str
    refine ⟨_, _, rfl, rfl, by rw [strOf_len]; rfl, by rw [strOf_len]; exact zl.1, fun t ht => ?_⟩
    have e := TL.partition_par (strOf l) (strOf [c]) (by rw [show TL.tl (strOf [c]) = [c] from strOf_cps _]; simp)
    rw [show TL.tl (strOf [c]) = [c] from strOf_cps _, show TL.tl (strOf l) = l from strOf_cps _] at e
    unfold partL at h
    cases q : TL.par [c] [] l with
    | none =>
      rw [q] at e h
      rw [e]
      exact give_wt h ht (.cons (.str l zl) (.cons (.str [] .nil) (.cons (.str [] .nil) .nil))) (by show 3 ≤ sizeLine; decide)
    | some ab =>
      obtain ⟨a, b⟩ := ab
      rw [q] at e h
      rw [e]
      obtain ⟨h1, h2, h3, _⟩ := par_sub q
      have h3' : a.length + b.length ≤ l.length := by simpa using h3
      exact give_wt h ht (.cons (.str a (zl.mem (by simpa using h1) (by omega))) (.cons (.str [c] zc) (.cons (.str b (zl.mem h2 (by omega))) .nil))) (by show 3 ≤ sizeLine; decide)
  · exact h.elim
theorem m_split : MtS X "str.split" splitP := by
  refine ⟨_, mt_split, fun cl W σ S H H0 m Q l u q hs hd zl hu h => ?_⟩
  unfold splitP at h
  split at h
  · rename_i c
    split at h
    · rename_i z
      obtain ⟨rfl, zc⟩ := hu.str
      have lb := line16
      refine ⟨_, _, rfl, rfl, by rw [strOf_len]; rfl, by rw [strOf_len]; omega, fun t ht => ?_⟩
      have hk : (strOf [c]).cps.all (· < 256) = true := by
        rw [← Array.all_toList, strOf_cps]
        simp
        exact z.1
      have e := TL.split_spl (strOf l) (strOf [c]) (by rw [show TL.tl (strOf [c]) = [c] from strOf_cps _]; simp) (TL.kind_ok hk)
      rw [show TL.tl (strOf [c]) = [c] from strOf_cps _, show TL.tl (strOf l) = l from strOf_cps _] at e
      have e2 : Txt.split (strOf l) (strOf [c]) = (TL.spl [c] 0 [] l).map strOf := by
        rw [← e, List.map_map]
        conv => lhs; rw [← List.map_id (Txt.split (strOf l) (strOf [c]))]
        exact List.map_congr_left fun x _ => (strOf_cps' x).symm
      rw [e2]
      exact give_lst h hs hd ht (Reps.of_strs z.2.2.1) (by rw [List.length_map]; exact z.2.2.2)
    · exact h.elim
  · exact h.elim
theorem joinL_len (l : List Nat) : ∀ ls : List (List Nat), (TL.joinL l ls).length ≤ (ls.map (·.length)).sum + ls.length * l.length
  | [] => by simp [TL.joinL]
  | [p] => by simp [TL.joinL]
  | p :: q :: r => by
    have := joinL_len l (q :: r)
    simp only [TL.joinL, List.length_append, List.map_cons, List.sum_cons, List.length_cons] at this ⊢
    have e : (r.length + 1 + 1) * l.length = (r.length + 1) * l.length + l.length := Nat.succ_mul _ _
    omega
theorem joinL_mem {l : List Nat} {x : Nat} : ∀ {ls : List (List Nat)}, x ∈ TL.joinL l ls → x ∈ l ∨ ∃ p ∈ ls, x ∈ p
  | [], h => by simp [TL.joinL] at h
  | [p], h => .inr ⟨p, by simp, h⟩
  | p :: q :: r, h => by
    simp only [TL.joinL, List.mem_append] at h
    rcases h with h | h | h
    · exact .inr ⟨p, by simp, h⟩
    · exact .inl h
    · rcases joinL_mem h with h | ⟨t, ht, h⟩
      · exact .inl h
      · exact .inr ⟨t, List.mem_cons_of_mem _ ht, h⟩
theorem Reps.okS {K : PySem.W.Frag} {S : Addr → Prop} {H : Hp} : ∀ {ls : List (List Nat)} {vs : List V}, Reps K S H vs (ls.map PV.str) → ∀ l ∈ ls, SOk l
  | [], _, _ => by simp
  | l :: ls, _, .cons r t => fun x hx => by
    rcases List.mem_cons.mp hx with rfl | hx
    · cases r; assumption
    · exact Reps.okS t x hx
theorem line24 : (16777216 : Nat) = sizeLine := by rw [sizeLine_eq]
theorem m_join : MtS X "str.join" joinP := by
  refine ⟨_, mt_join, fun cl W σ S H H0 m Q l u q hs hd zl hu h => ?_⟩
  unfold joinP at h
  split at h
  · split at h
    · rename_i ls e
      split at h
      · rename_i z
        obtain ⟨a, vs, rfl, ha, r, _⟩ := hu.lst
        rw [strsOf_eq e] at r
        rw [r.strs] at ha
        have hm : ((ls.map strOf).map (·.length)) = ls.map (·.length) := by
          rw [List.map_map]
          exact List.map_congr_left fun x _ => strOf_len x
        refine ⟨_, a, ls.map strOf, rfl, rfl, .inl (.inl (.inl ha)), by rw [hm, List.length_map, strOf_len]; exact z, ?_⟩
        have e2 : Txt.join (strOf l) (ls.map strOf) = strOf (TL.joinL l ls) := by
          rw [TL.join_eq]
          apply TL.ext_tl
          rw [TL.tl_join, show TL.tl (strOf l) = l from strOf_cps _, show TL.tl (strOf (TL.joinL l ls)) = TL.joinL l ls from strOf_cps _, List.map_map]
          congr 1
          conv => rhs; rw [← List.map_id ls]
          exact List.map_congr_left fun x _ => strOf_cps x
        rw [e2]
        refine give_str h ⟨by have := joinL_len l ls; have := line24; omega, List.all_eq_true.mpr fun x hx => ?_⟩
        rcases joinL_mem hx with hx | ⟨p, hp, hx⟩
        · exact List.all_eq_true.mp zl.2 x hx
        · exact List.all_eq_true.mp (r.okS p hp).2 x hx
      · exact h.elim
    · exact h.elim
  · exact h.elim
end
end M
/-! MK: statements, by functions on whole slots; a def's body. -/
namespace M
open PySem PySem.Spec PyProof.Rows L2

inductive Fl where
  | nx (ρ : Env')
  | rt (p : PV)
/-- what is moved on: frozen things stand, frozen stays frozen -/
structure Mv (S : Addr → Prop) (H : Hp) (S' : Addr → Prop) (H' : Hp) : Prop where
  keep : Keep S H H'
  sub : ∀ b, S b → S' b
theorem Mv.of {S S' : Addr → Prop} {H H' : Hp} (x : Ext S H S' H') : Mv S H S' H' := ⟨x.keep S, x.sub⟩
theorem Mv.refl (S : Addr → Prop) (H : Hp) : Mv S H S H := Mv.of (Ext.refl S H)
theorem Mv.trans {S S1 S2 : Addr → Prop} {H H1 H2 : Hp} (a : Mv S H S1 H1) (b : Mv S1 H1 S2 H2) : Mv S H S2 H2 :=
  ⟨⟨fun c o s e => b.keep.s c o (a.sub c s) (a.keep.s c o s e), fun c o e n => b.keep.t c o (a.keep.t c o e n) n⟩, fun c s => b.sub c (a.sub c s)⟩
/-- the slots within a def's body; S0, H0 at its entry -/
structure StI (K : PySem.W.Frag) (mu : List Nat) (S0 : Addr → Prop) (H0 : Hp) (S : Addr → Prop) (σ : L2.St) (H : Hp) (ρ : Env') : Prop where
  re : RE K mu S σ H ρ
  ext : Ext S0 H0 S H
  fr : ∀ i a p, i ∈ mu → ρ[i]? = some (some p) → σ[i]? = some (some (.ref a)) → H0 a = none
def GoS (K : PySem.W.Frag) (cl : Str → Value) (W : WX) (mu : List Nat) (m : Md) (S0 : Addr → Prop) (H0 : Hp) (S : Addr → Prop) (H : Hp) (r : R Fl) (D : Ends) : Prop :=
  match r with
  | .ok (.nx ρ') => ∀ σ' S' H', StI K mu S0 H0 S' σ' H' ρ' → Mv S H S' H' → D.nx σ' H'
  | .ok (.rt p) => ∀ v S' H', Ext S0 H0 S' H' → Post K m H0 S' H' v p → D.rt v H'
  | .ex x => ∀ σ' S' H' cls d, Ext S0 H0 S' H' → ExOk K cl S' H' cls d x → W cls d σ' H'
  | .no => False
def tS (K : PySem.W.Frag) (cl : Str → Value) (W : WX) (mu : List Nat) (m : Md) (f : Env' → R Fl) : TS := fun D σ H => ∃ S0 H0 S ρ, StI K mu S0 H0 S σ H ρ ∧ GoS K cl W mu m S0 H0 S H (f ρ) D
abbrev PSX (X : Cx) (cl : Str → Value) (W : WX) (mu : List Nat) (m : Md) (st : Stmt) (f : Env' → R Fl) : Prop := PS X st (tS X.K cl W mu m f)
abbrev PSsX (X : Cx) (cl : Str → Value) (W : WX) (mu : List Nat) (m : Md) (st : List Stmt) (f : Env' → R Fl) : Prop := PSs X st (tS X.K cl W mu m f)

section
variable {K : PySem.W.Frag} {cl : Str → Value} {W : WX} {mu : List Nat} {m : Md} {S0 S S' : Addr → Prop} {H0 H H' : Hp} {σ : L2.St} {ρ : Env'} {D : Ends} {α : Type}
theorem GoS.mv {r : R Fl} (h : GoS K cl W mu m S0 H0 S H r D) (x : Mv S H S' H') : GoS K cl W mu m S0 H0 S' H' r D := by
  cases r with
  | ok fl =>
    cases fl with
    | nx ρ' => exact fun σ1 S1 H1 st y => h σ1 S1 H1 st (x.trans y)
    | rt p => exact h
  | ex e => exact h
  | no => exact h
theorem GoS.exp {r : R α} {g : α → R Fl} (st : StI K mu S0 H0 S σ H ρ) (h : GoS K cl W mu m S0 H0 S H (r >>= g) D) : GoR K cl W σ S H r (fun a S' H' => GoS K cl W mu m S0 H0 S' H' (g a) D) := by
  cases r with
  | ok a =>
    intro S' H' x
    exact GoS.mv (show GoS K cl W mu m S0 H0 S H (g a) D from h) (Mv.of x)
  | ex e => exact fun S' H' cls d x ex => h σ S' H' cls d (st.ext.trans x) ex
  | no => exact h
theorem StI.ex (st : StI K mu S0 H0 S σ H ρ) (x : Ext S H S' H') : StI K mu S0 H0 S' σ H' ρ := ⟨st.re.ext x, st.ext.trans x, st.fr⟩
/-- all is given up to be shared -/
theorem StI.freeze (st : StI K mu S0 H0 S σ H ρ) : ∃ S', StI K [] S0 H0 S' σ H ρ ∧ Mv S H S' H := by
  let S' : Addr → Prop := fun b => S b ∨ ∃ i p, i ∈ mu ∧ ρ[i]? = some (some p) ∧ σ[i]? = some (some (.ref b))
  have k : Mv S H S' H := ⟨⟨fun _ _ _ e => e, fun _ _ e _ => e⟩, fun _ z => .inl z⟩
  have own : ∀ b i p, i ∈ mu → ρ[i]? = some (some p) → σ[i]? = some (some (.ref b)) → Own K S H b p := fun b i p hi e1 e2 => by
    obtain ⟨a, e3, _, q⟩ := st.re.ow i p hi e1
    rw [e2] at e3
    cases e3
    exact q
  have hd : ∀ b, S' b → H b ≠ none := fun b z => by
    rcases z with z | ⟨i, p, hi, e1, e2⟩
    · exact st.re.dom b z
    · obtain ⟨o, e, _⟩ := (own b i p hi e1 e2).some
      rw [e]
      exact fun z => nomatch z
  refine ⟨S', ⟨⟨st.re.len, hd, fun i p _ e => ?_, fun i _ hi => by simp at hi, fun i _ _ _ _ hi => by simp at hi⟩, ⟨st.ext.same, fun b z => .inl (st.ext.sub b z), fun b z => ?_, fun _ => hd⟩, fun i _ _ hi => by simp at hi⟩, k⟩
  · by_cases hi : i ∈ mu
    · obtain ⟨a, e1, _, q⟩ := st.re.ow i p hi e
      exact ⟨_, e1, (q.keep k.keep k.sub fun _ e => e).rep (.inr ⟨i, p, hi, e, e1⟩)⟩
    · obtain ⟨v, e1, q⟩ := st.re.sh i p hi e
      exact ⟨v, e1, q.keep k.keep k.sub⟩
  · rcases z with z | ⟨i, p, hi, e1, e2⟩
    · exact st.ext.new b z
    · exact .inr (st.fr i b p hi e1 e2)
/-- a slot set to what is shared -/
theorem StI.set (st : StI K mu S0 H0 S σ H ρ) {i : Nat} (hi : i ∉ mu) {v : V} {p : PV} (q : Rep K S H v p) : StI K mu S0 H0 S (σ.set i (some v)) H (ρ.set i (some p)) :=
  ⟨st.re.set hi q, st.ext, fun j a p' hj e1 e2 => by
    have h : i ≠ j := fun e => hi (e ▸ hj)
    rw [List.getElem?_set_ne h] at e1 e2
    exact st.fr j a p' hj e1 e2⟩
theorem get_lt {α : Type} {l : List α} {i : Nat} {x : α} (h : l[i]? = some x) : i < l.length := (List.getElem?_eq_some_iff.mp h).1
/-- a slot of its own set to what is new -/
theorem StI.setO (st : StI K mu S0 H0 S σ H ρ) {i : Nat} (hi : i ∈ mu) {a : Addr} {p : PV} (n0 : H0 a = none) (ns : ¬ S a) (q : Own K S H a p)
    (hn : ∀ j p', j ∈ mu → j ≠ i → ρ[j]? = some (some p') → σ[j]? ≠ some (some (.ref a))) : StI K mu S0 H0 S (σ.set i (some (.ref a))) H (ρ.set i (some p)) := by
  have hl : σ.length = ρ.length := st.re.len
  refine ⟨⟨by simp [hl], st.re.dom, fun j p' hj e => ?_, fun j p' hj e => ?_, fun j k p' q' b hj hk hne e1 e2 e3 e4 => ?_⟩, st.ext, fun j b p' hj e1 e2 => ?_⟩
  · have h : i ≠ j := fun e => hj (e ▸ hi)
    rw [List.getElem?_set_ne h] at e ⊢
    exact st.re.sh j p' hj e
  · by_cases h : i = j
    · subst h
      have hlt : i < ρ.length := by have := get_lt e; simpa using this
      rw [List.getElem?_set_self hlt] at e
      cases e
      exact ⟨a, List.getElem?_set_self (by rw [hl]; exact hlt), ns, q⟩
    · rw [List.getElem?_set_ne h] at e ⊢
      exact st.re.ow j p' hj e
  · by_cases h1 : i = j
    · subst h1
      have hlt : i < σ.length := by have := get_lt e3; simpa using this
      rw [List.getElem?_set_self hlt] at e3
      cases e3
      rw [List.getElem?_set_ne hne] at e2 e4
      exact hn k q' hk (Ne.symm hne) e2 e4
    · rw [List.getElem?_set_ne h1] at e1 e3
      by_cases h2 : i = k
      · subst h2
        have hlt : i < σ.length := by have := get_lt e4; simpa using this
        rw [List.getElem?_set_self hlt] at e4
        cases e4
        exact hn j p' hj hne e1 e3
      · rw [List.getElem?_set_ne h2] at e2 e4
        exact st.re.df j k p' q' b hj hk hne e1 e2 e3 e4
  · by_cases h : i = j
    · subst h
      have hlt : i < σ.length := by have := get_lt e2; simpa using this
      rw [List.getElem?_set_self hlt] at e2
      cases e2
      exact n0
    · rw [List.getElem?_set_ne h] at e1 e2
      exact st.fr j b p' hj e1 e2
/-- an own object is rewritten -/
theorem StI.mut (st : StI K mu S0 H0 S σ H ρ) {i : Nat} (hi : i ∈ mu) {a : Addr} {p p' : PV} {o : HO} (e1 : ρ[i]? = some (some p)) (e2 : σ[i]? = some (some (.ref a))) (q : Own K S (upd H a o) a p') :
    StI K mu S0 H0 S σ (upd H a o) (ρ.set i (some p')) ∧ Mv S H S (upd H a o) := by
  obtain ⟨a', e3, ns, ow⟩ := st.re.ow i p hi e1
  rw [e2] at e3
  cases e3
  obtain ⟨o0, ho0, hm0⟩ := ow.some
  have n0 := st.fr i a p hi e1 e2
  have k : Keep S H (upd H a o) := ⟨fun b u z e => by
    rw [upd_ne (show b ≠ a from fun z2 => ns (z2 ▸ z))]
    exact e, fun b u e nm => by
    rw [upd_ne (show b ≠ a from fun z2 => by rw [z2, ho0] at e; cases e; exact nm hm0)]
    exact e⟩
  have hlt : i < ρ.length := get_lt e1
  have hd : ∀ b, S b → upd H a o b ≠ none := fun b z => by
    rw [upd_ne (show b ≠ a from fun z2 => ns (z2 ▸ z))]
    exact st.re.dom b z
  refine ⟨⟨⟨by simp [st.re.len], hd, fun j p1 hj e => ?_, fun j p1 hj e => ?_, fun j l p1 q1 b hj hl hne f1 f2 f3 f4 => ?_⟩, ⟨fun b u e => ?_, st.ext.sub, st.ext.new, fun _ => hd⟩, fun j b p1 hj f1 f2 => ?_⟩, ⟨k, fun _ z => z⟩⟩
  · have h : i ≠ j := fun e => hj (e ▸ hi)
    rw [List.getElem?_set_ne h] at e
    obtain ⟨v, g1, g2⟩ := st.re.sh j p1 hj e
    exact ⟨v, g1, g2.keep k fun _ z => z⟩
  · by_cases h : i = j
    · subst h
      rw [List.getElem?_set_self hlt] at e
      cases e
      exact ⟨a, e2, ns, q⟩
    · rw [List.getElem?_set_ne h] at e
      obtain ⟨b, g1, g2, g3⟩ := st.re.ow j p1 hj e
      refine ⟨b, g1, g2, g3.keep k (fun _ z => z) fun u e4 => ?_⟩
      have hb : b ≠ a := fun z => st.re.df i j p p1 a hi hj h e1 e e2 (z ▸ g1)
      rw [upd_ne hb]
      exact e4
  · have g : ∀ {j : Nat} {p1 : PV}, (ρ.set i (some p'))[j]? = some (some p1) → ∃ p2, ρ[j]? = some (some p2) := fun {j p1} e => by
      by_cases h : i = j
      · subst h; exact ⟨p, e1⟩
      · rw [List.getElem?_set_ne h] at e; exact ⟨_, e⟩
    obtain ⟨p2, g1⟩ := g f1
    obtain ⟨q2, g2⟩ := g f2
    exact st.re.df j l p2 q2 b hj hl hne g1 g2 f3 f4
  · rw [upd_ne (show b ≠ a from fun z => by
      have := st.ext.same b u e
      rw [z] at e
      rw [n0] at e
      cases e)]
    exact st.ext.same b u e
  · by_cases h : i = j
    · subst h
      rw [e2] at f2
      cases f2
      exact n0
    · rw [List.getElem?_set_ne h] at f1
      exact st.fr j b p1 hj f1 f2
end

section
variable {X : Cx} {cl : Str → Value} {W : WX} {mu : List Nat} {m : Md} {pos pos' : Pos} {e : Expr} {st : Stmt} {rest body orelse : List Stmt} {f g : Env' → R PV} {F F' : Env' → R Fl}
def fNext : Env' → R Fl := fun ρ => .ok (.nx ρ)
def fSeq (f g : Env' → R Fl) : Env' → R Fl := fun ρ => f ρ >>= fun fl => match fl with
  | .nx ρ' => g ρ'
  | .rt p => .ok (.rt p)
theorem pssx_nil : PSsX X cl W mu m [] fNext := pss_imp pss_nil fun D σ H ⟨S0, H0, S, ρ, st, go⟩ => go σ S H st (Mv.refl S H)
theorem pssx_cons (h1 : PSX X cl W mu m st F) (h2 : PSsX X cl W mu m rest F') : PSsX X cl W mu m (st :: rest) (fSeq F F') :=
  pss_imp (pss_cons h1 h2) fun D σ H ⟨S0, H0, S, ρ, st, go⟩ => ⟨S0, H0, S, ρ, st, by
    unfold fSeq at go
    cases q : F ρ with
    | ok fl =>
      rw [q] at go
      cases fl with
      | nx ρ' =>
        intro σ' S' H' st' y
        exact ⟨S0, H0, S', ρ', st', GoS.mv (show GoS X.K cl W mu m S0 H0 S H (F' ρ') D from go) y⟩
      | rt p => exact go
    | ex z => rw [q] at go; exact go
    | no => rw [q] at go; exact go⟩
theorem pssx_one (h1 : PSX X cl W mu m st F) : PSsX X cl W mu m [st] F := pss_one h1
theorem psx_pass : PSX X cl W mu m (.Pass pos) fNext := ps_imp ps_pass fun D σ H ⟨S0, H0, S, ρ, st, go⟩ => go σ S H st (Mv.refl S H)
theorem psx_doc {x : Str} {j : Nat} : PSX X cl W mu m (.Expr (.Constant (.str x) j pos) pos') fNext := ps_imp ps_doc fun D σ H ⟨S0, H0, S, ρ, st, go⟩ => go σ S H st (Mv.refl S H)

/-! ### return -/
def fRet (f : Env' → R PV) : Env' → R Fl := fun ρ => f ρ >>= fun p => .ok (.rt p)
theorem psx_ret (he : PX X cl W [] .sh e f) : PSX X cl W mu .sh (.Return (some e) pos) (fRet f) := ps_imp (ps_ret he) fun D σ H ⟨S0, H0, S, ρ, st, go⟩ => by
  obtain ⟨S1, st1, mv⟩ := st.freeze
  have go1 : GoS X.K cl W mu .sh S0 H0 S1 H (fRet f ρ) D := go.mv mv
  refine ⟨S1, ρ, st1.re, ?_⟩
  have go2 : GoS X.K cl W [] .sh S0 H0 S1 H (fRet f ρ) D := by
    unfold fRet at go1 ⊢
    cases q : f ρ with
    | ok p => rw [q] at go1; exact go1
    | ex z => rw [q] at go1; exact go1
    | no => rw [q] at go1; exact go1
  exact (GoS.exp st1 go2).mono fun p S' H' _ x k v hv => k v S' H' (st1.ext.trans x) hv
theorem psx_retX (he : PX X cl W mu .ow e f) : PSX X cl W mu .ow (.Return (some e) pos) (fRet f) := ps_imp (ps_ret he) fun D σ H ⟨S0, H0, S, ρ, st, go⟩ => by
  refine ⟨S, ρ, st.re, (GoS.exp st go).mono fun p S' H' _ x k v hv => k v S' H' (st.ext.trans x) ?_⟩
  have hv : if isObjP p = true then _ else _ := hv
  show if isObjP p = true then _ else _
  split at hv
  · rename_i o
    rw [if_pos o]
    obtain ⟨a, e1, n, r⟩ := hv
    exact ⟨a, e1, st.ext.same.free n, r⟩
  · rename_i o
    rw [if_neg o]
    exact hv
theorem psx_retO {i : Nat} {x : Str} {p2 : Pos} (hi : i ∈ mu) (hN : X.N[i]? = some x) (hv : Vis X.env.scope x) (hd : (x == ("__debug__" : Str)) = false) (hcd : (x == ("__classdict__" : Str)) = false) : PSX X cl W mu .ow (.Return (some (.Name x p2)) pos) (fRet (fVar i)) :=
  ps_imp (ps_ret (pe_var hN hv hd hcd)) fun D σ H ⟨S0, H0, S, ρ, st, go⟩ => by
    unfold fRet fVar at go
    split at go
    · rename_i p q
      obtain ⟨a, e1, ns, ow⟩ := st.re.ow i p hi q
      refine ⟨_, e1, go _ S H st.ext ?_⟩
      show if isObjP p = true then _ else _
      rw [if_pos ow.isObj]
      exact ⟨a, rfl, st.fr i a p hi q e1, ns, ow⟩
    · exact go.elim

/-! ### if, raise -/
def fIf (c : Env' → R Bool) (f g : Env' → R Fl) : Env' → R Fl := fun ρ => c ρ >>= fun b => if b then f ρ else g ρ
theorem psx_if {c : Env' → R Bool} (hc : PTX X cl W mu e c) (ha : PSsX X cl W mu m body F) (hb : PSsX X cl W mu m orelse F') : PSX X cl W mu m (.If e body orelse pos) (fIf c F F') :=
  ps_imp (ps_if hc ha hb) fun D σ H ⟨S0, H0, S, ρ, st, go⟩ => ⟨S, ρ, st.re, (GoS.exp st go).mono fun b S' H' _ x k => by
    cases b with
    | true => exact ⟨S0, H0, S', ρ, st.ex x, k⟩
    | false => exact ⟨S0, H0, S', ρ, st.ex x, k⟩⟩
def fRaise (c : Str) : Env' → R Fl := fun _ => .ex (.e0 c)
theorem psx_raise {c : Str} {C : Addr} (hc : X.calm = true) (tk : Takes X W) (he : PMk X e (fun _ H Q => Q (.ref C) none H)) (hcl : cl c = .ref C) : PSX X cl W mu m (.Raise (some e) none pos) (fRaise c) :=
  ps_imp (ps_raise hc tk he) fun D σ H ⟨S0, H0, S, ρ, st, go⟩ => go σ S H _ none st.ext ⟨hcl.symm, rfl⟩

/-! ### name = e -/
def fSet (i : Nat) (f : Env' → R PV) : Env' → R Fl := fun ρ => f ρ >>= fun p => .ok (.nx (ρ.set i (some p)))
def fSetO (i : Nat) (f : Env' → R PV) : Env' → R Fl := fun ρ => f ρ >>= fun p => if isObjP p then .ok (.nx (ρ.set i (some p))) else .no
theorem set_go {i : Nat} (hi : i ∉ mu) {D : Ends} {σ : L2.St} {H : Hp} (h : tS X.K cl W mu m (fSet i f) D σ H) : tAsg (tE X.K cl W mu .sh f) (gName i) D σ H := by
  obtain ⟨S0, H0, S, ρ, st, go⟩ := h
  exact ⟨S, ρ, st.re, (GoS.exp st go).mono fun p S' H' _ x k v hv => k _ S' H' ((st.ex x).set hi hv) (Mv.refl S' H')⟩
theorem setO_go {i : Nat} (hi : i ∈ mu) {D : Ends} {σ : L2.St} {H : Hp} (h : tS X.K cl W mu m (fSetO i f) D σ H) : tAsg (tE X.K cl W mu .ow f) (gName i) D σ H := by
  obtain ⟨S0, H0, S, ρ, st, go⟩ := h
  refine ⟨S, ρ, st.re, (GoS.exp st go).mono fun p S' H' _ x k v hv => ?_⟩
  split at k
  · rename_i o
    have hv : if isObjP p = true then _ else _ := hv
    rw [if_pos o] at hv
    obtain ⟨a, rfl, hn, ns, ow⟩ := hv
    refine k _ S' H' ((st.ex x).setO hi (st.ext.same.free hn) ns ow fun j p' hj hne e1 e2 => ?_) (Mv.refl S' H')
    obtain ⟨b, e3, _, ow2⟩ := st.re.ow j p' hj e1
    rw [e2] at e3
    cases e3
    obtain ⟨o2, e4, _⟩ := ow2.some
    rw [hn] at e4
    cases e4
  · exact k.elim
theorem psx_set {i : Nat} {x : Str} (hi : i ∉ mu) (hN : X.N.Nodup) (hx : X.N[i]? = some x) (hl : Loc X.env.scope x) (he : PX X cl W mu .sh e f) (hs : swapsWith e (some (.Name x pos')) pos.line X.env = pure false) (hf : X.fn x = true ∨ X.env.scope.names.lookup x = some .local) :
    PSX X cl W mu m (.Assign [.Name x pos'] e pos) (fSet i f) := ps_imp (ps_set hN hx hl he hs hf) fun D σ H h => set_go hi h
theorem psx_setO {i : Nat} {x : Str} (hi : i ∈ mu) (hN : X.N.Nodup) (hx : X.N[i]? = some x) (hl : Loc X.env.scope x) (he : PX X cl W mu .ow e f) (hs : swapsWith e (some (.Name x pos')) pos.line X.env = pure false) (hf : X.fn x = true ∨ X.env.scope.names.lookup x = some .local) :
    PSX X cl W mu m (.Assign [.Name x pos'] e pos) (fSetO i f) := ps_imp (ps_set hN hx hl he hs hf) fun D σ H h => setO_go hi h

/-! ### targets in general -/
theorem wipe_get {own : List Nat} {j : Nat} (h : j ∉ own) (σ : L2.St) : (wipe σ own)[j]? = σ[j]? := by
  induction own with
  | nil => rfl
  | cons v vs ih =>
    show ((wipe σ vs).set v none)[j]? = _
    rw [List.getElem?_set_ne (show v ≠ j from fun e => h (e ▸ List.mem_cons_self))]
    exact ih fun z => h (List.mem_cons_of_mem _ z)
theorem setP_get {j : Nat} : ∀ {is : List Nat} {ps : List PV} {ρ : Env'}, j ∉ is → (setP is ps ρ)[j]? = ρ[j]?
  | [], _, _, _ => by simp [setP]
  | _ :: _, [], _, _ => by simp [setP]
  | i :: is, p :: ps, ρ, h => by
    show (setP is ps (ρ.set i (some p)))[j]? = _
    rw [setP_get fun z => h (List.mem_cons_of_mem _ z), List.getElem?_set_ne (show i ≠ j from fun e => h (e ▸ List.mem_cons_self))]
theorem bindT_get {tg : Tg} {p : PV} {ρ ρ' : Env'} (e : bindT tg p ρ = .ok ρ') {j : Nat} (h : j ∉ tg.slots) : ρ'[j]? = ρ[j]? := by
  cases tg with
  | nm i =>
    cases e
    exact List.getElem?_set_ne (show i ≠ j from fun z => h (z ▸ List.mem_singleton_self _))
  | tp is =>
    cases p with
    | tup ps =>
      simp only [bindT] at e
      split at e
      · cases e; exact setP_get h
      · cases e
    | wt ps =>
      simp only [bindT] at e
      split at e
      · cases e; exact setP_get h
      · cases e
    | lst ps =>
      simp only [bindT] at e
      split at e
      · cases e; exact setP_get h
      · cases e
    | _ => cases e
theorem bindT_noex {tg : Tg} {p : PV} {ρ : Env'} {x : Ex} (e : bindT tg p ρ = .ex x) : False := by
  cases tg with
  | nm i => cases e
  | tp is =>
    cases p with
    | tup ps =>
      simp only [bindT] at e
      split at e <;> cases e
    | wt ps =>
      simp only [bindT] at e
      split at e <;> cases e
    | lst ps =>
      simp only [bindT] at e
      split at e <;> cases e
    | _ => cases e
/-- a target's store -/
theorem tg_go {K : PySem.W.Frag} {tg : Tg} (hmu : ∀ i ∈ tg.slots, i ∉ mu) {S0 S : Addr → Prop} {H0 H : Hp} {σ : L2.St} {ρ ρ' : Env'} {v : V} {p : PV} {Q : L2.St → Hp → Prop} (st : StI K mu S0 H0 S σ H ρ) (r : Rep K S H v p) (e : bindT tg p ρ = .ok ρ')
    (h : ∀ σ', StI K mu S0 H0 S σ' H ρ' → Q σ' H) : tG K mu tg.slots tg v σ H Q :=
  ⟨S, ρ, p, ρ', st.re, r, e, fun σ' re' hw => h σ' ⟨re', st.ext, fun j a p' hj e1 e2 => by
    have nj : j ∉ tg.slots := fun z => hmu j z hj
    have hw := hw fun _ z => z
    rw [← wipe_get nj, hw, wipe_get nj] at e2
    rw [bindT_get e nj] at e1
    exact st.fr j a p' hj e1 e2⟩⟩
def fAsg (tg : Tg) (f : Env' → R PV) : Env' → R Fl := fun ρ => f ρ >>= fun p => bindT tg p ρ >>= fun ρ' => .ok (.nx ρ')
theorem psx_asg {t : Expr} {tg : Tg} (hc : X.calm = true) (hN : X.N.Nodup) (ht : TgOk X t tg) (hmu : ∀ i ∈ tg.slots, i ∉ mu) (he : PX X cl W mu .sh e f) (hs : swapsWithSole [t] e pos.line X.env = pure false) (hw : swappedStores [t] e X.env = pure none)
    (h1 : (assignEach [t] X.env).map (·.2) = [assign t X.env]) : PSX X cl W mu m (.Assign [t] e pos) (fAsg tg f) :=
  ps_imp (ps_asg he (pgx (own := tg.slots) hc hN ht hmu) hs hw h1) fun D σ H ⟨S0, H0, S, ρ, st, go⟩ => ⟨S, ρ, st.re, (GoS.exp st go).mono fun p S' H' _ x k v hv => by
    cases q : bindT tg p ρ with
    | ok ρ' =>
      rw [q] at k
      exact tg_go hmu (st.ex x) hv q fun σ' st' => k σ' S' H' st' (Mv.refl S' H')
    | ex z => exact (bindT_noex q).elim
    | no => rw [q] at k; exact k.elim⟩

/-! ### for, while -/
def forL (tg : Tg) (body : Env' → R Fl) : List PV → Env' → R Fl
  | [], ρ => .ok (.nx ρ)
  | x :: xs, ρ => bindT tg x ρ >>= fun ρ1 => body ρ1 >>= fun fl => match fl with
    | .nx ρ2 => forL tg body xs ρ2
    | .rt p => .ok (.rt p)
def fFor (tg : Tg) (it : Env' → R (List PV)) (body : Env' → R Fl) : Env' → R Fl := fun ρ => it ρ >>= fun xs => forL tg body xs ρ
theorem psx_for {tgE itE : Expr} {tg : Tg} {it : Env' → R (List PV)} (hc : X.calm = true) (hN : X.N.Nodup) (hp : PassesOwn (model X.prog X.w) X.A X.env X.xe) (ht : TgOk X tgE tg) (hmu : ∀ i ∈ tg.slots, i ∉ mu) (hi : PIX X cl W mu .sh tgE itE it) (hb : PSsX X cl W mu m body F)
    (hs : ∀ x, foldedSetIterable itE X.env x = pure x) : PSX X cl W mu m (.For tgE itE body [] pos) (fFor tg it F) :=
  ps_imp (ps_for hp hc hi (pgx (own := tg.slots) hc hN ht hmu) hb hs) fun D σ H ⟨S0, H0, S, ρ, st, go⟩ => ⟨S, ρ, st.re, (GoS.exp st go).mono fun xs S1 H1 _ x k J wk => by
    obtain ⟨G, Y, w, hz, hG, hY⟩ := wk
    refine for_it w (fun i σ H => ∃ S ρ, StI X.K mu S0 H0 S σ H ρ ∧ Mv S1 H1 S H ∧ GoS X.K cl W mu m S0 H0 S H (forL tg F (xs.drop i) ρ) D) ⟨S1, ρ, st.ex x, Mv.refl S1 H1, k⟩ (fun i σ H _ ⟨S, ρ, _, mv, _⟩ => hG H mv.keep) (fun i v σ2 H2 H3 hi ⟨S2, ρ2, st2, mv2, go2⟩ y => ?_) (fun σ H ⟨S, ρ, st, mv, go⟩ => ?_)
    · have e1 : xs[i]? = some xs[i] := List.getElem?_eq_getElem hi
      obtain ⟨ex1, r1⟩ := hY i S2 H2 v H3 xs[i] mv2.sub mv2.keep e1 y
      rw [List.drop_eq_getElem_cons hi] at go2
      unfold forL at go2
      cases q : bindT tg xs[i] ρ2 with
      | ex z => exact (bindT_noex q).elim
      | no => rw [q] at go2; exact go2.elim
      | ok ρ3 =>
        rw [q] at go2
        refine tg_go hmu (st2.ex ex1) r1 q fun σ4 st4 => ⟨S0, H0, S2, ρ3, st4, ?_⟩
        have go3 := go2.mv (Mv.of ex1)
        rw [R.ok_bind] at go3
        cases q2 : F ρ3 with
        | ok fl =>
          rw [q2] at go3
          cases fl with
          | nx ρ5 =>
            intro σ5 S5 H5 st5 mv5
            exact ⟨S5, ρ5, st5, (mv2.trans (Mv.of ex1)).trans mv5, GoS.mv go3 mv5⟩
          | rt p => exact go3
        | ex z => rw [q2] at go3; exact go3
        | no => rw [q2] at go3; exact go3
    · rw [List.drop_length] at go
      exact go σ S H st (Mv.refl S H)⟩
def whlL (c : Env' → R Bool) (body : Env' → R Fl) : Nat → Env' → R Fl
  | 0, _ => .no
  | n + 1, ρ => c ρ >>= fun b => if b then body ρ >>= fun fl => match fl with
    | .nx ρ2 => whlL c body n ρ2
    | .rt p => .ok (.rt p) else .ok (.nx ρ)
theorem psx_whl {c : Env' → R Bool} (n : Nat) (hp : PassesOwn (model X.prog X.w) X.A X.env X.xe) (hc : PTX X cl W mu e c) (hb : PSsX X cl W mu m body F) : PSX X cl W mu m (.While e body [] pos) (whlL c F n) :=
  ps_imp (ps_while hp hc hb) fun D σ H ⟨S0, H0, S, ρ, st, go⟩ => by
    refine ⟨fun k σ H => ∃ S ρ, StI X.K mu S0 H0 S σ H ρ ∧ GoS X.K cl W mu m S0 H0 S H (whlL c F k ρ) D, ⟨n, S, ρ, st, go⟩, fun k σ1 H1 ⟨S1, ρ1, st1, go1⟩ => ?_⟩
    cases k with
    | zero => exact go1.elim
    | succ k =>
      refine ⟨S1, ρ1, st1.re, (GoS.exp st1 go1).mono fun b S2 H2 _ x go2 => ?_⟩
      cases b with
      | false =>
        rw [if_neg Bool.false_ne_true]
        exact go2 σ1 S2 H2 (st1.ex x) (Mv.refl S2 H2)
      | true =>
        rw [if_pos rfl]
        rw [if_pos rfl] at go2
        refine ⟨fun σ' H' => ∃ S ρ, StI X.K mu S0 H0 S σ' H' ρ ∧ GoS X.K cl W mu m S0 H0 S H' (whlL c F k ρ) D, fun σ' H' h => ⟨k, Nat.lt_succ_self k, h⟩, S0, H0, S2, ρ1, st1.ex x, ?_⟩
        cases q : F ρ1 with
        | ok fl =>
          rw [q] at go2
          cases fl with
          | nx ρ3 => exact fun σ3 S3 H3 st3 mv3 => ⟨S3, ρ3, st3, GoS.mv go2 mv3⟩
          | rt p => exact go2
        | ex z => rw [q] at go2; exact go2
        | no => rw [q] at go2; exact go2
end

/-! ### a def's body -/
def entry (N : Nat) (ps : List PV) : Env' := ps.map some ++ List.replicate (N - ps.length) none
def endF : Fl → R PV
  | .nx _ => .ok .non
  | .rt p => .ok p
theorem Reps.at {K : PySem.W.Frag} {S : Addr → Prop} {H : Hp} {vs : List V} {ps : List PV} (r : Reps K S H vs ps) {n : Nat} {i : Nat} {p : PV} (e : (ps.map some ++ List.replicate n none)[i]? = some (some p)) : ∃ v, ∀ l, (vs.map some ++ List.replicate l none)[i]? = some (some v) ∧ Rep K S H v p := by
  by_cases h : i < ps.length
  · rw [List.getElem?_append_left (by simpa using h), List.getElem?_map] at e
    cases q : ps[i]? with
    | none => rw [q] at e; cases e
    | some p' =>
      rw [q] at e
      cases e
      obtain ⟨v, e1, e2⟩ := r.get q
      refine ⟨v, fun l => ⟨?_, e2⟩⟩
      rw [List.getElem?_append_left (by rw [List.length_map, r.length]; exact h), List.getElem?_map, e1]
      rfl
  · rw [List.getElem?_append_right (by simpa using h), List.getElem?_replicate] at e
    split at e <;> cases e
theorem StI.entry {K : PySem.W.Frag} {mu : List Nat} {S : Addr → Prop} {H : Hp} {N : List Str} {vs : List V} {ps : List PV} (hd : ∀ b, S b → H b ≠ none) (r : Reps K S H vs ps) (hmu : ∀ i ∈ mu, ps.length ≤ i) : StI K mu S H S (L2.start N vs) H (M.entry N.length ps) := by
  have no : ∀ i p, i ∈ mu → (M.entry N.length ps)[i]? = some (some p) → False := fun i p hi e => by
    unfold M.entry at e
    rw [List.getElem?_append_right (by simpa using hmu i hi), List.getElem?_replicate] at e
    split at e <;> cases e
  refine ⟨⟨?_, hd, fun i p _ e => ?_, fun i p hi e => (no i p hi e).elim, fun i j p q a hi _ _ e => (no i p hi e).elim⟩, Ext.refl S H, fun i a p hi e => (no i p hi e).elim⟩
  · unfold L2.start M.entry
    rw [List.length_append, List.length_append, List.length_map, List.length_map, List.length_replicate, List.length_replicate, r.length]
  · obtain ⟨v, h⟩ := r.at e
    exact ⟨v, h _⟩
/-- the body's promise -/
theorem body_go {K : PySem.W.Frag} {cl : Str → Value} {mu : List Nat} {ro : Bool} {N : List Str} {F : Env' → R Fl} {np : Nat} {vs : List V} {H : Hp} {Q : VK} {E : XK} (hmu : ∀ i ∈ mu, np ≤ i) (h : spF K cl np ro (fun ps => F (entry N.length ps) >>= endF) vs H Q E) :
    tS K cl (fun cls d _ H' => E cls d H') mu (roM ro) F { nx := fun _ H' => Q .non H', rt := Q } (L2.start N vs) H := by
  obtain ⟨S, ps, hd, r, hl, go⟩ := h
  refine ⟨S, H, S, _, StI.entry hd r (by rw [hl]; exact hmu), ?_⟩
  have go : GoR K cl (fun cls d _ H' => E cls d H') [] S H (F (entry N.length ps) >>= endF) (Wn K (roM ro) H Q) := go
  cases q : F (entry N.length ps) with
  | ok fl =>
    rw [q] at go
    cases fl with
    | nx ρ' =>
      intro σ' S' H' st mv
      have go : GoR K cl _ [] S H (.ok .non) (Wn K (roM ro) H Q) := go
      exact go.at st.ext .non (post_of .non rfl)
    | rt p =>
      intro v S' H' x hv
      have go : GoR K cl _ [] S H (.ok p) (Wn K (roM ro) H Q) := go
      exact go.at x v hv
  | ex z =>
    rw [q] at go
    exact fun σ' S' H' cls d x ex => go S' H' cls d x ex
  | no => rw [q] at go; exact go
end M
/-! ML: own objects rewritten: append, extend, x[k] = v, pop. -/
namespace M
open PySem PySem.Spec PyProof.Rows L2

theorem ext_tup (l : Addr) (items : Array Value) (n : Nat) (b : Addr) (items2 : Array Value) (n2 : Nat) (dd : Option Addr) (sl : Array (Option Value)) (h0 : ¬(!items.isEmpty && Builtin.List.listTooLong (items.size + items2.size)) = true) (h1 : items.size ≤ sizeLine) (h2 : items.size + items2.size ≤ sizeLine + 1) :
    Meets (Builtin.«list.extend» ⟨[.ref l, .ref b], []⟩) (fun _ R s => s.heap.get? l = some { cls := .type "list", dict := none, data := .seq items n, slots := #[] } ∧ s.heap.get? b = some { cls := .type "tuple", dict := dd, data := .seq items2 n2, slots := sl } ∧ R (.ok (.ret Value.none)) { s with heap := s.heap.update l (Obj.mapSeq fun x => x ++ items2), toks := s.toks }) :=
  .of_wp fun prog w A R s h => by
    obtain ⟨hp, g, d, tk, os⟩ := s
    obtain ⟨hl, hb, h⟩ := h
    have f2 := AutoSeq1.sub_tuple_tuple
    have f3 := AutoSeq1.sub_list_list
    have f4 := AutoSeq1.sub_tuple_list
    have f5 := AutoSeq1.sub_list_tuple
    have hz : (items ++ items2).size ≤ sizeLine + 1 := by rw [Array.size_append]; exact h2
    wp_walk using (wpAny_updateSeq hl rfl (hz := h1) (_hz' := hz)), AutoSeq1.wpAny_loadPart' hl, AutoSeq1.wpAny_loadPart' hb
    exact ⟨_, rfl, h⟩
def rExtT (K : PySem.W.Frag) : V → List V → Hp → VK → Prop := fun x vs H Q => ∃ l b xs zs, x = .ref l ∧ vs = [.ref b] ∧ H l = some (.lst xs) ∧ SqT K H b zs ∧ xs.length + zs.length ≤ sizeLine ∧ Q .non (upd H l (.lst (xs ++ zs)))
theorem mt_extT {X : Cx} : MtM X "list.extend" (fun x vs H Q => rExtend x vs H Q ∨ rExtT X.K x vs H Q) := by
  intro pins s σ H x vs v us Q I rx rv h
  rcases h with h | h
  · exact mt_extend pins s σ H x vs v us Q I rx rv h
  obtain ⟨l, b, xs, zs, rfl, rfl, hH, hB, hz, q⟩ := h
  cases rx
  obtain ⟨u, rfl, ru⟩ := rv.one
  cases ru
  obtain ⟨z, its, n, r, hl, e⟩ := I.lstM hH
  obtain ⟨its2, r2, ⟨⟨c2, d2, t2, s2⟩, e2, hc2, n2, hd2⟩, hz2⟩ := I.tuple hB
  simp only at hc2 hd2
  subst hc2
  subst hd2
  have hl2 := r2.length
  have hsz : its.toArray.size + its2.toArray.size ≤ sizeLine := by rw [List.size_toArray, List.size_toArray]; omega
  have hlong : ¬ (!its.toArray.isEmpty && Builtin.List.listTooLong (its.toArray.size + its2.toArray.size)) = true := by
    rw [notLongL hsz, Bool.and_false]
    exact Bool.false_ne_true
  refine call_meets F.slot_list_extend ⟨_, e, rfl⟩ F.entry_list_extend (F.args_list_extend_2 _ _) (ext_tup l its.toArray n b its2.toArray n2 d2 s2 hlong (by rw [List.size_toArray]; omega) (by omega)) ⟨e, e2, ?_⟩
  refine ⟨.non, _, I.lset (its' := its ++ its2) hH e (by simp) (r.append r2) ?_, rfl, q⟩
  rw [List.length_append]
  omega
section
variable {X : Cx} {cl : Str → Value} {W : WX} {mu : List Nat} {m : Md} {pos pos' apos p2 : Pos} {e e2 : Expr} {f g : Env' → R PV}
def big : Nat := 16777216
/-- a slot's own list -/
def lstAt (i : Nat) (ρ : Env') : R (List PV) := match ρ[i]? with
  | some (some (.lst xs)) => .ok xs
  | _ => .no
def fApp (i : Nat) (f : Env' → R PV) : Env' → R Fl := fun ρ => lstAt i ρ >>= fun xs => f ρ >>= fun q => if xs.length < big then .ok (.nx (ρ.set i (some (.lst (xs ++ [q]))))) else .no
def asLst : PV → R (List PV)
  | .lst ys => .ok ys
  | .tup ys => .ok ys
  | .wt ys => .ok ys
  | _ => .no
def fExt (i : Nat) (f : Env' → R PV) : Env' → R Fl := fun ρ => lstAt i ρ >>= fun xs => f ρ >>= fun q => asLst q >>= fun ys => if xs.length + ys.length ≤ big then .ok (.nx (ρ.set i (some (.lst (xs ++ ys))))) else .no
theorem fVar_get {i : Nat} {ρ : Env'} {p : PV} (h : fVar i ρ = .ok p) : ρ[i]? = some (some p) := by
  unfold fVar at h
  split at h
  · rename_i q e
    cases h
    exact e
  · cases h
theorem fVar_noex {i : Nat} {ρ : Env'} {x : Ex} (h : fVar i ρ = .ex x) : False := by
  unfold fVar at h
  split at h <;> cases h
theorem few_ok {e : Expr} (hs : starEach [e] X.env = [(false, eval e X.env)]) :
    ((backTo pos (starEach [e] X.env)).all (fun x => !x.1) && (backToKw pos (keywordEach [] X.env)).all (fun x => x.1.isSome) && decide ([e].length + ([] : List Keyword).length + (if ([] : List Keyword).isEmpty then 0 else 1) < 30)) = true := by rw [hs] <;> rfl
theorem big_line : big = sizeLine := line24
theorem lst_at {K : PySem.W.Frag} {S0 S : Addr → Prop} {H0 H : Hp} {σ : L2.St} {ρ : Env'} {D : Ends} {i : Nat} {g : List PV → R Fl} (hi : i ∈ mu) (st : StI K mu S0 H0 S σ H ρ) (go : GoS K cl W mu m S0 H0 S H (lstAt i ρ >>= g) D) :
    ∃ xs a vs, ρ[i]? = some (some (.lst xs)) ∧ σ[i]? = some (some (.ref a)) ∧ H a = some (.lst vs) ∧ Reps K S H vs xs ∧ GoS K cl W mu m S0 H0 S H (g xs) D := by
  unfold lstAt at go
  split at go
  · rename_i xs e
    obtain ⟨a, e1, _, ⟨⟨vs, hH, rs⟩, _⟩⟩ := st.re.ow i _ hi e
    exact ⟨xs, a, vs, e, e1, hH, rs, go⟩
  · exact go.elim
/-- what is written into an own object: it holds shared things -/
theorem own_keep {K : PySem.W.Frag} {S0 S : Addr → Prop} {H0 H : Hp} {σ : L2.St} {ρ : Env'} {i : Nat} {p : PV} {a : Addr} {o : HO} (hi : i ∈ mu) (st : StI K mu S0 H0 S σ H ρ) (e1 : ρ[i]? = some (some p)) (e2 : σ[i]? = some (some (.ref a))) : Keep S H (upd H a o) := by
  obtain ⟨a', e3, ns, ow⟩ := st.re.ow i p hi e1
  rw [e2] at e3
  cases e3
  obtain ⟨o0, ho0, hm0⟩ := ow.some
  exact ⟨fun b u z e => by
    rw [upd_ne (show b ≠ a from fun z2 => ns (z2 ▸ z))]
    exact e, fun b u e nm => by
    rw [upd_ne (show b ≠ a from fun z2 => by rw [z2, ho0] at e; cases e; exact nm hm0)]
    exact e⟩
theorem psx_app {i : Nat} {x : Str} (hi : i ∈ mu) (hN : X.N[i]? = some x) (hv : Vis X.env.scope x) (hd : (x == ("__debug__" : Str)) = false) (hcd : (x == ("__classdict__" : Str)) = false) (he : PX X cl W mu .sh e f) (hs : starEach [e] X.env = [(false, eval e X.env)]) (hline : (apos.endLine == pos.line) = true) :
    PSX X cl W mu m (.Expr (.Call (.Attribute (.Name x p2) "append" apos) [e] [] pos) pos') (fApp i f) :=
  ps_imp (ps_expr (pe_bm PySem.F.plainAttrs_list PySem.F.slot_list_append PySem.F.type_list_append mt_append (pe_var hN hv hd hcd) (pa_cons he pa_nil (by rw [hs]; rfl)) rfl (few_ok hs) hline (by rw [hs]; rfl) rfl) rfl) fun D σ H ⟨S0, H0, S, ρ, st, go⟩ => by
    obtain ⟨xs, a, vs, e1, e2, hH, rs, go1⟩ := lst_at hi st go
    refine ⟨_, e2, .inl ⟨rfl, vs, .inl (.inl hH)⟩, S, ρ, st.re, (GoS.exp st go1).mono fun q S' H' _ x k v hv => ?_⟩
    by_cases hb : xs.length < big
    · rw [if_pos hb] at k
      have hH' := x.same _ _ hH
      rw [big_line] at hb
      have hv : Rep X.K S' H' v q := hv
      refine ⟨a, vs, v, rfl, rfl, hH', by rw [rs.length]; omega, ?_⟩
      have kk : Keep S' H' (upd H' a (.lst (vs ++ [v]))) := own_keep hi (st.ex x) e1 e2
      have ow' : Own X.K S' (upd H' a (.lst (vs ++ [v]))) a (.lst (xs ++ [q])) :=
        ⟨⟨_, upd_same, ((rs.ext x).append (.cons hv .nil)).keep kk fun _ z => z⟩, by rw [List.length_append, List.length_singleton]; omega⟩
      obtain ⟨st', mv⟩ := (st.ex x).mut hi e1 e2 ow'
      exact k σ S' _ st' mv
    · rw [if_neg hb] at k
      exact k.elim
theorem psx_ext {i : Nat} {x : Str} (hi : i ∈ mu) (hN : X.N[i]? = some x) (hv : Vis X.env.scope x) (hd : (x == ("__debug__" : Str)) = false) (hcd : (x == ("__classdict__" : Str)) = false) (he : PX X cl W mu .sh e f) (hs : starEach [e] X.env = [(false, eval e X.env)]) (hline : (apos.endLine == pos.line) = true) :
    PSX X cl W mu m (.Expr (.Call (.Attribute (.Name x p2) "extend" apos) [e] [] pos) pos') (fExt i f) :=
  ps_imp (ps_expr (pe_bm PySem.F.plainAttrs_list PySem.F.slot_list_extend PySem.F.type_list_extend mt_extT (pe_var hN hv hd hcd) (pa_cons he pa_nil (by rw [hs]; rfl)) rfl (few_ok hs) hline (by rw [hs]; rfl) rfl) rfl) fun D σ H ⟨S0, H0, S, ρ, st, go⟩ => by
    obtain ⟨xs, a, vs, e1, e2, hH, rs, go1⟩ := lst_at hi st go
    refine ⟨_, e2, .inl ⟨rfl, vs, .inl (.inl hH)⟩, S, ρ, st.re, (GoS.exp st go1).mono fun q S' H' _ x k v hv => ?_⟩
    cases q with
    | lst ys =>
      have k : GoS X.K cl W mu m S0 H0 S' H' (if xs.length + ys.length ≤ big then .ok (.nx (ρ.set i (some (.lst (xs ++ ys))))) else .no) D := k
      by_cases hb : xs.length + ys.length ≤ big
      · rw [if_pos hb] at k
        have hH' := x.same _ _ hH
        rw [big_line] at hb
        have hv : Rep X.K S' H' v (.lst ys) := hv
        obtain ⟨b, us, rfl, hB, r2, z2⟩ := (Pk.lst (.inl hv))
        refine .inl ⟨a, b, vs, us, rfl, rfl, hH', hB, by rw [rs.length, r2.length]; omega, ?_⟩
        have kk : Keep S' H' (upd H' a (.lst (vs ++ us))) := own_keep hi (st.ex x) e1 e2
        have ow' : Own X.K S' (upd H' a (.lst (vs ++ us))) a (.lst (xs ++ ys)) :=
          ⟨⟨_, upd_same, ((rs.ext x).append r2).keep kk fun _ z => z⟩, by rw [List.length_append]; omega⟩
        obtain ⟨st', mv⟩ := (st.ex x).mut hi e1 e2 ow'
        exact k σ S' _ st' mv
      · rw [if_neg hb] at k
        exact k.elim
    | tup ys =>
      have k : GoS X.K cl W mu m S0 H0 S' H' (if xs.length + ys.length ≤ big then .ok (.nx (ρ.set i (some (.lst (xs ++ ys))))) else .no) D := k
      by_cases hb : xs.length + ys.length ≤ big
      · rw [if_pos hb] at k
        have hH' := x.same _ _ hH
        rw [big_line] at hb
        have hv : Rep X.K S' H' v (.tup ys) := hv
        obtain ⟨b, us, rfl, hB, r2, z2⟩ := (Pk.tup (.inl hv))
        refine .inr ⟨a, b, vs, us, rfl, rfl, hH', hB, by rw [rs.length, r2.length]; omega, ?_⟩
        have kk : Keep S' H' (upd H' a (.lst (vs ++ us))) := own_keep hi (st.ex x) e1 e2
        have ow' : Own X.K S' (upd H' a (.lst (vs ++ us))) a (.lst (xs ++ ys)) :=
          ⟨⟨_, upd_same, ((rs.ext x).append r2).keep kk fun _ z => z⟩, by rw [List.length_append]; omega⟩
        obtain ⟨st', mv⟩ := (st.ex x).mut hi e1 e2 ow'
        exact k σ S' _ st' mv
      · rw [if_neg hb] at k
        exact k.elim
    | wt ys =>
      have k : GoS X.K cl W mu m S0 H0 S' H' (if xs.length + ys.length ≤ big then .ok (.nx (ρ.set i (some (.lst (xs ++ ys))))) else .no) D := k
      by_cases hb : xs.length + ys.length ≤ big
      · rw [if_pos hb] at k
        have hH' := x.same _ _ hH
        rw [big_line] at hb
        have hv : Rep X.K S' H' v (.wt ys) := hv
        obtain ⟨b, us, rfl, hB, r2, z2⟩ := (Pk.wt (.inl hv))
        refine .inr ⟨a, b, vs, us, rfl, rfl, hH', hB, by rw [rs.length, r2.length]; omega, ?_⟩
        have kk : Keep S' H' (upd H' a (.lst (vs ++ us))) := own_keep hi (st.ex x) e1 e2
        have ow' : Own X.K S' (upd H' a (.lst (vs ++ us))) a (.lst (xs ++ ys)) :=
          ⟨⟨_, upd_same, ((rs.ext x).append r2).keep kk fun _ z => z⟩, by rw [List.length_append]; omega⟩
        obtain ⟨st', mv⟩ := (st.ex x).mut hi e1 e2 ow'
        exact k σ S' _ st' mv
      · rw [if_neg hb] at k
        exact k.elim
    | _ => exact k.elim

/-! ### x[k] = v -/
def dicAt (i : Nat) (ρ : Env') : R PV := match ρ[i]? with
  | some (some (.dic d)) => .ok (.dic d)
  | some (some (.dct d)) => .ok (.dct d)
  | _ => .no
def putP (d k v : PV) : R PV := match d with
  | .dic kvs => match asKey k with
    | some k => if kvs.length < big then .ok (.dic (putD kvs k v)) else .no
    | none => .no
  | .dct kvs => match k with
    | .tup ks => match asKeys ks with
      | some ks => if kvs.length < big then .ok (.dct (putD kvs ks v)) else .no
      | none => .no
    | _ => .no
  | _ => .no
def fPut (i : Nat) (fk fv : Env' → R PV) : Env' → R Fl := fun ρ => dicAt i ρ >>= fun d => fv ρ >>= fun v => fk ρ >>= fun k => putP d k v >>= fun d' => .ok (.nx (ρ.set i (some d')))
theorem dic_at {K : PySem.W.Frag} {S0 S : Addr → Prop} {H0 H : Hp} {σ : L2.St} {ρ : Env'} {D : Ends} {i : Nat} {g : PV → R Fl} (hi : i ∈ mu) (st : StI K mu S0 H0 S σ H ρ) (go : GoS K cl W mu m S0 H0 S H (dicAt i ρ >>= g) D) :
    ∃ p a, ρ[i]? = some (some p) ∧ σ[i]? = some (some (.ref a)) ∧ GoS K cl W mu m S0 H0 S H (g p) D := by
  unfold dicAt at go
  split at go
  · rename_i d e
    obtain ⟨a, e1, _⟩ := st.re.ow i _ hi e
    exact ⟨_, a, e, e1, go⟩
  · rename_i d e
    obtain ⟨a, e1, _⟩ := st.re.ow i _ hi e
    exact ⟨_, a, e, e1, go⟩
  · exact go.elim
theorem putD_length {κ : Type} [DecidableEq κ] (kvs : List (κ × PV)) (k : κ) (v : PV) : (putD kvs k v).length ≤ kvs.length + 1 := by
  unfold putD
  split <;> simp
theorem putP_noex {d k v : PV} {x : Ex} (h : putP d k v = .ex x) : False := by
  unfold putP at h
  split at h
  · split at h
    · split at h <;> cases h
    · cases h
  · split at h
    · split at h
      · split at h <;> cases h
      · cases h
    · cases h
  · cases h
theorem toKey_dec {k k' : K1} : decide (toKey k = toKey k') = decide (k = k') := by
  by_cases h : k = k'
  · subst h; simp
  · have h' : toKey k ≠ toKey k' := fun e => h (toKey_inj e)
    rw [decide_eq_false h, decide_eq_false h']
theorem toKeys_dec {k k' : List K1} : decide (k.map toKey = k'.map toKey) = decide (k = k') := by
  by_cases h : k = k'
  · subst h; simp
  · have h' : k.map toKey ≠ k'.map toKey := fun e => h (toKeys_inj e)
    rw [decide_eq_false h, decide_eq_false h']
section
variable {K : PySem.W.Frag} {S : Addr → Prop} {H : Hp}
theorem key_ok {K : PySem.W.Frag} {S : Addr → Prop} {H : Hp} {v : V} {p : PV} {k : K1} (h : Pk K S H v p) (e : asKey p = some k) : KOk k := by
  cases p with
  | int i => cases e; trivial
  | str l => cases e; exact h.str.2
  | _ => cases e
theorem keys_ok {K : PySem.W.Frag} {S : Addr → Prop} {H : Hp} : ∀ {vs : List V} {ps : List PV} {ks : List K1}, Reps K S H vs ps → asKeys ps = some ks → ∀ x ∈ ks, KOk x
  | _, [], ks, _, e => by cases e; simp
  | _, p :: ps, ks, .cons r t, e => by
    unfold asKeys at e
    split at e
    · rename_i k ek
      obtain ⟨ks', e2, rfl⟩ := Option.map_eq_some_iff.mp e
      intro x hx
      rcases List.mem_cons.mp hx with rfl | hx
      · exact key_ok (.inl r) ek
      · exact keys_ok t e2 x hx
    · cases e
theorem KReps.any {k : K1} : ∀ {d : List (Key × V)} {kvs : List (K1 × PV)}, KReps K S H d kvs → (d.any fun kv => decide (kv.1 = toKey k)) = kvs.any fun kv => decide (kv.1 = k)
  | _, _, .nil => rfl
  | _, _, .cons _ r t => by
    rw [List.any_cons, List.any_cons, KReps.any t, toKey_dec]
theorem TReps.any {k : List K1} : ∀ {d : List (List Key × V)} {kvs : List (List K1 × PV)}, TReps K S H d kvs → (d.any fun kv => decide (kv.1 = k.map toKey)) = kvs.any fun kv => decide (kv.1 = k)
  | _, _, .nil => rfl
  | _, _, .cons _ r t => by
    rw [List.any_cons, List.any_cons, TReps.any t, toKeys_dec]
theorem KReps.mapPut {k : K1} {v : V} {p : PV} (q : Rep K S H v p) : ∀ {d : List (Key × V)} {kvs : List (K1 × PV)}, KReps K S H d kvs → KReps K S H (d.map fun kv => if kv.1 = toKey k then (kv.1, v) else kv) (kvs.map fun kv => if kv.1 = k then (kv.1, p) else kv)
  | _, _, .nil => .nil
  | _, _, .cons (k := k0) z r t => by
    rw [List.map_cons, List.map_cons]
    by_cases h : k0 = k
    · rw [if_pos (show toKey k0 = toKey k by rw [h]), if_pos h]
      exact .cons z q (KReps.mapPut q t)
    · rw [if_neg (show ¬ toKey k0 = toKey k from fun e => h (toKey_inj e)), if_neg h]
      exact .cons z r (KReps.mapPut q t)
theorem TReps.mapPut {k : List K1} {v : V} {p : PV} (q : Rep K S H v p) : ∀ {d : List (List Key × V)} {kvs : List (List K1 × PV)}, TReps K S H d kvs → TReps K S H (d.map fun kv => if kv.1 = k.map toKey then (kv.1, v) else kv) (kvs.map fun kv => if kv.1 = k then (kv.1, p) else kv)
  | _, _, .nil => .nil
  | _, _, .cons (k := k0) z r t => by
    rw [List.map_cons, List.map_cons]
    by_cases h : k0 = k
    · rw [if_pos (show k0.map toKey = k.map toKey by rw [h]), if_pos h]
      exact .cons z q (TReps.mapPut q t)
    · rw [if_neg (show ¬ k0.map toKey = k.map toKey from fun e => h (toKeys_inj e)), if_neg h]
      exact .cons z r (TReps.mapPut q t)
theorem KReps.snoc {k : K1} {v : V} {p : PV} (z : KOk k) (q : Rep K S H v p) : ∀ {d : List (Key × V)} {kvs : List (K1 × PV)}, KReps K S H d kvs → KReps K S H (d ++ [(toKey k, v)]) (kvs ++ [(k, p)])
  | _, _, .nil => .cons z q .nil
  | _, _, .cons z0 r t => .cons z0 r (KReps.snoc z q t)
theorem TReps.snoc {k : List K1} {v : V} {p : PV} (z : ∀ x ∈ k, KOk x) (q : Rep K S H v p) : ∀ {d : List (List Key × V)} {kvs : List (List K1 × PV)}, TReps K S H d kvs → TReps K S H (d ++ [(k.map toKey, v)]) (kvs ++ [(k, p)])
  | _, _, .nil => .cons z q .nil
  | _, _, .cons z0 r t => .cons z0 r (TReps.snoc z q t)
theorem KReps.put {k : K1} {v : V} {p : PV} {d : List (Key × V)} {kvs : List (K1 × PV)} (r : KReps K S H d kvs) (z : KOk k) (q : Rep K S H v p) : KReps K S H (putK d (toKey k) v) (putD kvs k p) := by
  unfold putK putD
  rw [r.any]
  split
  · exact r.mapPut q
  · exact r.snoc z q
theorem TReps.put {k : List K1} {v : V} {p : PV} {d : List (List Key × V)} {kvs : List (List K1 × PV)} (r : TReps K S H d kvs) (z : ∀ x ∈ k, KOk x) (q : Rep K S H v p) : TReps K S H (putK d (k.map toKey) v) (putD kvs k p) := by
  unfold putK putD
  rw [r.any]
  split
  · exact r.mapPut q
  · exact r.snoc z q
end
/-- x[k] = v, x with keys of one part, k any -/
def fPutK (i : Nat) (fk fv : Env' → R PV) : Env' → R Fl := fun ρ => dicAt i ρ >>= fun d => fv ρ >>= fun v => fk ρ >>= fun k => match d with
  | .dic _ => putP d k v >>= fun d' => .ok (.nx (ρ.set i (some d')))
  | _ => .no
theorem psx_put {i : Nat} {x : Str} (hu : X.A.units + 1 < cLine) (hi : i ∈ mu) (hN : X.N[i]? = some x) (hv : Vis X.env.scope x) (hd : (x == ("__debug__" : Str)) = false) (hcd : (x == ("__classdict__" : Str)) = false) (hk : PX X cl W mu .sh e f) (he : PX X cl W mu .sh e2 g)
    (hs : swapsWith e2 (some (.Subscript (.Name x p2) e pos')) pos.line X.env = pure false) : PSX X cl W mu m (.Assign [.Subscript (.Name x p2) e pos'] e2 pos) (fPutK i f g) :=
  ps_imp (ps_dput hu (pe_var hN hv hd hcd) hk he hs) fun D σ H ⟨S0, H0, S, ρ, st, go⟩ => by
    obtain ⟨p, a, e1, e2, go1⟩ := dic_at hi st go
    refine ⟨S, ρ, st.re, (GoS.exp st go1).mono fun pv S1 H1 _ x1 k1 v hv => ⟨_, e2, S1, ρ, (st.ex x1).re, (GoS.exp (st.ex x1) k1).mono fun pk S2 H2 _ x2 k2 y hy => ?_⟩⟩
    have st2 := (st.ex x1).ex x2
    have hv : Rep X.K S2 H2 v pv := Rep.ext hv x2
    have hy : Rep X.K S2 H2 y pk := hy
    cases p with
    | dic kvs =>
      obtain ⟨a', e3, _, ⟨⟨d, hH, rs⟩, z⟩⟩ := st2.re.ow i _ hi e1
      rw [e2] at e3
      cases e3
      have k2 : GoS X.K cl W mu m S0 H0 S2 H2 (putP (.dic kvs) pk pv >>= fun d' => .ok (.nx (ρ.set i (some d')))) D := k2
      simp only [putP] at k2
      cases q : asKey pk with
      | none => rw [q] at k2; exact k2.elim
      | some kk =>
        rw [q] at k2
        by_cases hb : kvs.length < big
        · simp only [if_pos hb] at k2
          rw [big_line] at hb
          refine ⟨a, _, rfl, by rw [asKey_rep (.inl hy) q]; exact DPut.k hH (by rw [rs.length]; exact hb), ?_⟩
          have kp : Keep S2 H2 (upd H2 a (.dK (putK d (toKey kk) v))) := own_keep hi st2 e1 e2
          have ow' : Own X.K S2 (upd H2 a (.dK (putK d (toKey kk) v))) a (.dic (putD kvs kk pv)) :=
            ⟨⟨_, upd_same, (rs.put (key_ok (.inl hy) q) hv).keep kp fun _ z => z⟩, by have := putD_length kvs kk pv; omega⟩
          obtain ⟨st', mv⟩ := st2.mut hi e1 e2 ow'
          exact k2 σ S2 _ st' mv
        · simp only [if_neg hb] at k2
          exact k2.elim
    | _ => exact k2.elim
/-- x[a, b] = v, x with keys that are tuples -/
def fPutT (i : Nat) (fk : Env' → R (List PV)) (fv : Env' → R PV) : Env' → R Fl := fun ρ => dicAt i ρ >>= fun d => fv ρ >>= fun v => fk ρ >>= fun ks => match d with
  | .dct _ => if ks.length ≤ 1000 then putP d (.tup ks) v >>= fun d' => .ok (.nx (ρ.set i (some d'))) else .no
  | _ => .no
theorem psx_putT {i j : Nat} {x : Str} {p3 : Pos} {es : List Expr} {fs : Env' → R (List PV)} (hu : X.A.units + 1 < cLine) (hi : i ∈ mu) (hN : X.N[i]? = some x) (hv : Vis X.env.scope x) (hd : (x == ("__debug__" : Str)) = false) (hcd : (x == ("__classdict__" : Str)) = false) (hk : PAX X cl W mu .sh es fs) (he : PX X cl W mu .sh e2 g)
    (hs : swapsWith e2 (some (.Subscript (.Name x p2) (.Tuple es j p3) pos')) pos.line X.env = pure false) : PSX X cl W mu m (.Assign [.Subscript (.Name x p2) (.Tuple es j p3) pos'] e2 pos) (fPutT i fs g) :=
  ps_imp (ps_dput hu (pe_var hN hv hd hcd) (pe_tup hk) he hs) fun D σ H ⟨S0, H0, S, ρ, st, go⟩ => by
    obtain ⟨p, a, e1, e2, go1⟩ := dic_at hi st go
    refine ⟨S, ρ, st.re, (GoS.exp st go1).mono fun pv S1 H1 _ x1 k1 v hv => ⟨_, e2, S1, ρ, (st.ex x1).re, (GoS.exp (st.ex x1) k1).mono fun ks S2 H2 _ x2 k2 vs hvs => ?_⟩⟩
    have hvs : Reps X.K S2 H2 vs ks := hvs
    cases p with
    | dct kvs =>
      have k2 : GoS X.K cl W mu m S0 H0 S2 H2 (if ks.length ≤ 1000 then putP (.dct kvs) (.tup ks) pv >>= fun d' => .ok (.nx (ρ.set i (some d'))) else .no) D := k2
      by_cases hb0 : ks.length ≤ 1000
      · rw [if_pos hb0] at k2
        have lb := line_big
        refine ⟨by rw [hvs.length]; omega, fun t ht => ?_⟩
        have x3 : Ext S2 H2 S2 (upd H2 t (.tup vs)) := Ext.laid ht
        have st3 := ((st.ex x1).ex x2).ex x3
        have k3 := k2.mv (Mv.of x3)
        have hv3 : Rep X.K S2 (upd H2 t (.tup vs)) v pv := (Rep.ext hv x2).ext x3
        have hvs3 := hvs.ext x3
        obtain ⟨a', e3, _, ⟨⟨d, hH, rs⟩, z⟩⟩ := st3.re.ow i _ hi e1
        rw [e2] at e3
        cases e3
        simp only [putP] at k3
        cases q : asKeys ks with
        | none => rw [q] at k3; exact k3.elim
        | some kk =>
          rw [q] at k3
          by_cases hb : kvs.length < big
          · simp only [if_pos hb] at k3
            rw [big_line] at hb
            have ev : vs = (kk.map toKey).map kV := asKeys_rep hvs q
            refine ⟨a, _, rfl, DPut.t hH (show upd H2 t (.tup vs) t = some (.tup ((kk.map toKey).map kV)) by rw [upd_same, ev]) (by rw [rs.length]; exact hb), ?_⟩
            have kp : Keep S2 (upd H2 t (.tup vs)) (upd (upd H2 t (.tup vs)) a (.dT (putK d (kk.map toKey) v))) := own_keep hi st3 e1 e2
            have ow' : Own X.K S2 (upd (upd H2 t (.tup vs)) a (.dT (putK d (kk.map toKey) v))) a (.dct (putD kvs kk pv)) :=
              ⟨⟨_, upd_same, (rs.put (keys_ok hvs3 q) hv3).keep kp fun _ z => z⟩, by have := putD_length kvs kk pv; omega⟩
            obtain ⟨st', mv⟩ := st3.mut hi e1 e2 ow'
            exact k3 σ S2 _ st' mv
          · simp only [if_neg hb] at k3
            exact k3.elim
      · rw [if_neg hb0] at k2
        exact k2.elim
    | _ => exact k2.elim
end
end M
/-! MM: dict(pairs), list(dict), get, index, isinstance of several types, enumerate. -/
namespace M
open PySem PySem.Spec PyProof.Rows L2

/-! ### dict(pairs) -/
def mergeD {κ : Type} [DecidableEq κ] (kvs more : List (κ × PV)) : List (κ × PV) := more.foldl (fun acc kv => putD acc kv.1 kv.2) kvs
def pairOf (p : PV) : Option (K1 × PV) := match p with
  | .tup [k, v] => (asKey k).map fun k => (k, v)
  | .wt [k, v] => (asKey k).map fun k => (k, v)
  | _ => none
def pairsOf : List PV → Option (List (K1 × PV))
  | [] => some []
  | p :: ps => match pairOf p, pairsOf ps with
    | some kv, some kvs => some (kv :: kvs)
    | _, _ => none
def dictP : List PV → R PV
  | [.tup ps] => match pairsOf ps with
    | some kvs => .ok (.dic (mergeD [] kvs))
    | none => .no
  | _ => .no
theorem mergeD_len {κ : Type} [DecidableEq κ] : ∀ (more kvs : List (κ × PV)), (mergeD kvs more).length ≤ kvs.length + more.length
  | [], kvs => Nat.le_refl _
  | p :: r, kvs => by
    have h1 := mergeD_len r (putD kvs p.1 p.2)
    have h2 := putD_length kvs p.1 p.2
    show (mergeD (putD kvs p.1 p.2) r).length ≤ _
    rw [List.length_cons]; omega
section
variable {X : Cx}
/-- the pairs as they stand in the heap -/
theorem heap_pairs {pins : List (Addr × Obj)} {σ : L2.St} {H : Hp} {s : Shared} (I : Inv X pins σ H s) : ∀ {ps : List Addr} {kvs : List (Key × V)}, Paired (fun p kv => SqT X.K H p [kV kv.1, kv.2]) ps kvs →
    ∃ (prv : List (Value × Value)) (prs : List (Key × Value)), KV kvs prs ∧ prs.length = ps.length ∧ prv.length = ps.length ∧
      ∀ (j : Nat) (u y : Value), prv[j]? = some (u, y) → ∃ b k, ps[j]? = some b ∧ prs[j]? = some (k, y) ∧ IsTup s.heap b #[u, y] ∧ keyIs k u = true
  | _, _, .nil => ⟨[], [], .nil, rfl, rfl, fun j u y e => by simp at e⟩
  | _, _, .cons (a := p) (b := kv) h t => by
    obtain ⟨prv, prs, r, l1, l2, f⟩ := heap_pairs I t
    obtain ⟨its, rv, ht, _⟩ := I.tuple h
    obtain ⟨u, y, rfl, ru, ry⟩ := vals2 rv
    refine ⟨(u, y) :: prv, (kv.1, y) :: prs, .cons ⟨rfl, ry⟩ r, congrArg (· + 1) l1, congrArg (· + 1) l2, fun j u' y' e => ?_⟩
    cases j with
    | zero =>
      have e : (u, y) = (u', y') := Option.some.inj e
      cases e
      exact ⟨p, kv.1, rfl, rfl, ht, kV_is (P := X.prog) (w := X.w) ru⟩
    | succ j => exact f j u' y' e
theorem SqG.plain {pins : List (Addr × Obj)} {σ : L2.St} {H : Hp} {s : Shared} {a : Addr} {xs : List V} (I : Inv X pins σ H s) (h : SqG X.K H a xs) : ∃ its : List Value, Vals xs its ∧ PlainSeq "tuple" s.heap a its.toArray ∧ xs.length ≤ sizeLine := by
  rcases h with ⟨ob, h, hd⟩ | ⟨o, its, n, h1, h2, h3, h4, h5, h6⟩
  · obtain ⟨e, z, its, r, o, e2, hc, n, hx⟩ := I.hok a _ h
    rw [e] at e2
    cases e2
    exact ⟨its, r, ⟨ob, n, e, hc, hd, hx⟩, z⟩
  · refine ⟨its.toList, h6, ⟨o, n, I.kIn a o h1, h2, h3, by simpa using h4⟩, ?_⟩
    rw [h6.length, Array.length_toList]
    exact h5
theorem call_dictT (hcalm : X.calm = true) : CallR X (.type "dict") (fun xs H Q => ∃ (a : Addr) (ps : List Addr) (kvs : List (Key × V)), xs = [.ref a] ∧ SqG X.K H a (ps.map V.ref) ∧ Paired (fun p kv => SqT X.K H p [kV kv.1, kv.2]) ps kvs ∧
    ∀ p, H p = none → Q (.ref p) (upd H p (.dK (mergeK [] kvs)))) := by
  intro pins s σ H xs us Q I r q
  obtain ⟨a, ps, kvs, rfl, hq, hp, q⟩ := q
  obtain ⟨u, rfl, rx⟩ := vals1 r
  cases rx
  obtain ⟨its, rv, pl, hz⟩ := hq.plain I
  have ei := refs_at rv
  subst ei
  rw [List.length_map] at hz
  obtain ⟨prv, prs, rel, l1, l2, f⟩ := heap_pairs I hp
  have key := PairArg.tuple (prog := X.prog) (w := X.w) a (ps.map Value.ref).toArray (fun j => (ps[j]?).getD 0) prv
  refine PySem.call_dict_pairs (knd := mixKind X.prog X.w) (kvs := prs) key (I.ok.hd hcalm) ⟨pl, ?_, fun j k v e => ?_⟩ ⟨by rw [l1, l2], fun i k v e => ?_⟩ (by rw [l2]; exact hz) fun h' tk hd' kp => ?_
  · rw [List.size_toArray, List.length_map, l2]
  · obtain ⟨b, kk, e1, _, e3, _⟩ := f j k v e
    refine ⟨?_, .inl ?_⟩
    · rw [List.getElem?_toArray, List.getElem?_map, e1]
      show some (Value.ref b) = some (Value.ref ((ps[j]?).getD 0))
      rw [e1]
      rfl
    · show IsTup s.heap ((ps[j]?).getD 0) #[k, v]
      rw [e1]
      exact e3
  · obtain ⟨b, kk, _, e2, _, e4⟩ := f i k v e
    exact ⟨kk, e2, e4⟩
  · have hm : (s.heap.objs.size == sysModules) = false := beq_eq_false_iff_ne.mpr (Nat.ne_of_gt I.big)
    have hlen : (mergeK [] kvs).length ≤ sizeLine := by
      refine Nat.le_trans (length_mergeK kvs []) ?_
      rw [List.length_nil, Nat.zero_add, rel.length, l1]
      exact hz
    have kp' : ∀ b o, s.heap.get? b = some o → h'.get? b = some o := fun b o e => kp b o (by simp) e
    exact ⟨.ref s.heap.objs.size, upd H s.heap.objs.size (.dK (mergeK [] kvs)), I.laid (t' := tk) kp' (Nat.le_refl _) (show ObjOk X.prog X.w _ _ _ (.dK (mergeK [] kvs)) from ⟨hlen, hm, merged [] prs, KV.merge rel .nil, hd'⟩), rfl, q _ (I.hok.fresh (Nat.le_refl _))⟩
theorem pairs_reps {K : PySem.W.Frag} {S : Addr → Prop} {H : Hp} : ∀ {ps : List PV} {kvs : List (K1 × PV)} {vs : List V}, Reps K S H vs ps → pairsOf ps = some kvs →
    ∃ (as : List Addr) (ds : List (Key × V)), vs = as.map V.ref ∧ Paired (fun p kv => SqT K H p [kV kv.1, kv.2]) as ds ∧ KReps K S H ds kvs
  | [], kvs, vs, r, e => by
    cases r
    cases e
    exact ⟨[], [], rfl, .nil, .nil⟩
  | p :: ps, kvs, vs, r, e => by
    cases r with
    | cons r t =>
      unfold pairsOf at e
      split at e
      · rename_i kv kvs' e1 e2
        cases e
        obtain ⟨as, ds, rfl, h1, h2⟩ := pairs_reps t e2
        have one : ∀ {a : Addr} {vs : List V} {k v : PV}, SqT K H a vs → Reps K S H vs [k, v] → (asKey k).map (fun k => (k, v)) = some kv → ∃ w, SqT K H a [kV (toKey kv.1), w] ∧ KOk kv.1 ∧ Rep K S H w kv.2 := fun {a vs k v} hs hr ek => by
          obtain ⟨kk, ek', rfl⟩ := Option.map_eq_some_iff.mp ek
          cases hr with
          | cons rk rr =>
            cases rr with
            | cons rv rn =>
              cases rn
              have := asKey_rep (.inl rk) ek'
              subst this
              exact ⟨_, hs, key_ok (.inl rk) ek', rv⟩
        unfold pairOf at e1
        split at e1
        · obtain ⟨a, vs', rfl, g, r2, _⟩ := (Pk.tup (.inl r))
          obtain ⟨w, g1, g0, g2⟩ := one g r2 e1
          exact ⟨a :: as, (toKey kv.1, w) :: ds, rfl, .cons g1 h1, .cons g0 g2 h2⟩
        · obtain ⟨a, vs', rfl, g, r2, _⟩ := (Pk.wt (.inl r))
          obtain ⟨w, g1, g0, g2⟩ := one g r2 e1
          exact ⟨a :: as, (toKey kv.1, w) :: ds, rfl, .cons g1 h1, .cons g0 g2 h2⟩
        · cases e1
      · cases e
theorem merge_reps {K : PySem.W.Frag} {S : Addr → Prop} {H : Hp} {more : List (Key × V)} {rs : List (K1 × PV)} (r : KReps K S H more rs) : ∀ {d : List (Key × V)} {kvs : List (K1 × PV)}, KReps K S H d kvs → KReps K S H (mergeK d more) (mergeD kvs rs) := by
  induction more generalizing rs with
  | nil =>
    cases r
    exact fun q => q
  | cons p more ih =>
    cases r with
    | cons z rv rt =>
      intro d kvs q
      exact ih rt (q.put z rv)
theorem pairsOf_len : ∀ {ps : List PV} {kvs : List (K1 × PV)}, pairsOf ps = some kvs → kvs.length = ps.length
  | [], kvs, e => by cases e; rfl
  | p :: ps, kvs, e => by
    unfold pairsOf at e
    split at e
    · rename_i e2
      cases e
      exact congrArg (· + 1) (pairsOf_len e2)
    · cases e
theorem c_dict (hcalm : X.calm = true) : CaS X (.type "dict") dictP := by
  refine ⟨_, call_dictT hcalm, fun cl W σ S H H0 m Q vs ps hs hd hp h => ?_⟩
  unfold dictP at h
  split at h
  · split at h
    · rename_i qs kvs e
      obtain ⟨v, rfl, hv⟩ := hp.one
      obtain ⟨a, us, rfl, g, r, z⟩ := hv.tupG
      obtain ⟨as, ds, rfl, h1, h2⟩ := pairs_reps r e
      have hl := mergeD_len kvs []
      have hl2 := pairsOf_len e
      exact ⟨a, as, ds, rfl, g, h1, fun p hp => give_dK h hs hd hp (merge_reps h2 .nil) (by rw [List.length_nil] at hl; omega)⟩
    · exact h.elim
  · exact h.elim

/-! ### list(dict) -/
def keysP : PV → R PV
  | .dic kvs => .ok (.lst (kvs.map fun kv => unKey kv.1))
  | _ => .no
theorem unKey_rep {K : PySem.W.Frag} {S : Addr → Prop} {H : Hp} : ∀ {d : List (Key × V)} {kvs : List (K1 × PV)}, KReps K S H d kvs → Reps K S H (d.map fun kv => kV kv.1) (kvs.map fun kv => unKey kv.1)
  | _, _, .nil => .nil
  | _, _, .cons (k := k) z r t => by
    refine .cons ?_ (unKey_rep t)
    cases k with
    | inl i => exact .int i
    | inr l => exact .str l z
end
end M
/-! M4: sorted of tuples of texts, in a list, in a dict. -/
namespace M
open PySem PySem.Spec PyProof.Rows L2

/-! ### the sorted list -/
def ins {α : Type} (le : α → α → Bool) (x : α) : List α → List α
  | [] => [x]
  | y :: l => if le x y then x :: y :: l else y :: ins le x l
def isort {α : Type} (le : α → α → Bool) : List α → List α
  | [] => []
  | x :: l => ins le x (isort le l)
section
variable {α : Type} {le : α → α → Bool}
theorem ins_perm (x : α) : ∀ l : List α, (ins le x l).Perm (x :: l)
  | [] => .refl _
  | y :: l => by
    unfold ins
    split
    · exact .refl _
    · exact ((ins_perm x l).cons y).trans (.swap x y l)
theorem isort_perm : ∀ l : List α, (isort le l).Perm l
  | [] => .refl _
  | x :: l => (ins_perm x _).trans ((isort_perm l).cons x)
theorem isort_len (l : List α) : (isort le l).length = l.length := (isort_perm l).length_eq
theorem ins_pw (tr : ∀ a b c, le a b = true → le b c = true → le a c = true) (to : ∀ a b, le a b = true ∨ le b a = true) (x : α) : ∀ {l : List α}, l.Pairwise (fun a b => le a b = true) → (ins le x l).Pairwise (fun a b => le a b = true)
  | [], _ => List.pairwise_singleton _ _
  | y :: l, h => by
    obtain ⟨h1, h2⟩ := List.pairwise_cons.mp h
    unfold ins
    split
    · rename_i e
      refine List.pairwise_cons.mpr ⟨fun z hz => ?_, h⟩
      rcases List.mem_cons.mp hz with rfl | hz
      · exact e
      · exact tr x y z e (h1 z hz)
    · rename_i e
      have e2 : le y x = true := (to y x).resolve_right e
      refine List.pairwise_cons.mpr ⟨fun z hz => ?_, ins_pw tr to x h2⟩
      rcases List.mem_cons.mp ((ins_perm x l).mem_iff.mp hz) with rfl | hz
      · exact e2
      · exact h1 z hz
theorem isort_pw (tr : ∀ a b c, le a b = true → le b c = true → le a c = true) (to : ∀ a b, le a b = true ∨ le b a = true) : ∀ l : List α, (isort le l).Pairwise (fun a b => le a b = true)
  | [] => .nil
  | x :: l => ins_pw tr to x (isort_pw tr to l)
theorem isort_uniq (tr : ∀ a b c, le a b = true → le b c = true → le a c = true) (to : ∀ a b, le a b = true ∨ le b a = true) (an : ∀ a b, le a b = true → le b a = true → a = b) {l ys : List α} (p : ys.Perm l) (h : ys.Pairwise (fun a b => le a b = true)) : ys = isort le l :=
  List.Perm.eq_of_pairwise (fun a b _ _ h1 h2 => an a b h1 h2) h (isort_pw tr to l) (p.trans (isort_perm l).symm)
end
/-! ### the order of tuples of texts -/
abbrev Tx := List (List Nat)
def tkey (k : Tx) : List (Int ⊕ List Nat) := k.map Sum.inr
def leT (a b : Tx) : Bool := !(lexLt itemOrd (tkey b) (tkey a))
theorem tkey_inj {a b : Tx} (h : tkey a = tkey b) : a = b := by
  have : ∀ {a b : Tx}, tkey a = tkey b → a = b := fun {a} => by
    induction a with
    | nil => intro b h; cases b with
      | nil => rfl
      | cons y b => cases h
    | cons x a ih => intro b h; cases b with
      | nil => cases h
      | cons y b =>
        unfold tkey at h ih
        rw [List.map_cons, List.map_cons] at h
        injection h with h1 h2
        rw [Sum.inr.inj h1, ih h2]
  exact this h
theorem leT_kle {a b : Tx} : leT a b = true ↔ (listOrd itemOrd).kle (tkey a) (tkey b) := by
  unfold leT KeyOrd.kle
  rw [Bool.not_eq_true']
theorem leT_tr (a b c : Tx) (h1 : leT a b = true) (h2 : leT b c = true) : leT a c = true := leT_kle.mpr (KeyOrd.kle_trans (leT_kle.mp h1) (leT_kle.mp h2))
theorem leT_an (a b : Tx) (h1 : leT a b = true) (h2 : leT b a = true) : a = b := tkey_inj (KeyOrd.kle_antisymm (leT_kle.mp h1) (leT_kle.mp h2))
theorem leT_to (a b : Tx) : leT a b = true ∨ leT b a = true := by
  by_cases h : (listOrd itemOrd).klt (tkey a) (tkey b)
  · exact .inl (leT_kle.mpr (KeyOrd.kle_of_klt h))
  · exact .inr (leT_kle.mpr (KeyOrd.kle_of_not_klt h))
def sortT (l : List Tx) : List Tx := isort leT l
theorem sortT_uniq {ys l : List Tx} (p : ys.Perm l) (h : ys.Pairwise fun a b => leT a b = true) : ys = sortT l := isort_uniq leT_tr leT_to leT_an p h
theorem sortT_perm {l l' : List Tx} (p : l.Perm l') : sortT l = sortT l' := sortT_uniq ((isort_perm l).trans p) (isort_pw leT_tr leT_to l)

/-! ### a list laid in order -/
theorem perm_lift {α β : Type} {f : α → β} {l1 l2 : List β} (p : l1.Perm l2) : ∀ L : List α, l2 = L.map f → ∃ L' : List α, L'.Perm L ∧ l1 = L'.map f := by
  induction p with
  | nil => intro L e; exact ⟨L, .refl _, e⟩
  | cons x _ ih =>
    intro L e
    cases L with
    | nil => cases e
    | cons y L =>
      rw [List.map_cons] at e
      injection e with e1 e2
      obtain ⟨L', p', e'⟩ := ih L e2
      exact ⟨y :: L', p'.cons y, by rw [List.map_cons, ← e1, e']⟩
  | swap x y l =>
    intro L e
    cases L with
    | nil => cases e
    | cons a L =>
      cases L with
      | nil => cases e
      | cons b L =>
        rw [List.map_cons, List.map_cons] at e
        injection e with e1 e2
        injection e2 with e2 e3
        exact ⟨b :: a :: L, .swap a b L, by rw [List.map_cons, List.map_cons, ← e1, ← e2, e3]⟩
  | trans _ _ ih1 ih2 =>
    intro L e
    obtain ⟨L2, p2, e2⟩ := ih2 L e
    obtain ⟨L1, p1, e1⟩ := ih1 L2 e2
    exact ⟨L1, p1.trans p2, e1⟩
abbrev AT := Addr × Tx
/-- a tuple of texts, at least one -/
def TxAt (h : Heap) (a : Addr) (k : Tx) : Prop := k ≠ [] ∧ ∃ o its n, h.get? a = some o ∧ o.cls = .type "tuple" ∧ o.data = .seq its n ∧ Vals ((k.map strOf).map V.str) its.toList
theorem TxAt.keep {h h' : Heap} {a : Addr} {k : Tx} (x : TxAt h a k) (f : ∀ b o, h.get? b = some o → h'.get? b = some o) : TxAt h' a k := by
  obtain ⟨hk, o, its, n, ho, r⟩ := x
  exact ⟨hk, o, its, n, f _ _ ho, r⟩
abbrev allTx : Nat → Bool := fun _ => true
theorem items_tx : ∀ {k : Tx} {us : List Value} {i : Nat}, Vals ((k.map strOf).map V.str) us → tupItems allTx i us = some (tkey k)
  | [], _, _, .nil => by simp [tupItems, tkey]
  | l :: k, _, i, .cons r t => by
    obtain ⟨tk, rfl⟩ := r
    have := items_tx (k := k) (i := i + 1) t
    simp [tupItems, allTx, this, tkey]
theorem TxAt.key {h : Heap} {a : Addr} {k : Tx} (x : TxAt h a k) : G.tupKeyC h allTx (.ref a) = some (tkey k) := by
  obtain ⟨hk, o, its, n, ho, hc, hd, r⟩ := x
  have e1 : G.isTupObj h (.ref a) = true := by
    unfold G.isTupObj
    simp only [ho, hc]
    decide
  unfold G.tupKeyC
  rw [if_pos e1]
  unfold tupKey
  simp only [ho, hd]
  exact items_tx r
theorem TxAt.of {h : Heap} {a : Addr} {k : Tx} (x : TxAt h a k) : ∃ f, TupOf h allTx (.ref a) f := by
  obtain ⟨hk, o, its, n, ho, hc, hd, r⟩ := x
  cases k with
  | nil => exact absurd rfl hk
  | cons l k =>
    rw [List.map_cons, List.map_cons] at r
    generalize hi : its.toList = us at r
    cases r with
    | cons r t =>
      obtain ⟨tk, rfl⟩ := r
      refine ⟨.str (strOf l) tk, a, o, its, n, rfl, ho, hc, hd, ?_, fun z => (nomatch z), fun _ => ⟨_, tk, rfl⟩⟩
      rw [← Array.getElem?_toList, hi]
      rfl
theorem tups_of {h : Heap} : ∀ {L : List AT}, (∀ p ∈ L, TxAt h p.1 p.2) → ∃ fs, TupsOf h allTx (L.map fun p => Value.ref p.1) fs
  | [], _ => ⟨[], .nil⟩
  | p :: L, x => by
    obtain ⟨f, hf⟩ := (x p List.mem_cons_self).of
    obtain ⟨fs, hs⟩ := tups_of (L := L) fun q hq => x q (List.mem_cons_of_mem _ hq)
    exact ⟨f :: fs, .cons hf hs⟩
theorem keys_of {h : Heap} {L : List AT} (x : ∀ p ∈ L, TxAt h p.1 p.2) : ∀ v, v ∈ (L.map fun p => Value.ref p.1) → ∃ l, G.tupKeyC h allTx v = some l := fun v hv => by
  obtain ⟨p, hp, rfl⟩ := List.mem_map.mp hv
  exact ⟨_, (x p hp).key⟩
/-- what the sort leaves -/
theorem srt_out {h : Heap} {L : List AT} (x : ∀ p ∈ L, TxAt h p.1 p.2) {xs : Array Keyed} (hp : xs.Perm (PyProof.Rows.pairsOf (L.map fun p => Value.ref p.1))) (hs : SortedToK (G.tupKindC h allTx) xs (PyProof.Rows.pairsOf (L.map fun p => Value.ref p.1)).size) :
    ∃ L' : List AT, L'.Perm L ∧ (xs.map (·.2)).toList = L'.map (fun p => Value.ref p.1) ∧ (L'.map (·.2)).Pairwise fun a b => leT a b = true := by
  have e0 : (PyProof.Rows.pairsOf (L.map fun p => Value.ref p.1)).toList = L.map fun p => (Value.ref p.1, Value.ref p.1) := by
    rw [pairsOf_toList]
    generalize L = M
    induction M with
    | nil => rfl
    | cons a M ih => rw [List.map_cons, List.zip_cons_cons, ih]; rfl
  have pl : xs.toList.Perm (L.map fun p => (Value.ref p.1, Value.ref p.1)) := by rw [← e0]; exact hp.toList
  obtain ⟨L', p', e'⟩ := perm_lift pl L rfl
  refine ⟨L', p', by rw [Array.toList_map, e', List.map_map]; rfl, ?_⟩
  rw [List.pairwise_map]
  refine List.pairwise_iff_getElem.mpr fun i j hi hj hij => leT_kle.mpr ?_
  have kk : ∀ i (h1 : i < L'.length), KK (G.tupKindC h allTx) xs i = tkey L'[i].2 := fun i h1 => by
    unfold KK
    have g : xs[i]? = some (Value.ref L'[i].1, Value.ref L'[i].1) := by
      rw [← Array.getElem?_toList, e', List.getElem?_map, List.getElem?_eq_getElem h1]
      rfl
    rw [g]
    have := (x _ (p'.mem_iff.mp (List.getElem_mem h1))).key
    show (G.tupKeyC h allTx (Value.ref L'[i].1)).getD [] = _
    rw [this]
    rfl
  have := hs i j (Nat.le_of_lt hij) (by rw [hp.size_eq.symm, ← Array.length_toList, e', List.length_map]; exact hj)
  rw [kk i hi, kk j hj] at this
  exact this
section
variable {X : Cx}
theorem inv_txAt {pins : List (Addr × Obj)} {σ : L2.St} {H : Hp} {s : Shared} {a : Addr} {k : Tx} (I : Inv X pins σ H s) (hk : k ≠ []) (h : SqT X.K H a ((k.map strOf).map V.str)) : TxAt s.heap a k := by
  obtain ⟨its, rv, ⟨o, ho, hc, n, hd⟩, _⟩ := I.tuple h
  exact ⟨hk, o, _, n, ho, hc, hd, by simpa using rv⟩
theorem vals_at : ∀ L : List AT, Vals (L.map fun p => V.ref p.1) (L.map fun p => Value.ref p.1)
  | [] => .nil
  | p :: L => .cons rfl (vals_at L)
theorem vals_at_inv : ∀ {L : List AT} {us : List Value}, Vals (L.map fun p => V.ref p.1) us → us = L.map fun p => Value.ref p.1
  | [], _, .nil => rfl
  | p :: L, _, .cons r t => by
    cases r
    rw [vals_at_inv t]
    rfl
/-- sorted(xs), a list of tuples of texts -/
def rSortTL (K : PySem.W.Frag) : List V → Hp → VK → Prop := fun vs H Q => ∃ (a : Addr) (L : List AT), vs = [V.ref a] ∧ SqL K H a (L.map fun p => V.ref p.1) ∧ (∀ p ∈ L, p.2 ≠ [] ∧ SqT K H p.1 ((p.2.map strOf).map V.str)) ∧
  ∀ (L' : List AT) (p : Addr), L'.Perm L → (L'.map (·.2)).Pairwise (fun a b => leT a b = true) → H p = none → Q (.ref p) (upd H p (.lst (L'.map fun p => V.ref p.1)))
theorem cr_sortTL : CallR X (.builtin "sorted") (rSortTL X.K) := by
  intro pins s σ H vs us Q I r h
  obtain ⟨a, L, rfl, hs, hx, q⟩ := h
  obtain ⟨its, rv, hl, hz⟩ := I.list hs
  rw [Vals.ref1 r]
  have x : ∀ p ∈ L, TxAt s.heap p.1 p.2 := fun p hp => inv_txAt I (hx p hp).1 (hx p hp).2
  obtain rfl := vals_at_inv rv
  obtain ⟨fs, ht⟩ := tups_of x
  have hz : L.length ≤ sizeLine := by simpa using hz
  refine G.sorted_tups (shape := allTx) hl.isList ht (keys_of x) (by simpa using hz) fun st' a1 a2 _ => ?_
  obtain ⟨L', p', e', w'⟩ := srt_out x a1 a2
  obtain ⟨ep, he'⟩ := PyProof.Rows.sortedAll_at s.heap (L.map fun p => Value.ref p.1) ((arrOf st').map (·.2))
  refine ⟨.ref _, upd H (s.heap.objs.size + 1) (.lst (L'.map fun p => V.ref p.1)), I.laid (t' := s.toks) (fun _ _ => PyProof.Rows.sortedAll_old) (Nat.le_succ _) ⟨by rw [List.length_map, p'.length_eq]; exact hz, ((arrOf st').map (·.2)).toList, ep, by rw [e']; exact vals_at L', by rw [Array.toArray_toList]; exact he'⟩, rfl, q L' _ p' w' (I.hok.fresh (Nat.le_succ _))⟩
/-- sorted(d), a dict whose keys are tuples of texts -/
def rSortTD : List V → Hp → VK → Prop := fun vs H Q => ∃ (a : Addr) (kvs : List (List Key × V)) (ks : List Tx), vs = [V.ref a] ∧ Rd H a (.dT kvs) ∧ kvs.map (·.1) = ks.map (fun k => (k.map strOf).map Sum.inr) ∧ (∀ k ∈ ks, k ≠ []) ∧
  ∀ (L' : List AT) (p : Addr), (L'.map (·.2)).Perm ks → (∀ p ∈ L', H p.1 = some (.tup ((p.2.map strOf).map V.str))) → (L'.map (·.2)).Pairwise (fun a b => leT a b = true) → H p = none → Q (.ref p) (upd H p (.lst (L'.map fun p => V.ref p.1)))
theorem cr_sortTD (hc : X.calm = true) : CallR X (.builtin "sorted") rSortTD := by
  intro pins s σ H vs us Q I r h
  obtain ⟨d, kvs, ks, rfl, hd, hk, hne, q⟩ := h
  rw [Vals.ref1 r]
  obtain ⟨z, hs, xs, pr, o, es, ep, ho, hx, hdt, he, hn⟩ := (show ObjOk X.prog X.w H s.heap d (.dT kvs) from hd.ok I.hok)
  have l1 : es.size = xs.length := size_of_entries he
  have l2 : kvs.length = xs.length := Paired.length pr
  have l3 : kvs.length = ks.length := by
    have := congrArg List.length hk
    rwa [List.length_map, List.length_map] at this
  refine Calls.call_function_entry PyProof.Rows.kind_sorted PyProof.Rows.plain_sorted PyProof.Rows.entry_sorted (PyProof.Rows.args_sorted1 _) ?_
  unfold Builtin.«sorted»
  refine wpAny_bind (m := checkCount "sorted" 1 1 _) (wpAny_pure ?_)
  refine wpAny_bind (PySem.W.kdu_collect (A := X.A.in1) (kdl_raw hs hx hdt) (I.ok.hd hc) ho (by omega) fun h' tk acc kp it => ?_)
  have ea : acc.toList = xs.map fun x => Value.ref x.2.1 := by
    have hl : acc.toList.length = xs.length := by rw [Array.length_toList, it.1]; exact l1
    refine List.ext_getElem? fun j => ?_
    rw [List.getElem?_map]
    cases hj : acc.toList[j]? with
    | none =>
      have := List.getElem?_eq_none_iff.mp hj
      rw [List.getElem?_eq_none (by omega)]
      rfl
    | some v =>
      obtain ⟨en, hen, hv⟩ := it.2 j v (by rw [← Array.getElem?_toList]; exact hj)
      have qe := entry_at he j
      rw [hen] at qe
      cases hb : xs[j]? with
      | none =>
        rw [hb] at qe
        exact nomatch (show some en = none from qe)
      | some b =>
        rw [hb] at qe
        have e2 : en = entryOfKey (tupleKind (mixKind X.prog X.w)) b := Option.some.inj qe
        rw [hv, e2]
        rfl
  -- the keys with their places
  obtain ⟨L, eL, eK, hL⟩ : ∃ L : List AT, xs.map (fun x => Value.ref x.2.1) = L.map (fun p => Value.ref p.1) ∧ L.map (·.2) = ks ∧ ∀ p ∈ L, H p.1 = some (.tup ((p.2.map strOf).map V.str)) := by
    clear it ea he hn l1 l2 l3 z q hdt hd
    induction pr generalizing ks with
    | nil =>
      cases ks with
      | nil => exact ⟨[], rfl, rfl, fun _ z => (by cases z)⟩
      | cons k ks => cases hk
    | @cons p x kvs xs h1 t ih =>
      cases ks with
      | nil => cases hk
      | cons k ks =>
        rw [List.map_cons, List.map_cons] at hk
        injection hk with k1 k2
        obtain ⟨L, e1, e2, e3⟩ := ih ks k2 (fun k hk => hne k (List.mem_cons_of_mem _ hk))
        refine ⟨(x.2.1, k) :: L, by rw [List.map_cons, List.map_cons, e1], by rw [List.map_cons, e2], fun p hp => ?_⟩
        rcases List.mem_cons.mp hp with rfl | hp
        · have := h1.2.1
          rw [k1] at this
          rw [this, List.map_map]
          rfl
        · exact e3 p hp
  have I1 : Inv X pins σ H { s with heap := h', toks := tk } := I.kept kp
  have x : ∀ p ∈ L, TxAt h' p.1 p.2 := fun p hp => inv_txAt I1 (hne _ (eK ▸ List.mem_map_of_mem hp)) (.inl (.inl (hL p hp)))
  have lL : L.length = ks.length := by rw [← eK, List.length_map]
  rw [ea, eL]
  refine wpAny_bind (wpAny_newList ?_ (by rw [List.length_map]; omega))
  have hoL : (h'.push (seqObj "list" (L.map fun p => Value.ref p.1).toArray 0)).get? h'.objs.size = some (seqObj "list" (L.map fun p => Value.ref p.1).toArray 0) := Heap.get?_push_size _ rfl
  have x2 : ∀ p ∈ L, TxAt (h'.push (seqObj "list" (L.map fun p => Value.ref p.1).toArray 0)) p.1 p.2 := fun p hp => (x p hp).keep fun b o e => Heap.get?_push_of_some _ e
  obtain ⟨fs, ht⟩ := tups_of x2
  show wpAny _ _ _ _ _ { s with heap := h'.push (seqObj "list" (L.map fun p => Value.ref p.1).toArray 0), toks := tk }
  refine wpAny_bind (wpAny_holding (wpAny_call_entry PyProof.Rows.slot_list_sort ⟨_, hoL, rfl⟩ PyProof.Rows.entry_list_sort
    (G.list_sort_tups (shape := allTx) (s := { s with heap := h'.push (seqObj "list" (L.map fun p => Value.ref p.1).toArray 0), toks := tk }) hoL ht (keys_of x2) (by rw [List.length_map]; omega) fun st' a1 a2 _ => ⟨_, rfl, ?_⟩) (PyProof.Rows.args_list_sort _)))
  obtain ⟨L', p', e', w'⟩ := srt_out x2 a1 a2
  obtain ⟨c, hcc⟩ := sortedHeap_at (vs := L.map fun p => Value.ref p.1) (out := (arrOf st').map (·.2)) hoL
  have old : ∀ b u, h'.get? b = some u → (sortedHeap (h'.push (seqObj "list" (L.map fun p => Value.ref p.1).toArray 0)) h'.objs.size (L.map fun p => Value.ref p.1) ((arrOf st').map (·.2))).get? b = some u := fun b u e => by
    have lt := Heap.lt_size e
    rw [sortedHeap_old (Nat.ne_of_lt lt) (by rw [size_push']; exact Nat.lt_succ_of_lt lt)]
    exact Heap.get?_push_of_some _ e
  refine wpAny_pure ⟨_, rfl, .ref h'.objs.size, upd H h'.objs.size (.lst (L'.map fun p => V.ref p.1)), ?_, rfl, q L' _ (by rw [← eK]; exact p'.map _) (fun p hp => hL p (p'.mem_iff.mp hp)) w' (I1.hok.fresh (Nat.le_refl _))⟩
  exact I1.laid (t' := tk) old (Nat.le_refl _) (show ObjOk X.prog X.w _ _ _ (.lst (L'.map fun p => V.ref p.1)) from ⟨by rw [List.length_map, p'.length_eq]; omega, ((arrOf st').map (·.2)).toList, c, by rw [e']; exact vals_at L', by rw [Array.toArray_toList]; exact hcc⟩)
end
end M
/-! M6: sorted(xs), xs a tuple or a list of tuples whose first items are texts, no two alike. -/
namespace M
open PySem PySem.Spec PyProof.Rows L2 PySem.W

abbrev AK := Addr × List Nat
/-- the keys: the first texts, by the addresses -/
def fKey (L : List AK) : Value → Option (List Nat)
  | .ref a => (L.find? fun p => p.1 == a).map (·.2)
  | _ => none
@[reducible] def fKind (L : List AK) : KeyKind where
  toKeyOrd := strKind.toKeyOrd
  keyOf := fKey L
  dflt := []
theorem fKey_mem {L : List AK} {v : Value} {k : List Nat} (h : fKey L v = some k) : ∃ a, v = .ref a ∧ (a, k) ∈ L := by
  cases v with
  | ref a =>
    obtain ⟨p, e, rfl⟩ := Option.map_eq_some_iff.mp (show (L.find? fun p => p.1 == a).map (·.2) = some k from h)
    have h1 := List.mem_of_find?_eq_some e
    have h2 := List.find?_some e
    have : p.1 = a := by simpa using h2
    exact ⟨a, rfl, this ▸ h1⟩
  | _ => exact absurd h (by simp [fKey])
theorem fKey_of {L : List AK} {p : AK} (h : p ∈ L) : ∃ k, fKey L (.ref p.1) = some k ∧ (p.1, k) ∈ L := by
  have : (L.find? fun q => q.1 == p.1).isSome := by
    rw [List.find?_isSome]
    exact ⟨p, h, by simp⟩
  obtain ⟨q, e⟩ := Option.isSome_iff_exists.mp this
  have h1 := List.mem_of_find?_eq_some e
  have h2 : q.1 = p.1 := by simpa using List.find?_some e
  refine ⟨q.2, ?_, h2 ▸ h1⟩
  show ((L.find? fun q => q.1 == p.1).map (·.2)) = _
  rw [e]
  rfl
def plainV : V → Bool
  | .str _ => true
  | .int _ => true
  | .ref _ => true
  | _ => false
/-- a tuple whose first item is this text -/
def FAt (h : Heap) (a : Addr) (k : List Nat) : Prop := ∃ o its n us, h.get? a = some o ∧ o.cls = .type "tuple" ∧ o.data = .seq its n ∧ Vals (V.str (strOf k) :: us) its.toList ∧ ∀ u ∈ us, plainV u = true
theorem FAt.keep {h h' : Heap} {a : Addr} {k : List Nat} (x : FAt h a k) (f : ∀ b o, h.get? b = some o → o.cls = .type "tuple" → h'.get? b = some o) : FAt h' a k := by
  obtain ⟨o, its, n, us, ho, hc, r⟩ := x
  exact ⟨o, its, n, us, f _ _ ho hc, hc, r⟩
theorem FAt.inj {h : Heap} {a : Addr} {k k' : List Nat} (x : FAt h a k) (y : FAt h a k') : k = k' := by
  obtain ⟨o, its, n, us, ho, hc, hd, r, _⟩ := x
  obtain ⟨o', its', n', us', ho', hc', hd', r', _⟩ := y
  rw [ho] at ho'
  cases ho'
  rw [hd] at hd'
  cases hd'
  generalize its.toList = l at r r'
  cases r with
  | cons r1 t1 =>
    cases r' with
    | cons r2 t2 =>
      obtain ⟨tk, rfl⟩ := r1
      obtain ⟨tk', e⟩ := r2
      injection e with e
      have := congrArg (fun s : Str => s.cps.toList) e
      simpa [strOf_cps] using this
theorem FAt.of {h : Heap} {a : Addr} {k : List Nat} (x : FAt h a k) : ∃ f, TupOf h allTx (.ref a) f := by
  obtain ⟨o, its, n, us, ho, hc, hd, r, _⟩ := x
  generalize hi : its.toList = l at r
  cases r with
  | cons r t =>
    obtain ⟨tk, rfl⟩ := r
    refine ⟨.str (strOf k) tk, a, o, its, n, rfl, ho, hc, hd, ?_, fun z => (nomatch z), fun _ => ⟨_, tk, rfl⟩⟩
    rw [← Array.getElem?_toList, hi]
    rfl
theorem ftups_of {h : Heap} : ∀ {L : List AK}, (∀ p ∈ L, FAt h p.1 p.2) → ∃ fs, TupsOf h allTx (L.map fun p => Value.ref p.1) fs
  | [], _ => ⟨[], .nil⟩
  | p :: L, x => by
    obtain ⟨f, hf⟩ := (x p List.mem_cons_self).of
    obtain ⟨fs, hs⟩ := ftups_of (L := L) fun q hq => x q (List.mem_cons_of_mem _ hq)
    exact ⟨f :: fs, .cons hf hs⟩
section
variable {prog : Program} {w : World} {A : Around} {s : Shared}
theorem lex_same {b fin : Bool} {Q : Bool → Shared → Prop} : ∀ {us : List V} {vs : List Value} {i : Nat}, Vals us vs → (∀ u ∈ us, plainV u = true) → Q fin s → KatLex prog w A b fin Q (vs.zip vs) i s
  | [], _, _, .nil, _, q => kat_nil q
  | u :: us, v :: vs, i, .cons r t, h, q => by
    have rest : ∀ i, KatLex prog w A b fin Q (vs.zip vs) i s := fun i => lex_same t (fun u hu => h u (List.mem_cons_of_mem _ hu)) q
    have hu := h u List.mem_cons_self
    show KatLex prog w A b fin Q ((v, v) :: vs.zip vs) i s
    cases u with
    | str x =>
      obtain ⟨tk, rfl⟩ := r
      refine kat_cons (wpAny_eqBool_str ?_)
      rw [show decide (x = x) = true from decide_eq_true rfl]
      exact kat_yes (rest _)
    | int x =>
      obtain ⟨tk, rfl⟩ := r
      refine kat_cons (wpAny_eqBool_int ?_)
      rw [show (x == x) = true from beq_self_eq_true x]
      exact kat_yes (rest _)
    | ref a =>
      cases r
      refine kat_cons ?_
      unfold eqBool
      refine wpAny_holding ?_
      show wpAny _ _ (if (Value.ref a == Value.ref a) = true then _ else _) _ _ s
      rw [if_pos (beq_self_eq_true _)]
      exact wpAny_bind (wpAny_rule (wpAny_pure (kat_yes (rest _))))
    | _ => exact absurd hu (by simp [plainV])
theorem f_ltAt {h : Heap} {L : List AK} (x : ∀ p ∈ L, FAt h p.1 p.2) (nd : (L.map (·.2)).Nodup) (k : G.KeepsTups h s.heap) : G.LtAt prog w s (fKind L) (tuples' true) := by
  intro A E v1 v2 as bs Q hx hy hq
  obtain ⟨a1, rfl, m1⟩ := fKey_mem hx
  obtain ⟨a2, rfl, m2⟩ := fKey_mem hy
  obtain ⟨o1, i1, n1, us1, g1, c1, d1, r1, p1⟩ := (x _ m1).keep k
  obtain ⟨o2, i2, n2, us2, g2, c2, d2, r2, p2⟩ := (x _ m2).keep k
  refine kat_lt g1 d1 g2 d2 ?_
  by_cases e : as = bs
  · subst e
    have ea : a1 = a2 := by
      have := (List.pairwise_map.mp nd)
      by_cases hne : (a1, as) = (a2, as)
      · exact congrArg Prod.fst hne
      · rcases List.getElem_of_mem m1 with ⟨i, hi, ei⟩
        rcases List.getElem_of_mem m2 with ⟨j, hj, ej⟩
        have := List.pairwise_iff_getElem.mp this
        rcases Nat.lt_trichotomy i j with l | l | l
        · exact absurd (by rw [ei, ej]) (this i j hi hj l)
        · subst l
          rw [ei] at ej
          exact absurd ej hne
        · exact absurd (by rw [ei, ej]) (this j i hj hi l)
    subst ea
    rw [g1] at g2
    cases g2
    rw [d1] at d2
    cases d2
    have : decide (i1.size < i1.size) = false := decide_eq_false (Nat.lt_irrefl _)
    rw [this]
    refine lex_same r1 (fun u hu => ?_) ?_
    · rcases List.mem_cons.mp hu with rfl | hu
      · rfl
      · exact p1 u hu
    · rw [show (fKind L).blt as as = false from strKind.irrefl as] at hq
      exact hq
  · generalize i1.toList = l1 at r1
    generalize i2.toList = l2 at r2
    cases r1 with
    | cons r1 t1 =>
      cases r2 with
      | cons r2 t2 =>
        obtain ⟨tk1, rfl⟩ := r1
        obtain ⟨tk2, rfl⟩ := r2
        refine kat_cons (wpAny_eqBool_str ?_)
        have hne : ¬ strOf as = strOf bs := fun z => e (by
          have := congrArg (fun s : Str => s.cps.toList) z
          simpa [strOf_cps] using this)
        rw [show decide (strOf as = strOf bs) = false from decide_eq_false hne]
        refine kat_no (oneLt_any_str ?_)
        rw [strOf_cps, strOf_cps]
        exact hq
end
theorem f_out {h : Heap} {L : List AK} (x : ∀ p ∈ L, FAt h p.1 p.2) {xs : Array Keyed} (hp : xs.Perm (PyProof.Rows.pairsOf (L.map fun p => Value.ref p.1))) (hs : SortedToK (fKind L) xs (PyProof.Rows.pairsOf (L.map fun p => Value.ref p.1)).size) :
    ∃ L' : List AK, L'.Perm L ∧ (xs.map (·.2)).toList = L'.map (fun p => Value.ref p.1) ∧ L'.Pairwise fun a b => ¬ b.2 < a.2 := by
  have e0 : (PyProof.Rows.pairsOf (L.map fun p => Value.ref p.1)).toList = L.map fun p => (Value.ref p.1, Value.ref p.1) := by
    rw [pairsOf_toList]
    generalize L = M
    induction M with
    | nil => rfl
    | cons a M ih => rw [List.map_cons, List.zip_cons_cons, ih]; rfl
  have pl : xs.toList.Perm (L.map fun p => (Value.ref p.1, Value.ref p.1)) := by rw [← e0]; exact hp.toList
  obtain ⟨L', p', e'⟩ := perm_lift pl L rfl
  refine ⟨L', p', by rw [Array.toList_map, e', List.map_map]; rfl, ?_⟩
  refine List.pairwise_iff_getElem.mpr fun i j hi hj hij => ?_
  have kk : ∀ i (h1 : i < L'.length), KK (fKind L) xs i = L'[i].2 := fun i h1 => by
    unfold KK
    have g : xs[i]? = some (Value.ref L'[i].1, Value.ref L'[i].1) := by
      rw [← Array.getElem?_toList, e', List.getElem?_map, List.getElem?_eq_getElem h1]
      rfl
    rw [g]
    have hm := p'.mem_iff.mp (List.getElem_mem h1)
    obtain ⟨k, ek, mk⟩ := fKey_of hm
    show (fKey L (Value.ref L'[i].1)).getD [] = _
    rw [ek]
    exact (x _ mk).inj (x _ hm)
  have := hs i j (Nat.le_of_lt hij) (by rw [hp.size_eq.symm, ← Array.length_toList, e', List.length_map]; exact hj)
  rw [kk i hi, kk j hj] at this
  unfold KeyOrd.kle at this
  exact of_decide_eq_false this
section
variable {X : Cx}
theorem inv_fAt {pins : List (Addr × Obj)} {σ : L2.St} {H : Hp} {s : Shared} {a : Addr} {k : List Nat} {us : List V} (I : Inv X pins σ H s) (hu : ∀ u ∈ us, plainV u = true) (h : SqT X.K H a (V.str (strOf k) :: us)) : FAt s.heap a k := by
  obtain ⟨its, rv, ⟨o, ho, hc, n, hd⟩, _⟩ := I.tuple h
  exact ⟨o, _, n, us, ho, hc, hd, by simpa using rv, hu⟩
theorem vals_ak_inv : ∀ {L : List AK} {us : List Value}, Vals (L.map fun p => V.ref p.1) us → us = L.map fun p => Value.ref p.1
  | [], _, .nil => rfl
  | p :: L, _, .cons r t => by
    cases r
    rw [vals_ak_inv t]
    rfl
theorem vals_ak : ∀ L : List AK, Vals (L.map fun p => V.ref p.1) (L.map fun p => Value.ref p.1)
  | [] => .nil
  | p :: L => .cons rfl (vals_ak L)
/-- sorted(xs), by the first texts -/
def rSortF (K : PySem.W.Frag) : List V → Hp → VK → Prop := fun vs H Q => ∃ (a : Addr) (L : List AK), vs = [V.ref a] ∧ (SqT K H a (L.map fun p => V.ref p.1) ∨ SqL K H a (L.map fun p => V.ref p.1)) ∧
  (∀ p ∈ L, ∃ us, (∀ u ∈ us, plainV u = true) ∧ SqT K H p.1 (V.str (strOf p.2) :: us)) ∧ (L.map (·.2)).Nodup ∧
  ∀ (L' : List AK) (p : Addr), L'.Perm L → (L'.Pairwise fun a b => ¬ b.2 < a.2) → H p = none → Q (.ref p) (upd H p (.lst (L'.map fun p => V.ref p.1)))
theorem cr_sortF : CallR X (.builtin "sorted") (rSortF X.K) := by
  intro pins s σ H vs us Q I r h
  obtain ⟨a, L, rfl, hs, hx, nd, q⟩ := h
  rw [Vals.ref1 r]
  obtain ⟨T, o, its, n, hT, ho, hc, hd, rv, hz⟩ : ∃ (T : String) (o : Obj) (its : Array Value) (n : Nat), (T = "list" ∨ T = "tuple") ∧ s.heap.get? a = some o ∧ o.cls = .type T ∧ o.data = .seq its n ∧ Vals (L.map fun p => V.ref p.1) its.toList ∧ L.length ≤ sizeLine := by
    rcases hs with h | h
    · obtain ⟨its, rv, ⟨o, ho, hc, n, hd⟩, hz⟩ := I.tuple h
      exact ⟨"tuple", o, _, n, .inr rfl, ho, hc, hd, by simpa using rv, by simpa using hz⟩
    · obtain ⟨its, rv, hl, hz⟩ := I.list h
      obtain ⟨o, ho, hc, n, hd⟩ := hl.isList
      exact ⟨"list", o, _, n, .inl rfl, ho, hc, hd, by simpa using rv, by simpa using hz⟩
  have x : ∀ p ∈ L, FAt s.heap p.1 p.2 := fun p hp => by
    obtain ⟨us, h1, h2⟩ := hx p hp
    exact inv_fAt I h1 h2
  have ei := vals_ak_inv rv
  refine Calls.call_function_entry PyProof.Rows.kind_sorted PyProof.Rows.plain_sorted PyProof.Rows.entry_sorted (PyProof.Rows.args_sorted1 _) ?_
  unfold Builtin.«sorted»
  refine wpAny_bind (m := checkCount "sorted" 1 1 _) (wpAny_pure ?_)
  refine wpAny_bind (wpAny_collect_seq a hT ho hc hd (fun h' k1 => ?_) (by rw [← Array.length_toList, ei, List.length_map]; exact hz))
  rw [ei]
  refine wpAny_bind (wpAny_newList ?_ (by rw [List.length_map]; exact hz))
  have hoL : (h'.push (seqObj "list" (L.map fun p => Value.ref p.1).toArray 0)).get? h'.objs.size = some (seqObj "list" (L.map fun p => Value.ref p.1).toArray 0) := Heap.get?_push_size _ rfl
  have x2 : ∀ p ∈ L, FAt (h'.push (seqObj "list" (L.map fun p => Value.ref p.1).toArray 0)) p.1 p.2 := fun p hp => (x p hp).keep fun b o e _ => Heap.get?_push_of_some _ (k1 b o e)
  obtain ⟨fs, ht⟩ := ftups_of x2
  have k6 := G.keeps_sort6 (vs := L.map fun p => Value.ref p.1) hoL
  show wpAny _ _ _ _ _ { s with heap := h'.push (seqObj "list" (L.map fun p => Value.ref p.1).toArray 0) }
  refine wpAny_bind (wpAny_holding (wpAny_call_entry PyProof.Rows.slot_list_sort ⟨_, hoL, rfl⟩ PyProof.Rows.entry_list_sort
    (G.list_sort_treeG (κ := fKind L) (kd := tuples' true) (s := { s with heap := h'.push (seqObj "list" (L.map fun p => Value.ref p.1).toArray 0) }) hoL (fun p hp => ?_) (f_ltAt x2 nd k6)
      (fun h2 _ hq => tup_kind (s := { s with heap := _ }) (by rw [G.TupsOf.length ht]; omega) (G.TupsOf.keep k6 ht) hq) (by rw [List.length_map]; exact hz) fun st' a1 a2 _ => ⟨_, rfl, ?_⟩) (PyProof.Rows.args_list_sort _)))
  · rw [pairsOf_toList] at hp
    obtain ⟨e, hm⟩ := mem_zip_self hp
    obtain ⟨p0, hp0, e0⟩ := List.mem_map.mp hm
    rw [← e0]
    obtain ⟨k, hk, _⟩ := fKey_of hp0
    exact ⟨k, hk⟩
  obtain ⟨L', p', e', w'⟩ := f_out x2 a1 a2
  obtain ⟨c, hcc⟩ := sortedHeap_at (vs := L.map fun p => Value.ref p.1) (out := (arrOf st').map (·.2)) hoL
  have I1 : Inv X pins σ H { s with heap := h', toks := s.toks } := I.kept k1
  have old : ∀ b u, h'.get? b = some u → (sortedHeap (h'.push (seqObj "list" (L.map fun p => Value.ref p.1).toArray 0)) h'.objs.size (L.map fun p => Value.ref p.1) ((arrOf st').map (·.2))).get? b = some u := fun b u e => by
    have lt := Heap.lt_size e
    rw [sortedHeap_old (Nat.ne_of_lt lt) (by rw [size_push']; exact Nat.lt_succ_of_lt lt)]
    exact Heap.get?_push_of_some _ e
  refine wpAny_pure ⟨_, rfl, .ref h'.objs.size, upd H h'.objs.size (.lst (L'.map fun p => V.ref p.1)), ?_, rfl, q L' _ p' w' (I1.hok.fresh (Nat.le_refl _))⟩
  exact I1.laid (t' := s.toks) old (Nat.le_refl _) (show ObjOk X.prog X.w _ _ _ (.lst (L'.map fun p => V.ref p.1)) from ⟨by rw [List.length_map, p'.length_eq]; exact hz, ((arrOf st').map (·.2)).toList, c, by rw [e']; exact vals_ak L', by rw [Array.toArray_toList]; exact hcc⟩)
end
end M
/-! MN: sorted, list(dict), get, isinstance of several types, index. -/
namespace M
open PySem PySem.Spec PyProof.Rows L2

def leS (a b : List Nat) : Bool := !ltL b a
theorem leS_iff {a b : List Nat} : leS a b = true ↔ a ≤ b := by
  unfold leS ltL
  rw [Bool.not_eq_true', decide_eq_false_iff_not]
  exact List.not_lt
theorem leS_tr (a b c : List Nat) (h1 : leS a b = true) (h2 : leS b c = true) : leS a c = true := leS_iff.mpr (List.le_trans (leS_iff.mp h1) (leS_iff.mp h2))
theorem leS_to (a b : List Nat) : leS a b = true ∨ leS b a = true := (List.le_total a b).imp leS_iff.mpr leS_iff.mpr
theorem leS_an (a b : List Nat) (h1 : leS a b = true) (h2 : leS b a = true) : a = b := List.le_antisymm (leS_iff.mp h1) (leS_iff.mp h2)
def leI (a b : Int) : Bool := decide (a ≤ b)
def sortS (l : List (List Nat)) : List (List Nat) := isort leS l
def sortI (l : List Int) : List Int := isort leI l
theorem ltCps_dec : ∀ a b : List Nat, ltCps a b = decide (a < b)
  | [], [] => by simp [ltCps]
  | [], _ :: _ => by simp [ltCps]
  | _ :: _, [] => by simp [ltCps]
  | a :: r, b :: t => by
    simp only [ltCps, ltCps_dec r t]
    rw [Bool.eq_iff_iff]
    simp [List.cons_lt_cons_iff]
theorem rising_pw : ∀ (p : List Nat) (l : List (List Nat)), risingS (strOf p) (l.map strOf) = true → (∀ a b c, leS a b = true → leS b c = true → leS a c = true) → (p :: l).Pairwise (fun a b => leS a b = true)
  | p, [], _, _ => List.pairwise_singleton _ _
  | p, x :: r, h, tr => by
    have h : (!ltCps (strOf x).cps.toList (strOf p).cps.toList && risingS (strOf x) (r.map strOf)) = true := h
    rw [strOf_cps, strOf_cps, ltCps_dec, Bool.and_eq_true] at h
    have hx := rising_pw x r h.2 tr
    have e : leS p x = true := h.1
    refine List.pairwise_cons.mpr ⟨fun z hz => ?_, hx⟩
    rcases List.mem_cons.mp hz with rfl | hz
    · exact e
    · exact tr p x z e ((List.pairwise_cons.mp hx).1 z hz)
theorem sorted_uniq {ys : List Str} {ls : List (List Nat)} (p : ys.Perm (ls.map strOf)) (h : sortedS ys = true) : ys = (sortS ls).map strOf := by
  obtain ⟨zs, rfl⟩ : ∃ zs : List (List Nat), ys = zs.map strOf := ⟨ys.map fun s => s.cps.toList, by
    rw [List.map_map]
    conv => lhs; rw [← List.map_id ys]
    exact List.map_congr_left fun x _ => (strOf_cps' x).symm⟩
  have pz : zs.Perm ls := by
    have := p.map fun s : Str => s.cps.toList
    simpa [Function.comp_def] using this
  have hz : zs.Pairwise (fun a b => leS a b = true) := by
    cases zs with
    | nil => exact .nil
    | cons x r => exact rising_pw x r h leS_tr
  rw [isort_uniq leS_tr leS_to leS_an pz hz]
  rfl
theorem sortedI_uniq {ys ns : List Int} (p : ys.Perm ns) (h : ys.Pairwise (· ≤ ·)) : ys = sortI ns :=
  isort_uniq (le := leI) (fun a b c h1 h2 => decide_eq_true (Int.le_trans (of_decide_eq_true h1) (of_decide_eq_true h2))) (fun a b => (Int.le_total a b).imp decide_eq_true decide_eq_true) (fun a b h1 h2 => Int.le_antisymm (of_decide_eq_true h1) (of_decide_eq_true h2)) p (h.imp fun {a b} z => decide_eq_true z)
/-! tuples of texts -/
def tupS (k : Tx) : PV := .tup (k.map .str)
def wtS (k : Tx) : PV := .wt (k.map .str)
def txsOf : List PV → Option (List Tx)
  | [] => some []
  | .tup ys :: r => match strsOf ys with
    | some (l :: ls) => (txsOf r).map ((l :: ls) :: ·)
    | _ => none
  | _ :: _ => none
theorem txsOf_eq : ∀ {xs : List PV} {ks : List Tx}, txsOf xs = some ks → xs = ks.map tupS ∧ ∀ k ∈ ks, k ≠ []
  | [], ks, e => by cases e; exact ⟨rfl, fun _ z => (by cases z)⟩
  | p :: r, ks, e => by
    cases p with
    | tup ys =>
      have e : (match strsOf ys with
        | some (l :: ls) => (txsOf r).map ((l :: ls) :: ·)
        | _ => none) = some ks := e
      split at e
      · rename_i l ls h
        obtain ⟨ks', e2, rfl⟩ := Option.map_eq_some_iff.mp e
        obtain ⟨h1, h2⟩ := txsOf_eq e2
        have := strsOf_eq h
        refine ⟨by rw [List.map_cons, ← h1, this]; rfl, fun k hk => ?_⟩
        rcases List.mem_cons.mp hk with rfl | hk
        · exact List.cons_ne_nil _ _
        · exact h2 k hk
      · cases e
    | _ => cases e
def txK : List K1 → Option Tx
  | [] => some []
  | .inr l :: r => (txK r).map (l :: ·)
  | _ :: _ => none
theorem txK_eq : ∀ {k : List K1} {l : Tx}, txK k = some l → k = l.map Sum.inr
  | [], l, e => by cases e; rfl
  | .inl _ :: _, l, e => by cases e
  | .inr x :: r, l, e => by
    obtain ⟨l', e2, rfl⟩ := Option.map_eq_some_iff.mp (show (txK r).map (x :: ·) = some l from e)
    rw [txK_eq e2]
    rfl
def keysTx : List (List K1 × PV) → Option (List Tx)
  | [] => some []
  | (k, _) :: r => match txK k with
    | some (l :: ls) => if ls.length < 1000 then (keysTx r).map ((l :: ls) :: ·) else none
    | _ => none
theorem reps_tx {K : PySem.W.Frag} {S : Addr → Prop} {H : Hp} : ∀ {us : List V} {ks : List Tx}, Reps K S H us (ks.map tupS) → ∃ L : List AT, us = L.map (fun p => V.ref p.1) ∧ L.map (·.2) = ks ∧ ∀ p ∈ L, SqT K H p.1 ((p.2.map strOf).map V.str) ∧ Rep K S H (.ref p.1) (tupS p.2)
  | us, [], r => by
    cases r
    exact ⟨[], rfl, rfl, fun _ z => (by cases z)⟩
  | us, k :: ks, r => by
    rw [List.map_cons] at r
    cases r with
    | cons r t =>
      obtain ⟨L, e1, e2, h⟩ := reps_tx t
      have r0 := r
      obtain ⟨a, vs, rfl, g, r2, z⟩ := Pk.tup (.inl r)
      rw [r2.strs] at g
      refine ⟨(a, k) :: L, by rw [List.map_cons, e1], by rw [List.map_cons, e2], fun p hp => ?_⟩
      rcases List.mem_cons.mp hp with rfl | hp
      · exact ⟨g, r0⟩
      · exact h p hp
theorem reps_at {K : PySem.W.Frag} {S : Addr → Prop} {H : Hp} {f : Tx → PV} : ∀ {L : List AT}, (∀ p ∈ L, Rep K S H (.ref p.1) (f p.2)) → Reps K S H (L.map fun p => V.ref p.1) ((L.map (·.2)).map f)
  | [], _ => .nil
  | p :: L, h => .cons (h p List.mem_cons_self) (reps_at fun q hq => h q (List.mem_cons_of_mem _ hq))
/-- the keys of a dict, all texts -/
def keysS : List (K1 × PV) → Option (List (List Nat))
  | [] => some []
  | (.inr l, _) :: r => (keysS r).map (l :: ·)
  | _ :: _ => none
/-! tuples whose first items are texts -/
def fT : PV → List Nat
  | .tup (.str l :: _) => l
  | .wt (.str l :: _) => l
  | _ => []
def isPl : PV → Bool
  | .str _ => true
  | .int _ => true
  | .tup _ => true
  | .wt _ => true
  | _ => false
def okF : PV → Bool
  | .tup (.str _ :: r) => r.all isPl
  | .wt (.str _ :: r) => r.all isPl
  | _ => false
def leF (a b : PV) : Bool := leS (fT a) (fT b)
def sortF (xs : List PV) : List PV := isort leF xs
def okFs (xs : List PV) : Bool := xs.all okF && decide (xs.map fT).Nodup
abbrev FT := AK × PV
theorem reps_plain {K : PySem.W.Frag} {S : Addr → Prop} {H : Hp} : ∀ {us : List V} {r : List PV}, Reps K S H us r → r.all isPl = true → ∀ u ∈ us, plainV u = true
  | _, _, .nil, _, u, hu => by cases hu
  | _, _, .cons (v := v) (p := p) h t, e, u, hu => by
    rw [List.all_cons, Bool.and_eq_true] at e
    rcases List.mem_cons.mp hu with rfl | hu
    · cases h <;> first | rfl | exact absurd e.1 (by simp [isPl])
    · exact reps_plain t e.2 u hu
theorem rep_okF {K : PySem.W.Frag} {S : Addr → Prop} {H : Hp} {v : V} {p : PV} (h : Rep K S H v p) (e : okF p = true) : ∃ a us, v = .ref a ∧ (∀ u ∈ us, plainV u = true) ∧ SqT K H a (V.str (strOf (fT p)) :: us) := by
  cases p with
  | tup ps =>
    cases ps with
    | nil => exact absurd e (by simp [okF])
    | cons x r =>
      cases x with
      | str l =>
        obtain ⟨a, vs, rfl, g, r2, z⟩ := Pk.tup (.inl h)
        cases r2 with
        | cons r1 t =>
          cases r1
          exact ⟨a, _, rfl, reps_plain t e, g⟩
      | _ => exact absurd e (by simp [okF])
  | wt ps =>
    cases ps with
    | nil => exact absurd e (by simp [okF])
    | cons x r =>
      cases x with
      | str l =>
        obtain ⟨a, vs, rfl, g, r2, z⟩ := Pk.wt (.inl h)
        cases r2 with
        | cons r1 t =>
          cases r1
          exact ⟨a, _, rfl, reps_plain t e, g⟩
      | _ => exact absurd e (by simp [okF])
  | _ => exact absurd e (by simp [okF])
theorem reps_ft {K : PySem.W.Frag} {S : Addr → Prop} {H : Hp} : ∀ {us : List V} {xs : List PV}, Reps K S H us xs → xs.all okF = true → ∃ L : List FT, us = L.map (fun p => V.ref p.1.1) ∧ L.map (·.2) = xs ∧ ∀ p ∈ L, p.1.2 = fT p.2 ∧ Rep K S H (.ref p.1.1) p.2 ∧ ∃ ws, (∀ u ∈ ws, plainV u = true) ∧ SqT K H p.1.1 (V.str (strOf p.1.2) :: ws)
  | _, _, .nil, _ => ⟨[], rfl, rfl, fun _ z => (by cases z)⟩
  | _, _, .cons (v := v) (p := p) h t, e => by
    rw [List.all_cons, Bool.and_eq_true] at e
    obtain ⟨L, e1, e2, hL⟩ := reps_ft t e.2
    obtain ⟨a, ws, rfl, h1, h2⟩ := rep_okF h e.1
    refine ⟨((a, fT p), p) :: L, by rw [List.map_cons, e1], by rw [List.map_cons, e2], fun q hq => ?_⟩
    rcases List.mem_cons.mp hq with rfl | hq
    · exact ⟨rfl, h, ws, h1, h2⟩
    · exact hL q hq
theorem reps_fts {K : PySem.W.Frag} {S : Addr → Prop} {H : Hp} : ∀ {L : List FT}, (∀ p ∈ L, Rep K S H (.ref p.1.1) p.2) → Reps K S H (L.map fun p => V.ref p.1.1) (L.map (·.2))
  | [], _ => .nil
  | p :: L, h => .cons (h p List.mem_cons_self) (reps_fts fun q hq => h q (List.mem_cons_of_mem _ hq))
theorem nodup_eq {α β : Type} {f : α → β} {l : List α} (nd : (l.map f).Nodup) {a b : α} (ha : a ∈ l) (hb : b ∈ l) (e : f a = f b) : a = b := by
  have := List.pairwise_map.mp nd
  rcases List.getElem_of_mem ha with ⟨i, hi, ei⟩
  rcases List.getElem_of_mem hb with ⟨j, hj, ej⟩
  have := List.pairwise_iff_getElem.mp this
  rcases Nat.lt_trichotomy i j with l | l | l
  · exact absurd (by rw [ei, ej, e]) (this i j hi hj l)
  · subst l
    rw [← ei, ej]
  · exact absurd (by rw [ei, ej, e]) (this j i hj hi l)
theorem sortF_perm (xs : List PV) : (sortF xs).Perm xs := isort_perm xs
theorem sortF_uniq {ys xs : List PV} (p : ys.Perm xs) (nd : (xs.map fT).Nodup) (h : ys.Pairwise fun a b => leF a b = true) : ys = sortF xs :=
  List.Perm.eq_of_pairwise (fun a b ha hb h1 h2 => nodup_eq nd (p.mem_iff.mp ha) ((sortF_perm xs).mem_iff.mp hb) (leS_an _ _ h1 h2)) h
    (isort_pw (le := leF) (fun a b c h1 h2 => leS_tr (fT a) (fT b) (fT c) h1 h2) (fun a b => leS_to (fT a) (fT b)) xs) (p.trans (sortF_perm xs).symm)
def sortedP : List PV → R PV
  | [.lst xs] => match intsOf xs with
    | some ns => .ok (.lst ((sortI ns).map .int))
    | none => match strsOf xs with
      | some ls => if ls.length < 64 then .ok (.lst ((sortS ls).map .str)) else .no
      | none => match txsOf xs with
        | some ks => .ok (.lst ((sortT ks).map tupS))
        | none => if okFs xs = true then .ok (.lst (sortF xs)) else .no
  | [.tup xs] => if okFs xs = true then .ok (.lst (sortF xs)) else .no
  | [.dic kvs] => match keysS kvs with
    | some ls => if ls.length < 64 then .ok (.lst ((sortS ls).map .str)) else .no
    | none => .no
  | [.dct kvs] => match keysTx kvs with
    | some ks => .ok (.lst ((sortT ks).map wtS))
    | none => .no
  | _ => .no
def orL {α : Type} (a b : R α) : R α := orR a b
section
variable {X : Cx}
theorem CaS.or {g : Value} {f f' : List PV → R PV} (h : CaS X g f) (h' : CaS X g f') : CaS X g (fun ps => orR (f ps) (f' ps)) := by
  obtain ⟨r, c, k⟩ := h
  obtain ⟨r', c', k'⟩ := h'
  refine ⟨_, c.or c', fun cl W σ S H H0 m Q vs ps hs hd hp go => ?_⟩
  have go : GoR X.K cl W σ S H (orR (f ps) (f' ps)) (Wn X.K m H0 Q) := go
  cases q : f ps with
  | ok p =>
    rw [q] at go
    exact .inl (k cl W σ S H H0 m Q vs ps hs hd hp (by rw [q]; exact go))
  | ex e =>
    rw [q] at go
    exact .inl (k cl W σ S H H0 m Q vs ps hs hd hp (by rw [q]; exact go))
  | no =>
    rw [q] at go
    exact .inr (k' cl W σ S H H0 m Q vs ps hs hd hp go)
theorem CaS.congr {g : Value} {f f' : List PV → R PV} (h : CaS X g f) (e : ∀ ps, f' ps = .no ∨ f' ps = f ps) : CaS X g f' := by
  obtain ⟨r, c, k⟩ := h
  refine ⟨r, c, fun cl W σ S H H0 m Q vs ps hs hd hp go => ?_⟩
  rcases e ps with z | z
  · rw [z] at go; exact go.elim
  · rw [z] at go; exact k cl W σ S H H0 m Q vs ps hs hd hp go
theorem okS_perm {ls ls' : List (List Nat)} (p : ls'.Perm ls) (h : ∀ l ∈ ls, SOk l) : ∀ l ∈ ls', SOk l := fun l hl => h l (p.mem_iff.mp hl)
def sortI' : List PV → R PV
  | [.lst xs] => match intsOf xs with
    | some ns => .ok (.lst ((sortI ns).map .int))
    | none => .no
  | _ => .no
def sortS' : List PV → R PV
  | [.lst xs] => match strsOf xs with
    | some ls => if ls.length < 64 then .ok (.lst ((sortS ls).map .str)) else .no
    | none => .no
  | _ => .no
def sortD' : List PV → R PV
  | [.dic kvs] => match keysS kvs with
    | some ls => if ls.length < 64 then .ok (.lst ((sortS ls).map .str)) else .no
    | none => .no
  | _ => .no
theorem c_sortI : CaS X (.builtin "sorted") sortI' := by
  refine ⟨_, cr_sortedI, fun cl W σ S H H0 m Q vs ps hs hd hp h => ?_⟩
  unfold sortI' at h
  split at h
  · split at h
    · rename_i xs ns e
      obtain ⟨v, rfl, hv⟩ := hp.one
      obtain ⟨a, us, rfl, ha, r, z⟩ := hv.lst
      rw [intsOf_eq e] at r z
      rw [r.ints] at ha
      refine ⟨a, ns, rfl, .inl (.inl ha), fun ns' p h1 h2 hp => ?_⟩
      rw [sortedI_uniq h1 h2]
      exact give_lst h hs hd hp Reps.of_ints (by rw [List.length_map] at z ⊢; rw [show (sortI ns).length = ns.length from isort_len ns]; exact z)
    · exact h.elim
  · exact h.elim
theorem c_sortS : CaS X (.builtin "sorted") sortS' := by
  refine ⟨_, cr_sortedS, fun cl W σ S H H0 m Q vs ps hs hd hp h => ?_⟩
  unfold sortS' at h
  split at h
  · split at h
    · split at h
      · rename_i xs ls e h64
        obtain ⟨v, rfl, hv⟩ := hp.one
        obtain ⟨a, us, rfl, ha, r, z⟩ := hv.lst
        rw [strsOf_eq e] at r
        have ok := r.okS
        rw [r.strs] at ha
        refine ⟨a, ls.map strOf, rfl, .inl (.inl ha), by rw [List.length_map]; exact h64, fun ys p h1 h2 hp => ?_⟩
        rw [sorted_uniq h1 h2]
        exact give_lst h hs hd hp (Reps.of_strs (okS_perm (isort_perm ls) ok)) (by rw [List.length_map, show (sortS ls).length = ls.length from isort_len ls]; exact small64 h64)
      · exact h.elim
    · exact h.elim
  · exact h.elim
theorem keys_reps {K : PySem.W.Frag} {S : Addr → Prop} {H : Hp} : ∀ {d : List (Key × V)} {kvs : List (K1 × PV)} {ls : List (List Nat)}, KReps K S H d kvs → keysS kvs = some ls → d.map (·.1) = (ls.map strOf).map Sum.inr ∧ ∀ l ∈ ls, SOk l
  | _, _, ls, .nil, e => by cases e; exact ⟨rfl, by simp⟩
  | _, _, ls, .cons (k := k) z r t, e => by
    cases k with
    | inl i => cases e
    | inr l =>
      obtain ⟨ls', e2, rfl⟩ := Option.map_eq_some_iff.mp (show (keysS _).map (l :: ·) = some ls from e)
      obtain ⟨h1, h2⟩ := keys_reps t e2
      refine ⟨?_, fun x hx => ?_⟩
      · rw [List.map_cons, h1]
        rfl
      · rcases List.mem_cons.mp hx with rfl | hx
        · exact z
        · exact h2 x hx
theorem c_sortD (hc : X.calm = true) : CaS X (.builtin "sorted") sortD' := by
  refine ⟨_, call_sortedD hc, fun cl W σ S H H0 m Q vs ps hs hd hp h => ?_⟩
  unfold sortD' at h
  split at h
  · split at h
    · split at h
      · rename_i kvs ls e h64
        obtain ⟨v, rfl, hv⟩ := hp.one
        obtain ⟨a, d, rfl, ha, r, z⟩ := hv.dic
        obtain ⟨k1, ok⟩ := keys_reps r e
        refine ⟨a, d, ls.map strOf, rfl, .inl ha, k1, by rw [List.length_map]; exact h64, fun ys p h1 h2 hp => ?_⟩
        rw [sorted_uniq h1 h2]
        exact give_lst h hs hd hp (Reps.of_strs (okS_perm (isort_perm ls) ok)) (by rw [List.length_map, show (sortS ls).length = ls.length from isort_len ls]; exact small64 h64)
      · exact h.elim
    · exact h.elim
  · exact h.elim
def sortTL' : List PV → R PV
  | [.lst xs] => match txsOf xs with
    | some ks => .ok (.lst ((sortT ks).map tupS))
    | none => .no
  | _ => .no
def sortTD' : List PV → R PV
  | [.dct kvs] => match keysTx kvs with
    | some ks => .ok (.lst ((sortT ks).map wtS))
    | none => .no
  | _ => .no
theorem c_sortTL : CaS X (.builtin "sorted") sortTL' := by
  refine ⟨_, cr_sortTL, fun cl W σ S H H0 m Q vs ps hs hd hp h => ?_⟩
  unfold sortTL' at h
  split at h
  · split at h
    · rename_i xs ks e
      obtain ⟨v, rfl, hv⟩ := hp.one
      obtain ⟨a, us, rfl, ha, r, z⟩ := hv.lst
      obtain ⟨e1, hne⟩ := txsOf_eq e
      rw [e1] at r z
      obtain ⟨L, rfl, e2, hL⟩ := reps_tx r
      refine ⟨a, L, rfl, .inl (.inl ha), fun p hp => ⟨hne _ (e2 ▸ List.mem_map_of_mem hp), (hL p hp).1⟩, fun L' t pm pw ht => ?_⟩
      have e3 : L'.map (·.2) = sortT ks := sortT_uniq (by rw [← e2]; exact pm.map _) pw
      rw [← e3] at h
      exact give_lst h hs hd ht (reps_at fun p hp => (hL p (pm.mem_iff.mp hp)).2) (by rw [List.length_map, List.length_map, pm.length_eq, ← List.length_map (f := (·.2)), e2]; rw [List.length_map] at z; exact z)
    · exact h.elim
  · exact h.elim
theorem treps_keys {K : PySem.W.Frag} {S : Addr → Prop} {H : Hp} : ∀ {d : List (List Key × V)} {kvs : List (List K1 × PV)} {ks : List Tx}, TReps K S H d kvs → keysTx kvs = some ks → d.map (·.1) = ks.map (fun k => (k.map strOf).map Sum.inr) ∧ ∀ k ∈ ks, (k ≠ [] ∧ k.length ≤ 1000) ∧ ∀ l ∈ k, SOk l
  | _, _, ks, .nil, e => by cases e; exact ⟨rfl, fun _ z => (by cases z)⟩
  | _, _, ks, .cons (k := k) (kvs := kvs) z r t, e => by
    have e : (match txK k with
      | some (l :: ls) => if ls.length < 1000 then (keysTx kvs).map ((l :: ls) :: ·) else none
      | _ => none) = some ks := e
    split at e
    · rename_i l ls h
      split at e
      case isFalse => cases e
      rename_i hl
      obtain ⟨ks', e2, rfl⟩ := Option.map_eq_some_iff.mp e
      obtain ⟨h1, h2⟩ := treps_keys t e2
      have hk := txK_eq h
      subst hk
      refine ⟨?_, fun x hx => ?_⟩
      · rw [List.map_cons, List.map_cons, h1]
        congr 1
        show List.map toKey (List.map Sum.inr (l :: ls)) = _
        rw [List.map_map]
        show _ = List.map Sum.inr (List.map strOf (l :: ls))
        rw [List.map_map]
        rfl
      · rcases List.mem_cons.mp hx with rfl | hx
        · exact ⟨⟨List.cons_ne_nil _ _, hl⟩, fun y hy => z (.inr y) (List.mem_map_of_mem hy)⟩
        · exact h2 x hx
    · cases e
theorem c_sortTD (hc : X.calm = true) : CaS X (.builtin "sorted") sortTD' := by
  refine ⟨_, cr_sortTD hc, fun cl W σ S H H0 m Q vs ps hs hd hp h => ?_⟩
  unfold sortTD' at h
  split at h
  · split at h
    · rename_i kvs ks e
      obtain ⟨v, rfl, hv⟩ := hp.one
      obtain ⟨a, d, rfl, ha, r, z⟩ := hv.dct
      obtain ⟨k1, ok⟩ := treps_keys r e
      refine ⟨a, d, ks, rfl, .inl ha, k1, fun k hk => (ok k hk).1.1, fun L' t pm hL pw ht => ?_⟩
      have e3 : L'.map (·.2) = sortT ks := sortT_uniq pm pw
      rw [← e3] at h
      have hz : d.length = ks.length := by
        have := congrArg List.length k1
        rwa [List.length_map, List.length_map] at this
      refine give_lst h hs hd ht (reps_at fun p hp => ?_) (by rw [List.length_map, pm.length_eq, ← hz, r.length]; exact z)
      have ok2 := ok p.2 (pm.mem_iff.mp (List.mem_map_of_mem hp))
      have small : (p.2.map PV.str).length ≤ sizeLine := by
        have := ok2.1.2
        rw [List.length_map, sizeLine_eq]
        omega
      exact .wt (.inl (.inl (hL p hp))) (Reps.of_strs ok2.2) small
    · exact h.elim
  · exact h.elim
def sortF' : List PV → R PV
  | [.lst xs] => if okFs xs = true then .ok (.lst (sortF xs)) else .no
  | [.tup xs] => if okFs xs = true then .ok (.lst (sortF xs)) else .no
  | _ => .no
theorem c_sortF : CaS X (.builtin "sorted") sortF' := by
  refine ⟨_, cr_sortF, fun cl W σ S H H0 m Q vs ps hs hd hp h => ?_⟩
  obtain ⟨xs, a, us, rfl, ok, sq, r, z, h⟩ : ∃ xs a us, vs = [V.ref a] ∧ okFs xs = true ∧ (SqT X.K H a us ∨ SqL X.K H a us) ∧ Reps X.K S H us xs ∧ xs.length ≤ sizeLine ∧ GoR X.K cl W σ S H (.ok (.lst (sortF xs))) (Wn X.K m H0 Q) := by
    unfold sortF' at h
    split at h
    · rename_i xs
      split at h
      · rename_i ok
        obtain ⟨v, rfl, hv⟩ := hp.one
        obtain ⟨a, us, rfl, ha, r, z⟩ := hv.lst
        exact ⟨xs, a, us, rfl, ok, .inr (.inl (.inl ha)), r, z, h⟩
      · exact h.elim
    · rename_i xs
      split at h
      · rename_i ok
        obtain ⟨v, rfl, hv⟩ := hp.one
        obtain ⟨a, us, rfl, ha, r, z⟩ := hv.tup
        exact ⟨xs, a, us, rfl, ok, .inl ha, r, z, h⟩
      · exact h.elim
    · exact h.elim
  have ok2 : xs.all okF = true ∧ (xs.map fT).Nodup := by
    unfold okFs at ok
    rw [Bool.and_eq_true] at ok
    exact ⟨ok.1, of_decide_eq_true ok.2⟩
  obtain ⟨L, rfl, e2, hL⟩ := reps_ft r ok2.1
  have ek : (L.map (·.1)).map (·.2) = xs.map fT := by
    rw [← e2, List.map_map, List.map_map]
    exact List.map_congr_left fun p hp => (hL p hp).1
  have ea : ∀ M : List FT, (M.map fun p => V.ref p.1.1) = (M.map (·.1)).map fun p => V.ref p.1 := fun M => by rw [List.map_map]; rfl
  rw [ea] at sq
  refine ⟨a, L.map (·.1), rfl, sq, fun p hp => ?_, by rw [ek]; exact ok2.2, fun L' t pm pw ht => ?_⟩
  · obtain ⟨q, hq, rfl⟩ := List.mem_map.mp hp
    exact (hL q hq).2.2
  · obtain ⟨M, pM, rfl⟩ := perm_lift pm L rfl
    have e3 : M.map (·.2) = sortF xs := by
      refine sortF_uniq (by rw [← e2]; exact pM.map _) ok2.2 ?_
      rw [List.pairwise_map]
      refine List.Pairwise.imp_of_mem (fun {p q} hp hq hpq => ?_) (List.pairwise_map.mp pw)
      have h1 := (hL p (pM.mem_iff.mp hp)).1
      have h2 := (hL q (pM.mem_iff.mp hq)).1
      rw [h1, h2] at hpq
      exact leS_iff.mpr (List.not_lt.mp hpq)
    rw [← e3] at h
    rw [← ea]
    exact give_lst h hs hd ht (reps_fts fun p hp => (hL p (pM.mem_iff.mp hp)).2.1) (by rw [e3, (sortF_perm xs).length_eq]; exact z)
theorem c_sorted (hc : X.calm = true) : CaS X (.builtin "sorted") sortedP := by
  refine (((((c_sortI.or c_sortS).or (c_sortD hc)).or c_sortTL).or (c_sortTD hc)).or c_sortF).congr fun ps => ?_
  unfold sortedP sortI' sortS' sortD' sortTL' sortTD' sortF'
  split
  · split
    · rename_i e; right; simp [e, orR]
    · rename_i e
      split
      · rename_i e2
        split
        · rename_i h; right; simp [e, e2, h, orR]
        · exact .inl rfl
      · rename_i e2
        split
        · rename_i e3; right; simp [e, e2, e3, orR]
        · rename_i e3
          split
          · rename_i h; right; simp [e, e2, e3, h, orR]
          · exact .inl rfl
  · split
    · rename_i h; right; simp [h, orR]
    · exact .inl rfl
  · split
    · rename_i e
      split
      · rename_i h; right; simp [e, h, orR]
      · exact .inl rfl
    · exact .inl rfl
  · split
    · rename_i e; right; simp [e, orR]
    · exact .inl rfl
  · exact .inl rfl

/-! ### list(dict) -/
def listD' : List PV → R PV
  | [.dic kvs] => .ok (.lst (kvs.map fun kv => unKey kv.1))
  | _ => .no
def listP2 (ps : List PV) : R PV := orR (listD' ps) (listP ps)
theorem c_listD (hc : X.calm = true) : CaS X (.type "list") listD' := by
  refine ⟨_, call_list_dK hc, fun cl W σ S H H0 m Q vs ps hs hd hp h => ?_⟩
  unfold listD' at h
  split at h
  · obtain ⟨v, rfl, hv⟩ := hp.one
    obtain ⟨a, d, rfl, ha, r, z⟩ := hv.dic
    exact ⟨a, d, rfl, ha, fun p hp => give_lst h hs hd hp (unKey_rep r) (by rw [List.length_map]; exact z)⟩
  · exact h.elim
theorem c_list2 (hc : X.calm = true) : CaS X (.type "list") listP2 := (c_listD hc).or c_list
end

/-! ### isinstance(x, (T, U)) -/
def isAny (p : PV) : List Ty → Option Bool
  | [] => some false
  | t :: ts => match isT p t with
    | some true => some true
    | some false => isAny p ts
    | none => none
def fIsAny (f : Env' → R PV) (ts : List Ty) : Env' → R PV := fun ρ => f ρ >>= fun p => match p with
  | .fn _ _ => .no
  | .scr _ => .no
  | .dct _ => .no
  | p => match isAny p ts with
    | some b => .ok (.bl b)
    | none => .no
/-- names of built-in types, in a row -/
def TyNames (X : Cx) : List Expr → List Ty → Prop
  | [], [] => True
  | e :: es, t :: ts => (∃ T p, e = .Name T p ∧ Gl X T ∧ X.mg T = none ∧ bootBuiltins T = some (.type t.name) ∧ T ≠ "__name__" ∧ (T == ("__debug__" : Str)) = false) ∧ TyNames X es ts
  | _, _ => False
section
variable {X : Cx} {cl : Str → Value} {W : WX} {mu : List Nat} {m : Md} {pos : Pos} {f g h : Env' → R PV}
def tTys (ts : List Ty) : TA := fun _ H Q => Q (ts.map fun t => .ty t.name) H
theorem pa_tys : ∀ {es : List Expr} {ts : List Ty}, TyNames X es ts → PA X es (tTys ts)
  | [], [], _ => pa_nil
  | [], _ :: _, z => z.elim
  | _ :: _, [], z => z.elim
  | e :: es, t :: ts, ⟨⟨T, p, he, hg, hm, hv, hn, hd⟩, z⟩ => by
    subst he
    exact pa_imp (pa_cons (pe_bltn (v := .ty t.name) hg hm hv rfl hn hd) (pa_tys z) rfl) fun σ H Q q => q
theorem any_kit {p : PV} {n : String} {K : PySem.W.Frag} (en : tyN p = some n) : ∀ {ts : List Ty} {b : Bool}, isAny p ts = some b → PySem.W.kitAny K (.type n) (ts.map fun t => .type t.name) = some b
  | [], b, e => by cases e; rfl
  | t :: ts, b, e => by
    have one : ∀ {c : Bool}, isT p t = some c → PySem.W.kitOne K (.type n) (.type t.name) = some c := fun {c} z => by
      obtain ⟨n', e1, e2⟩ := kit_tab z
      rw [en] at e1
      cases e1
      exact kit_ty e2
    unfold isAny at e
    cases q : isT p t with
    | none => rw [q] at e; cases e
    | some c =>
      rw [q] at e
      cases c with
      | true => cases e; exact kitAny_cons (one q) (fun z => by cases z) fun _ => rfl
      | false => exact kitAny_cons (one q) (fun _ => any_kit en e) fun z => by cases z
theorem clsv_tys : ∀ ts : List Ty, Paired ClsV (ts.map fun t => V.ty t.name) (ts.map fun t => Value.type t.name)
  | [] => .nil
  | t :: ts => .cons (.ty _) (clsv_tys ts)
theorem px_isinT {a : Expr} {es : List Expr} {p p2 : Pos} {k : Nat} {ts : List Ty} (ha : PX X cl W mu .pk a f) (hg : Gl X "isinstance") (hm : X.mg "isinstance" = none) (ht : TyNames X es ts) (hl : ts.length ≤ 1000) (hn : ("isinstance" : Str) ≠ "__name__") (hd : (("isinstance" : Str) == ("__debug__" : Str)) = false)
    (he : starEach [a, .Tuple es k p2] X.env = (false, eval a X.env) :: starEach [.Tuple es k p2] X.env) : PX X cl W mu m (.Call (.Name "isinstance" p) [a, .Tuple es k p2] [] pos) (fIsAny f ts) :=
  pe_imp (pe_callB call_isiT hg hm boot_isinstance (pa_cons ha (pa_cons (pe_tup (pa_tys ht)) pa_nil rfl) he) hn hd he rfl) fun σ H Q ⟨S, ρ, re, go⟩ => ⟨S, ρ, re, go.bind.mono fun p S1 H1 _ x go1 v hv => by
    have lb := line_big
    refine ⟨by rw [List.length_map]; omega, fun t ht2 => ?_⟩
    have x2 : Ext S1 H1 S1 (upd H1 t (.tup (ts.map fun t => V.ty t.name))) := Ext.laid ht2
    have key : ∀ n b, tyN p = some n → isAny p ts = some b → GoR X.K cl W σ S1 H1 (.ok (.bl b)) (Wn X.K m H Q) → rIsiT X.K [v, .ref t] (upd H1 t (.tup (ts.map fun t => V.ty t.name))) Q := fun n b e1 e2 go2 =>
      ⟨v, t, _, .type n, ts.map fun t => .type t.name, b, rfl, upd_same, clsv_tys ts, tyX_pk (hv.ext x2) e1, any_kit e1 e2, go2.at x2 _ (post_of (.bl b) rfl)⟩
    have fin : ∀ n, tyN p = some n → GoR X.K cl W σ S1 H1 (match isAny p ts with
        | some b => .ok (.bl b)
        | none => .no) (Wn X.K m H Q) → rIsiT X.K [v, .ref t] (upd H1 t (.tup (ts.map fun t => V.ty t.name))) Q := fun n e1 go2 => by
      split at go2
      · rename_i b e2
        exact key n b e1 e2 go2
      · exact go2.elim
    cases p with
    | fn _ _ => exact go1.elim
    | scr _ => exact go1.elim
    | dct _ => exact go1.elim
    | non => exact fin _ rfl go1
    | bl b => exact fin _ rfl go1
    | int i => exact fin _ rfl go1
    | str l => exact fin _ rfl go1
    | tup l => exact fin _ rfl go1
    | wt l => exact fin _ rfl go1
    | lst l => exact fin _ rfl go1
    | dic l => exact fin _ rfl go1⟩

/-! ### d.get(k, x) -/
def getP (d k x : PV) : R PV := match d with
  | .dic kvs => match asKey k with
    | some k => .ok ((getD kvs k).getD x)
    | none => .no
  | _ => .no
def asDic : PV → R (List (K1 × PV))
  | .dic kvs => .ok kvs
  | _ => .no
def fGet (f g h : Env' → R PV) : Env' → R PV := fun ρ => f ρ >>= fun d => asDic d >>= fun kvs => g ρ >>= fun k => h ρ >>= fun x => getP (.dic kvs) k x
theorem asDic_noex {p : PV} {x : Ex} (e : asDic p = .ex x) : False := by cases p <;> cases e
theorem px_get {o e1 e2 : Expr} {apos : Pos} (hm : m ≠ .ow) (hu : X.A.units + 1 < cLine) (ho : PX X cl W mu .pk o f) (hk : PX X cl W mu .pk e1 g) (hx : PX X cl W mu .sh e2 h) (hM : L2.M2 X o "get" apos e1 e2 pos) : PX X cl W mu m (.Call (.Attribute o "get" apos) [e1, e2] [] pos) (fGet f g h) :=
  pe_imp (pe_dget2 hu ho hk hx hM) fun σ H Q ⟨S, ρ, re, go⟩ => ⟨S, ρ, re, go.bind.mono fun d S1 H1 _ x1 go1 v hv => by
    obtain ⟨kvs, ed, go2⟩ := gor_noex go1 fun e => asDic_noex
    have hv : Pk X.K S1 H1 v (.dic kvs) := by
      cases d <;> first
        | (cases ed; exact hv)
        | cases ed
    obtain ⟨a, dd, rfl, ha, r, z⟩ := hv.dic
    refine ⟨a, rfl, .inl ⟨dd, .inl ha⟩, S1, ρ, re.ext x1, go2.bind.mono fun kp S2 H2 _ x2 go3 y hy => ⟨S2, ρ, (re.ext x1).ext x2, go3.bind.mono fun xp S3 H3 _ x3 go4 w hw => ?_⟩⟩
    have hw : Rep X.K S3 H3 w xp := hw
    simp only [getP] at go4
    cases ek : asKey kp with
    | none => rw [ek] at go4; exact go4.elim
    | some k =>
      rw [ek] at go4
      have ey := asKey_rep hy ek
      subst ey
      have r3 := (r.keep (x2.keep S1) x2.sub).keep (x3.keep S2) x3.sub
      have ha3 := x3.same _ _ (x2.same _ _ ha)
      refine ⟨_, DGet.k ha3, ?_⟩
      rcases r3.get k with ⟨w', p', e1, e2, rw'⟩ | ⟨e1, e2⟩
      · rw [e1]
        have go4 : GoR X.K cl W σ S3 H3 (.ok ((getD kvs k).getD xp)) (Wn X.K m H Q) := go4
        rw [e2] at go4
        exact give' go4 rw' hm
      · rw [e1]
        have go4 : GoR X.K cl W σ S3 H3 (.ok ((getD kvs k).getD xp)) (Wn X.K m H Q) := go4
        rw [e2] at go4
        exact give' go4 hw hm⟩
end
end M
/-! MO: enumerate of a tuple, of a list. -/
namespace M
open PySem PySem.Spec PyProof.Rows L2

theorem meets_enumT {v : Value} {o : Obj} {H : Heap → Prop} (B : Begins v o H) :
    Meets (Builtin.«enumerate.__new__» ⟨[.type "enumerate", v], []⟩) (fun _ R s => H s.heap ∧
      R (.ok (.ret (.ref (s.heap.push o).objs.size))) { s with heap := (s.heap.push o).push { cls := .type "enumerate", data := .fields #[.none, .bool false, .ref s.heap.objs.size, rawInt 0, .none, .none] } }) :=
  .of_wp fun prog w A R s h => by
    obtain ⟨hp, g, d, tk, os⟩ := s
    obtain ⟨h1, h⟩ := h
    have hsub := sub_enumerate
    have q1 : ∀ {A' : Around} {E : Value → Shared → Prop} {Q : Value → Shared → Prop}, Q (.ref hp.objs.size) ⟨hp.push o, g, d, tk, os⟩ → wpAny (model prog w) A' (pyIter v) Q E ⟨hp, g, d, tk, os⟩ :=
      fun q => B.iter prog w _ _ ⟨hp, g, d, tk, os⟩ _ h1 q
    wp_walk using q1
    refine wpAny_stack_any fun st => wpAny_pure ?_
    split
    · rename_i c _ _ _ _ _
      cases (c == Value.type "enumerate")
      · wp_walk using q1
        exact ⟨_, rfl, h⟩
      · wp_walk using q1
        exact ⟨_, rfl, h⟩
    · wp_walk using q1
      exact ⟨_, rfl, h⟩

theorem call_enumT {prog : Program} {w : World} {A : Around} {E : Value → Shared → Prop} {s : Shared} {v : Value} {o : Obj} {H : Heap → Prop} {Q : Value → Shared → Prop} (B : Begins v o H) (h1 : H s.heap)
    (h : ∀ h', IsEnum h' (s.heap.objs.size + 1) s.heap.objs.size 0 .none → h'.get? s.heap.objs.size = some o → h'.objs.size = s.heap.objs.size + 2 →
      (∀ b o, s.heap.get? b = some o → h'.get? b = some o) → Q (.ref (s.heap.objs.size + 1)) { s with heap := h' }) :
    wpAny (model prog w) A (call (.type "enumerate") [v]) Q E s := by
  refine callType_new F.called_enumerate (by decide) (F.typeCall_enumerate_1 _) (F.newCall_enumerate_1 _) (fun obj => F.args_object_init_2 obj _) F.entry_enumerate_new (meets_enumT B) ⟨h1, ?_⟩
  have hz : (s.heap.push o).objs.size = s.heap.objs.size + 1 := Heap.size_push ..
  show _ ∧ _
  rw [hz]
  have he : IsEnum ((s.heap.push o).push { cls := .type "enumerate", data := .fields #[.none, .bool false, .ref s.heap.objs.size, rawInt 0, .none, .none] }) (s.heap.objs.size + 1) s.heap.objs.size 0 .none := by
    have := Heap.get?_push_size (s.heap.push o) (o := { cls := .type "enumerate", data := .fields #[.none, .bool false, .ref s.heap.objs.size, rawInt 0, .none, .none] }) rfl
    rw [hz] at this
    exact this
  exact ⟨⟨_, he, rfl⟩, h _ he (Heap.get?_push_of_some _ (Heap.get?_push_size _ B.free)) (by rw [Heap.size_push, hz]) fun b o x => Heap.get?_push_of_some _ (Heap.get?_push_of_some _ x)⟩
/-- the tuple at a, each item in a new pair -/
def IteT (K : PySem.W.Frag) (a : Addr) : It :=
  ⟨fun i H => ∃ (xs : List V) (x : V), SqT K H a xs ∧ xs[i]? = some x, fun i H v H' => ∃ T x, v = .ref T ∧ H T = none ∧ H' = upd H T (.tup [.int (i : Nat), x]) ∧ ∀ xs, SqT K H a xs → xs[i]? = some x, fun i H => ∃ xs : List V, SqT K H a xs ∧ xs.length ≤ i⟩
theorem turn_enumT {P : Program} {w : World} {K : PySem.W.Frag} {elts : List Expr} {kk : Nat} {tpos : Pos} (a e it : Addr) :
    Turn P w K (.Tuple elts kk tpos) (IteT K a) [e, it] e (fun i h => (∃ old, IsEnum h e it ((i : Nat) : Int) old) ∧ h.IsTupleIter it a i ∧ e ≠ it ∧ a ≠ it ∧ e ≠ a) where
  mem := by simp
  obj := fun i h st b hb => by
    obtain ⟨⟨old, he⟩, ⟨o, ho, hc, hd⟩, _⟩ := st
    have e' : b = e ∨ b = it := by simpa using hb
    rcases e' with z | z
    · rw [z]; exact ⟨_, he, fun v q => nomatch q⟩
    · rw [z]; exact ⟨o, ho, fun v q => by rw [hd] at q; cases q⟩
  keep := fun i h h' st k => let ⟨⟨old, he⟩, hi, hne⟩ := st; ⟨⟨old, k e (by simp) _ he⟩, hi.at fun o q => k it (by simp) o q, hne⟩
  item := by
    intro X hP hw hK hc i pins s σ H E I hf st hg
    subst hP hw hK
    obtain ⟨⟨old, he⟩, hit, hne, hai, hea⟩ := st
    obtain ⟨xs, x, hq, hx⟩ := hg
    obtain ⟨its, rv, p, hz⟩ := I.tuple hq
    obtain ⟨u, hu, ru⟩ := rv.get hx
    have hel : e < s.heap.objs.size := Heap.lt_size he
    have hil : it < s.heap.objs.size := by obtain ⟨_, q, _⟩ := hit; exact Heap.lt_size q
    have hlt : i < its.toArray.size := by
      have := (List.getElem?_eq_some_iff.mp hu).1
      simpa using this
    refine wpAny_pyNext_enum_itemD (Draws.tuple (A := X.A.in1) (by show X.A.handled = none; exact I.ok.hd hc) it a hai its.toArray) he ⟨hit, p⟩ hlt hne (by simp [hne, hea]) fun x' h' tk hx' ho hit' hT hsz hk => ?_
    have hx' : x' = u := by
      have hx' : its.toArray[i]? = some x' := hx'
      have hu' : its[i]? = some x' := by simpa using hx'
      rw [hu] at hu'
      exact (Option.some.inj hu').symm
    subst hx'
    refine ⟨_, rfl, wpAny_letOwnedTupleGo_enum (s := { s with heap := h', toks := tk + 1 }) ho fun h'' he' sb => ?_⟩
    have hT2 : h''.get? s.heap.objs.size = some { cls := .type "tuple", data := .seq #[.int i tk, x'] } := (sb.2 _ (Nat.ne_of_gt hel)).trans hT
    have new : ObjOk X.prog X.w (upd H s.heap.objs.size (.tup [.int (i : Nat), x])) h'' s.heap.objs.size (.tup [.int (i : Nat), x]) :=
      ⟨by show 2 ≤ sizeLine; decide, [.int i tk, x'], .cons ⟨_, rfl⟩ (.cons ru .nil), ⟨_, hT2, rfl, _, rfl⟩⟩
    have I1 : Inv X pins σ (upd H s.heap.objs.size (.tup [.int (i : Nat), x])) { s with heap := h'', toks := tk + 1 } :=
      I.turnedNew (ch := [e, it]) (fun b ob hb q => (sb.2 b (fun z => hb (by simp [z]))).trans (hk b ob (fun z => hb (by simp [z])) (fun z => hb (by simp [z])) q)) hf (Nat.le_refl _) new
    refine ⟨.ref s.heap.objs.size, _, I1, rfl, ⟨_, x, rfl, I.hok.fresh (Nat.le_refl _), rfl, fun ys hy => by rw [I.tuple_inj hy hq]; exact hx⟩, ⟨⟨x', ?_⟩, hit'.1.at fun o q => (sb.2 it (Ne.symm hne)).trans q, hne, hai, hea⟩, fun b hb => ?_⟩
    · have e1 : ((i + 1 : Nat) : Int) = (i : Int) + 1 := by omega
      rw [e1]; exact he'
    · have hb' : b < s.heap.objs.size := by
        have e' : b = e ∨ b = it := by simpa using hb
        rcases e' with z | z
        · rw [z]; exact hel
        · rw [z]; exact hil
      rw [upd_ne (Nat.ne_of_lt hb')]
      exact (hf b hb).1
  done := by
    intro X hP hw hK hc i pins s σ H E I hf st hg
    subst hP hw hK
    obtain ⟨⟨old, he⟩, hit, hne, hai, hea⟩ := st
    obtain ⟨xs, hq, hx⟩ := hg
    obtain ⟨its, rv, p, hz⟩ := I.tuple hq
    obtain ⟨f0, f1, f2, f3, f4, f5⟩ := hf it (by simp)
    have hl := rv.length
    have hn : its.toArray[i]? = none := by simp; omega
    have D : Draws X.prog X.w X.A.in1 it [it, a] i (fun _ _ => False) (fun j h => j = i ∧ h.IsTupleIter it a j ∧ h.IsTuple a its.toArray) :=
      { live := fun _ _ st => let ⟨o, ho, _⟩ := st.2.1; ⟨o, ho⟩
        frame := fun _ _ _ st hk => ⟨st.1, st.2.1.at fun o e => hk it (by simp) o e, st.2.2.at fun o e => hk a (by simp) o e⟩
        item := fun j s Q E hi st hQ => absurd st.1 (by omega)
        done := fun s Q E st hE => wpAny_nextOf_tuple_end (by show X.A.handled = none; exact I.ok.hd hc) st.2.1 st.2.2 hn hE }
    exact wpAny_pyNext_enum_endD D he ⟨rfl, hit, p⟩ fun h' eb => ⟨rfl, I.turned (t' := s.toks) (fun b o hb q => eb b o hb q) f0 f1 f3 f4 f5⟩
  self := fun A i s Q E st h => let ⟨⟨_, he⟩, _⟩ := st; wpAny_pyIter_enum he h

def iEnumA (K : PySem.W.Frag) (ta : TA) : TI := fun σ H R => ta σ H fun vs H1 => ∃ a xs, vs = [.ref a] ∧ ((SqL K H1 a xs ∧ R (Ite K a) H1) ∨ (SqT K H1 a xs ∧ R (IteT K a) H1))
theorem pi_enumA {X : Cx} {e : Expr} {ta : TA} {p pos tpos : Pos} {elts : List Expr} {kk : Nat} (hg : Gl X "enumerate") (hm : X.mg "enumerate" = none) (ha : PA X [e] ta) (hs : starEach [e] X.env = [(false, eval e X.env)] := by rfl) :
    PI X (.Tuple elts kk tpos) (.Call (.Name "enumerate" p) [e] [] pos) (iEnumA X.K ta) := by
  refine ⟨fun pins s σ H R I h => ?_⟩
  refine Call_ (ld_blt I hg hm boot_enumerate (PyProof.Rows.callWith_type1 (thn (ha.run pos pins s σ H _ I h) fun us s1 ⟨vs, H1, I1, r1, q1⟩ => ?_) hs rfl))
  obtain ⟨a, xs, ex, q1⟩ := q1
  subst ex
  cases r1 with
  | cons r rr =>
    cases rr
    cases r
    rcases q1 with ⟨hq, q⟩ | ⟨hq, q⟩
    · obtain ⟨its, rv, p', hz⟩ := I1.list hq
      refine call_enumerate_list p'.isList fun h' he hit hsz hk => wpAny_pyIter_enum he ?_
      have I2 : Inv X pins σ H1 { s1 with heap := h' } := I1.kept (t' := s1.toks) hk
      refine ⟨s1.heap.objs.size + 1, [s1.heap.objs.size + 1, s1.heap.objs.size], _, _, H1, rfl, I2, turn_enum a (s1.heap.objs.size + 1) s1.heap.objs.size, ⟨⟨.none, he⟩, hit, Nat.succ_ne_self _⟩, fun b hb => ?_, q⟩
      have hle : s1.heap.objs.size ≤ b := by
        have e' : b = s1.heap.objs.size + 1 ∨ b = s1.heap.objs.size := by simpa using hb
        rcases e' with z | z
        · rw [z]; exact Nat.le_add_right _ _
        · rw [z]; exact Nat.le_refl _
      exact I1.fpOk hle (I1.hok.fresh hle)
    · obtain ⟨its, rv, p', hz⟩ := I1.tuple hq
      have hal : a < s1.heap.objs.size := by obtain ⟨o, ho, _⟩ := p'; exact Heap.lt_size ho
      refine call_enumT (begins_tuple a its.toArray) p' fun h' he ho hsz hk => wpAny_pyIter_enum he ?_
      have I2 : Inv X pins σ H1 { s1 with heap := h' } := I1.kept (t' := s1.toks) hk
      refine ⟨s1.heap.objs.size + 1, [s1.heap.objs.size + 1, s1.heap.objs.size], _, _, H1, rfl, I2, turn_enumT a (s1.heap.objs.size + 1) s1.heap.objs.size, ⟨⟨.none, he⟩, ⟨_, ho, rfl, rfl⟩, Nat.succ_ne_self _, Nat.ne_of_lt hal, Nat.ne_of_gt (Nat.lt_succ_of_lt hal)⟩, fun b hb => ?_, q⟩
      have hle : s1.heap.objs.size ≤ b := by
        have e' : b = s1.heap.objs.size + 1 ∨ b = s1.heap.objs.size := by simpa using hb
        rcases e' with z | z
        · rw [z]; exact Nat.le_add_right _ _
        · rw [z]; exact Nat.le_refl _
      exact I1.fpOk hle (I1.hok.fresh hle)

section
variable {X : Cx} {cl : Str → Value} {W : WX} {mu : List Nat} {m : Md} {f : Env' → R PV}
/-- the items of an enumerate -/
def enumFrom' : Nat → List PV → List PV
  | _, [] => []
  | k, x :: xs => .wt [.int (k : Nat), x] :: enumFrom' (k + 1) xs
def enumL (xs : List PV) : List PV := enumFrom' 0 xs
theorem enumFrom_len : ∀ (xs : List PV) (k : Nat), (enumFrom' k xs).length = xs.length
  | [], _ => rfl
  | x :: xs, k => by simp [enumFrom', enumFrom_len xs]
theorem enumFrom_get : ∀ (xs : List PV) (k i : Nat), (enumFrom' k xs)[i]? = (xs[i]?).map fun x => .wt [.int ((k + i : Nat) : Int), x]
  | [], k, i => by simp [enumFrom']
  | x :: xs, k, 0 => by simp [enumFrom']
  | x :: xs, k, i + 1 => by
    simp only [enumFrom', List.getElem?_cons_succ]
    rw [enumFrom_get xs (k + 1) i]
    rw [show k + 1 + i = k + (i + 1) by omega]
def asSeq : PV → R (List PV)
  | .tup xs => .ok xs
  | .wt xs => .ok xs
  | .lst xs => .ok xs
  | _ => .no
theorem asSeq_noex {p : PV} {x : Ex} (e : asSeq p = .ex x) : False := by cases p <;> cases e
def fEnum (f : Env' → R PV) : Env' → R (List PV) := fun ρ => f ρ >>= fun p => asSeq p >>= fun a => .ok (enumL a)
/-- a new pair of the place and the i-th of vs -/
def YEn (vs : List V) : Nat → Hp → V → Hp → Prop := fun i H v H' => ∃ T x, v = .ref T ∧ H T = none ∧ H' = upd H T (.tup [.int (i : Nat), x]) ∧ vs[i]? = some x
theorem walk_enT {K : PySem.W.Frag} {a : Addr} {xs : List V} : Walk (IteT K a) xs.length (fun H => SqT K H a xs) (YEn xs) :=
  ⟨fun i _ hi q => ⟨xs, xs[i], q, by simp [hi]⟩, fun _ q => ⟨xs, q, Nat.le_refl _⟩, fun i H v H' _ q ⟨T, x, h1, h2, h3, h4⟩ => ⟨T, x, h1, h2, h3, h4 xs q⟩⟩
theorem walk_enL {K : PySem.W.Frag} {a : Addr} {xs : List V} : Walk (Ite K a) xs.length (fun H => SqL K H a xs) (YEn xs) :=
  ⟨fun i _ hi q => ⟨xs, xs[i], q, by simp [hi]⟩, fun _ q => ⟨xs, q, Nat.le_refl _⟩, fun i H v H' _ q ⟨T, x, h1, h2, h3, h4⟩ => ⟨T, x, h1, h2, h3, h4 xs q⟩⟩
theorem wk_enum {K : PySem.W.Frag} {S : Addr → Prop} {H : Hp} {vs : List V} {ps : List PV} {J : It} {G : Hp → Prop} (r : Reps K S H vs ps) (z : ps.length ≤ sizeLine)
    (hk : ∀ H', Grow m S H H' → G H') (hw : Walk J vs.length G (YEn vs)) : Wk K m S H J (enumL ps) := by
  have hl : (enumL ps).length = vs.length := by unfold enumL; rw [enumFrom_len, r.length]
  refine ⟨G, YEn vs, by rw [hl]; exact hw, by rw [hl, r.length]; exact z, hk, fun i S' H' x H'' p hs g e y => ?_⟩
  obtain ⟨T, x', rfl, hT, rfl, e1⟩ := y
  unfold enumL at e
  rw [enumFrom_get] at e
  cases q : ps[i]? with
  | none => rw [q] at e; cases e
  | some p' =>
    rw [q] at e
    cases e
    obtain ⟨v1, f1, rv1⟩ := r.get q
    rw [e1] at f1
    cases f1
    have ex : Ext S' H' S' (upd H' T (.tup [.int (i : Nat), x'])) := Ext.laid hT
    rw [Nat.zero_add]
    exact ⟨ex, .wt (.inl (.inl upd_same)) (.cons (.int _) (.cons ((rv1.keep g.keep hs).ext ex) .nil)) two_line⟩
theorem pix_enum_pk {e : Expr} {p pos tpos : Pos} {elts : List Expr} {kk : Nat} (hg : Gl X "enumerate") (hm : X.mg "enumerate" = none) (he : PX X cl W mu .pk e f) (hs : starEach [e] X.env = [(false, eval e X.env)]) :
    PIX X cl W mu .pk (.Tuple elts kk tpos) (.Call (.Name "enumerate" p) [e] [] pos) (fEnum f) :=
  pi_imp (pi_enumA hg hm (pa_cons he pa_nil hs) hs) fun σ H R ⟨S, ρ, re, go⟩ => ⟨S, ρ, re, go.bind.mono fun p S1 H1 _ x go1 v hv => by
    cases p with
    | tup ps =>
      obtain ⟨a, vs, rfl, ha, r, z⟩ := hv.tup
      exact ⟨a, vs, rfl, .inr ⟨ha, GoR.here go1 _ (wk_enum r z (fun H' g => sqT_keep g.keep ha) walk_enT)⟩⟩
    | wt ps =>
      obtain ⟨a, vs, rfl, ha, r, z⟩ := hv.wt
      exact ⟨a, vs, rfl, .inr ⟨ha, GoR.here go1 _ (wk_enum r z (fun H' g => sqT_keep g.keep ha) walk_enT)⟩⟩
    | lst ps =>
      obtain ⟨a, vs, rfl, ha, r, z⟩ := hv.lst
      exact ⟨a, vs, rfl, .inl ⟨.inl (.inl ha), GoR.here go1 _ (wk_enum r z (fun H' g => .inl (.inl (g _ _ ha))) walk_enL)⟩⟩
    | _ => exact go1.elim⟩
theorem pix_enum_sh {e : Expr} {p pos tpos : Pos} {elts : List Expr} {kk : Nat} (hg : Gl X "enumerate") (hm : X.mg "enumerate" = none) (he : PX X cl W mu .sh e f) (hs : starEach [e] X.env = [(false, eval e X.env)]) :
    PIX X cl W mu .sh (.Tuple elts kk tpos) (.Call (.Name "enumerate" p) [e] [] pos) (fEnum f) :=
  pi_imp (pi_enumA hg hm (pa_cons he pa_nil hs) hs) fun σ H R ⟨S, ρ, re, go⟩ => ⟨S, ρ, re, go.bind.mono fun p S1 H1 _ x go1 v hv => by
    have hv : Rep X.K S1 H1 v p := hv
    cases p with
    | tup ps =>
      obtain ⟨a, vs, rfl, ha, r, z⟩ := (Pk.tup (.inl hv))
      exact ⟨a, vs, rfl, .inr ⟨ha, GoR.here go1 _ (wk_enum r z (fun H' g => sqT_keep g.keep ha) walk_enT)⟩⟩
    | wt ps =>
      obtain ⟨a, vs, rfl, ha, r, z⟩ := (Pk.wt (.inl hv))
      exact ⟨a, vs, rfl, .inr ⟨ha, GoR.here go1 _ (wk_enum r z (fun H' g => sqT_keep g.keep ha) walk_enT)⟩⟩
    | lst ps =>
      cases hv with
      | lst s ha r z => exact ⟨_, _, rfl, .inl ⟨.inl (.inl ha), GoR.here go1 _ (wk_enum r z (fun H' g => sqL_keep g.keep s (.inl (.inl ha))) walk_enL)⟩⟩
    | _ => exact go1.elim⟩
end
end M
/-! MP: t.index(x), t a tuple of flat items. -/
namespace M
open PySem PySem.Spec PyProof.Rows L2
theorem sqG_is {X : Cx} {pins : List (Addr × Obj)} {σ : L2.St} {H : Hp} {s : Shared} {a : Addr} {vs : List V} (I : Inv X pins σ H s) (h : SqG X.K H a vs) : s.TypeIs (.ref a) "tuple" ∧ ∀ b, Value.ref a = .ref b → ∃ ob, s.heap.get? b = some ob ∧ ob.dict = none := by
  obtain ⟨its, r, pl, hz⟩ := I.tuple h.sq
  have pl' : s.heap.IsTuple a its.toArray := pl
  refine ⟨pl'.typeIs, fun b e => ?_⟩
  cases e
  rcases h with ⟨ob, h, hd⟩ | ⟨o, its', n, h1, h2, h3, _⟩
  · exact ⟨ob, (I.hok a _ h).1, hd⟩
  · rcases tyV_is (T := "tuple") I (show RelV (.ref a) (.ref a) from rfl) (.inr (.inl ⟨rfl, o, h1, h2, h3⟩)) with ⟨_, z⟩
    exact z a rfl
section
variable {X : Cx} {cl : Str → Value} {W : WX} {mu : List Nat} {m : Md} {f g : Env' → R PV} {o e : Expr} {to : TE} {t : TA} {name : Str} {apos cpos : Pos} {id : String} {r : V → List V → Hp → VK → Prop}
def tGM (K : PySem.W.Frag) (r : V → List V → Hp → VK → Prop) (to : TE) (t : TA) : TE := fun σ H Q => to σ H fun x H1 => (∃ a vs, x = .ref a ∧ SqG K H1 a vs) ∧ t σ H1 fun xs H2 => r x xs H2 Q
theorem pe_gm (slot : Slot "tuple" name id) (hty : typeOf (.builtin id) = pure (.type "method_descriptor")) (hm : MtR X id r) (ho : PE X o to) (ha : PA X [e] t)
    (hbase : attributeBase o name X.env (eval o X.env) = eval o X.env) (hs : starEach [e] X.env = [(false, eval e X.env)]) (hline : (apos.endLine == cpos.line) = true) :
    PE X (.Call (.Attribute o name apos) [e] [] cpos) (tGM X.K r to t) := by
  refine ⟨fun pins s σ H Q I h => ?_⟩
  refine wpAny_Call_method_late hbase (few_ok hs) hline rfl (thn (ho.run pins s σ H _ I h) fun v s1 ⟨x, H1, I1, r1, ⟨a, vs, ex, hg⟩, q1⟩ => ?_)
  subst ex
  cases r1
  obtain ⟨h1, h2⟩ := sqG_is I1 hg
  refine ⟨"tuple", id, PySem.F.plainAttrs_tuple, slot, hty, h1, h2, ?_⟩
  have hA := ha.run cpos pins s1 σ H1 _ I1 q1
  rw [hs] at hA ⊢
  refine Calls.callWith_builtin (by rfl) (Calls.evalArgs_plain ?_)
  exact thn hA fun us s2 ⟨ws, H2, I2, r2, q2⟩ => hm pins s2 σ H2 (.ref a) ws (.ref a) us Q I2 rfl r2 q2
def rIdx (K : PySem.W.Frag) : V → List V → Hp → VK → Prop := fun x xs H Q => ∃ p vs z j, x = .ref p ∧ xs = [z] ∧ SqT K H p vs ∧ flatV z = true ∧ vs.all flatV = true ∧ (∃ y, vs[j]? = some y ∧ eqV y z = true) ∧ (∀ i, i < j → ∀ y, vs[i]? = some y → eqV y z = false) ∧ Q (.int (j : Nat)) H
theorem mt_index : MtR X "tuple.index" (rIdx X.K) := by
  intro pins s σ H x xs v us Q I rx rs h
  obtain ⟨p, vs, z, j, rfl, rfl, hq, fz, fs, ⟨y, hy, ey⟩, hno, q⟩ := h
  cases rx
  obtain ⟨u, rfl, ru⟩ := Vals.one rs
  obtain ⟨its, r, pl, hz⟩ := I.tuple hq
  obtain ⟨⟨cls, dd, dt, sl⟩, ho, hc, n, hd⟩ := pl
  simp only at hc hd
  subst hc
  subst hd
  have hl : its.toArray.size = vs.length := by rw [List.size_toArray, ← r.length]
  have hj : j < its.toArray.size := by rw [hl]; exact (List.getElem?_eq_some_iff.mp hy).1
  have at' : ∀ (i : Nat) (hi : i < its.toArray.size), ∃ y, vs[i]? = some y ∧ eqU z its.toArray[i] = eqV y z := fun i hi => by
    have hi' : i < vs.length := by rw [← hl]; exact hi
    obtain ⟨w, hw, rw'⟩ := r.get (i := i) (x := vs[i]) (by simp [hi'])
    refine ⟨vs[i], List.getElem?_eq_getElem hi', ?_⟩
    have e := (List.getElem?_eq_some_iff.mp hw).2
    have e2 : its.toArray[i] = w := by rw [← e]; simp
    rw [e2]
    exact eqU_of rw' (List.all_eq_true.mp fs _ (List.getElem_mem hi'))
  refine call_meets PySem.F.slot_tuple_index ⟨_, ho, rfl⟩ PySem.F.entry_tuple_index (PySem.F.args_tuple_index_2 _ _) (TI.tuple_indexAt p its.toArray n dd sl u (eqU z) j hj ?_ ?_)
    ⟨ho, fun w hw => mem_eqAt ru fz r fs w (by simpa using hw), ⟨.int (j : Nat), H, I.tok _, ⟨_, rfl⟩, q⟩⟩
  · obtain ⟨y', h1, h2⟩ := at' j hj
    rw [hy] at h1
    cases h1
    rw [h2, ey]
  · intro i hi hij
    obtain ⟨y', h1, h2⟩ := at' i hi
    rw [h2]
    exact hno i hij y' h1
def idxOf (q : PV) : List PV → Option Nat
  | [] => none
  | p :: ps => if eqP p q then some 0 else (idxOf q ps).map (· + 1)
theorem idxOf_get {q : PV} : ∀ {ps : List PV} {j : Nat}, idxOf q ps = some j → (∃ p, ps[j]? = some p ∧ eqP p q = true) ∧ ∀ i, i < j → ∀ p, ps[i]? = some p → eqP p q = false
  | [], j, h => by cases h
  | p :: ps, j, h => by
    simp only [idxOf] at h
    by_cases e : eqP p q = true
    · rw [if_pos e] at h
      cases h
      exact ⟨⟨p, rfl, e⟩, fun i hi => absurd hi (Nat.not_lt_zero _)⟩
    · rw [if_neg e] at h
      obtain ⟨k, hk, rfl⟩ := Option.map_eq_some_iff.mp h
      obtain ⟨⟨p', h1, h2⟩, h3⟩ := idxOf_get hk
      refine ⟨⟨p', by simpa using h1, h2⟩, fun i hi p'' hp => ?_⟩
      cases i with
      | zero => cases hp; simpa using e
      | succ i => exact h3 i (by omega) p'' (by simpa using hp)
def idxP (ps : List PV) (q : PV) : R PV := if flatP q && ps.all flatP then match idxOf q ps with
  | some j => .ok (.int (j : Nat))
  | none => .no else .no
def asTupG : PV → R (List PV)
  | .tup xs => .ok xs
  | _ => .no
theorem asTupG_noex {p : PV} {x : Ex} (e : asTupG p = .ex x) : False := by cases p <;> cases e
def fIdx (f g : Env' → R PV) : Env' → R PV := fun ρ => f ρ >>= fun p => asTupG p >>= fun ps => g ρ >>= fun q => idxP ps q
theorem px_index (hm : m ≠ .ow) (ho : PX X cl W mu .pk o f) (he : PX X cl W mu .pk e g) (hbase : attributeBase o "index" X.env (eval o X.env) = eval o X.env) (hs : starEach [e] X.env = [(false, eval e X.env)]) (hline : (apos.endLine == cpos.line) = true) :
    PX X cl W mu m (.Call (.Attribute o "index" apos) [e] [] cpos) (fIdx f g) :=
  pe_imp (pe_gm PySem.F.slot_tuple_index PySem.F.type_tuple_index mt_index ho (pa_cons he pa_nil hs) hbase hs hline) fun σ H Q ⟨S, ρ, re, go⟩ => ⟨S, ρ, re, go.bind.mono fun p S1 H1 _ x go1 v hv => by
    obtain ⟨ps, e1, go2⟩ := gor_noex go1 fun e => asTupG_noex
    have hv : Pk X.K S1 H1 v (.tup ps) := by cases p <;> first | (cases e1; exact hv) | cases e1
    obtain ⟨a, vs, rfl, ha, r, z⟩ := hv.tupG
    refine ⟨⟨a, vs, rfl, ha⟩, S1, ρ, re.ext x, go2.bind.mono fun q S2 H2 _ y go3 u hu => ?_⟩
    unfold idxP at go3
    split at go3
    · rename_i hf
      simp only [Bool.and_eq_true] at hf
      split at go3
      · rename_i j ej
        obtain ⟨⟨p', h1, h2⟩, h3⟩ := idxOf_get ej
        have r2 : Reps X.K S2 H2 vs ps := (Reps.ext r y)
        have fl := List.all_eq_true.mp hf.2
        obtain ⟨v', g1, rv'⟩ := r2.get h1
        have go3 : GoR X.K cl W σ S2 H2 (.ok (.int (j : Nat))) (Wn X.K m H Q) := go3
        refine ⟨a, vs, u, j, rfl, rfl, sqT_keep (y.keep S1) ha.sq, flat_pk hu hf.1, flat_all r2 hf.2, ⟨v', g1, ?_⟩, fun i hi w hw => ?_, give_int go3⟩
        · rw [eqV_pk rv' hu (fl _ (List.mem_of_getElem? h1)) hf.1, h2]
        · have hi' : i < ps.length := by rw [← r2.length]; exact (List.getElem?_eq_some_iff.mp hw).1
          obtain ⟨w', g2, rw'⟩ := r2.get (List.getElem?_eq_getElem hi')
          rw [hw] at g2
          cases g2
          rw [eqV_pk rw' hu (fl _ (List.getElem_mem hi')) hf.1]
          exact h3 i hi _ (List.getElem?_eq_getElem hi')
      · exact go3.elim
    · exact go3.elim⟩
end
end M
/-! MQ: sets that live for one call: sorted(set(xs)), len(set(xs)). -/
namespace M
open PySem PySem.Spec PyProof.Rows L2

/-! ### set(xs): the loop, by what a set is at each turn -/
section
variable {P : Program} {w : World} {A : Around} {R : Result → Shared → Prop} {I : Addr} {fp wr : List Addr} {G : Array GenState → Array GenState → Prop} {n : Nat} {Pv : Nat → Value → Prop} {St : Nat → Shared → Prop}
/-- what a set at S holds, turn by turn; h0 stands -/
structure Grows (P : Program) (w : World) (A : Around) (S : Addr) (h0 : Heap) (n : Nat) (Pv : Nat → Value → Prop) (J : Nat → Heap → Prop) : Prop where
  keep : ∀ i h h', J i h → (∀ o, h.get? S = some o → h'.get? S = some o) → (∀ b o, h0.get? b = some o → h'.get? b = some o) → J i h'
  add : ∀ (i : Nat) (v : Value) (s : Shared) (Q : Bool → Shared → Prop) (E : Value → Shared → Prop), i < n → Pv i v → J i s.heap → (∀ b o, h0.get? b = some o → s.heap.get? b = some o) →
    (∀ b h' tk, Heap.SameBut S s.heap h' → s.toks ≤ tk → J (i + 1) h' → Q b { s with heap := h', toks := tk }) → wpAny (model P w) A (setAdd S v) Q E s
theorem set_grows (W : WalksS P w A.in1 I fp wr G n Pv St) (S : Addr) (hSf : S ∉ fp) (h0 : Heap) (hS0 : h0.get? S = none) (hw0 : ∀ b ∈ wr, h0.get? b = none) {J : Nat → Heap → Prop} (g : Grows P w A.in1 S h0 n Pv J) :
    ∀ (k i : Nat) (s : Shared), n - i = k → i ≤ n → St i s → (∀ b o, h0.get? b = some o → s.heap.get? b = some o) → J i s.heap →
      (∀ s', Moved (S :: wr) G s s' → J n s'.heap → (∀ b o, h0.get? b = some o → s'.heap.get? b = some o) → R (.ok (.ret .none)) s') →
      codeAny (model P w) A (.builtin "set.update.loop" ⟨[.ref S, .ref I], []⟩) R s := by
  have nw : S ∉ wr := fun h => hSf (W.sub _ h)
  have up : ∀ b ∈ wr, b ∈ S :: wr := fun b hb => List.mem_cons_of_mem _ hb
  have stay : ∀ {s s' : Shared}, Moved wr G s s' → (∀ b o, h0.get? b = some o → s.heap.get? b = some o) → ∀ b o, h0.get? b = some o → s'.heap.get? b = some o := fun m k b o e => m.heap b o (fun z => by rw [hw0 b z] at e; cases e) (k b o e)
  intro k
  induction k with
  | zero =>
    intro i s hk hi st k0 hJ fin
    obtain rfl : i = n := by omega
    refine codeAny_builtin F.entry_set_update_loop ?_
    rw [Around.under_plainId F.plain_set_update_loop _]
    show wpAny _ A.in1 (pyNext (.ref I) >>= fun _ => _) _ _ s
    refine wpAny_bind (W.done s _ _ st fun s' m => ?_)
    exact wpAny_pure (fin s' (m.mono up) (g.keep _ _ _ hJ (fun o e => m.heap S o nw e) (stay m k0)) (stay m k0))
  | succ k ih =>
    intro i s hk hi st k0 hJ fin
    have lt : i < n := by omega
    refine codeAny_builtin F.entry_set_update_loop ?_
    rw [Around.under_plainId F.plain_set_update_loop _]
    show wpAny _ A.in1 (pyNext (.ref I) >>= fun _ => _) _ _ s
    refine wpAny_bind (W.item i s _ _ lt st fun v s' hP st' m => ?_)
    have k1 := stay m k0
    have J1 := g.keep _ _ _ hJ (fun o e => m.heap S o nw e) k1
    show wpAny _ A.in1 (holding [v] (setAdd S v) >>= fun _ => _) _ _ s'
    refine wpAny_bind (wpAny_holding (g.add i v s' _ _ lt hP J1 k1 fun b h' tk sb ht J2 => ?_))
    have k2 : ∀ b o, h0.get? b = some o → h'.get? b = some o := fun b o e => (sb.2 b (fun z => by rw [z, hS0] at e; cases e)).trans (k1 b o e)
    refine wpAny_pure ⟨plainId_quiet F.plain_set_update_loop _, ih (i + 1) _ (by omega) lt (W.frame _ s' _ _ st' ht fun b hb o e => ?_) k2 J2 fun s2 m2 J3 k3 => ?_⟩
    · rw [sb.2 b (fun z => hSf (z ▸ hb))]
      exact e
    · refine fin s2 (Moved.trans W.gtrans ((m.mono up).then_heap ht fun b o hb e => ?_) m2) J3 k3
      rw [sb.2 b (fun z => hb (by rw [z]; exact List.mem_cons_self))]
      exact e
end
/-- a set just made -/
abbrev freshO (w : World) : Obj := { cls := .type "set", dict := none, data := .set #[] 0 (.fresh 0 0 (!w.params.followText "set-order")) }
theorem gone {h : Heap} {b : Addr} (hb : h.objs.size ≤ b) : h.get? b = none := by
  cases q : h.get? b with
  | none => rfl
  | some o => exact absurd (Nat.lt_of_lt_of_le (Heap.lt_size q) hb) (Nat.lt_irrefl _)
section
variable {P : Program} {w : World} {A : Around} {E : Value → Shared → Prop} {s : Shared}
/-- set.__new__ with an argument -/
theorem new_led1 (a : Value) {Q : Value → Shared → Prop} (h : Q (.ref s.heap.objs.size) { s with heap := s.heap.push (freshO w) }) : codeAny (model P w) A (.call (.builtin "set.__new__") ⟨[.type "set", a], []⟩) (wants Q E) s := by
  refine codeAny_of_tree ?_
  show wpAny _ A.in1 (checkBuiltinCall "set.__new__" ⟨[.type "set", a], []⟩ >>= fun _ => again (.builtin "set.__new__" ⟨[.type "set", a], []⟩)) _ _ s
  refine wpAny_bind (wpAny_of_eq (F.newCall_set_1 a) (wpAny_pure ⟨plainId_quiet F.plain_set_new _, codeAny_builtin F.entry_set_new ?_⟩))
  rw [Around.under_plainId F.plain_set_new _]
  have self := sub_set_self
  obtain ⟨hp, gs, d, tk, os⟩ := s
  unfold Builtin.«set.__new__» Builtin.Frozenset.newClass
  dsimp only
  wp_walk
  refine wpAny_askSetting (wpAny_pure ?_)
  simp only [newObj]
  exact wpAny_bind (wpAny_alloc (wpAny_pure (wpAny_pure h)))

/-- set(xs), xs a list -/
theorem set_of_list {l : Addr} {items : Array Value} {AU : Nat} {Q : Value → Shared → Prop} (hh : A.handled = none) (hl : s.heap.IsList l items) {J : Nat → Heap → Prop}
    (g : ∀ A : Around, A.handled = none → A.units ≤ AU → Grows P w A s.heap.objs.size s.heap items.size (fun i v => items[i]? = some v) J) (hu : A.in1.in1.in1.units ≤ AU) (j0 : ∀ h : Heap, h.get? s.heap.objs.size = some (freshO w) → (∀ b o, s.heap.get? b = some o → h.get? b = some o) → J 0 h)
    (fin : ∀ (h' : Heap) (tk : Nat), J items.size h' → (∀ b o, s.heap.get? b = some o → h'.get? b = some o) → Q (.ref s.heap.objs.size) { s with heap := h', toks := tk }) :
    wpAny (model P w) A (call (.type "set") [.ref l]) Q E s := by
  obtain ⟨c, tl, hmro⟩ := F.called_set.mro
  have made := F.called_set.made
  have sub := F.called_set.sub
  refine wpAny_call (codeAny_of_tree ?_)
  show wpAny _ _ (callAny (.type "set") _) _ _ _
  refine wpAny_pure ⟨Code.quiet_builtin _ (by decide +kernel), codeAny_builtin F.entry_type_call ?_⟩
  rw [Around.under_plain (weight_type_call_type "set" [.ref l] []) rfl]
  have nt := F.called_set.notType
  have cc := F.called_set.canCreate
  have tc := F.typeCall_set_1 (.ref l)
  repeat (any_goals (first | assumption | wp_step))
  refine codeAny_mono (new_led1 (.ref l) (E := E) (Q := fun o s1 => o = .ref s.heap.objs.size ∧ s1 = { s with heap := s.heap.push (freshO w) }) ⟨rfl, rfl⟩) fun r s1 hr => ?_
  cases r with
  | error e => exact hr
  | ok fl =>
    cases fl with
    | ret o =>
      obtain ⟨rfl, rfl⟩ := hr
      have gS : (s.heap.push (freshO w)).get? s.heap.objs.size = some (freshO w) := Heap.get?_push_size _ rfl
      have tS : Shared.TypeIs { s with heap := s.heap.push (freshO w) } (.ref s.heap.objs.size) "set" := ⟨_, gS, rfl⟩
      have li := F.called_set.init.lookup
      have bi := F.called_set.init.bind (.ref s.heap.objs.size)
      repeat (any_goals (first | assumption | wp_step))
      refine codeAny_mono (codeAny_call_builtin (R := wants (fun r s2 => r = .none ∧ ∃ h' tk, s2 = { s with heap := h', toks := tk } ∧ J items.size h' ∧ ∀ b o, s.heap.get? b = some o → h'.get? b = some o) E) F.called_set.init.plain F.entry_set_init (check_set_init_1 tS ?_)) fun r2 s2 hr2 => ?_
      · obtain ⟨ol, gl, cl, nl, dl⟩ := hl
        obtain ⟨oc, od, ot, os⟩ := ol
        simp only at cl dl
        subst cl
        subst dl
        have gl1 : (s.heap.push (freshO w)).get? l = some { cls := .type "list", dict := od, data := .seq items nl, slots := os } := Heap.get?_push_of_some _ gl
        have n1 := F.sub_list_set
        have n2 := F.sub_list_frozenset
        have n3 : (Value.type "list" == Value.type "dict") = false := by decide
        have L1 : (s.heap.push (freshO w)).IsList l items := ⟨_, gl1, rfl, nl, rfl⟩
        unfold Builtin.«set.__init__» noKeywords Builtin.Frozenset.updateFrom
        generalize eP : pyIter = PI
        wp_walk
        subst eP
        refine wpAny_pyIter_list L1 ?_
        refine wpAny_bind (wpAny_runValue ?_)
        have lt : l < s.heap.objs.size := Heap.lt_size gl
        have hh3 : A.in1.in1.in1.handled = none := by simp [hh]
        have z1 : (s.heap.push (freshO w)).objs.size = s.heap.objs.size + 1 := Heap.size_push ..
        have ne : l ≠ (s.heap.push (freshO w)).objs.size := by rw [z1]; exact Nat.ne_of_lt (Nat.lt_succ_of_lt lt)
        have nf : s.heap.objs.size ∉ [(s.heap.push (freshO w)).objs.size, l] := by
          rw [z1]
          simp only [List.mem_cons, List.not_mem_nil, or_false, not_or]
          exact ⟨Nat.ne_of_lt (Nat.lt_succ_self _), Nat.ne_of_gt lt⟩
        refine set_grows ((Walks.list hh3 _ l ne items).toS) s.heap.objs.size nf s.heap (gone (Nat.le_refl _)) (fun b hb => gone (by rw [List.mem_singleton.mp hb, z1]; exact Nat.le_succ _)) ?_ (items.size - 0) 0 _ (by omega) (Nat.zero_le _)
          ⟨⟨_, Heap.get?_push_size _ rfl, rfl, rfl⟩, (L1.push _)⟩ (fun b o e => Heap.get?_push_of_some _ (Heap.get?_push_of_some _ e)) (j0 _ (Heap.get?_push_of_some _ gS) fun b o e => Heap.get?_push_of_some _ (Heap.get?_push_of_some _ e)) ?_
        · exact g _ hh3 hu
        · intro s' m J2 k2
          obtain ⟨h', g2, d', tk', os'⟩ := s'
          obtain rfl : g2 = s.gens := m.gens
          obtain rfl : d' = s.drawn := m.drawn
          obtain rfl : os' = s.os := m.os
          show wpAny _ _ _ _ _ _
          refine wpAny_pure ?_
          show wpAny _ _ (ret Value.none) _ _ _
          exact wpAny_pure ⟨rfl, h', tk', rfl, J2, k2⟩
      · cases r2 with
        | error e => exact hr2
        | ok fl2 =>
          cases fl2 with
          | ret r =>
            obtain ⟨rfl, h', tk, rfl, J2, k2⟩ := hr2
            repeat (any_goals (first | assumption | wp_step))
            exact fin _ _ J2 k2
          | _ => exact hr2.elim
    | _ => exact hr.elim

/-- set(xs), xs a tuple -/
theorem set_of_tuple {l : Addr} {items : Array Value} {AU : Nat} {Q : Value → Shared → Prop} (hh : A.handled = none) (hl : s.heap.IsTuple l items) {J : Nat → Heap → Prop}
    (g : ∀ A : Around, A.handled = none → A.units ≤ AU → Grows P w A s.heap.objs.size s.heap items.size (fun i v => items[i]? = some v) J) (hu : A.in1.in1.in1.units ≤ AU) (j0 : ∀ h : Heap, h.get? s.heap.objs.size = some (freshO w) → (∀ b o, s.heap.get? b = some o → h.get? b = some o) → J 0 h)
    (fin : ∀ (h' : Heap) (tk : Nat), J items.size h' → (∀ b o, s.heap.get? b = some o → h'.get? b = some o) → Q (.ref s.heap.objs.size) { s with heap := h', toks := tk }) :
    wpAny (model P w) A (call (.type "set") [.ref l]) Q E s := by
  obtain ⟨c, tl, hmro⟩ := F.called_set.mro
  have made := F.called_set.made
  have sub := F.called_set.sub
  refine wpAny_call (codeAny_of_tree ?_)
  show wpAny _ _ (callAny (.type "set") _) _ _ _
  refine wpAny_pure ⟨Code.quiet_builtin _ (by decide +kernel), codeAny_builtin F.entry_type_call ?_⟩
  rw [Around.under_plain (weight_type_call_type "set" [.ref l] []) rfl]
  have nt := F.called_set.notType
  have cc := F.called_set.canCreate
  have tc := F.typeCall_set_1 (.ref l)
  repeat (any_goals (first | assumption | wp_step))
  refine codeAny_mono (new_led1 (.ref l) (E := E) (Q := fun o s1 => o = .ref s.heap.objs.size ∧ s1 = { s with heap := s.heap.push (freshO w) }) ⟨rfl, rfl⟩) fun r s1 hr => ?_
  cases r with
  | error e => exact hr
  | ok fl =>
    cases fl with
    | ret o =>
      obtain ⟨rfl, rfl⟩ := hr
      have gS : (s.heap.push (freshO w)).get? s.heap.objs.size = some (freshO w) := Heap.get?_push_size _ rfl
      have tS : Shared.TypeIs { s with heap := s.heap.push (freshO w) } (.ref s.heap.objs.size) "set" := ⟨_, gS, rfl⟩
      have li := F.called_set.init.lookup
      have bi := F.called_set.init.bind (.ref s.heap.objs.size)
      repeat (any_goals (first | assumption | wp_step))
      refine codeAny_mono (codeAny_call_builtin (R := wants (fun r s2 => r = .none ∧ ∃ h' tk, s2 = { s with heap := h', toks := tk } ∧ J items.size h' ∧ ∀ b o, s.heap.get? b = some o → h'.get? b = some o) E) F.called_set.init.plain F.entry_set_init (check_set_init_1 tS ?_)) fun r2 s2 hr2 => ?_
      · obtain ⟨ol, gl, cl, nl, dl⟩ := hl
        obtain ⟨oc, od, ot, os⟩ := ol
        simp only at cl dl
        subst cl
        subst dl
        have gl1 : (s.heap.push (freshO w)).get? l = some { cls := .type "tuple", dict := od, data := .seq items nl, slots := os } := Heap.get?_push_of_some _ gl
        have n1 := F.sub_tuple_set
        have n2 := F.sub_tuple_frozenset
        have n3 : (Value.type "tuple" == Value.type "dict") = false := by decide
        have L1 : (s.heap.push (freshO w)).IsTuple l items := ⟨_, gl1, rfl, nl, rfl⟩
        unfold Builtin.«set.__init__» noKeywords Builtin.Frozenset.updateFrom
        generalize eP : pyIter = PI
        wp_walk
        subst eP
        refine wpAny_pyIter_tuple L1 ?_
        refine wpAny_bind (wpAny_runValue ?_)
        have lt : l < s.heap.objs.size := Heap.lt_size gl
        have hh3 : A.in1.in1.in1.handled = none := by simp [hh]
        have z1 : (s.heap.push (freshO w)).objs.size = s.heap.objs.size + 1 := Heap.size_push ..
        have ne : l ≠ (s.heap.push (freshO w)).objs.size := by rw [z1]; exact Nat.ne_of_lt (Nat.lt_succ_of_lt lt)
        have nf : s.heap.objs.size ∉ [(s.heap.push (freshO w)).objs.size, l] := by
          rw [z1]
          simp only [List.mem_cons, List.not_mem_nil, or_false, not_or]
          exact ⟨Nat.ne_of_lt (Nat.lt_succ_self _), Nat.ne_of_gt lt⟩
        refine set_grows ((Walks.tuple hh3 _ l ne items).toS) s.heap.objs.size nf s.heap (gone (Nat.le_refl _)) (fun b hb => gone (by rw [List.mem_singleton.mp hb, z1]; exact Nat.le_succ _)) ?_ (items.size - 0) 0 _ (by omega) (Nat.zero_le _)
          ⟨⟨_, Heap.get?_push_size _ rfl, rfl, rfl⟩, (L1.push _)⟩ (fun b o e => Heap.get?_push_of_some _ (Heap.get?_push_of_some _ e)) (j0 _ (Heap.get?_push_of_some _ gS) fun b o e => Heap.get?_push_of_some _ (Heap.get?_push_of_some _ e)) ?_
        · exact g _ hh3 hu
        · intro s' m J2 k2
          obtain ⟨h', g2, d', tk', os'⟩ := s'
          obtain rfl : g2 = s.gens := m.gens
          obtain rfl : d' = s.drawn := m.drawn
          obtain rfl : os' = s.os := m.os
          show wpAny _ _ _ _ _ _
          refine wpAny_pure ?_
          show wpAny _ _ (ret Value.none) _ _ _
          exact wpAny_pure ⟨rfl, h', tk', rfl, J2, k2⟩
      · cases r2 with
        | error e => exact hr2
        | ok fl2 =>
          cases fl2 with
          | ret r =>
            obtain ⟨rfl, h', tk, rfl, J2, k2⟩ := hr2
            repeat (any_goals (first | assumption | wp_step))
            exact fin _ _ J2 k2
          | _ => exact hr2.elim
    | _ => exact hr.elim
end
end M
/-! MR: sets of ints and texts: what they hold. -/
namespace M
open PySem PySem.Spec PyProof.Rows L2

/-- each once, as it is met -/
def met {κ : Type} [DecidableEq κ] (acc : List κ) (k : κ) : List κ := if k ∈ acc then acc else acc ++ [k]
def once {κ : Type} [DecidableEq κ] (ks : List κ) : List κ := ks.foldl met []
section
variable {κ : Type} [DecidableEq κ]
theorem met_nodup {acc : List κ} {k : κ} (h : acc.Nodup) : (met acc k).Nodup := by
  unfold met
  split
  · exact h
  · rename_i hk
    rw [List.nodup_append]
    exact ⟨h, by simp, fun a ha b hb => by simp at hb; subst hb; intro e; subst e; exact hk ha⟩
theorem met_mem {acc : List κ} {k x : κ} : x ∈ met acc k ↔ x ∈ acc ∨ x = k := by
  unfold met
  split
  · rename_i h
    exact ⟨.inl, fun z => z.elim id fun e => e ▸ h⟩
  · simp
theorem met_len (acc : List κ) (k : κ) : (met acc k).length ≤ acc.length + 1 := by
  unfold met
  split
  · omega
  · simp
theorem once_snoc (ks : List κ) (k : κ) : once (ks ++ [k]) = met (once ks) k := by
  unfold once
  rw [List.foldl_append]
  rfl
theorem once_nodup (ks : List κ) : (once ks).Nodup := by
  have : ∀ (l acc : List κ), acc.Nodup → (l.foldl met acc).Nodup := fun l => by
    induction l with
    | nil => exact fun _ h => h
    | cons x l ih => exact fun acc h => ih _ (met_nodup h)
  exact this ks [] List.nodup_nil
theorem once_mem {ks : List κ} {x : κ} : x ∈ once ks ↔ x ∈ ks := by
  have : ∀ (l acc : List κ), x ∈ l.foldl met acc ↔ x ∈ acc ∨ x ∈ l := fun l => by
    induction l with
    | nil => simp
    | cons y l ih =>
      intro acc
      rw [List.foldl_cons, ih, met_mem]
      simp only [List.mem_cons]
      exact ⟨fun z => z.elim (fun z => z.elim .inl fun e => .inr (.inl e)) fun z => .inr (.inr z), fun z => z.elim (fun z => .inl (.inl z)) fun z => z.elim (fun e => .inl (.inr e)) .inr⟩
  unfold once
  simpa using this ks []
theorem once_len (ks : List κ) : (once ks).length ≤ ks.length := by
  have : ∀ (l acc : List κ), (l.foldl met acc).length ≤ acc.length + l.length := fun l => by
    induction l with
    | nil => simp
    | cons y l ih =>
      intro acc
      have h1 := ih (met acc y)
      have h2 := met_len acc y
      rw [List.foldl_cons]
      simp only [List.length_cons]
      omega
  unfold once
  simpa using this ks []
end

def kyOf (e : Int × Value) : Key := match e.2 with
  | .int i _ => .inl i
  | .str x _ => .inr x
  | _ => .inl 0
def GdM (P : Program) (w : World) (e : Int × Value) : Prop := ∃ k, RelV (kV k) e.2 ∧ e.1 = (mixKind P w).hash k
theorem ky_of {k : Key} {e : Int × Value} (h : RelV (kV k) e.2) : kyOf e = k := by
  unfold kyOf
  cases k with
  | inl i => obtain ⟨t, e⟩ := h; rw [e]
  | inr x => obtain ⟨t, e⟩ := h; rw [e]
/-- a set of ints and texts -/
def SetM (P : Program) (w : World) (h : Heap) (a : Addr) (ks : List Key) : Prop :=
  ∃ o es ep t, h.get? a = some o ∧ o.ExactSet ∧ o.data = .set es ep t ∧ (∀ e ∈ es.toList, GdM P w e) ∧ (es.toList.map kyOf).Perm ks ∧ ks.Nodup ∧
    es.size < scanBound ∧ t.fits es.size = true ∧ Ris t.place.toList ∧ (w.params.followText "set-order" = true ∨ t.led = true)
section
variable {P : Program} {w : World} {A : Around} {E : Value → Shared → Prop} {s : Shared} {a : Addr} {ks : List Key}
theorem SetM.at {h h' : Heap} (R : SetM P w h a ks) (k : ∀ o, h.get? a = some o → h'.get? a = some o) : SetM P w h' a ks := by
  obtain ⟨o, es, ep, t, ho, r⟩ := R
  exact ⟨o, es, ep, t, k o ho, r⟩
theorem gdM_el {l : List (Int × Value)} (g : ∀ e ∈ l, GdM P w e) : ElemsOf (mixKind P w) l := fun e he => by
  obtain ⟨k, h1, h2⟩ := g e he
  exact ⟨⟨k, kV_is h1, h2⟩, key_scan h1⟩
theorem gdM_is {e : Int × Value} (g : GdM P w e) (k : Key) : (mixKind P w).is k e.2 = true ↔ kyOf e = k := by
  obtain ⟨k0, h1, _⟩ := g
  rw [ky_of h1, KeyKind.is_eq_decide (knd := mixKind P w) (kV_is h1), decide_eq_true_eq]
  exact eq_comm
theorem fresh_M {h : Heap} (ho : h.get? a = some (freshO w)) : SetM P w h a [] :=
  ⟨_, #[], 0, _, ho, ⟨rfl, rfl, rfl⟩, rfl, fun e he => by simp at he, .refl _, .nil, by decide, by rfl, List.Pairwise.nil, by
    show _ ∨ (!w.params.followText "set-order") = true
    cases w.params.followText "set-order"
    · exact .inr rfl
    · exact .inl rfl⟩
/-- what is stored behind a new element -/
theorem tail_M {g : Bool → Sem Unit} (hg : ∀ (b : Bool) (s1 : Shared) (Q : Unit → Shared → Prop), Q () s1 → wpAny (model P w) A (g b) Q E s1) {o : Obj} {es : Array (Int × Value)} {ep : Nat} {t : SetTable} (ho : s.heap.get? a = some o) (hex : o.ExactSet) (hd : o.data = .set es ep t)
    {es1 : Array (Int × Value)} {t2 : SetTable} (g1 : ∀ e ∈ es1.toList, GdM P w e) (pm1 : (es1.toList.map kyOf).Perm ks) (nd : ks.Nodup) (b1 : es1.size < scanBound) (f2 : t2.fits es1.size = true) (r2 : Ris t2.place.toList) (l2 : w.params.followText "set-order" = true ∨ t2.led = true) {dm : Bool} {R : Option Bool → Shared → Prop}
    (hR : ∀ h', Heap.SameBut a s.heap h' → SetM P w h' a ks → R (some true) { s with heap := h' }) :
    wpAny (model P w) A (do
        storeSet a es1 t2
        if (!dm && t2.tooFull) = true then do
            g (relayAll t2 es1 (SetTable.grown es1.size)).2.2
            storeSet a (relayAll t2 es1 (SetTable.grown es1.size)).1 (relayAll t2 es1 (SetTable.grown es1.size)).2.1
            pure (some true)
          else pure (some true)) R E s := by
  refine wpAny_bind (wpAny_storeSet_of ho hd ?_ (fits_of_scanBound b1))
  have o1 := store_at (es' := es1) (t' := t2) ho hd
  have sb := Heap.SameBut.update s.heap a (Obj.putSet es1 t2)
  split
  · have pm := relayAll_perm t2 es1 (SetTable.grown es1.size)
    have f3 := relayAll_fits t2 es1 (SetTable.grown es1.size)
    have r3 := relayAll_ris t2 es1 (SetTable.grown es1.size)
    have l3 := relayAll_led t2 es1 (SetTable.grown es1.size)
    generalize relayAll t2 es1 (SetTable.grown es1.size) = Z at pm f3 r3 l3 ⊢
    obtain ⟨es2, t3, gave⟩ := Z
    dsimp only at pm f3 r3 l3 ⊢
    have hz : es2.size = es1.size := by rw [← Array.length_toList, pm.length_eq, Array.length_toList]
    have b2 : es2.size < scanBound := by rw [hz]; exact b1
    refine wpAny_bind (hg _ _ _ ?_)
    refine wpAny_bind (wpAny_storeSet_of o1 rfl ?_ (fits_of_scanBound b2))
    exact wpAny_pure (hR _ (sb.trans (Heap.SameBut.update _ a _)) ⟨_, es2, _, t3, store_at (es' := es2) (t' := t3) o1 rfl, hex, rfl, fun e he => g1 e (pm.mem_iff.mp he), (pm.map kyOf).trans pm1, nd, b2, f3, r3, l2.imp id fun z => by rw [l3]; exact z⟩)
  · exact wpAny_pure (hR _ sb ⟨_, es1, _, t2, o1, hex, rfl, g1, pm1, nd, b1, f2, r2, l2⟩)
theorem hashed_M {k : Key} {x : Value} {Q : Bool → Shared → Prop} (R : SetM P w s.heap a ks) (hx : RelV (kV k) x) (room : ks.length + 1 < scanBound) (hQ : ∀ b h', Heap.SameBut a s.heap h' → SetM P w h' a (met ks k) → Q b { s with heap := h' }) :
    wpAny (model P w) A (setAddHashed a x ((mixKind P w).hash k)) Q E s := by
  obtain ⟨o, es, ep, t, ho, hex, hd, g, pm, nd, hb, hf, hr, hl⟩ := R
  have isk := kV_is (P := P) (w := w) hx
  have sc := key_scan hx
  have el : ElemsOf (mixKind P w) es.toList := gdM_el g
  unfold setAddHashed setAddHashedIn
  refine wpAny_holding (wpAny_bind (wpAny_setState_of ho hd hf ?_))
  dsimp only
  rw [byScan_of sc hb el]
  simp only [↓reduceIte]
  unfold setAddByScan
  refine wpAny_bind ?_
  refine wpAny_bind (wpAny_rule ?_)
  refine wpAny_bind (wpAny_setScan_of isk ho hd hf el ?_)
  cases fi : List.findIdx? (fun e => (mixKind P w).is k e.2) es.toList with
  | some j =>
    dsimp only
    obtain ⟨hj, pj, _⟩ := List.findIdx?_eq_some_iff_getElem.mp fi
    have hk : k ∈ ks := pm.mem_iff.mp (List.mem_map.mpr ⟨es.toList[j], List.getElem_mem hj, (gdM_is (g _ (List.getElem_mem hj)) k).mp pj⟩)
    refine wpAny_pure (wpAny_pure ?_)
    have e : met ks k = ks := if_pos hk
    exact hQ _ s.heap (Heap.SameBut.refl a s.heap) (by rw [e]; exact ⟨o, es, ep, t, ho, hex, hd, g, pm, nd, hb, hf, hr, hl⟩)
  | none =>
    dsimp only
    have nk : k ∉ ks := fun z => by
      obtain ⟨e, he, q⟩ := List.mem_map.mp (pm.mem_iff.mpr z)
      have c := List.findIdx?_eq_none_iff.mp fi e he
      rw [(gdM_is (g e he) k).mpr q] at c
      cases c
    have e0 : met ks k = ks ++ [k] := if_neg nk
    have gw : ∀ (b : Bool) {s1 : Shared} {Q' : Unit → Shared → Prop}, Q' () s1 → wpAny (model P w) A (match b with | true => rule "set.scan.the-table-gave-way" | false => pure ()) Q' E s1 :=
      fun b s1 Q' q => by cases b <;> first | exact wpAny_pure q | exact wpAny_rule q
    have pn := layNew_perm t es ((mixKind P w).hash k) x
    have fn := layNew_fits t es ((mixKind P w).hash k) x
    have rn := layNew_ris t es ((mixKind P w).hash k) x hr
    have ln := layNew_led t es ((mixKind P w).hash k) x
    generalize layNew t es ((mixKind P w).hash k) x = Z at pn fn rn ln ⊢
    obtain ⟨es1, t1, dm, gave⟩ := Z
    dsimp only at pn fn rn ln ⊢
    rw [Array.toList_push] at pn
    have g1 : ∀ e ∈ es1.toList, GdM P w e := fun e he => by
      rcases List.mem_append.mp (pn.mem_iff.mp he) with z | z
      · exact g e z
      · rw [List.mem_singleton.mp z]; exact ⟨k, hx, rfl⟩
    have pm1 : (es1.toList.map kyOf).Perm (met ks k) := by
      rw [e0]
      refine (pn.map kyOf).trans ?_
      rw [List.map_append]
      refine pm.append ?_
      rw [List.map_cons, List.map_nil, ky_of (e := ((mixKind P w).hash k, x)) hx]
    have nd1 := met_nodup (k := k) nd
    have hz : es1.size = ks.length + 1 := by rw [← Array.length_toList, ← List.length_map (f := kyOf), pm1.length_eq, e0]; simp
    have b1 : es1.size < scanBound := by rw [hz]; exact room
    have ld : w.params.followText "set-order" = true ∨ t1.led = true := hl.imp id fun z => by rw [ln]; exact z
    refine wpAny_bind (gw _ ?_)
    split
    · refine wpAny_bind ?_
      rw [hashByValue_scannable 8 sc]
      refine wpAny_pure ?_
      refine tail_M ?_ ho hex hd g1 pm1 nd1 b1 ?_ ?_ ?_ ?_
      · intro b s1 Q' q; cases b <;> first | exact wpAny_pure q | exact wpAny_rule q
      · first | (split <;> first | exact fn | exact SetTable.fits_plain_off fn) | exact fn
      · first | (split <;> exact rn) | exact rn
      · first | (split <;> exact ld) | exact ld
      · intro h' sb r; dsimp only; exact wpAny_pure (hQ _ h' sb r)
    · refine wpAny_bind (wpAny_pure ?_)
      simp only [↓reduceIte]
      refine tail_M ?_ ho hex hd g1 pm1 nd1 b1 fn rn ld ?_
      · intro b s1 Q' q; cases b <;> first | exact wpAny_pure q | exact wpAny_rule q
      · intro h' sb r; dsimp only; exact wpAny_pure (hQ _ h' sb r)
theorem grows_M {S : Addr} {h0 : Heap} {items : Array Value} {kl : List Key} (hr : Vals (kl.map kV) items.toList) (few : kl.length + 1 < scanBound) : Grows P w A S h0 items.size (fun i v => items[i]? = some v) (fun i h => SetM P w h S (once (kl.take i))) where
  keep := fun i h h' J k _ => J.at k
  add := fun i v s Q E hi hv J _ fin => by
    have hl : kl.length = items.size := by
      have := hr.length
      rw [List.length_map, Array.length_toList] at this
      exact this
    have e1 : kl[i]? = some (kl[i]'(by omega)) := List.getElem?_eq_getElem (by omega)
    obtain ⟨u, hu, ru⟩ := hr.get (i := i) (x := kV (kl[i]'(by omega))) (by rw [List.getElem?_map, e1]; rfl)
    have ev : u = v := by
      rw [Array.getElem?_toList, hv] at hu
      exact (Option.some.inj hu).symm
    subst ev
    unfold setAdd
    refine wpAny_holding (wpAny_bind ((mixKind P w).pyHash (kV_is ru) ?_))
    have hn := once_len (kl.take i)
    have hn2 : (kl.take i).length ≤ kl.length := by rw [List.length_take]; exact Nat.min_le_right _ _
    refine hashed_M (s := { s with toks := s.toks + 1 }) J ru (by omega) fun b h' sb J' => ?_
    refine fin b h' _ sb (Nat.le_succ _) ?_
    have : kl.take (i + 1) = kl.take i ++ [kl[i]'(by omega)] := by
      rw [List.take_add_one, e1]
      rfl
    rw [this, once_snoc]
    exact J'
end
end M
/-! MS: sorted(set(xs)), len(set(xs)), of ints and of texts. -/
namespace M
open PySem PySem.Spec PyProof.Rows L2

def kyV : Value → Key
  | .int i _ => .inl i
  | .str x _ => .inr x
  | _ => .inl 0
theorem kyOf_eq (e : Int × Value) : kyOf e = kyV e.2 := rfl
def unL : Key → Int
  | .inl i => i
  | .inr _ => 0
def unR : Key → Str
  | .inl _ => Str.empty
  | .inr x => x
theorem intsAre_ky : ∀ {vs : List Value}, (∀ v ∈ vs, ∃ i t, v = Value.int i t) → IntsAre vs (vs.map fun v => unL (kyV v))
  | [], _ => .nil
  | v :: vs, h => by
    obtain ⟨i, t, rfl⟩ := h v List.mem_cons_self
    exact .cons i t (intsAre_ky fun u hu => h u (List.mem_cons_of_mem _ hu))
theorem strsAre_ky : ∀ {vs : List Value}, (∀ v ∈ vs, ∃ i t, v = Value.str i t) → StrsAre vs (vs.map fun v => unR (kyV v))
  | [], _ => .nil
  | v :: vs, h => by
    obtain ⟨i, t, rfl⟩ := h v List.mem_cons_self
    exact .cons i t (strsAre_ky fun u hu => h u (List.mem_cons_of_mem _ hu))
section
variable {P : Program} {w : World} {A : Around} {E : Value → Shared → Prop} {s : Shared} {a : Addr} {ks : List Key}
/-- what is wanted of the new list -/
abbrev NewAt (s : Shared) (Q : Value → Shared → Prop) (xs : List V) : Prop := ∀ s' p (out : Array Value) (c : Nat), (∀ b o, s.heap.get? b = some o → s'.heap.get? b = some o) → s'.gens = s.gens → s'.os = s.os → s.heap.objs.size ≤ p →
  s'.heap.get? p = some (seqObj "list" out c) → Vals xs out.toList → Q (.ref p) s'
/-- sorted of a set -/
theorem sorted_M {Q : Value → Shared → Prop} (R : SetM P w s.heap a ks) (hh : A.handled = none) (h64 : ks.length < 64)
    (q : (∃ ns : List Int, ks = ns.map Sum.inl ∧ NewAt s Q ((sortI ns).map V.int)) ∨ ∃ ls : List (List Nat), ks = ls.map (fun l => Sum.inr (strOf l)) ∧ NewAt s Q (((sortS ls).map strOf).map V.str)) :
    wpAny (model P w) A (call (.builtin "sorted") [.ref a]) Q E s := by
  obtain ⟨o, es, ep, t, ho, hex, hd, g, pm, nd, hb, hf, hr, hl⟩ := R
  refine Calls.call_function_entry kind_sorted plain_sorted entry_sorted (args_sorted1 _) ?_
  unfold Builtin.«sorted»
  refine wpAny_bind (m := checkCount "sorted" 1 1 _) (wpAny_pure ?_)
  refine wpAny_bind (collect_set (A := A.in1) hh ⟨o, ho, hex.1, hd⟩ hf hb hr hl fun s1 vs k1 hz g1 o1 pv => ?_)
  have pk : (vs.map kyV).Perm ks := by
    refine (pv.map kyV).trans ?_
    rw [List.map_map]
    exact pm
  have hvl : vs.length = ks.length := by rw [← List.length_map (f := kyV), pk.length_eq]
  have shape : ∀ v ∈ vs, RelV (kV (kyV v)) v ∧ kyV v ∈ ks := fun v hv => by
    refine ⟨?_, pk.mem_iff.mp (List.mem_map_of_mem hv)⟩
    obtain ⟨e, he, rfl⟩ := List.mem_map.mp (pv.mem_iff.mp hv)
    obtain ⟨k, h1, _⟩ := g e he
    rw [← kyOf_eq, ky_of h1]
    exact h1
  rcases q with ⟨ns, rfl, q⟩ | ⟨ls, rfl, q⟩
  · have hI : IntsAre vs (vs.map fun v => unL (kyV v)) := intsAre_ky fun v hv => by
      obtain ⟨h1, h2⟩ := shape v hv
      obtain ⟨i, _, e⟩ := List.mem_map.mp h2
      rw [← e] at h1
      obtain ⟨t, h1⟩ := h1
      exact ⟨i, t, h1⟩
    have pI : (vs.map fun v => unL (kyV v)).Perm ns := by
      have := pk.map unL
      rw [List.map_map, List.map_map] at this
      simpa [Function.comp_def, unL] using this
    refine wpAny_bind (wpAny_newList ?_ (by rw [hvl, sizeLine_eq]; omega))
    have hoL : (s1.heap.push (seqObj "list" vs.toArray 0)).get? s1.heap.objs.size = some (seqObj "list" vs.toArray 0) := Heap.get?_push_size _ rfl
    refine wpAny_bind (wpAny_holding (wpAny_call_entry slot_list_sort ⟨_, hoL, rfl⟩ entry_list_sort (list_sort_tree hoL hI (by rw [hvl]; exact h64) fun out ns' a1 a2 a3 => ⟨_, rfl, ?_⟩) (args_list_sort _)))
    obtain ⟨c, hc⟩ := sortedHeap_at (vs := vs) (out := out) hoL
    rw [sortedI_uniq (a2.trans pI) a3] at a1
    refine wpAny_pure ⟨_, rfl, q _ s1.heap.objs.size out c (fun b u e => ?_) g1 o1 hz hc (vals_of_ints a1)⟩
    have f := k1 b u e
    have lt := Heap.lt_size f
    show (sortedHeap (s1.heap.push (seqObj "list" vs.toArray 0)) s1.heap.objs.size vs out).get? b = some u
    rw [sortedHeap_old (Nat.ne_of_lt lt) (by rw [size_push']; exact Nat.lt_succ_of_lt lt)]
    exact Heap.get?_push_of_some _ f
  · have hS : StrsAre vs (vs.map fun v => unR (kyV v)) := strsAre_ky fun v hv => by
      obtain ⟨h1, h2⟩ := shape v hv
      obtain ⟨i, _, e⟩ := List.mem_map.mp h2
      rw [← e] at h1
      obtain ⟨t, h1⟩ := h1
      exact ⟨_, t, h1⟩
    have pS : (vs.map fun v => unR (kyV v)).Perm (ls.map strOf) := by
      have := pk.map unR
      rw [List.map_map, List.map_map] at this
      simpa [Function.comp_def, unR] using this
    refine wpAny_bind (wpAny_newList ?_ (by rw [hvl, sizeLine_eq]; omega))
    have hoL : (s1.heap.push (seqObj "list" vs.toArray 0)).get? s1.heap.objs.size = some (seqObj "list" vs.toArray 0) := Heap.get?_push_size _ rfl
    refine wpAny_bind (wpAny_holding (wpAny_call_entry slot_list_sort ⟨_, hoL, rfl⟩ entry_list_sort
      (list_sort_treeK strKind_oneLt hoL hS.keysOf (fun v1 v2 rest e => keyKind_strs (by rw [← e]; exact hS)) (by rw [hvl]; exact h64) fun st' hp hs => ⟨_, rfl, ?_⟩) (args_list_sort _)))
    obtain ⟨ys, b1, b2, b3⟩ := sorted_out_str hS hp hs
    obtain ⟨c, hc⟩ := sortedHeap_at (vs := vs) (out := (arrOf st').map (·.2)) hoL
    rw [sorted_uniq (b2.trans pS) b3] at b1
    refine wpAny_pure ⟨_, rfl, q _ s1.heap.objs.size _ c (fun b u e => ?_) g1 o1 hz hc (vals_of_strs b1)⟩
    have f := k1 b u e
    have lt := Heap.lt_size f
    show (sortedHeap (s1.heap.push (seqObj "list" vs.toArray 0)) s1.heap.objs.size vs ((arrOf st').map (·.2))).get? b = some u
    rw [sortedHeap_old (Nat.ne_of_lt lt) (by rw [size_push']; exact Nat.lt_succ_of_lt lt)]
    exact Heap.get?_push_of_some _ f
end

/-! ### over the layer -/
def SetMO (P : Program) (w : World) (a : Addr) (ks : List Key) : HO := .ext fun h => SetM P w h a ks
theorem setMO_new {P : Program} {w : World} {H : Hp} {h : Heap} {a : Addr} {ks : List Key} (R : SetM P w h a ks) : ObjOk P w H h a (SetMO P w a ks) := by
  have ⟨o, _, _, _, ho, _⟩ := R
  exact ⟨R, ⟨o, ho⟩, fun h1 h2 p k => SetM.at p k⟩
section
variable {X : Cx}
/-- set(xs) -/
def rSetM (K : PySem.W.Frag) (P : Program) (w : World) : List V → Hp → VK → Prop := fun xs H Q => ∃ (l : Addr) (ks : List Key), xs = [V.ref l] ∧ (SqL K H l (ks.map kV) ∨ SqT K H l (ks.map kV)) ∧ ks.length ≤ 1000 ∧
  ∀ p, H p = none → Q (.ref p) (upd H p (SetMO P w p (once ks)))
theorem cr_setM (hc : X.calm = true) : CallR X (.type "set") (rSetM X.K X.prog X.w) := by
  intro pins s σ H xs us Q I r h
  obtain ⟨l, ks, rfl, hl, hf, q⟩ := h
  rw [Vals.ref1 r]
  have hn : H s.heap.objs.size = none := I.hok.fresh (Nat.le_refl _)
  have fin : ∀ (n : Nat) (h' : Heap) (tk : Nat), ks.length = n → SetM X.prog X.w h' s.heap.objs.size (once (ks.take n)) → (∀ b o, s.heap.get? b = some o → h'.get? b = some o) → EP X pins σ Q (.ref s.heap.objs.size) { s with heap := h', toks := tk } := fun n h' tk hl R k => by
    subst hl
    rw [List.take_length] at R
    exact ⟨.ref s.heap.objs.size, upd H s.heap.objs.size (SetMO X.prog X.w s.heap.objs.size (once ks)), I.laid (t' := tk) k (Nat.le_refl _) (setMO_new R), rfl, q _ hn⟩
  rcases hl with hl | hl
  · obtain ⟨its, rv, pl, hz⟩ := I.list hl
    have hlen : ks.length = its.toArray.size := by rw [List.size_toArray, ← rv.length, List.length_map]
    refine set_of_list (AU := X.A.in1.in1.in1.units) (I.ok.hd hc) pl.isList (J := fun i h => SetM X.prog X.w h s.heap.objs.size (once (ks.take i))) (fun A _ _ => grows_M (by simpa using rv) (by unfold scanBound; omega)) (Nat.le_refl _) (fun h e _ => fresh_M e) fun h' tk J k => fin _ h' tk hlen J k
  · obtain ⟨its, rv, pl, hz⟩ := I.tuple hl
    have hlen : ks.length = its.toArray.size := by rw [List.size_toArray, ← rv.length, List.length_map]
    refine set_of_tuple (AU := X.A.in1.in1.in1.units) (I.ok.hd hc) pl (J := fun i h => SetM X.prog X.w h s.heap.objs.size (once (ks.take i))) (fun A _ _ => grows_M (by simpa using rv) (by unfold scanBound; omega)) (Nat.le_refl _) (fun h e _ => fresh_M e) fun h' tk J k => fin _ h' tk hlen J k
/-- sorted(set) -/
def rSortedM (P : Program) (w : World) : List V → Hp → VK → Prop := fun vs H Q => ∃ (a : Addr) (ks : List Key), vs = [V.ref a] ∧ H a = some (SetMO P w a ks) ∧ ks.length < 64 ∧
  ((∃ ns : List Int, ks = ns.map Sum.inl ∧ ∀ p, H p = none → Q (.ref p) (upd H p (.lst ((sortI ns).map V.int)))) ∨ ∃ ls : List (List Nat), ks = ls.map (fun l => Sum.inr (strOf l)) ∧ ∀ p, H p = none → Q (.ref p) (upd H p (.lst (((sortS ls).map strOf).map V.str))))
theorem cr_sortedM (hc : X.calm = true) : CallR X (.builtin "sorted") (rSortedM X.prog X.w) := by
  intro pins s σ H vs us Q I r h
  obtain ⟨a, ks, rfl, ha, h64, q⟩ := h
  have R : SetM X.prog X.w s.heap a ks := (I.hok a _ ha).1
  rw [Vals.ref1 r]
  have fin : ∀ xs : List V, xs.length ≤ 64 → (∀ p, H p = none → Q (.ref p) (upd H p (.lst xs))) → NewAt s (EP X pins σ Q) xs := fun xs hx q s' p out c k g o hp hg hv => by
    have hn : H p = none := I.hok.fresh hp
    have J : Inv X pins σ (upd H p (.lst xs)) { s with heap := s'.heap, gens := s'.gens, drawn := s'.drawn, toks := s'.toks } :=
      I.call (ch := []) (Un.laid k hp hn) (I.hok.laid k hp ⟨by rw [sizeLine_eq]; omega, out.toList, c, hv, hg⟩) (by rw [g]; exact I.bare) (fun _ z => nomatch z)
    have e : s' = { s with heap := s'.heap, gens := s'.gens, drawn := s'.drawn, toks := s'.toks } := by
      cases s'
      cases s
      cases o
      rfl
    rw [e]
    exact ⟨.ref p, _, J, rfl, q p hn⟩
  refine sorted_M R (I.ok.hd hc) h64 ?_
  rcases q with ⟨ns, rfl, q⟩ | ⟨ls, rfl, q⟩
  · rw [List.length_map] at h64
    exact .inl ⟨ns, rfl, fin _ (by rw [List.length_map, show (sortI ns).length = ns.length from isort_len ns]; omega) q⟩
  · rw [List.length_map] at h64
    exact .inr ⟨ls, rfl, fin _ (by rw [List.length_map, List.length_map, show (sortS ls).length = ls.length from isort_len ls]; omega) q⟩
/-- len(set) -/
def rLenM (P : Program) (w : World) : List V → Hp → VK → Prop := fun vs H Q => ∃ (a : Addr) (ks : List Key), vs = [V.ref a] ∧ H a = some (SetMO P w a ks) ∧ Q (.int ks.length) H
theorem cr_lenM : CallR X (.builtin "len") (rLenM X.prog X.w) := by
  intro pins s σ H vs us Q I r h
  obtain ⟨a, ks, rfl, ha, q⟩ := h
  obtain ⟨o, es, ep, t, ho, hex, hd, g, pm, nd, hb, hf, hr, hl⟩ : SetM X.prog X.w s.heap a ks := (I.hok a _ ha).1
  rw [Vals.ref1 r]
  have hn : es.size = ks.length := by rw [← Array.length_toList, ← List.length_map (f := kyOf), pm.length_eq]
  have hb' : es.size < 4096 := hb
  exact call_len_set ho hex hd hf (by omega) ⟨.int ks.length, H, I.tok _, ⟨_, by rw [hn]⟩, q⟩
end
end M
/-! M3: sets of tuples of ints and texts. The table's own laws (TabOk, way, relaid_ok) are HandS.TupSets'; here what the heap says. -/
namespace M
open PySem PySem.Spec PyProof.Rows L2

abbrev HT (P : Program) (w : World) (k : List Key) : Int := tupleKeyHash (mixKind P w) k
abbrev IsK (P : Program) (w : World) (h : Heap) (k : List Key) (b : Addr) : Prop := IsTupleKey (mixKind P w) h k b
def ScanV (v : Value) : Prop := (∃ i t, v = Value.int i t) ∨ ∃ x t, v = Value.str x t
theorem scan_items {P : Program} {w : World} {k : List Key} {vs : List Value} (h : ItemsAre (mixKind P w) k vs) : ∀ v ∈ vs, ScanV v := by
  induction h with
  | nil => exact fun _ z => by cases z
  | cons h1 _ ih =>
    intro v hv
    rcases List.mem_cons.mp hv with rfl | hv
    · rcases keyIs_shape h1 with ⟨i, t, _, e⟩ | ⟨x, t, _, e⟩
      · exact .inl ⟨i, t, e⟩
      · exact .inr ⟨x, t, e⟩
    · exact ih v hv
theorem noClass_scan {v : Value} (n : Nat) (h : ScanV v) : ofAClassStatement n v = pure false := by
  rcases h with ⟨i, t, rfl⟩ | ⟨x, t, rfl⟩ <;> cases n <;> rfl
/-- a state of a search: the c-th -/
abbrev stepOf (m : Nat) (h : Int) (c : Nat) : SetTable.Probe := nth m (runAt m (SetTable.bits h % (m + 1)) (SetTable.bits h)) c
theorem stepOf_add (m : Nat) (h : Int) (c q : Nat) : nth m (stepOf m h c) q = stepOf m h (c + q) := (nth_add m c _ q).symm
theorem stepOf_dummy (m : Nat) (h : Int) : ∀ c, (stepOf m h c).dummy = none := by
  have : ∀ (c : Nat) (p : SetTable.Probe), p.dummy = none → (nth m p c).dummy = none := fun c => by
    induction c with
    | zero => exact fun _ z => z
    | succ c ih =>
      intro p z
      refine ih (adv m p) ?_
      unfold adv
      split <;> exact z
  exact fun c => this c _ rfl
section
variable {P : Program} {w : World} {A : Around} {E : Value → Shared → Prop} {s : Shared}
theorem noClass_tup {k : List Key} {b : Addr} {Q : Bool → Shared → Prop} (hk : IsK P w s.heap k b) (q : Q false s) : wpAny (model P w) A (ofAClassStatement 8 (.ref b)) Q E s := by
  have ty := hk.typeIs
  obtain ⟨o, items, n, ho, _, hd, hi⟩ := hk
  unfold ofAClassStatement
  refine wpAny_bind (wpAny_typeOf ty ?_)
  have et : (("tuple" : String) == "tuple") = true := by decide
  dsimp only
  simp only [et, if_true, Bool.not_true, Bool.false_eq_true, if_false]
  try refine wpAny_bind (wpAny_pure ?_)
  try simp only [Bool.not_true, Bool.false_eq_true, if_false]
  show wpAny _ _ (seqItems? (.ref b) >>= fun _ => _) _ _ s
  refine wpAny_bind (wpAny_seqItems ho hd ?_)
  dsimp only
  refine wpAny_bind ?_
  show wpAny _ _ (forIn items _ _) _ _ s
  rw [← Array.forIn_toList]
  refine wpAny_forIn_list _ (fun l r s1 => r.1 = none ∧ s1 = s ∧ ∀ v ∈ l, ScanV v) _ ?_ ?_ _ _ ⟨rfl, rfl, scan_items hi⟩
  · rintro v l r s1 ⟨e, rfl, al⟩
    rw [noClass_scan _ (al v List.mem_cons_self)]
    refine wpAny_bind (wpAny_pure ?_)
    simp only [Bool.false_eq_true, if_false]
    exact wpAny_pure ⟨rfl, rfl, fun u hu => al u (List.mem_cons_of_mem _ hu)⟩
  · rintro ⟨r1, r2⟩ s1 ⟨e, rfl, _⟩
    simp only at e
    subst e
    exact wpAny_pure q
theorem byVal_tup {k : List Key} {b : Addr} {Q : Bool → Shared → Prop} (hk : IsK P w s.heap k b) (q : ∀ r, Q r s) : wpAny (model P w) A (hashByValue 8 (.ref b)) Q E s := by
  have ty := hk.typeIs
  obtain ⟨o, items, n, ho, _, hd, hi⟩ := hk
  unfold hashByValue
  refine wpAny_bind (wpAny_specialOf ty F.slot_tuple_hash.lookup ?_)
  show wpAny _ _ (seqItems? (.ref b) >>= fun _ => _) _ _ s
  refine wpAny_bind (wpAny_seqItems ho hd ?_)
  refine wpAny_bind ?_
  show wpAny _ _ (forIn items _ _) _ _ s
  rw [← Array.forIn_toList]
  refine wpAny_forIn_list _ (fun l r s1 => r.1 = none ∧ s1 = s ∧ ∀ v ∈ l, ScanV v) _ ?_ ?_ _ _ ⟨rfl, rfl, scan_items hi⟩
  · rintro v l r s1 ⟨e, rfl, al⟩
    rcases al v List.mem_cons_self with ⟨i, t, rfl⟩ | ⟨x, t, rfl⟩
    · rw [hashByValue_scannable _ rfl]
      refine wpAny_bind (wpAny_pure ?_)
      simp only [plainKind, Bool.not_true, Bool.false_eq_true, if_false]
      exact wpAny_pure ⟨rfl, rfl, fun u hu => al u (List.mem_cons_of_mem _ hu)⟩
    · rw [hashByValue_scannable _ rfl]
      refine wpAny_bind (wpAny_pure ?_)
      simp only [plainKind, Bool.not_false, if_true]
      exact wpAny_pure (wpAny_pure (q _))
  · rintro ⟨r1, r2⟩ s1 ⟨e, rfl, _⟩
    simp only at e
    subst e
    exact wpAny_pure (q _)
theorem unseen_tup {k : List Key} {b : Addr} {Q : Bool → Shared → Prop} (hk : IsK P w s.heap k b) {ys : List Value} (hy : ∀ y ∈ ys, ∃ k' c, y = Value.ref c ∧ IsK P w s.heap k' c) (q : Q false s) :
    wpAny (model P w) A (searchCouldBeSeen (.ref b) ys) Q E s := by
  unfold searchCouldBeSeen
  refine wpAny_bind ?_
  refine wpAny_forIn_list _ (fun l r s1 => r.1 = none ∧ s1 = s ∧ ∀ y ∈ l, ∃ k' c, y = Value.ref c ∧ IsK P w s.heap k' c) _ ?_ ?_ _ _ ⟨rfl, rfl, hy⟩
  · rintro v l r s1 ⟨e, rfl, al⟩
    obtain ⟨k', c, rfl, hc⟩ := al v List.mem_cons_self
    have al' : ∀ y ∈ l, ∃ k' c, y = Value.ref c ∧ IsK P w s1.heap k' c := fun u hu => al u (List.mem_cons_of_mem _ hu)
    dsimp only
    by_cases hv : (b == c || (carriedByValue (.ref b) && carriedByValue (.ref c))) = true
    · exact wp_if_pos hv (wpAny_pure ⟨rfl, rfl, al'⟩)
    · refine wp_if_neg hv ?_
      refine wpAny_bind (wpAny_eqIsQuiet_tuple hk ?_)
      simp only [Bool.not_true, Bool.false_eq_true, if_false]
      refine wpAny_bind (wpAny_eqIsQuiet_tuple hc ?_)
      simp only [Bool.not_true, Bool.false_eq_true, if_false]
      refine wpAny_bind (noClass_tup hk ?_)
      simp only [Bool.false_eq_true, if_false]
      refine wpAny_bind (noClass_tup hc ?_)
      simp only [Bool.false_eq_true, if_false]
      exact wpAny_pure ⟨rfl, rfl, al'⟩
  · rintro ⟨r1, r2⟩ s1 ⟨e, rfl, _⟩
    simp only at e
    subst e
    exact wpAny_pure q

/-! ### what the set holds -/
abbrev KA := Addr × List Key
def rowT (P : Program) (w : World) (p : KA) : Int × Value := (HT P w p.2, Value.ref p.1)
structure TSet (P : Program) (w : World) (h : Heap) (a : Addr) (L : List KA) (es : Array (Int × Value)) (ep : Nat) (t : SetTable) : Prop where
  ob : ∃ o, h.get? a = some o ∧ o.ExactSet ∧ o.data = .set es ep t
  row : es.toList = L.map (rowT P w)
  tab : TabOk t (L.map fun p => HT P w p.2)
  nd : (L.map (·.2)).Nodup
  tup : ∀ p ∈ L, IsK P w h p.2 p.1
  led : w.params.followText "set-order" = true ∨ t.led = true
  room : L.length * 5 < t.mask * 3
  few : L.length < 64
variable {a : Addr} {L : List KA} {es : Array (Int × Value)} {ep : Nat} {t : SetTable}
theorem rows_size {L : List KA} {es : Array (Int × Value)} (h : es.toList = L.map (rowT P w)) : es.size = L.length := by
  rw [← Array.length_toList, h, List.length_map]
theorem rows_get {L : List KA} {es : Array (Int × Value)} (h : es.toList = L.map (rowT P w)) {i : Nat} {p : KA} (hp : L[i]? = some p) : es[i]? = some (rowT P w p) := by
  rw [← Array.getElem?_toList, h, List.getElem?_map, hp]
  rfl
theorem fits_of' {n : Nat} (h1 : t.place.size = n) (h2 : t.dummies = #[]) (h3 : n ≤ t.mask) : t.fits n = true := by
  unfold SetTable.fits SetTable.fill
  rw [h2, Bool.and_eq_true, beq_iff_eq, decide_eq_true_eq]
  exact ⟨h1, by show t.place.size + 0 ≤ t.mask; omega⟩
theorem TSet.fits (R : TSet P w s.heap a L es ep t) : t.fits es.size = true := by
  have h1 := R.tab.sz
  have h2 := R.room
  rw [List.length_map] at h1
  have h3 := rows_size R.row
  exact fits_of' (h1.trans h3.symm) R.tab.dm (by omega)
theorem TSet.gw (R : TSet P w s.heap a L es ep t) : ¬ t.gaveWay = true := by
  unfold SetTable.gaveWay
  rw [mask_odd R.tab.mok]
  decide
/-- the search, from its c-th step on -/
theorem seek (R : TSet P w s.heap a L es ep t) {x : Addr} {k : List Key} (hx : IsK P w s.heap k x) (hu : A.units < cLine) {K : Nat} (hKf : K < 10 * SetTable.turns t.mask)
    (hK : way t.mask (HT P w k) K ∉ t.place.toList) (hb : ∀ c, c < K → way t.mask (HT P w k) c ∈ t.place.toList) {Q : SetFound → Shared → Prop}
    (yes : k ∈ L.map (·.2) → Q (.there none) s) (no : k ∉ L.map (·.2) → Q (.free (way t.mask (HT P w k) K) false) s) :
    ∀ (f c : Nat) (st : Option SetTable.Probe), st.getD (t.probeStart (HT P w k)) = stepOf t.mask (HT P w k) c → c ≤ K → K - c < f →
      (∀ (i : Nat) p, L[i]? = some p → p.2 = k → ∃ d, c ≤ d ∧ d < K ∧ t.place.toList[i]? = some (way t.mask (HT P w k) d)) →
      wpAny (model P w) A (setSearchFrom a (.ref x) (HT P w k) true f st) Q E s := by
  obtain ⟨H, hH⟩ : ∃ H, H = HT P w k := ⟨_, rfl⟩
  rw [← hH] at hK hb no ⊢
  obtain ⟨o, ho, hex, hd⟩ := R.ob
  intro f
  induction f with
  | zero => exact fun c _ _ _ z => absurd z (Nat.not_lt_zero _)
  | succ f ih =>
    intro c st hst hc hf left
    rw [setSearchFrom_succ]
    refine wpAny_bind (wpAny_setState_of ho hd R.fits ?_)
    dsimp only
    refine wp_if_neg R.gw ?_
    try refine wpAny_bind (wpAny_pure ?_)
    have e1 : ∀ q, (nth t.mask (stepOf t.mask H c) q).j = way t.mask H (c + q) := fun q => congrArg SetTable.Probe.j (stepOf_add t.mask H c q)
    have hat : ∀ (i : Nat) p, L[i]? = some p → (es[i]?.map (·.1)).getD 0 = HT P w p.2 := fun i p hp => by
      rw [rows_get R.row hp]
      rfl
    rcases go_spec t R.tab.ris R.tab.dm (fun i => (es[i]?.map (·.1)).getD 0) H (10 * SetTable.turns t.mask) (K - c) _ (stepOf_dummy t.mask H c) (by omega)
      (fun q hq => by rw [e1]; exact hb (c + q) (by omega)) (by rw [e1, show c + (K - c) = K by omega]; exact hK) with ⟨q, i, hq, hi, hh, miss, pr⟩ | ⟨miss, pr⟩
    · have pr' : t.probe (fun i => (es[i]?.map (·.1)).getD 0) H (st.getD (t.probeStart H)) = some (.candidate (way t.mask H (c + q)) i (stepOf t.mask H (c + (q + 1)))) := by
        rw [hst, ← e1, ← stepOf_add]
        exact pr
      rw [pr']
      dsimp only
      rw [e1] at hi
      have il : i < L.length := by
        have h1 := (List.getElem?_eq_some_iff.mp hi).1
        have h2 := R.tab.sz
        rw [List.length_map] at h2
        rw [Array.length_toList] at h1
        omega
      obtain ⟨p, hp⟩ : ∃ p, L[i]? = some p := ⟨_, List.getElem?_eq_getElem il⟩
      have pm : p ∈ L := List.mem_of_getElem? hp
      have pt := R.tup p pm
      have live : t.slot (way t.mask H (c + q)) = .live i := slot_live R.tab.ris hi
      have go : wpAny (model P w) A (searchRest a (.ref x) H true f es t (way t.mask H (c + q)) i (stepOf t.mask H (c + (q + 1)))) Q E s := by
        unfold searchRest
        rw [rows_get R.row hp]
        dsimp only [rowT]
        refine wpAny_bind (wpAny_holding (wpAny_eqBool_tuple hu pt hx ?_))
        refine wpAny_bind (wpAny_setState_of ho hd R.fits ?_)
        dsimp only
        by_cases same : p.2 = k
        · refine wp_if_pos (by simp [same]) ?_
          exact wpAny_pure (yes (List.mem_map.mpr ⟨p, pm, same⟩))
        · refine wp_if_neg (by simp [same]) ?_
          try refine wpAny_bind (wpAny_pure ?_)
          rw [sameMem]
          dsimp only
          simp only [if_true, live, rows_get R.row hp, rowT]
          refine wpAny_bind (wpAny_isSame_ref_self (wpAny_bind (wpAny_pure ?_)))
          simp only [if_true]
          refine wp_if_neg (by simp [same]) ?_
          refine ih (c + (q + 1)) _ rfl (by omega) (by omega) fun i0 p0 h0 k0 => ?_
          obtain ⟨d, d1, d2, d3⟩ := left i0 p0 h0 k0
          refine ⟨d, ?_, d2, d3⟩
          rcases Nat.lt_trichotomy d (c + q) with z | z | z
          · refine absurd ?_ (miss (d - c) i0 (by omega) (by rw [e1, show c + (d - c) = d by omega]; exact d3))
            exact (hat i0 p0 h0).trans (by rw [k0, hH])
          · exfalso
            rw [z] at d3
            have l0 := slot_live R.tab.ris d3
            rw [live] at l0
            injection l0 with l0
            rw [← l0, hp] at h0
            exact same ((congrArg Prod.snd (Option.some.inj h0)).trans k0)
          · omega
      by_cases hl : t.led = true
      · refine wp_if_neg (by simp [hl]) ?_
        try refine wpAny_bind (wpAny_pure ?_)
        exact go
      · refine wp_if_pos (by simp [hl]) ?_
        refine wpAny_bind (unseen_tup hx (fun y hy => ?_) ?_)
        · obtain ⟨e, he, ee⟩ := List.mem_map.mp hy
          have m1 : e ∈ es ∧ e.1 = H := by simpa using he
          have m2 : e ∈ es.toList := by simpa using m1.1
          rw [R.row] at m2
          obtain ⟨p2, m3, e2⟩ := List.mem_map.mp m2
          exact ⟨p2.2, p2.1, by rw [← ee, ← e2]; rfl, R.tup p2 m3⟩
        · refine wp_if_neg (by decide) ?_
          try refine wpAny_bind (wpAny_pure ?_)
          exact go
    · have pr' : t.probe (fun i => (es[i]?.map (·.1)).getD 0) H (st.getD (t.probeStart H)) = some (.empty (way t.mask H K) none) := by
        have e2 := e1 (K - c)
        rw [show c + (K - c) = K by omega] at e2
        rw [hst, ← e2]
        exact pr
      rw [pr']
      dsimp only
      refine wpAny_pure (no fun m => ?_)
      obtain ⟨p0, h0, k0⟩ := List.mem_map.mp m
      obtain ⟨i0, hi0, e0⟩ := List.getElem_of_mem h0
      have h00 : L[i0]? = some p0 := by rw [List.getElem?_eq_getElem hi0, e0]
      obtain ⟨d, d1, d2, d3⟩ := left i0 p0 h00 k0
      refine miss (d - c) i0 (by omega) (by rw [e1, show c + (d - c) = d by omega]; exact d3) ?_
      exact (hat i0 p0 h00).trans (by rw [k0, hH])
theorem seek_all (R : TSet P w s.heap a L es ep t) {x : Addr} {k : List Key} (hx : IsK P w s.heap k x) (hu : A.units < cLine) {Q : SetFound → Shared → Prop} (yes : k ∈ L.map (·.2) → Q (.there none) s)
    (no : ∀ K, k ∉ L.map (·.2) → way t.mask (HT P w k) K ∉ t.place.toList → (∀ c, c < K → way t.mask (HT P w k) c ∈ t.place.toList) → Q (.free (way t.mask (HT P w k) K) false) s) :
    wpAny (model P w) A (setSearch a (.ref x) (HT P w k) true) Q E s := by
  have rm := R.room
  have sz := R.tab.sz
  rw [List.length_map] at sz
  obtain ⟨K, hKf, hK, hb⟩ := R.tab.first (by rw [List.length_map]; omega) (HT P w k)
  have small : K < 100000 := by
    have : 10 * SetTable.turns t.mask ≤ 1420 := by
      unfold SetTable.turns
      rcases R.tab.mok with e | e | e <;> omega
    omega
  unfold setSearch
  refine seek R hx hu hKf hK hb yes (fun z => no K z hK hb) 100000 0 none rfl (Nat.zero_le _) (by omega) fun i p hp hk => ?_
  have hi : (L.map fun p => HT P w p.2)[i]? = some (HT P w k) := by
    rw [List.getElem?_map, hp, ← hk]
    rfl
  have il : i < t.place.toList.length := by
    have := (List.getElem?_eq_some_iff.mp hp).1
    rw [Array.length_toList]
    omega
  have hj := List.getElem?_eq_getElem il
  obtain ⟨d, hd, e⟩ := R.tab.before hK hi hj
  exact ⟨d, Nat.zero_le _, hd, by rw [hj, e]⟩

/-! ### adding -/
theorem isK_same {h h' : Heap} {k : List Key} {a b : Addr} {o : Obj} {es : Array (Int × Value)} {ep : Nat} {t : SetTable} (hb : IsK P w h k b) (ho : h.get? a = some o) (hd : o.data = .set es ep t) (hs : Heap.SameBut a h h') : IsK P w h' k b := by
  obtain ⟨u, items, n, hu, r⟩ := hb
  refine ⟨u, items, n, (hs.2 b fun e => ?_).trans hu, r⟩
  subst e
  rw [ho] at hu
  cases hu
  rw [hd] at r
  exact nomatch r.2.1
theorem isK_keep {h h' : Heap} {k : List Key} {b : Addr} (x : IsK P w h k b) (f : ∀ c o, h.get? c = some o → h'.get? c = some o) : IsK P w h' k b := by
  obtain ⟨u, items, n, hu, r⟩ := x
  exact ⟨u, items, n, f b u hu, r⟩
theorem filterMap_get {α : Type} (l : List α) : (List.range l.length).filterMap (fun i => l[i]?) = l := by
  have : ∀ n, n ≤ l.length → (List.range n).filterMap (fun i => l[i]?) = l.take n := fun n => by
    induction n with
    | zero => exact fun _ => rfl
    | succ n ih =>
      intro hn
      rw [List.range_succ, List.filterMap_append, ih (by omega), take_next (List.getElem?_eq_getElem hn), List.filterMap_cons_some (List.getElem?_eq_getElem hn)]
      rfl
  rw [this _ (Nat.le_refl _), List.take_length]
/-- the rows in another order -/
theorem rows_order (L : List KA) (es : Array (Int × Value)) (order : Array Nat) (hr : es.toList = L.map (rowT P w)) (hp : order.toList.Perm (List.range L.length)) :
    ∃ M : List KA, (order.filterMap (es[·]?)).toList = M.map (rowT P w) ∧ M.Perm L ∧ (M.map fun p => HT P w p.2) = order.toList.map fun i => (es.map (·.1)).getD i 0 := by
  have key : ∀ l : List Nat, (∀ i ∈ l, i < L.length) → ∃ M : List KA, l.filterMap (fun i => es[i]?) = M.map (rowT P w) ∧ M = l.filterMap (fun i => L[i]?) ∧ (M.map fun p => HT P w p.2) = l.map fun i => (es.map (·.1)).getD i 0 := by
    intro l
    induction l with
    | nil => exact fun _ => ⟨[], rfl, rfl, rfl⟩
    | cons i l ih =>
      intro hl
      obtain ⟨M, e1, e2, e3⟩ := ih fun j hj => hl j (List.mem_cons_of_mem _ hj)
      have g := List.getElem?_eq_getElem (hl i List.mem_cons_self)
      have ge := rows_get hr g
      refine ⟨L[i]'(hl i List.mem_cons_self) :: M, ?_, ?_, ?_⟩
      · rw [List.filterMap_cons_some ge, e1]
        rfl
      · rw [List.filterMap_cons_some g, e2]
      · rw [List.map_cons, List.map_cons, e3]
        congr 1
        have e5 : (es.map (·.1))[i]? = some (HT P w (L[i]'(hl i List.mem_cons_self)).2) := by
          rw [Array.getElem?_map, ge]
          rfl
        simp [Array.getD_eq_getD_getElem?, e5]
  obtain ⟨M, e1, e2, e3⟩ := key order.toList fun i hi => List.mem_range.mp (hp.mem_iff.mp hi)
  refine ⟨M, by first | (rw [Array.toList_filterMap]; exact e1) | simpa using e1, ?_, e3⟩
  rw [e2]
  have := hp.filterMap (fun i => L[i]?)
  rw [filterMap_get] at this
  exact this
theorem relay_T {o : Obj} (ho : s.heap.get? a = some o) (hex : o.ExactSet) (hd : o.data = .set es ep t) (row : es.toList = L.map (rowT P w)) (hsz : t.place.size = es.size) (hdm : t.dummies = #[]) (hfl : es.size ≤ t.mask) (nd : (L.map (·.2)).Nodup) (tup : ∀ p ∈ L, IsK P w s.heap p.2 p.1)
    (ld : w.params.followText "set-order" = true ∨ t.led = true) (few : L.length < 64) {wanted M : Nat} (hw : SetTable.sizeAbove wanted - 1 = M) (hM : MaskOk M) (hw2 : SetTable.sizeAbove wanted ≤ 128) (hn : L.length * 5 < M * 3) {Q : Unit → Shared → Prop}
    (q : ∀ h' L' es' ep' t', Heap.SameBut a s.heap h' → TSet P w h' a L' es' ep' t' → L'.Perm L → Q () { s with heap := h' }) : wpAny (model P w) A (setRelay a wanted) Q E s := by
  have sl := rows_size row
  obtain ⟨t', order, e, hp, T, em, el, ep', ed⟩ := relaid_ok t (hs := es.map (·.1)) (wanted := wanted) hw hM (by rw [Array.size_map, sl]; omega)
  rw [Array.size_map, sl] at hp
  obtain ⟨L2, r1, r2, r3⟩ := rows_order L es order row hp
  rw [← r3] at T
  have s2 : (order.filterMap (es[·]?)).size = es.size := by rw [rows_size r1, r2.length_eq, sl]
  rw [setRelay_eq]
  refine wpAny_bind (wpAny_setState_of ho hd (fits_of' hsz hdm hfl) ?_)
  dsimp only
  refine wp_if_neg (by rw [sizeLine_eq]; omega) ?_
  try refine wpAny_bind (wpAny_pure ?_)
  rw [e]
  dsimp only
  refine wpAny_bind ?_
  refine wp_if_neg (by rw [s2]; simp) ?_
  try refine wpAny_bind (wpAny_pure ?_)
  refine wpAny_pure ?_
  dsimp only
  refine wpAny_storeSet_of ho hd ?_ (by rw [s2, sl, sizeLine_eq]; omega)
  have sb : Heap.SameBut a s.heap (s.heap.update a (Obj.putSet (order.filterMap (es[·]?)) t')) := Heap.SameBut.update ..
  refine q _ L2 (order.filterMap (es[·]?)) (ep + 1) t' sb ⟨⟨_, store_at ho hd, ⟨hex.1, hex.2.1, hex.2.2⟩, rfl⟩, r1, T, (r2.map (·.2)).nodup_iff.mpr nd, fun p pm => isK_same (tup p (r2.mem_iff.mp pm)) ho hd sb, by rw [el]; exact ld, ?_, by rw [r2.length_eq]; exact few⟩ r2
  rw [r2.length_eq, em]
  exact hn
theorem add_T (R : TSet P w s.heap a L es ep t) {x : Addr} {k : List Key} (hx : IsK P w s.heap k x) (hu : A.units < cLine) (few : k ∉ L.map (·.2) → L.length + 1 < 64) {Q : Bool → Shared → Prop}
    (q : ∀ b h' L' es' ep' t', Heap.SameBut a s.heap h' → TSet P w h' a L' es' ep' t' → (k ∈ L.map (·.2) → L' = L) → (k ∉ L.map (·.2) → L'.Perm ((x, k) :: L)) → Q b { s with heap := h' }) :
    wpAny (model P w) A (setAddHashed a (.ref x) (HT P w k)) Q E s := by
  obtain ⟨o, ho, hex, hd⟩ := R.ob
  have sl := rows_size R.row
  have rm := R.room
  unfold setAddHashed
  refine wpAny_holding ?_
  rw [show (100000 : Nat) = 99999 + 1 from rfl, setAddHashedIn_succ]
  refine wpAny_bind (wpAny_setState_of ho hd R.fits ?_)
  dsimp only
  refine wp_if_neg (by simp [byScan, Value.scannable]) ?_
  try refine wpAny_bind (wpAny_pure ?_)
  refine wpAny_bind (seek_all R hx hu (fun hm => ?_) fun K hm hK hb => ?_)
  · dsimp only
    exact wpAny_pure (q false s.heap L es ep t (Heap.SameBut.refl a s.heap) R (fun _ => rfl) fun z => absurd hm z)
  have hfew := few hm
  dsimp only
  refine wpAny_bind (wpAny_setState_of ho hd R.fits ?_)
  dsimp only
  obtain ⟨q1, q2, q3, q4, q5, q6, q7, q8, q9⟩ := R.tab.put hK hb
  generalize hpt : t.put (way t.mask (HT P w k) K) = pt at q1 q3 q4 q5 q6 q7 q8 q9 ⊢
  obtain ⟨t1, j⟩ := pt
  dsimp only at q1 q3 q4 q5 q6 q7 q8 q9 ⊢
  subst q1
  have both : ∀ r : Bool, ∃ t2, (if r = true then t1 else { t1 with plain := false }) = t2 ∧ TabOk t2 (List.take (SetTable.below t.place (way t.mask (HT P w k) K)) (L.map fun p => HT P w p.2) ++ HT P w k :: List.drop (SetTable.below t.place (way t.mask (HT P w k) K)) (L.map fun p => HT P w p.2)) ∧ t2.mask = t.mask ∧ t2.led = t.led ∧ t2.fill = (L.map fun p => HT P w p.2).length + 1 := fun r => by
    cases r with
    | true => exact ⟨t1, if_pos rfl, q3, q4, q5, q9⟩
    | false => exact ⟨_, if_neg (by decide), ⟨q3.ris, q3.dm, q3.sz, q3.mok, q3.bd, q3.reach⟩, q4, q5, q9⟩
  have cont : ∀ {R : Bool → Sem Bool}, (∀ r, wpAny (model P w) A (R r) Q E s) → wpAny (model P w) A (if t1.plain = true then (hashByValue 8 (.ref x) >>= R) else (pure true >>= R)) Q E s := fun {R} f => by
    split
    · exact wpAny_bind (byVal_tup hx f)
    · exact wpAny_bind (wpAny_pure (f _))
  refine cont fun r => ?_
  obtain ⟨t2, e2, q3, q4, q5, q9⟩ := both r
  rw [e2]
  clear e2 both cont
  generalize hpp : SetTable.below t.place (way t.mask (HT P w k) K) = j at q2 q3 ⊢
  have row1 : (SetTable.insertAt es j (HT P w k, Value.ref x)).toList = (L.take j ++ (x, k) :: L.drop j).map (rowT P w) := by
    rw [SetTable.toList_insertAt, R.row, List.map_append, List.map_cons, List.map_take, List.map_drop]
    rfl
  have pm := put_perm L j (x, k)
  have hlen : (L.take j ++ (x, k) :: L.drop j).length = L.length + 1 := pm.length_eq
  have hs1 : (L.take j ++ (x, k) :: L.drop j).map (fun p => HT P w p.2) = (L.map fun p => HT P w p.2).take j ++ HT P w k :: (L.map fun p => HT P w p.2).drop j := by
    rw [List.map_append, List.map_cons, List.map_take, List.map_drop]
  rw [← hs1] at q3
  have nd1 : ((L.take j ++ (x, k) :: L.drop j).map (·.2)).Nodup := (pm.map (·.2)).nodup_iff.mpr (by rw [List.map_cons]; exact List.nodup_cons.mpr ⟨hm, R.nd⟩)
  have sz1 : (SetTable.insertAt es j (HT P w k, Value.ref x)).size = L.length + 1 := by rw [rows_size row1, hlen]
  generalize SetTable.insertAt es j (HT P w k, Value.ref x) = es1 at row1 sz1 ⊢
  generalize L.take j ++ (x, k) :: L.drop j = L1 at pm hlen q3 nd1 row1
  refine wpAny_bind (wpAny_storeSet_of ho hd ?_ (by rw [sz1, sizeLine_eq]; omega))
  have sb : Heap.SameBut a s.heap (s.heap.update a (Obj.putSet es1 t2)) := Heap.SameBut.update ..
  have ho1 := store_at (es' := es1) (t' := t2) ho hd
  generalize s.heap.update a (Obj.putSet es1 t2) = h1 at sb ho1 ⊢
  have tup1 : ∀ p ∈ L1, IsK P w h1 p.2 p.1 := fun p hp => by
    rcases List.mem_cons.mp (pm.mem_iff.mp hp) with e | hp
    · rw [e]; exact isK_same hx ho hd sb
    · exact isK_same (R.tup p hp) ho hd sb
  have ld1 : w.params.followText "set-order" = true ∨ t2.led = true := by rw [q5]; exact R.led
  by_cases hf : t2.tooFull = true
  · first
      | (refine wpAny_bind ?_; refine wp_if_pos (by simp [hf]) ?_)
      | (refine wp_if_pos (by simp [hf]) ?_; refine wpAny_bind ?_)
    have full : (L.length + 1) * 5 ≥ t2.mask * 3 := by
      have h := hf
      unfold SetTable.tooFull at h
      rw [decide_eq_true_eq, q9, List.length_map] at h
      exact h
    rw [sl]
    have psz : t2.place.size = es1.size := by
      have h := q3.sz
      rw [List.length_map, hlen] at h
      rw [h, sz1]
    have go : ∀ M, SetTable.sizeAbove (SetTable.grown (L.length + 1)) - 1 = M → MaskOk M → SetTable.sizeAbove (SetTable.grown (L.length + 1)) ≤ 128 → (L.length + 1) * 5 < M * 3 → L.length + 1 ≤ t2.mask →
        wpAny (model P w) A (setRelay a (SetTable.grown (L.length + 1))) (fun _ s' => wpAny (model P w) A (pure true) Q E s') E { s with heap := h1 } := fun M m1 m2 m3 m4 m5 =>
      relay_T (s := { s with heap := h1 }) ho1 ⟨hex.1, hex.2.1, hex.2.2⟩ rfl row1 psz q3.dm (by rw [sz1]; exact m5) nd1 tup1 ld1 (by rw [hlen]; exact hfew) m1 m2 m3 (by rw [hlen]; exact m4) fun h2 L2 es2 ep2 t3 sb2 R2 pm2 =>
        wpAny_pure (q true h2 L2 es2 ep2 t3 (sb.trans sb2) R2 (fun z => absurd z hm) fun _ => pm2.trans pm)
    rw [q4] at full go
    rcases R.tab.mok with e | e | e
    · have e2 : L.length = 4 := by rw [e] at full rm; omega
      exact go 31 (by rw [e2, size_20]) (.inr (.inl rfl)) (by rw [e2, size_20]; decide) (by omega) (by omega)
    · have e2 : L.length = 18 := by rw [e] at full rm; omega
      exact go 127 (by rw [e2, size_76]) (.inr (.inr rfl)) (by rw [e2, size_76]; decide) (by omega) (by omega)
    · exfalso
      rw [e] at full
      omega
  · first
      | refine wp_if_neg (by simp [hf]) ?_
      | (refine wpAny_bind ?_; refine wp_if_neg (by simp [hf]) ?_; refine wpAny_pure ?_)
    refine wpAny_pure (q true h1 L1 es1 (ep + 1) t2 sb ⟨⟨_, ho1, ⟨hex.1, hex.2.1, hex.2.2⟩, rfl⟩, row1, q3, nd1, tup1, ld1, ?_, by rw [hlen]; exact hfew⟩ (fun z => absurd z hm) fun _ => pm)
    have h := hf
    unfold SetTable.tooFull at h
    rw [decide_eq_true_eq, q9, List.length_map] at h
    rw [hlen]
    omega
theorem fresh_T {h : Heap} (ho : h.get? a = some (freshO w)) : TSet P w h a [] #[] 0 (.fresh 0 0 (!w.params.followText "set-order")) where
  ob := ⟨_, ho, ⟨rfl, rfl, rfl⟩, rfl⟩
  row := rfl
  tab := ⟨List.Pairwise.nil, rfl, rfl, .inl rfl, fun x hx => (by cases hx), fun i h j hi => (by simp at hi)⟩
  nd := List.nodup_nil
  tup := fun p hp => (by cases hp)
  led := by
    show _ ∨ (!w.params.followText "set-order") = true
    cases w.params.followText "set-order"
    · exact .inr rfl
    · exact .inl rfl
  room := by show 0 * 5 < 7 * 3; decide
  few := by show 0 < 64; decide
theorem TSet.keep {h h' : Heap} (R : TSet P w h a L es ep t) (ha : ∀ o, h.get? a = some o → h'.get? a = some o) (ht : ∀ p ∈ L, IsK P w h' p.2 p.1) : TSet P w h' a L es ep t := by
  obtain ⟨o, ho, r⟩ := R.ob
  exact ⟨⟨o, ha o ho, r⟩, R.row, R.tab, R.nd, ht, R.led, R.room, R.few⟩
/-- a set of tuples: the keys, each once -/
def SetT' (P : Program) (w : World) (h : Heap) (a : Addr) (kl : List KA) (n : Nat) : Prop := ∃ L es ep t, TSet P w h a L es ep t ∧ (∀ p ∈ L, p ∈ kl.take n) ∧ ∀ p ∈ kl.take n, p.2 ∈ L.map (·.2)
/-- set(xs)'s turns -/
theorem grows_T {S : Addr} {h0 : Heap} {items : Array Value} {kl : List KA} {D : List (List Key)} (hit : items.toList = kl.map fun p => Value.ref p.1) (hk : ∀ p ∈ kl, IsK P w h0 p.2 p.1) (hD : ∀ p ∈ kl, p.2 ∈ D) (few : D.length < 64) (hu : A.units < cLine) :
    Grows P w A S h0 items.size (fun i v => items[i]? = some v) (fun i h => SetT' P w h S kl i) where
  keep := fun i h h' ⟨L, es, ep, t, R, g1, g2⟩ k1 k2 => ⟨L, es, ep, t, R.keep k1 fun p hp => isK_keep (hk p (List.mem_of_mem_take (g1 p hp))) k2, g1, g2⟩
  add := fun i v s Q E hi hv ⟨L, es, ep, t, R, g1, g2⟩ k2 fin => by
    have hp : ∃ p, kl[i]? = some p ∧ v = .ref p.1 := by
      have e : items.toList[i]? = some v := by rw [Array.getElem?_toList]; exact hv
      rw [hit, List.getElem?_map] at e
      cases h : kl[i]? with
      | none => rw [h] at e; cases e
      | some p => rw [h] at e; exact ⟨p, rfl, (Option.some.inj e).symm⟩
    obtain ⟨p, hp, rfl⟩ := hp
    have pm : p ∈ kl := List.mem_of_getElem? hp
    have hx := isK_keep (hk p pm) k2
    unfold setAdd
    refine wpAny_holding (wpAny_bind (wpAny_pyHash_tuple hu hx ?_))
    refine add_T (s := { s with toks := s.toks + (p.2.length + 1) }) R hx hu (fun hm => ?_) fun b h' L' es' ep' t' sb R' c1 c2 => fin b h' _ sb (Nat.le_add_right _ _) ⟨L', es', ep', t', R', ?_⟩
    · have := (List.nodup_cons.mpr ⟨hm, R.nd⟩).length_le_of_subset (l₂ := D) fun z hz => by
        rcases List.mem_cons.mp hz with rfl | hz
        · exact hD p pm
        · obtain ⟨r, hr, rfl⟩ := List.mem_map.mp hz
          exact hD r (List.mem_of_mem_take (g1 r hr))
      rw [List.length_cons, List.length_map] at this
      omega
    · rw [take_next hp]
      by_cases hm : p.2 ∈ L.map (·.2)
      · rw [c1 hm]
        refine ⟨fun r hr => List.mem_append_left _ (g1 r hr), fun r hr => ?_⟩
        rcases List.mem_append.mp hr with z | z
        · exact g2 r z
        · rw [List.mem_singleton.mp z]; exact hm
      · have pm2 := c2 hm
        refine ⟨fun r hr => ?_, fun r hr => ?_⟩
        · rcases List.mem_cons.mp (pm2.mem_iff.mp hr) with e | z
          · rw [e]; exact List.mem_append_right _ (List.mem_singleton.mpr rfl)
          · exact List.mem_append_left _ (g1 r z)
        · rw [(pm2.map (·.2)).mem_iff, List.map_cons]
          rcases List.mem_append.mp hr with z | z
          · exact List.mem_cons_of_mem _ (g2 r z)
          · rw [List.mem_singleton.mp z]; exact List.mem_cons_self
end
end M
/-! M5: set(xs), sorted(set(xs)), xs tuples of texts. -/
namespace M
open PySem PySem.Spec PyProof.Rows L2

def txKey (k : Tx) : List Key := (k.map strOf).map Sum.inr
theorem txKey_inj {a b : Tx} (h : txKey a = txKey b) : a = b := by
  have : ∀ {a b : Tx}, txKey a = txKey b → a = b := fun {a} => by
    induction a with
    | nil => intro b h; cases b with
      | nil => rfl
      | cons y b => cases h
    | cons x a ih => intro b h; cases b with
      | nil => cases h
      | cons y b =>
        unfold txKey at h ih
        rw [List.map_cons, List.map_cons, List.map_cons, List.map_cons] at h
        injection h with h1 h2
        rw [strOf_inj (Sum.inr.inj h1), ih h2]
  exact this h
theorem txKey_kV (k : Tx) : (txKey k).map kV = (k.map strOf).map V.str := by
  unfold txKey
  rw [List.map_map]
  rfl
def toKA (p : AT) : KA := (p.1, txKey p.2)
/-- the set at a, by the tuples that were put in -/
def SetTO' (P : Program) (w : World) (a : Addr) (L : List AT) : HO := .ext fun h => ∃ (M : List KA) (es : Array (Int × Value)) (ep : Nat) (t : SetTable), (∃ o, h.get? a = some o ∧ o.ExactSet ∧ o.data = .set es ep t) ∧ es.toList = M.map (rowT P w) ∧ TabOk t (M.map fun p => HT P w p.2) ∧ (M.map (·.2)).Nodup ∧
  (w.params.followText "set-order" = true ∨ t.led = true) ∧ M.length * 5 < t.mask * 3 ∧ M.length < 64 ∧ (∀ p ∈ M, p ∈ L.map toKA) ∧ ∀ p ∈ L.map toKA, p.2 ∈ M.map (·.2)
section
variable {X : Cx}
theorem setTO_ok {P : Program} {w : World} {H : Hp} {h : Heap} {a : Addr} {L : List AT} (R : SetT' P w h a (L.map toKA) L.length) : ObjOk P w H h a (SetTO' P w a L) := by
  obtain ⟨M, es, ep, t, R, g1, g2⟩ := R
  obtain ⟨o, ho, r⟩ := R.ob
  have et : (L.map toKA).take L.length = L.map toKA := by rw [show L.length = (L.map toKA).length by rw [List.length_map], List.take_length]
  rw [et] at g1 g2
  refine ⟨⟨M, es, ep, t, ⟨o, ho, r⟩, R.row, R.tab, R.nd, R.led, R.room, R.few, g1, g2⟩, ⟨o, ho⟩, ?_⟩
  intro h1 h2 ⟨M, es, ep, t, ⟨o, ho, r⟩, q⟩ k
  exact ⟨M, es, ep, t, ⟨o, k o ho, r⟩, q⟩
theorem items_key {P : Program} {w : World} : ∀ {k : List Key} {us : List Value}, Vals (k.map kV) us → ItemsAre (mixKind P w) k us
  | [], _, .nil => .nil
  | n :: k, _, .cons r t => .cons (kV_is (P := P) (w := w) r) (items_key t)
theorem inv_isK {pins : List (Addr × Obj)} {σ : L2.St} {H : Hp} {s : Shared} {a : Addr} {k : Tx} (I : Inv X pins σ H s) (h : SqT X.K H a ((k.map strOf).map V.str)) : IsK X.prog X.w s.heap (txKey k) a := by
  obtain ⟨its, rv, ⟨o, ho, hc, n, hd⟩, _⟩ := I.tuple h
  refine ⟨o, _, n, ho, hc, hd, items_key ?_⟩
  rw [txKey_kV]
  simpa using rv
def rSetT (K : PySem.W.Frag) (P : Program) (w : World) : List V → Hp → VK → Prop := fun xs H Q => ∃ (l : Addr) (L : List AT) (D : List Tx), xs = [V.ref l] ∧ (SqL K H l (L.map fun p => V.ref p.1) ∨ SqT K H l (L.map fun p => V.ref p.1)) ∧ (∀ p ∈ L, SqT K H p.1 ((p.2.map strOf).map V.str) ∧ p.2 ∈ D) ∧ D.length < 64 ∧
  ∀ p, H p = none → Q (.ref p) (upd H p (SetTO' P w p L))
theorem cr_setT (hc : X.calm = true) (hu : X.A.units + 64 < cLine) : CallR X (.type "set") (rSetT X.K X.prog X.w) := by
  intro pins s σ H xs us Q I r h
  obtain ⟨l, L, D, rfl, hl, hx, few, q⟩ := h
  rw [Vals.ref1 r]
  have hn : H s.heap.objs.size = none := I.hok.fresh (Nat.le_refl _)
  have fin : ∀ (n : Nat) (h' : Heap) (tk : Nat), L.length = n → SetT' X.prog X.w h' s.heap.objs.size (L.map toKA) n → (∀ b o, s.heap.get? b = some o → h'.get? b = some o) → EP X pins σ Q (.ref s.heap.objs.size) { s with heap := h', toks := tk } := fun n h' tk hl R k => by
    subst hl
    exact ⟨.ref s.heap.objs.size, upd H s.heap.objs.size (SetTO' X.prog X.w s.heap.objs.size L), I.laid (t' := tk) k (Nat.le_refl _) (setTO_ok R), rfl, q _ hn⟩
  have hk : ∀ p ∈ L.map toKA, IsK X.prog X.w s.heap p.2 p.1 := fun p hp => by
    obtain ⟨p0, h0, rfl⟩ := List.mem_map.mp hp
    exact inv_isK I (hx p0 h0).1
  have hD : ∀ p ∈ L.map toKA, p.2 ∈ D.map txKey := fun p hp => by
    obtain ⟨p0, h0, rfl⟩ := List.mem_map.mp hp
    exact List.mem_map_of_mem (hx p0 h0).2
  have hit : ∀ {its : List Value}, Vals (L.map fun p => V.ref p.1) its → its = (L.map toKA).map fun p => Value.ref p.1 := fun rv => by
    rw [vals_at_inv rv, List.map_map]
    rfl
  have j0 : ∀ (h : Heap), h.get? s.heap.objs.size = some (freshO X.w) → (∀ b o, s.heap.get? b = some o → h.get? b = some o) → SetT' X.prog X.w h s.heap.objs.size (L.map toKA) 0 := fun h e _ => ⟨[], #[], 0, _, fresh_T e, fun p z => (by cases z), fun p z => (by simp at z)⟩
  have hu3 : X.A.in1.in1.in1.units < cLine := by
    have : X.A.in1.in1.in1.units ≤ X.A.units + 3 := by simp [Around.in1, Around.units]
    omega
  rcases hl with hl | hl
  · obtain ⟨its, rv, pl, hz⟩ := I.list hl
    have hlen : L.length = its.toArray.size := by rw [List.size_toArray, ← rv.length, List.length_map]
    refine set_of_list (AU := X.A.in1.in1.in1.units) (I.ok.hd hc) pl.isList (J := fun i h => SetT' X.prog X.w h s.heap.objs.size (L.map toKA) i) (fun A _ hA => grows_T (D := D.map txKey) (by simpa using hit rv) hk hD (by rw [List.length_map]; exact few) (Nat.lt_of_le_of_lt hA hu3)) (Nat.le_refl _) j0 fun h' tk J k => fin _ h' tk hlen J k
  · obtain ⟨its, rv, pl, hz⟩ := I.tuple hl
    have hlen : L.length = its.toArray.size := by rw [List.size_toArray, ← rv.length, List.length_map]
    refine set_of_tuple (AU := X.A.in1.in1.in1.units) (I.ok.hd hc) pl (J := fun i h => SetT' X.prog X.w h s.heap.objs.size (L.map toKA) i) (fun A _ hA => grows_T (D := D.map txKey) (by simpa using hit rv) hk hD (by rw [List.length_map]; exact few) (Nat.lt_of_le_of_lt hA hu3)) (Nat.le_refl _) j0 fun h' tk J k => fin _ h' tk hlen J k
/-- sorted(set) -/
def rSortTS (K : PySem.W.Frag) (P : Program) (w : World) : List V → Hp → VK → Prop := fun vs H Q => ∃ (a : Addr) (L : List AT), vs = [V.ref a] ∧ H a = some (SetTO' P w a L) ∧ (∀ p ∈ L, p.2 ≠ [] ∧ SqT K H p.1 ((p.2.map strOf).map V.str)) ∧
  ∀ (L' : List AT) (p : Addr), (∀ q ∈ L', q ∈ L) → (∀ q ∈ L, q.2 ∈ L'.map (·.2)) → (L'.map (·.2)).Nodup → L'.length < 64 → (L'.map (·.2)).Pairwise (fun a b => leT a b = true) → H p = none → Q (.ref p) (upd H p (.lst (L'.map fun p => V.ref p.1)))
theorem lift_all {α β : Type} {f : α → β} {L : List α} : ∀ {M : List β}, (∀ m ∈ M, m ∈ L.map f) → ∃ N : List α, N.map f = M ∧ ∀ n ∈ N, n ∈ L
  | [], _ => ⟨[], rfl, fun _ z => (by cases z)⟩
  | m :: M, h => by
    obtain ⟨x, hx, e⟩ := List.mem_map.mp (h m List.mem_cons_self)
    obtain ⟨N, e2, h2⟩ := lift_all (M := M) fun y hy => h y (List.mem_cons_of_mem _ hy)
    refine ⟨x :: N, by rw [List.map_cons, e, e2], fun n hn => ?_⟩
    rcases List.mem_cons.mp hn with rfl | hn
    · exact hx
    · exact h2 n hn
theorem cr_sortTS (hc : X.calm = true) : CallR X (.builtin "sorted") (rSortTS X.K X.prog X.w) := by
  intro pins s σ H vs us Q I r h
  obtain ⟨a, L, rfl, ha, hx, q⟩ := h
  obtain ⟨M, es, ep, t, ⟨o, ho, hex, hd⟩, row, tab, nd, led, room, few, g1, g2⟩ := (show (∃ (M : List KA) (es : Array (Int × Value)) (ep : Nat) (t : SetTable), _) from (I.hok a _ ha).1)
  rw [Vals.ref1 r]
  obtain ⟨N, eN, hN⟩ := lift_all g1
  have hsz := rows_size row
  have psz := tab.sz
  rw [List.length_map] at psz
  have hfits : t.fits es.size = true := fits_of' (by rw [psz, hsz]) tab.dm (by omega)
  refine Calls.call_function_entry kind_sorted plain_sorted entry_sorted (args_sorted1 _) ?_
  unfold Builtin.«sorted»
  refine wpAny_bind (m := checkCount "sorted" 1 1 _) (wpAny_pure ?_)
  refine wpAny_bind (collect_set (A := X.A.in1) (I.ok.hd hc) ⟨o, ho, hex.1, hd⟩ hfits (by unfold scanBound; omega) tab.ris led fun s1 out k1 hz g1' o1 pv => ?_)
  have pv2 : out.Perm (N.map fun p => Value.ref p.1) := by
    rw [row, ← eN, List.map_map, List.map_map] at pv
    exact pv
  obtain ⟨L0, p0, rfl⟩ := perm_lift pv2 N rfl
  have x1 : ∀ p ∈ L0, TxAt (s1.heap.push (seqObj "list" (L0.map fun p => Value.ref p.1).toArray 0)) p.1 p.2 := fun p hp => ((inv_txAt I (hx p (hN p (p0.mem_iff.mp hp))).1 (hx p (hN p (p0.mem_iff.mp hp))).2).keep k1).keep fun b o e => Heap.get?_push_of_some _ e
  have lN : N.length = M.length := by rw [← eN, List.length_map]
  have l0 : L0.length < 64 := by rw [p0.length_eq, lN]; exact few
  refine wpAny_bind (wpAny_newList ?_ (by rw [List.length_map, sizeLine_eq]; omega))
  have hoL : (s1.heap.push (seqObj "list" (L0.map fun p => Value.ref p.1).toArray 0)).get? s1.heap.objs.size = some (seqObj "list" (L0.map fun p => Value.ref p.1).toArray 0) := Heap.get?_push_size _ rfl
  obtain ⟨fs, ht⟩ := tups_of x1
  refine wpAny_bind (wpAny_holding (wpAny_call_entry PyProof.Rows.slot_list_sort ⟨_, hoL, rfl⟩ PyProof.Rows.entry_list_sort
    (G.list_sort_tups (shape := allTx) (s := { s1 with heap := s1.heap.push (seqObj "list" (L0.map fun p => Value.ref p.1).toArray 0) }) hoL ht (keys_of x1) (by rw [List.length_map, sizeLine_eq]; omega) fun st' a1 a2 _ => ⟨_, rfl, ?_⟩) (PyProof.Rows.args_list_sort _)))
  obtain ⟨L', p', e', w'⟩ := srt_out x1 a1 a2
  obtain ⟨c, hcc⟩ := sortedHeap_at (vs := L0.map fun p => Value.ref p.1) (out := (arrOf st').map (·.2)) hoL
  have pN := p'.trans p0
  have old : ∀ b u, s.heap.get? b = some u → (sortedHeap (s1.heap.push (seqObj "list" (L0.map fun p => Value.ref p.1).toArray 0)) s1.heap.objs.size (L0.map fun p => Value.ref p.1) ((arrOf st').map (·.2))).get? b = some u := fun b u e => by
    have f := k1 b u e
    have lt := Heap.lt_size f
    rw [sortedHeap_old (Nat.ne_of_lt lt) (by rw [size_push']; exact Nat.lt_succ_of_lt lt)]
    exact Heap.get?_push_of_some _ f
  have kN : (N.map (·.2)).map txKey = M.map (·.2) := by
    rw [← eN, List.map_map, List.map_map]
    rfl
  have hn : H s1.heap.objs.size = none := I.hok.fresh hz
  have J : Inv X pins σ (upd H s1.heap.objs.size (.lst (L'.map fun p => V.ref p.1))) { s with heap := sortedHeap (s1.heap.push (seqObj "list" (L0.map fun p => Value.ref p.1).toArray 0)) s1.heap.objs.size (L0.map fun p => Value.ref p.1) ((arrOf st').map (·.2)), gens := s1.gens, drawn := s1.drawn, toks := s1.toks } :=
    I.call (ch := []) (Un.laid old hz hn) (I.hok.laid old hz (show ObjOk X.prog X.w _ _ _ (.lst (L'.map fun p => V.ref p.1)) from ⟨by rw [List.length_map, p'.length_eq, sizeLine_eq]; omega, ((arrOf st').map (·.2)).toList, c, by rw [e']; exact vals_at L', by rw [Array.toArray_toList]; exact hcc⟩)) (by rw [g1']; exact I.bare) (fun _ z => nomatch z)
  have es1 : ({ s1 with heap := sortedHeap (s1.heap.push (seqObj "list" (L0.map fun p => Value.ref p.1).toArray 0)) s1.heap.objs.size (L0.map fun p => Value.ref p.1) ((arrOf st').map (·.2)) } : Shared) = { s with heap := sortedHeap (s1.heap.push (seqObj "list" (L0.map fun p => Value.ref p.1).toArray 0)) s1.heap.objs.size (L0.map fun p => Value.ref p.1) ((arrOf st').map (·.2)), gens := s1.gens, drawn := s1.drawn, toks := s1.toks } := by
    cases s1
    cases s
    cases o1
    rfl
  refine wpAny_pure ⟨_, rfl, ?_⟩
  show EP X pins σ Q _ { s1 with heap := _ }
  rw [es1]
  refine ⟨.ref s1.heap.objs.size, _, J, rfl, q L' _ (fun p hp => hN p (pN.mem_iff.mp hp)) (fun p hp => ?_) ?_ (by rw [p'.length_eq]; exact l0) w' hn⟩
  · have h1 := g2 (toKA p) (List.mem_map_of_mem hp)
    rw [← kN] at h1
    obtain ⟨k, hk, e⟩ := List.mem_map.mp h1
    have : k = p.2 := txKey_inj e
    rw [← this]
    exact ((pN.map (·.2)).mem_iff).mpr hk
  · refine (pN.map (·.2)).nodup_iff.mpr ?_
    rw [← kN] at nd
    exact List.Pairwise.of_map txKey (fun _ _ hne e => hne (congrArg txKey e)) nd
end
end M
/-! MU: sorted(set(e)), len(set(e)) as expressions. -/
namespace M
open PySem PySem.Spec PyProof.Rows L2
theorem met_map {κ μ : Type} [DecidableEq κ] [DecidableEq μ] {f : κ → μ} (inj : ∀ a b, f a = f b → a = b) (acc : List κ) (k : κ) : met (acc.map f) (f k) = (met acc k).map f := by
  unfold met
  have : f k ∈ acc.map f ↔ k ∈ acc := ⟨fun h => by
    obtain ⟨x, h1, h2⟩ := List.mem_map.mp h
    rw [← inj _ _ h2]
    exact h1, fun h => List.mem_map_of_mem h⟩
  by_cases h : k ∈ acc
  · rw [if_pos h, if_pos (this.mpr h)]
  · rw [if_neg h, if_neg fun z => h (this.mp z)]
    simp
theorem once_map {κ μ : Type} [DecidableEq κ] [DecidableEq μ] {f : κ → μ} (inj : ∀ a b, f a = f b → a = b) (l : List κ) : once (l.map f) = (once l).map f := by
  have : ∀ (l acc : List κ), (l.map f).foldl met (acc.map f) = (l.foldl met acc).map f := fun l => by
    induction l with
    | nil => exact fun _ => rfl
    | cons x l ih =>
      intro acc
      rw [List.map_cons, List.foldl_cons, List.foldl_cons, met_map inj, ih]
  exact this l []
theorem Pk.seq {K : PySem.W.Frag} {S : Addr → Prop} {H : Hp} {v : V} {p : PV} {xs : List PV} (h : Pk K S H v p) (e : asSeq p = .ok xs) : ∃ a vs, v = .ref a ∧ (SqL K H a vs ∨ SqT K H a vs) ∧ Reps K S H vs xs := by
  cases p with
  | tup ys =>
    cases e
    obtain ⟨a, vs, e1, h1, r, _⟩ := h.tup
    exact ⟨a, vs, e1, .inr h1, r⟩
  | wt ys =>
    cases e
    obtain ⟨a, vs, e1, h1, r, _⟩ := h.wt
    exact ⟨a, vs, e1, .inr h1, r⟩
  | lst ys =>
    cases e
    obtain ⟨a, vs, e1, h1, r, _⟩ := h.lst
    exact ⟨a, vs, e1, .inl (.inl (.inl h1)), r⟩
  | _ => cases e
/-- the keys of a set, as they are met -/
def keysIn (xs : List PV) : Option (List Int ⊕ List (List Nat)) := if xs.length ≤ 1000 then match intsOf xs with
    | some ns => some (.inl ns)
    | none => (strsOf xs).map .inr
  else none
def sset1 (xs : List PV) : R PV := match keysIn xs with
  | some (.inl ns) => if (once ns).length < 64 then .ok (.lst ((sortI (once ns)).map .int)) else .no
  | some (.inr ls) => if (once ls).length < 64 then .ok (.lst ((sortS (once ls)).map .str)) else .no
  | none => match txsOf xs with
    | some ks => if (once ks).length < 64 then .ok (.lst ((sortT (once ks)).map tupS)) else .no
    | none => .no
def lset1 (xs : List PV) : R PV := match keysIn xs with
  | some (.inl ns) => .ok (.int (once ns).length)
  | some (.inr ls) => .ok (.int (once ls).length)
  | none => .no
def ssetP (p : PV) : R PV := asSeq p >>= sset1
def lsetP (p : PV) : R PV := asSeq p >>= lset1
def keyL : List Int ⊕ List (List Nat) → List Key
  | .inl ns => ns.map Sum.inl
  | .inr ls => ls.map fun l => Sum.inr (strOf l)
theorem keysIn_vals {K : PySem.W.Frag} {S : Addr → Prop} {H : Hp} {vs : List V} {xs : List PV} {kk : List Int ⊕ List (List Nat)} (r : Reps K S H vs xs) (e : keysIn xs = some kk) : vs = (keyL kk).map kV ∧ (keyL kk).length ≤ 1000 := by
  unfold keysIn at e
  split at e
  · rename_i hl
    split at e
    · rename_i ns h
      cases e
      have := intsOf_eq h
      subst this
      rw [r.ints]
      refine ⟨?_, by simpa [keyL] using hl⟩
      simp [keyL, kV, Function.comp_def]
    · obtain ⟨ls, h1, rfl⟩ := Option.map_eq_some_iff.mp e
      have := strsOf_eq h1
      subst this
      rw [r.strs]
      refine ⟨?_, by simpa [keyL] using hl⟩
      simp [keyL, kV, Function.comp_def]
  · cases e
theorem inl_inj (a b : Int) (h : (Sum.inl a : Key) = Sum.inl b) : a = b := Sum.inl.inj h
theorem inrS_inj (a b : List Nat) (h : (Sum.inr (strOf a) : Key) = Sum.inr (strOf b)) : a = b := strOf_inj (Sum.inr.inj h)
section
variable {X : Cx} {cl : Str → Value} {W : WX} {mu : List Nat} {m : Md} {a : Expr} {f : Env' → R PV} {p p2 q pos : Pos}
def fSset (k : PV → R PV) (f : Env' → R PV) : Env' → R PV := fun ρ => f ρ >>= k
theorem px_sset (hu : X.A.units + 64 < cLine) (hc : X.calm = true) (hg : Gl X "sorted") (hm : X.mg "sorted" = none) (hg2 : Gl X "set") (hm2 : X.mg "set" = none) (ha : PX X cl W mu .pk a f) (na : starEach [a] X.env = (false, eval a X.env) :: starEach [] X.env) :
    PX X cl W mu m (.Call (.Name "sorted" p) [.Call (.Name "set" p2) [a] [] q] [] pos) (fSset ssetP f) :=
  pe_imp (pe_callB ((cr_sortedM hc).or (cr_sortTS hc)) hg hm boot_sorted (pa_cons (pe_callTy ((cr_setM hc).or (cr_setT hc hu)) hg2 hm2 boot_set (pa_cons ha pa_nil na) (by decide) rfl na rfl) pa_nil rfl) (by decide) rfl rfl rfl) fun σ H Q ⟨S, ρ, re, go⟩ => ⟨S, ρ, re, go.bind.mono fun d S1 H1 _ x1 go1 v hv => by
    obtain ⟨xs, es, go2⟩ := gor_noex go1 fun e => asSeq_noex
    obtain ⟨l, vs, rfl, hl, r⟩ := hv.seq es
    unfold sset1 at go2
    cases ek : keysIn xs with
    | none =>
      rw [ek] at go2
      dsimp only at go2
      cases et : txsOf xs with
      | none => rw [et] at go2; exact go2.elim
      | some ks =>
        rw [et] at go2
        dsimp only at go2
        split at go2
        case isFalse => exact go2.elim
        rename_i h64
        obtain ⟨e1, hne⟩ := txsOf_eq et
        rw [e1] at r
        obtain ⟨L, rfl, e2, hL⟩ := reps_tx r
        refine .inr ⟨l, L, once ks, rfl, hl, fun p hp => ⟨(hL p hp).1, once_mem.mpr (e2 ▸ List.mem_map_of_mem hp)⟩, h64, fun t ht => ?_⟩
        have x2 : Ext S1 H1 S1 (upd H1 t (SetTO' X.prog X.w t L)) := Ext.laid ht
        have hd := ((re.ext x1).ext x2).dom
        have hs := x1.same.trans x2.same
        refine .inr ⟨t, L, rfl, upd_same, fun p hp => ⟨hne _ (e2 ▸ List.mem_map_of_mem hp), sqT_keep (x2.keep S1) (hL p hp).1⟩, fun L' b h1 h2 nd _ pw hb => ?_⟩
        have e3 : L'.map (·.2) = sortT (once ks) := by
          refine sortT_uniq ((List.perm_ext_iff_of_nodup nd (once_nodup ks)).mpr fun k => ?_) pw
          rw [once_mem, ← e2]
          refine ⟨fun hk => ?_, fun hk => ?_⟩
          · obtain ⟨p, hp, rfl⟩ := List.mem_map.mp hk
            exact List.mem_map_of_mem (h1 p hp)
          · obtain ⟨p, hp, rfl⟩ := List.mem_map.mp hk
            exact h2 p hp
        rw [← e3] at go2
        refine give_lst (cl := cl) (W := W) (σ := σ) (GoR.okI fun S' H' y => go2.at (x2.trans y)) hs hd hb (reps_at fun p hp => ((hL p (h1 p hp)).2).ext x2) ?_
        have := congrArg List.length e3
        rw [show (sortT (once ks)).length = (once ks).length from isort_len _] at this
        rw [List.length_map, this]
        exact small64 h64
    | some kk =>
      obtain ⟨rfl, hn⟩ := keysIn_vals r ek
      refine .inl ⟨l, keyL kk, rfl, hl, hn, fun t ht => ?_⟩
      have x2 : Ext S1 H1 S1 (upd H1 t (SetMO X.prog X.w t (once (keyL kk)))) := Ext.laid ht
      have hd := ((re.ext x1).ext x2).dom
      have hs := x1.same.trans x2.same
      rw [ek] at go2
      cases kk with
      | inl ns =>
        have go2 : GoR X.K cl W σ S1 H1 (if (once ns).length < 64 then .ok (.lst ((sortI (once ns)).map .int)) else .no) (Wn X.K m H Q) := go2
        split at go2
        · rename_i h64
          have ek2 : once (keyL (.inl ns)) = (once ns).map Sum.inl := once_map inl_inj ns
          refine .inl ⟨t, once (keyL (.inl ns)), rfl, upd_same, by rw [ek2, List.length_map]; exact h64, .inl ⟨once ns, ek2, fun b hb => ?_⟩⟩
          exact give_lst (cl := cl) (W := W) (σ := σ) (GoR.okI fun S' H' y => go2.at (x2.trans y)) hs hd hb Reps.of_ints (by rw [List.length_map, show (sortI (once ns)).length = (once ns).length from isort_len _]; exact small64 h64)
        · exact go2.elim
      | inr ls =>
        have go2 : GoR X.K cl W σ S1 H1 (if (once ls).length < 64 then .ok (.lst ((sortS (once ls)).map .str)) else .no) (Wn X.K m H Q) := go2
        split at go2
        · rename_i h64
          have ek2 : once (keyL (.inr ls)) = (once ls).map fun l => Sum.inr (strOf l) := once_map inrS_inj ls
          have okS : ∀ l ∈ ls, SOk l := by
            have r' := r
            have e3 := ek
            unfold keysIn at e3
            split at e3
            · split at e3
              · cases e3
              · obtain ⟨ls', h1, h2⟩ := Option.map_eq_some_iff.mp e3
                cases h2
                rw [strsOf_eq h1] at r'
                exact r'.okS
            · cases e3
          refine .inl ⟨t, once (keyL (.inr ls)), rfl, upd_same, by rw [ek2, List.length_map]; exact h64, .inr ⟨once ls, ek2, fun b hb => ?_⟩⟩
          exact give_lst (cl := cl) (W := W) (σ := σ) (GoR.okI fun S' H' y => go2.at (x2.trans y)) hs hd hb (Reps.of_strs fun l hl => okS l (once_mem.mp ((isort_perm _).mem_iff.mp hl))) (by rw [List.length_map, show (sortS (once ls)).length = (once ls).length from isort_len _]; exact small64 h64)
        · exact go2.elim⟩
theorem px_lset (hc : X.calm = true) (hg : Gl X "len") (hm : X.mg "len" = none) (hg2 : Gl X "set") (hm2 : X.mg "set" = none) (ha : PX X cl W mu .pk a f) (na : starEach [a] X.env = (false, eval a X.env) :: starEach [] X.env) :
    PX X cl W mu m (.Call (.Name "len" p) [.Call (.Name "set" p2) [a] [] q] [] pos) (fSset lsetP f) :=
  pe_imp (pe_callB cr_lenM hg hm boot_len (pa_cons (pe_callTy (cr_setM hc) hg2 hm2 boot_set (pa_cons ha pa_nil na) (by decide) rfl na rfl) pa_nil rfl) (by decide) rfl rfl rfl) fun σ H Q ⟨S, ρ, re, go⟩ => ⟨S, ρ, re, go.bind.mono fun d S1 H1 _ x1 go1 v hv => by
    obtain ⟨xs, es, go2⟩ := gor_noex go1 fun e => asSeq_noex
    obtain ⟨l, vs, rfl, hl, r⟩ := hv.seq es
    unfold lset1 at go2
    cases ek : keysIn xs with
    | none => rw [ek] at go2; exact go2.elim
    | some kk =>
      obtain ⟨rfl, hn⟩ := keysIn_vals r ek
      refine ⟨l, keyL kk, rfl, hl, hn, fun t ht => ?_⟩
      have x2 : Ext S1 H1 S1 (upd H1 t (SetMO X.prog X.w t (once (keyL kk)))) := Ext.laid ht
      rw [ek] at go2
      refine ⟨t, once (keyL kk), rfl, upd_same, ?_⟩
      cases kk with
      | inl ns =>
        have ek2 : once (keyL (.inl ns)) = (once ns).map Sum.inl := once_map inl_inj ns
        rw [show (once (keyL (.inl ns))).length = (once ns).length by rw [ek2, List.length_map]]
        exact give_int (cl := cl) (W := W) (σ := σ) (GoR.okI fun S' H' y => go2.at (x2.trans y))
      | inr ls =>
        have ek2 : once (keyL (.inr ls)) = (once ls).map fun l => Sum.inr (strOf l) := once_map inrS_inj ls
        rw [show (once (keyL (.inr ls))).length = (once ls).length by rw [ek2, List.length_map]]
        exact give_int (cl := cl) (W := W) (σ := σ) (GoR.okI fun S' H' y => go2.at (x2.trans y))⟩
end

/-! ### two more methods of texts -/
def countP (l : List Nat) : PV → R PV
  | .str b => .ok (.int (Txt.count (strOf l) (strOf b)))
  | _ => .no
theorem m_count {X : Cx} : MtS X "str.count" countP := by
  refine ⟨_, mt_count, fun cl W σ S H H0 m Q l u q hs hd zl hu h => ?_⟩
  unfold countP at h
  split at h
  · obtain ⟨rfl, _⟩ := hu.str
    exact ⟨_, _, rfl, rfl, give_int h⟩
  · exact h.elim
def upL (l : List Nat) : List Nat := (Txt.upper (strOf l)).cps.toList
def upP (l : List Nat) : R PV := if l.length ≤ 1000000 ∧ SOk (upL l) then .ok (.str (upL l)) else .no
def fUp (f : Env' → R PV) : Env' → R PV := fun ρ => f ρ >>= fun p => asStr p >>= upP
theorem px_upper {X : Cx} {cl : Str → Value} {W : WX} {mu : List Nat} {m : Md} {o : Expr} {f : Env' → R PV} {apos pos : Pos} (ho : PX X cl W mu .pk o f) (hbase : attributeBase o "upper" X.env (eval o X.env) = eval o X.env) (hline : (apos.endLine == pos.line) = true) : PX X cl W mu m (.Call (.Attribute o "upper" apos) [] [] pos) (fUp f) :=
  pe_imp (pe_upper ho hbase hline) fun σ H Q ⟨S, ρ, re, go⟩ => ⟨S, ρ, re, go.bind.mono fun p S1 H1 _ x go1 v hv => by
    obtain ⟨l, e1, go2⟩ := gor_noex go1 fun e => asStr_noex
    rw [asStr_ok e1] at hv
    obtain ⟨rfl, z⟩ := hv.str
    unfold upP at go2
    split at go2
    · rename_i h
      refine ⟨⟨_, rfl⟩, _, rfl, rfl, by rw [strOf_len]; omega, ?_⟩
      have := give_str go2 h.2
      unfold upL at this
      rw [strOf_cps'] at this
      exact this
    · exact go2.elim⟩
end M
/-! MV: t[::-1]. -/
namespace M
open PySem PySem.Spec PyProof.Rows L2
theorem back_adjust (n : Nat) : Builtin.Slice.sliceAdjust none none (-1) (n : Int) = ((n : Int) - 1, -1) := by
  unfold Builtin.Slice.sliceAdjust
  simp
theorem back_places (n : Nat) : Builtin.Slice.slicePlaces ((n : Int) - 1) (-1) (-1) = n := by
  unfold Builtin.Slice.slicePlaces
  rw [if_neg (by decide)]
  by_cases h : n = 0
  · subst h; rfl
  · rw [if_pos (by omega)]
    have e : (-(-1) : Int) = 1 := by decide
    rw [e, Int.ediv_one]
    omega
theorem fm_congr {α β : Type} {f g : α → Option β} : ∀ {l : List α}, (∀ x ∈ l, f x = g x) → l.filterMap f = l.filterMap g
  | [], _ => rfl
  | x :: l, h => by
    rw [List.filterMap_cons, List.filterMap_cons, h x List.mem_cons_self, fm_congr fun y hy => h y (List.mem_cons_of_mem _ hy)]
theorem back_pick (xs : List Value) : ((List.range xs.length).filterMap fun (k : Nat) => xs[((xs.length : Int) - 1 + (k : Int) * (-1)).toNat]?) = xs.reverse := by
  have e : (List.range xs.length).filterMap (fun (k : Nat) => xs[((xs.length : Int) - 1 + (k : Int) * (-1)).toNat]?) = (List.range xs.length).filterMap fun k => xs.reverse[k]? := by
    apply fm_congr
    intro k hk
    have hk : k < xs.length := List.mem_range.mp hk
    rw [List.getElem?_reverse hk]
    congr 1
    omega
  rw [e]
  have h2 : ∀ ys : List Value, (List.range ys.length).filterMap (fun k => ys[k]?) = ys := fun ys => by
    have e2 : ∀ k ∈ List.range ys.length, ys[k]? = (some ∘ fun k => ys.getD k .none) k := fun k hk => by
      have hk : k < ys.length := List.mem_range.mp hk
      simp [hk]
    rw [fm_congr e2, List.filterMap_eq_map]
    apply List.ext_getElem
    · simp
    · intro i h1 h2
      simp at h1
      simp [h1]
  have := h2 xs.reverse
  rw [List.length_reverse] at this
  exact this
section
variable {prog : Program} {w : World} {A : Around} {E : Value → Shared → Prop} {s : Shared}
theorem slice_back {sl : Addr} {vl vu vs : Value} {n : Nat} {Q : Int × Int × Nat → Shared → Prop} (hs : s.heap.IsSliceOf sl vl vu vs) (pl : IsPart vl none) (pu : IsPart vu none) (ps : IsPart vs (some (-1)))
    (h : Q ((n : Int) - 1, -1, n) s) : wpAny (model prog w) A (Builtin.Slice.sliceApplied (.ref sl) (pure (n : Int))) Q E s := by
  obtain ⟨os, ho, hc, hd⟩ := id hs
  unfold Builtin.Slice.sliceApplied Builtin.Slice.sliceFields
  refine wpAny_bind (wpAny_bind (wpAny_field ho hd (x := vl) rfl (wpAny_bind (wpAny_field ho hd (x := vu) rfl (wpAny_bind (wpAny_field ho hd (x := vs) rfl (wpAny_pure ?_)))))))
  refine wpAny_bind (HT.slicePart_ ps ?_)
  show wpAny _ _ (if ((-1 : Int) == 0) = true then _ else _) _ _ s
  rw [if_neg (by decide)]
  refine wpAny_bind (HT.slicePart_ pl (wpAny_bind (HT.slicePart_ pu (wpAny_bind (wpAny_pure ?_)))))
  show wpAny _ _ (match Builtin.Slice.sliceAdjust none none (-1) (n : Int) with | (lo, hi) => pure (lo, (-1 : Int), Builtin.Slice.slicePlaces lo hi (-1))) _ _ s
  rw [back_adjust n]
  show wpAny _ _ (pure ((n : Int) - 1, (-1 : Int), Builtin.Slice.slicePlaces ((n : Int) - 1) (-1) (-1))) _ _ s
  rw [back_places]
  exact wpAny_pure h
theorem tuple_back {t sl : Addr} {items : Array Value} {vl vu vs : Value} {Q : Value → Shared → Prop} (ht : IsTup s.heap t items) (hs : s.heap.IsSliceOf sl vl vu vs) (pl : IsPart vl none) (pu : IsPart vu none) (ps : IsPart vs (some (-1)))
    (h : Q (.ref s.heap.objs.size) { s with heap := s.heap.push { cls := .type "tuple", data := .seq items.toList.reverse.toArray } }) (hsz : items.size ≤ sizeLine) : wpAny (model prog w) A (getItem (.ref t) (.ref sl)) Q E s := by
  have hz : sizeOk (.seq items.toList.reverse.toArray) := by
    show items.toList.reverse.toArray.size ≤ sizeLine
    rw [List.size_toArray, List.length_reverse, Array.length_toList]
    exact hsz
  obtain ⟨os, ho, hc, hd⟩ := id hs
  have tS : s.TypeIs (.ref sl) "slice" := ⟨os, ho, hc⟩
  unfold getItem
  try with_reducible refine wpAny_holding ?_
  first | refine wpAny_bind (wpAny_pure ?_) | skip
  refine wpAny_bind (wpAny_sequenceKey ht.typeIs (by decide) ?_)
  refine wpAny_bind (wpAny_callSpecial?_slot (name := Str.ofString "__getitem__") ht.typeIs PyProof.Rows.slot_tuple_getitem
    (wpAny_call_entry PyProof.Rows.slot_tuple_getitem ht.typeIs PyProof.Rows.entry_tuple_getitem ?_ (PyProof.Rows.args_tuple_getitem _ _)))
  show wpAny _ _ (Builtin.Tuple.tupleItemsOf (.ref t) >>= _) _ _ s
  refine wpAny_bind (PyProof.Rows.tupleItemsOf_ ht ?_)
  refine wpAny_bind (wpAny_typeOf tS ?_)
  rw [if_pos (by decide)]
  refine wpAny_bind (slice_back hs pl pu ps ?_)
  have no : ¬ ((((items.size : Int) - 1) == 0 && (-1 : Int) == 1 && items.size == items.size) = true) := by
    rw [show ((-1 : Int) == 1) = false by decide]
    simp
  show wpAny _ _ (if (((items.size : Int) - 1) == 0 && (-1 : Int) == 1 && items.size == items.size) = true then _ else _) _ _ s
  rw [if_neg no]
  have e : ((List.range items.size).filterMap fun (k : Nat) => items[((items.size : Int) - 1 + (k : Int) * (-1)).toNat]?) = items.toList.reverse := by
    have := back_pick items.toList
    rw [Array.length_toList] at this
    rw [← this]
    apply fm_congr
    intro k _
    rw [Array.getElem?_toList]
  rw [e]
  first
    | exact wpAny_bind (m := Builtin.Tuple.tupleExact _) (wpAny_newObj_type (wpAny_pure ⟨_, rfl, wpAny_pure h⟩) hz)
    | exact wpAny_bind (m := Builtin.Tuple.tupleExact _) (wpAny_newObj_type (wpAny_bind (wpAny_pure (wpAny_pure ⟨_, rfl, wpAny_pure h⟩))) hz)
    | exact wpAny_bind (wpAny_bind (m := Builtin.Tuple.tupleExact _) (wpAny_newObj_type (wpAny_pure (wpAny_pure ⟨_, rfl, wpAny_pure h⟩)) hz))
    | exact wpAny_bind (wpAny_bind (m := Builtin.Tuple.tupleExact _) (wpAny_newObj_type (wpAny_pure ⟨_, rfl, wpAny_pure h⟩) hz))
end
/-- t[::-1], t a tuple -/
def tBack (K : PySem.W.Frag) (te : TE) : TE := fun σ H Q => te σ H fun x H1 => ∃ a xs, x = .ref a ∧ SqT K H1 a xs ∧ NewG H1 xs.reverse Q
theorem pe_back {X : Cx} {e : Expr} {te : TE} {k : Nat} {p1 p2 p3 pos : Pos} (he : PE X e te) : PE X (.Subscript e (.Slice none none (some (.UnaryOp .USub (.Constant (.int 1) k p1) p2)) p3) pos) (tBack X.K te) := by
  refine ⟨fun pins s σ H Q I h => ?_⟩
  refine Subscript_ (thn (he.run pins s σ H _ I h) fun v s1 ⟨x, H1, I1, r1, q1⟩ => ?_)
  obtain ⟨a, xs, rfl, hx, q⟩ := q1
  cases r1
  have st : PO X (some (.UnaryOp .USub (.Constant (.int 1) k p1) p2)) (tPart (tUn (rU fun i => .int (-i)) (tC (.int 1)))) := po_some (pe_un un_neg pe_int)
  refine wpAny_Slice (thn (po_none.run pins s1 σ H1 (fun o H2 => o = none ∧ H2 = H1) I1 ⟨rfl, rfl⟩) fun vl s2 ⟨l, H2, I2, pl, el, e2⟩ => ?_)
  subst el e2
  refine thn (po_none.run pins s2 σ H2 (fun o H3 => o = none ∧ H3 = H2) I2 ⟨rfl, rfl⟩) fun vu s3 ⟨u, H3, I3, pu, eu, e3⟩ => ?_
  subst eu e3
  refine thn (st.run pins s3 σ H3 (fun o H4 => o = some (-1) ∧ H4 = H3) I3 ⟨1, rfl, -1, rfl, rfl, rfl⟩) fun vs s4 ⟨o, H4, I4, ps, eo, e4⟩ => ?_
  subst eo e4
  have I5 : Inv X pins σ H4 { s4 with heap := s4.heap.push { cls := .type "slice", data := .fields #[vl, vu, vs] } } := I4.kept (t' := s4.toks) fun b ob q => Heap.get?_push_of_some _ q
  obtain ⟨its, r, ht, hz⟩ := I5.tuple hx
  show wpAny (model X.prog X.w) X.A (subscriptTail e (.Slice none none (some (.UnaryOp .USub (.Constant (.int 1) k p1) p2)) p3) (.ref a) (.ref s4.heap.objs.size)) (EP X pins σ Q) X.xe { s4 with heap := s4.heap.push { cls := .type "slice", data := .fields #[vl, vu, vs] } }
  refine tail_any (ops := [.ref a, .ref s4.heap.objs.size]) ht.typeIs PyProof.Rows.slot_tuple_getitem.lookup ?_ (by with_unfolding_all rfl)
  refine tuple_back ht (Heap.IsSliceOf.new _ vl vu vs) pl pu ps ?_ (by rw [List.size_toArray, ← r.length]; exact hz)
  have q2 := NewG.at q I5 (us := its.reverse) r.reverse (by rw [List.length_reverse]; exact hz)
  simpa using q2
def fBack (f : Env' → R PV) : Env' → R PV := fun ρ => f ρ >>= fun p => match p with
  | .tup xs => .ok (.tup xs.reverse)
  | _ => .no
theorem px_back {X : Cx} {cl : Str → Value} {W : WX} {mu : List Nat} {m : Md} {a : Expr} {f : Env' → R PV} {k : Nat} {p1 p2 p3 pos : Pos} (ha : PX X cl W mu .pk a f) : PX X cl W mu m (.Subscript a (.Slice none none (some (.UnaryOp .USub (.Constant (.int 1) k p1) p2)) p3) pos) (fBack f) :=
  pe_imp (pe_back ha) fun σ H Q ⟨S, ρ, re, go⟩ => ⟨S, ρ, re, go.bind.mono fun p S1 H1 _ x go1 v hv => by
    cases p with
    | tup xs =>
      obtain ⟨b, vs, rfl, hb, r, z⟩ := hv.tup
      exact ⟨b, vs, rfl, hb, fun t ob ht hd => give_tup go1 ht hd r.reverse (by rw [List.length_reverse]; exact z)⟩
    | _ => exact go1.elim⟩

/-! ### a, b = x, y and a, b, c = x, y, z -/
def stE : Expr → Bool
  | .Starred .. => true
  | _ => false
/-- the places' names are local, on one line -/
def parN (sc : Scope) (l : Nat) : Expr → Bool
  | .Name x p => sc.names.lookup x == some .local && p.line == l
  | _ => false
def parV (vs : List Expr) : Bool := !vs.any stE && !vs.all (foldedForSure 8) && !vs.all (constantsAlone 8)
def parK (sc : Scope) : Bool := (if sc.kind.isAnnotationScope then ScopeKind.function else sc.kind) == .function
theorem stE_any : ∀ vs : List Expr, (vs.any fun | .Starred .. => true | _ => false) = vs.any stE
  | [] => rfl
  | v :: vs => by
    rw [List.any_cons, List.any_cons, stE_any vs]
    cases v <;> rfl
theorem par_2 {env : Env} {x y : Str} {px py pt pt2 : Pos} {a b : Expr} {k k2 : Nat} (hk : parK env.scope = true) (hx : env.scope.names.lookup x = some .local) (hy : env.scope.names.lookup y = some .local) (hl : py.line = px.line) (hxy : x ≠ y)
    (hv : parV [a, b] = true) : swappedStores [.Tuple [.Name x px, .Name y py] k pt] (.Tuple [a, b] k2 pt2) env = pure (some [x, y]) := by
  unfold parV at hv
  simp only [Bool.and_eq_true, Bool.not_eq_true'] at hv
  obtain ⟨⟨h1, h2⟩, h3⟩ := hv
  have hk : env.blockKind = .function := by unfold parK at hk; unfold Env.blockKind; simpa using hk
  have e1 : env.kindOf x = some .local := hx
  have e2 : env.kindOf y = some .local := hy
  have hf : ([Expr.Name x px, .Name y py].filterMap fun
    | .Name id pos => if env.kindOf id == some .local && pos.line == px.line then some id else none
    | _ => none) = [x, y] := by
    rw [List.filterMap_cons, List.filterMap_cons, List.filterMap_nil]
    simp [e1, e2, hl]
  have hd : ([x, y].length != 2 || [x, y].eraseDups.length != [x, y].length) = false := by
    have hz : (y == x) = false := by simpa using Ne.symm hxy
    simp [List.eraseDups, List.eraseDupsBy, List.eraseDupsBy.loop, hz]
  unfold swappedStores
  refine Eq.trans (if_neg ?_) ?_
  · rw [hk]; simp
  refine Eq.trans (if_neg fun h => absurd (h.symm.trans ((stE_any [a, b]).trans h1)) (by decide)) ?_
  refine Eq.trans (if_neg fun h => ?_) ?_
  · exact Bool.false_ne_true ((hd.symm.trans (congrArg (fun ns : List Str => (ns.length != 2 || ns.eraseDups.length != ns.length)) hf.symm)).trans h)
  refine Eq.trans (if_neg (by rw [h2]; decide)) ?_
  refine Eq.trans (if_neg (by rw [h3]; decide)) ?_
  exact congrArg (fun ns : List Str => (pure (some ns) : Sem (Option (List Str)))) hf
theorem par_3 {env : Env} {x y z : Str} {px py pz pt pt2 : Pos} {a b c : Expr} {k k2 : Nat} (hk : parK env.scope = true) (hx : env.scope.names.lookup x = some .local) (hy : env.scope.names.lookup y = some .local) (hz : env.scope.names.lookup z = some .local) (hl : py.line = px.line) (hl2 : pz.line = px.line)
    (hxy : x ≠ y) (hxz : x ≠ z) (hyz : y ≠ z) (hv : parV [a, b, c] = true) : swappedStores [.Tuple [.Name x px, .Name y py, .Name z pz] k pt] (.Tuple [a, b, c] k2 pt2) env = pure (some [x, y, z]) := by
  unfold parV at hv
  simp only [Bool.and_eq_true, Bool.not_eq_true'] at hv
  obtain ⟨⟨h1, h2⟩, h3⟩ := hv
  have hk : env.blockKind = .function := by unfold parK at hk; unfold Env.blockKind; simpa using hk
  have e1 : env.kindOf x = some .local := hx
  have e2 : env.kindOf y = some .local := hy
  have e3 : env.kindOf z = some .local := hz
  have hf : ([Expr.Name x px, .Name y py, .Name z pz].filterMap fun
    | .Name id pos => if env.kindOf id == some .local && pos.line == px.line then some id else none
    | _ => none) = [x, y, z] := by
    rw [List.filterMap_cons, List.filterMap_cons, List.filterMap_cons, List.filterMap_nil]
    simp [e1, e2, e3, hl, hl2]
  have hd : ([x, y, z].length != 3 || [x, y, z].eraseDups.length != [x, y, z].length) = false := by
    have q1 : (y == x) = false := by simpa using Ne.symm hxy
    have q2 : (z == x) = false := by simpa using Ne.symm hxz
    have q3 : (z == y) = false := by simpa using Ne.symm hyz
    simp [List.eraseDups, List.eraseDupsBy, List.eraseDupsBy.loop, q1, q2, q3]
  unfold swappedStores
  refine Eq.trans (if_neg ?_) ?_
  · rw [hk]; simp
  refine Eq.trans (if_neg fun h => absurd (h.symm.trans ((stE_any [a, b, c]).trans h1)) (by decide)) ?_
  refine Eq.trans (if_neg fun h => ?_) ?_
  · exact Bool.false_ne_true ((hd.symm.trans (congrArg (fun ns : List Str => (ns.length != 3 || ns.eraseDups.length != ns.length)) hf.symm)).trans h)
  refine Eq.trans (if_neg (by rw [h2]; decide)) ?_
  refine Eq.trans (if_neg (by rw [h3]; decide)) ?_
  exact congrArg (fun ns : List Str => (pure (some ns) : Sem (Option (List Str)))) hf
def fPar (is : List Nat) (fs : Env' → R (List PV)) : Env' → R Fl := fun ρ => fs ρ >>= fun ps => if ps.length = is.length then .ok (.nx (setP is ps ρ)) else .no
section
variable {X : Cx} {cl : Str → Value} {W : WX} {mu : List Nat} {m : Md} {pos : Pos}
theorem psx_par2 {i j : Nat} {x y : Str} {a b : Expr} {fs : Env' → R (List PV)} {px py pt pt2 : Pos} {k k2 : Nat} (hc : X.calm = true) (hN : X.N.Nodup) (hi : X.N[i]? = some x) (hj : X.N[j]? = some y) (hij : i ≠ j) (mi : i ∉ mu) (mj : j ∉ mu)
    (hk : parK X.env.scope = true) (hx : X.env.scope.names.lookup x = some .local) (hy : X.env.scope.names.lookup y = some .local) (hl : py.line = px.line) (hv : parV [a, b] = true) (ha : PAX X cl W mu .sh [a, b] fs) :
    PSX X cl W mu m (.Assign [.Tuple [.Name x px, .Name y py] k pt] (.Tuple [a, b] k2 pt2) pos) (fPar [i, j] fs) := by
  have hxy : x ≠ y := fun e => hij ((List.getElem?_inj (get_lt hi) hN).mp (by rw [hi, hj, e]))
  refine ps_imp (ps_par hc hN hi hj hij hx hy ha (par_2 hk hx hy hl hxy hv) rfl) fun D σ H ⟨S0, H0, S, ρ, st, go⟩ => ⟨S, ρ, st.re, (GoS.exp st go).mono fun ps S' H' _ x k vs hvs => ?_⟩
  have hvs : Reps X.K S' H' vs ps := hvs
  split at k
  · rename_i hl
    match ps, vs, hvs with
    | [p, q], _, .cons r1 (.cons r2 .nil) => exact ⟨_, _, rfl, k _ S' H' (((st.ex x).set mi r1).set mj r2) (Mv.refl S' H')⟩
  · exact k.elim
theorem psx_par3 {i j l : Nat} {x y z : Str} {a b c : Expr} {fs : Env' → R (List PV)} {px py pz pt pt2 : Pos} {k k2 : Nat} (hc : X.calm = true) (hN : X.N.Nodup) (hi : X.N[i]? = some x) (hj : X.N[j]? = some y) (hl' : X.N[l]? = some z) (hij : i ≠ j) (hil : i ≠ l) (hjl : j ≠ l) (mi : i ∉ mu) (mj : j ∉ mu) (ml : l ∉ mu)
    (hk : parK X.env.scope = true) (hx : X.env.scope.names.lookup x = some .local) (hy : X.env.scope.names.lookup y = some .local) (hz : X.env.scope.names.lookup z = some .local) (hl : py.line = px.line) (hl2 : pz.line = px.line) (hv : parV [a, b, c] = true) (ha : PAX X cl W mu .sh [a, b, c] fs) :
    PSX X cl W mu m (.Assign [.Tuple [.Name x px, .Name y py, .Name z pz] k pt] (.Tuple [a, b, c] k2 pt2) pos) (fPar [i, j, l] fs) := by
  have hxy : x ≠ y := fun e => hij ((List.getElem?_inj (get_lt hi) hN).mp (by rw [hi, hj, e]))
  have hxz : x ≠ z := fun e => hil ((List.getElem?_inj (get_lt hi) hN).mp (by rw [hi, hl', e]))
  have hyz : y ≠ z := fun e => hjl ((List.getElem?_inj (get_lt hj) hN).mp (by rw [hj, hl', e]))
  refine ps_imp (ps_par3 hc hN hi hj hl' hij hil hjl hx hy hz ha (par_3 hk hx hy hz hl hl2 hxy hxz hyz hv) rfl) fun D σ H ⟨S0, H0, S, ρ, st, go⟩ => ⟨S, ρ, st.re, (GoS.exp st go).mono fun ps S' H' _ x k vs hvs => ?_⟩
  have hvs : Reps X.K S' H' vs ps := hvs
  split at k
  · rename_i hl
    match ps, vs, hvs with
    | [p, q, r], _, .cons r1 (.cons r2 (.cons r3 .nil)) => exact ⟨_, _, _, rfl, k _ S' H' ((((st.ex x).set mi r1).set mj r2).set ml r3) (Mv.refl S' H')⟩
  · exact k.elim

/-! ### x.pop(k, d); x[k] = x.pop(j): x one's own -/
def fDrop (i : Nat) (fk fd : Env' → R PV) : Env' → R Fl := fun ρ => dicAt i ρ >>= fun d => fk ρ >>= fun k => fd ρ >>= fun _ => match d with
  | .dic kvs => match asKey k with
    | some k => .ok (.nx (ρ.set i (some (.dic (dropD kvs k)))))
    | none => .no
  | _ => .no
theorem dropD_none {kvs : List (K1 × PV)} {k : K1} (h : getD kvs k = none) : dropD kvs k = kvs := by
  unfold dropD
  rw [List.filter_eq_self]
  intro kv hkv
  have h : kvs.find? (fun kv => decide (kv.1 = k)) = none := by unfold getD at h; simpa using h
  have := List.find?_eq_none.mp h kv hkv
  simpa using this
theorem KReps.drop {K : PySem.W.Frag} {S : Addr → Prop} {H : Hp} {k : K1} : ∀ {d : List (Key × V)} {kvs : List (K1 × PV)}, KReps K S H d kvs → KReps K S H (dropK d (toKey k)) (dropD kvs k)
  | _, _, .nil => .nil
  | _, _, .cons (k := k0) z r t => by
    unfold dropK dropD
    rw [List.filter_cons, List.filter_cons]
    by_cases h : k0 = k
    · rw [if_neg (by simp [h]), if_neg (by simp [h])]
      exact KReps.drop t
    · rw [if_pos (by simpa using fun e => h (toKey_inj e)), if_pos (by simpa using h)]
      exact .cons z r (KReps.drop t)
theorem dropD_length (kvs : List (K1 × PV)) (k : K1) : (dropD kvs k).length ≤ kvs.length := List.length_filter_le _ _
theorem dic_isD {K : PySem.W.Frag} {S0 S : Addr → Prop} {H0 H : Hp} {σ : L2.St} {ρ : Env'} {i : Nat} {kvs : List (K1 × PV)} {a : Addr} (hi : i ∈ mu) (st : StI K mu S0 H0 S σ H ρ) (e1 : ρ[i]? = some (some (.dic kvs))) (e2 : σ[i]? = some (some (.ref a))) : ∃ d, H a = some (.dK d) ∧ KReps K S H d kvs ∧ kvs.length ≤ sizeLine := by
  obtain ⟨a', e3, _, ⟨⟨d, hH, rs⟩, z⟩⟩ := st.re.ow i _ hi e1
  rw [e2] at e3
  cases e3
  exact ⟨d, hH, rs, z⟩
theorem psx_drop {i : Nat} {x : Str} {e e2 : Expr} {f g : Env' → R PV} {apos p2 pos' : Pos} (hi : i ∈ mu) (hN : X.N[i]? = some x) (hv : Vis X.env.scope x) (hd : (x == ("__debug__" : Str)) = false) (hcd : (x == ("__classdict__" : Str)) = false) (hk : PX X cl W mu .sh e f) (he : PX X cl W mu .sh e2 g)
    (hm : M2 X (.Name x p2) "pop" apos e e2 pos) : PSX X cl W mu m (.Expr (.Call (.Attribute (.Name x p2) "pop" apos) [e, e2] [] pos) pos') (fDrop i f g) :=
  ps_imp (ps_expr (pe_dpop2 (pe_var hN hv hd hcd) hk he hm) rfl) fun D σ H ⟨S0, H0, S, ρ, st, go⟩ => by
    obtain ⟨p, a, e1, e2, go1⟩ := dic_at hi st go
    have hD : IsD H a := by
      obtain ⟨a', e3, _, ow⟩ := st.re.ow i _ hi e1
      rw [e2] at e3
      cases e3
      cases p with
      | dic kvs =>
        obtain ⟨⟨d, hH, _⟩, _⟩ := ow
        exact .inl ⟨d, .of hH⟩
      | dct kvs =>
        obtain ⟨⟨d, hH, _⟩, _⟩ := ow
        exact .inr ⟨d, .of hH⟩
      | _ =>
        have e0 : dicAt i ρ = .no := by unfold dicAt; rw [e1]
        unfold fDrop at go
        rw [e0] at go
        exact go.elim
    refine ⟨_, e2, a, rfl, hD, S, ρ, st.re, (GoS.exp st go1).mono fun pk S1 H1 _ x1 k1 y hy => ⟨S1, ρ, (st.ex x1).re, (GoS.exp (st.ex x1) k1).mono fun pz S2 H2 _ x2 k2 z hz => ?_⟩⟩
    have st2 := (st.ex x1).ex x2
    have hy : Rep X.K S2 H2 y pk := Rep.ext hy x2
    cases p with
    | dic kvs =>
      obtain ⟨d, hH, rs, z⟩ := dic_isD hi st2 e1 e2
      cases q : asKey pk with
      | none => simp only [q] at k2; exact k2.elim
      | some kk =>
        simp only [q] at k2
        refine ⟨d, toKey kk, hH, asKey_rep (.inl hy) q, fun v ev => ?_, fun ev => ?_⟩
        · have kp : Keep S2 H2 (upd H2 a (.dK (dropK d (toKey kk)))) := own_keep hi st2 e1 e2
          have ow' : Own X.K S2 (upd H2 a (.dK (dropK d (toKey kk)))) a (.dic (dropD kvs kk)) :=
            ⟨⟨_, upd_same, rs.drop.keep kp fun _ z => z⟩, by have := dropD_length kvs kk; omega⟩
          obtain ⟨st', mv⟩ := st2.mut hi e1 e2 ow'
          exact k2 σ S2 _ st' mv
        · rcases rs.get kk with ⟨v, p', e3, e4, _⟩ | ⟨e3, e4⟩
          · rw [ev] at e3; cases e3
          · rw [dropD_none e4] at k2
            have : ρ.set i (some (.dic kvs)) = ρ := by
              apply List.ext_getElem?
              intro j
              by_cases h : i = j
              · subst h; rw [List.getElem?_set_self (get_lt e1), e1]
              · rw [List.getElem?_set_ne h]
            rw [this] at k2
            exact k2 σ S2 _ st2 (Mv.refl S2 H2)
    | _ => exact k2.elim
def fMov (i : Nat) (fk fj : Env' → R PV) : Env' → R Fl := fun ρ => dicAt i ρ >>= fun d => fj ρ >>= fun j => match d with
  | .dic kvs => match asKey j with
    | some j => match getD kvs j with
      | some v => fk (ρ.set i (some (.dic (dropD kvs j)))) >>= fun k => putP (.dic (dropD kvs j)) k v >>= fun d' => .ok (.nx (ρ.set i (some d')))
      | none => .no
    | none => .no
  | _ => .no
theorem psx_mov {i : Nat} {x : Str} {e e2 : Expr} {f g : Env' → R PV} {apos p2 p3 p4 pos' : Pos} (hu : X.A.units + 1 < cLine) (hi : i ∈ mu) (hN : X.N[i]? = some x) (hv : Vis X.env.scope x) (hd : (x == ("__debug__" : Str)) = false) (hcd : (x == ("__classdict__" : Str)) = false) (hk : PX X cl W mu .sh e f) (hj : PX X cl W mu .sh e2 g)
    (hm : M1 X (.Name x p2) "pop" apos e2 p3) : PSX X cl W mu m (.Assign [.Subscript (.Name x p4) e pos'] (.Call (.Attribute (.Name x p2) "pop" apos) [e2] [] p3) pos) (fMov i f g) :=
  ps_imp (ps_dput hu (pe_var hN hv hd hcd) hk (pe_dpop1 (pe_var hN hv hd hcd) hj hm) rfl) fun D σ H ⟨S0, H0, S, ρ, st, go⟩ => by
    obtain ⟨p, a, e1, e2, go1⟩ := dic_at hi st go
    cases p with
    | dic kvs =>
      obtain ⟨d, hH, rs, z⟩ := dic_isD hi st e1 e2
      refine ⟨_, e2, a, rfl, .inl ⟨d, .of hH⟩, S, ρ, st.re, (GoS.exp st go1).mono fun pj S1 H1 _ x1 k1 y hy => ?_⟩
      have st1 := st.ex x1
      have hy : Rep X.K S1 H1 y pj := hy
      obtain ⟨d, hH, rs, z⟩ := dic_isD hi st1 e1 e2
      cases q : asKey pj with
      | none => simp only [q] at k1; exact k1.elim
      | some jj =>
        rcases rs.get jj with ⟨v, pv, e3, e4, rv⟩ | ⟨e3, e4⟩
        · simp only [q, e4] at k1
          refine ⟨d, toKey jj, v, hH, asKey_rep (.inl hy) q, e3, ?_⟩
          have kp : Keep S1 H1 (upd H1 a (.dK (dropK d (toKey jj)))) := own_keep hi st1 e1 e2
          have ow' : Own X.K S1 (upd H1 a (.dK (dropK d (toKey jj)))) a (.dic (dropD kvs jj)) :=
            ⟨⟨_, upd_same, rs.drop.keep kp fun _ z => z⟩, by have := dropD_length kvs jj; omega⟩
          obtain ⟨st2, mv⟩ := st1.mut hi e1 e2 ow'
          have rv := rv.keep kp fun _ z => z
          have e1' : (ρ.set i (some (.dic (dropD kvs jj))))[i]? = some (some (.dic (dropD kvs jj))) := List.getElem?_set_self (get_lt e1)
          refine ⟨_, e2, S1, _, st2.re, (GoS.exp st2 (k1.mv mv)).mono fun pk S3 H3 _ x3 k3 y3 hy3 => ?_⟩
          have st3 := st2.ex x3
          have hy3 : Rep X.K S3 H3 y3 pk := hy3
          have rv := Rep.ext rv x3
          obtain ⟨d3, hH3, rs3, z3⟩ := dic_isD hi st3 e1' e2
          simp only [putP] at k3
          cases q : asKey pk with
          | none => rw [q] at k3; exact k3.elim
          | some kk =>
            rw [q] at k3
            by_cases hb : (dropD kvs jj).length < big
            · simp only [if_pos hb] at k3
              rw [big_line] at hb
              refine ⟨a, _, rfl, by rw [asKey_rep (.inl hy3) q]; exact DPut.k hH3 (by rw [rs3.length]; exact hb), ?_⟩
              have kp3 : Keep S3 H3 (upd H3 a (.dK (putK d3 (toKey kk) v))) := own_keep hi st3 e1' e2
              have ow3 : Own X.K S3 (upd H3 a (.dK (putK d3 (toKey kk) v))) a (.dic (putD (dropD kvs jj) kk pv)) :=
                ⟨⟨_, upd_same, (rs3.put (key_ok (.inl hy3) q) rv).keep kp3 fun _ z => z⟩, by have := putD_length (dropD kvs jj) kk pv; omega⟩
              obtain ⟨st', mv'⟩ := st3.mut hi e1' e2 ow3
              rw [List.set_set] at st'
              exact k3 σ S3 _ st' mv'
            · simp only [if_neg hb] at k3
              exact k3.elim
        · simp only [q, e4] at k1; exact k1.elim
    | dct kvs =>
      obtain ⟨a', e3, _, ⟨⟨d, hH, rs⟩, z⟩⟩ := st.re.ow i _ hi e1
      rw [e2] at e3
      cases e3
      refine ⟨_, e2, a, rfl, .inr ⟨d, .of hH⟩, S, ρ, st.re, (GoS.exp st go1).mono fun pj S1 H1 _ x1 k1 y hy => k1.elim⟩
    | _ =>
      have e0 : dicAt i ρ = .no := by unfold dicAt; rw [e1]
      unfold fMov at go
      rw [e0] at go
      exact go.elim

/-! ### for .. in x.pop(): x one's own list -/
def fForPop (tg : Tg) (i : Nat) (body : Env' → R Fl) : Env' → R Fl := fun ρ => lstAt i ρ >>= fun xs => match xs.getLast? with
  | some p => itemsP p >>= fun ys => forL tg body ys (ρ.set i (some (.lst xs.dropLast)))
  | none => .no
theorem Reps.dropLast {K : PySem.W.Frag} {S : Addr → Prop} {H : Hp} : ∀ {vs : List V} {ps : List PV}, Reps K S H vs ps → Reps K S H vs.dropLast ps.dropLast
  | _, _, .nil => .nil
  | _, _, .cons r .nil => .nil
  | _, _, .cons r (.cons r2 t) => .cons r (Reps.dropLast (.cons r2 t))
theorem for_wk {tg : Tg} {F : Env' → R Fl} (hmu : ∀ i ∈ tg.slots, i ∉ mu) {S0 S1 : Addr → Prop} {H0 H1 : Hp} {σ : L2.St} {ρ : Env'} {D : Ends} {J : It} {xs : List PV} (wk : Wk X.K .sh S1 H1 J xs) (st1 : StI X.K mu S0 H0 S1 σ H1 ρ) (k : GoS X.K cl W mu m S0 H0 S1 H1 (forL tg F xs ρ) D) :
    ∃ W' : Nat → Nat → L2.St → Hp → Prop, (∃ m, W' 0 m σ H1) ∧ ∀ i n σ H, W' i n σ H →
      (J.stop i H ∧ D.nx σ H) ∨ (J.go i H ∧ ∃ N : L2.St → Hp → Prop, (∀ σ' H', N σ' H' → ∃ m', m' < n ∧ W' (i + 1) m' σ' H') ∧ ∀ x H', J.yld i H x H' → tG X.K mu tg.slots tg x σ H' fun σ2 H2 => tS X.K cl W mu m F { D with nx := N, ct := N, bk := D.nx } σ2 H2) := by
  obtain ⟨G, Y, w, hz, hG, hY⟩ := wk
  refine for_it w (fun i σ H => ∃ S ρ, StI X.K mu S0 H0 S σ H ρ ∧ Mv S1 H1 S H ∧ GoS X.K cl W mu m S0 H0 S H (forL tg F (xs.drop i) ρ) D) ⟨S1, ρ, st1, Mv.refl S1 H1, k⟩ (fun i σ H _ ⟨S, ρ, _, mv, _⟩ => hG H mv.keep) (fun i v σ2 H2 H3 hi ⟨S2, ρ2, st2, mv2, go2⟩ y => ?_) (fun σ H ⟨S, ρ, st, mv, go⟩ => ?_)
  · have e1 : xs[i]? = some xs[i] := List.getElem?_eq_getElem hi
    obtain ⟨ex1, r1⟩ := hY i S2 H2 v H3 xs[i] mv2.sub mv2.keep e1 y
    rw [List.drop_eq_getElem_cons hi] at go2
    unfold forL at go2
    cases q : bindT tg xs[i] ρ2 with
    | ex z => exact (bindT_noex q).elim
    | no => rw [q] at go2; exact go2.elim
    | ok ρ3 =>
      rw [q] at go2
      refine tg_go hmu (st2.ex ex1) r1 q fun σ4 st4 => ⟨S0, H0, S2, ρ3, st4, ?_⟩
      have go3 := go2.mv (Mv.of ex1)
      rw [R.ok_bind] at go3
      cases q2 : F ρ3 with
      | ok fl =>
        rw [q2] at go3
        cases fl with
        | nx ρ5 =>
          intro σ5 S5 H5 st5 mv5
          exact ⟨S5, ρ5, st5, (mv2.trans (Mv.of ex1)).trans mv5, GoS.mv go3 mv5⟩
        | rt p => exact go3
      | ex z => rw [q2] at go3; exact go3
      | no => rw [q2] at go3; exact go3
  · rw [List.drop_length] at go
    exact go σ S H st (Mv.refl S H)
theorem psx_forpop {tgE : Expr} {tg : Tg} {i : Nat} {x : Str} {F : Env' → R Fl} {body : List Stmt} {apos p2 p3 : Pos} (hc : X.calm = true) (hNd : X.N.Nodup) (hp : PassesOwn (model X.prog X.w) X.A X.env X.xe) (ht : TgOk X tgE tg) (hmu : ∀ i ∈ tg.slots, i ∉ mu) (hi : i ∈ mu) (hN : X.N[i]? = some x) (hv : Vis X.env.scope x)
    (hd : (x == ("__debug__" : Str)) = false) (hcd : (x == ("__classdict__" : Str)) = false) (hline : (apos.endLine == p3.line) = true) (hb : PSsX X cl W mu m body F) :
    PSX X cl W mu m (.For tgE (.Call (.Attribute (.Name x p2) "pop" apos) [] [] p3) body [] pos) (fForPop tg i F) :=
  ps_imp (ps_for hp hc (pi_any (pe_bm0 PySem.F.plainAttrs_list PySem.F.slot_list_pop PySem.F.type_list_pop mt_pop (pe_var hN hv hd hcd) rfl hline)) (pgx (own := tg.slots) hc hNd ht hmu) hb) fun D σ H ⟨S0, H0, S, ρ, st, go⟩ => by
    obtain ⟨xs, a, vs, e1, e2, hH, rs, go1⟩ := lst_at hi st go
    cases q : xs.getLast? with
    | none => rw [q] at go1; exact go1.elim
    | some p =>
      rw [q] at go1
      have hx : xs[xs.length - 1]? = some p := by rw [← List.getLast?_eq_getElem?]; exact q
      obtain ⟨v, e3, rv⟩ := rs.get hx
      refine ⟨_, e2, .inl ⟨rfl, vs, .inl (.inl hH)⟩, a, vs, v, rfl, rfl, hH, by rw [rs.length]; exact e3, ?_⟩
      have kp : Keep S H (upd H a (.lst vs.dropLast)) := own_keep hi st e1 e2
      have hz : xs.length ≤ sizeLine := by
        obtain ⟨a', _, _, ⟨_, z⟩⟩ := st.re.ow i _ hi e1
        exact z
      have ow' : Own X.K S (upd H a (.lst vs.dropLast)) a (.lst xs.dropLast) :=
        ⟨⟨_, upd_same, rs.dropLast.keep kp fun _ z => z⟩, by rw [List.length_dropLast]; omega⟩
      obtain ⟨st', mv⟩ := st.mut hi e1 e2 ow'
      have rv : Rep X.K S (upd H a (.lst vs.dropLast)) v p := rv.keep kp fun _ z => z
      have go2 := go1.mv mv
      cases p with
      | tup ps =>
        obtain ⟨b, us, rfl, hb, r, z⟩ := (Pk.tup (.inl rv))
        exact .inr (.inl ⟨b, us, rfl, hb, for_wk hmu (wk_tup hb r z) st' go2⟩)
      | wt ps =>
        obtain ⟨b, us, rfl, hb, r, z⟩ := (Pk.wt (.inl rv))
        exact .inr (.inl ⟨b, us, rfl, hb, for_wk hmu (wk_tup hb r z) st' go2⟩)
      | str l =>
        obtain ⟨rfl, z⟩ := (Pk.str (.inl rv))
        exact .inr (.inr ⟨_, rfl, for_wk hmu (wk_str z) st' go2⟩)
      | lst ps =>
        cases rv with
        | lst s ha r z => exact .inl ⟨_, _, rfl, .inl (.inl ha), for_wk hmu (wk_lst_sh s ha r z) st' go2⟩
      | _ => exact go2.elim
end
end M
/-! M0: raise C(e), C an own class that keeps its one value by name. -/
namespace M
open PySem PySem.Spec PyProof.Rows L2
def YOk (X : Cx) (cl : Str → Value) (x : Str) : Prop := ∃ (C fI : Addr) (k : Nat) (fd : FuncData) (ps : List Str) (sp : Sp), L2.OexC X.K C ∧ PySem.W.findIn X.K (.ref C) "__init__" = some (some (.ref fI)) ∧ PySem.W.typeIn X.K (.ref fI) = some (.type "function") ∧
  FnOk X.prog X.w X.K X.mg X.base (L2.CX X.prog X.w) k fI fd ps sp ∧ Room (k + 1) X.A ∧ Binds X.K fd ps [] ∧ X.mg x = some (.ref C) ∧ cl x = .ref C ∧
  ∀ (a : Addr) (v : V) (H : Hp) (Q : VK) (E : XK), H a = some (exo a C none) → (∀ dx, H dx = none → dx ≠ a → Q .non (upd (upd H dx (exd dx [("name", v)])) a (exo a C (some dx)))) → sp [.ref a, v] H Q E
def fRaise1 (c : Str) (f : Env' → R PV) : Env' → R Fl := fun ρ => fCons f fNil ρ >>= fun ps => match ps with
  | [p] => .ex (.e1 c p)
  | _ => .no
theorem cx_no {P : Program} {w : World} {outer : List Env} {H : Hp} {s : Shared} {e : Value} {s' : Shared} (z : L2.CX P w outer H s (fun _ _ _ => False) e s') : False := by
  obtain ⟨_, _, _, _, _, _, _, _, _, _, _, _, z⟩ := z
  exact z.elim
theorem psx_raise1 {X : Cx} {cl : Str → Value} {W : WX} {mu : List Nat} {m : Md} {c : Str} {e : Expr} {f : Env' → R PV} {p pos pos' : Pos} (hc : X.calm = true) (tk : Takes X W) (y : YOk X cl c) (hg : Gl X c) (hdb : (c == ("__debug__" : Str)) = false) (he : PX X cl W mu .sh e f) (st : starEach [e] X.env = [(false, eval e X.env)]) :
    PSX X cl W mu m (.Raise (some (.Call (.Name c p) [e] [] pos)) none pos') (fRaise1 c f) := by
  obtain ⟨C, fI, k, fd, ps, sp, T, iC, tI, F, hr, hb, hm, hcl, hsp⟩ := y
  have ha : PAX X cl W mu .sh [e] (fCons f fNil) := pax_cons (by decide) he (pax_nil (by decide)) (by rw [st]; rfl)
  refine ps_imp (ps_raise hc tk (pmk_oex T iC tI F hr hb .nil (fun pins σ H s e s' _ z => (cx_no z).elim) hg hm ha hdb (by rw [st]; rfl) (by rfl))) fun D σ H ⟨S0, H0, S, ρ, st, go⟩ => ?_
  refine ⟨S, ρ, st.re, (GoS.exp st go).mono fun qs S1 H1 _ x k1 vs hvs => ?_⟩
  have hvs : Reps X.K S1 H1 vs qs := hvs
  match qs, vs, hvs with
  | [q], [v], .cons rv .nil =>
    have k1 : GoS X.K cl W mu m S0 H0 S1 H1 (.ex (.e1 c q)) D := k1
    refine ⟨by simp, fun a hn => ?_⟩
    refine hsp a v _ _ _ upd_same fun dx hdx hne => ⟨rfl, dx, [("name", v)], upd_same, ?_, ?_, ?_⟩
    · rw [upd_ne hne, upd_same]
    · rw [upd_ne hne] at hdx
      exact hdx
    · rw [upd_ne hne] at hdx
      have e1 : upd (del (upd (upd (upd H1 a (exo a C none)) dx (exd dx [("name", v)])) a (exo a C (some dx))) a) dx (.xd [("name", v)]) = upd H1 dx (.xd [("name", v)]) := by
        funext b
        by_cases h1 : b = dx
        · subst h1; rw [upd_same, upd_same]
        · rw [upd_ne h1, upd_ne h1]
          by_cases h2 : b = a
          · subst h2; rw [del_same, hn]
          · rw [del_ne h2, upd_ne h2, upd_ne h1, upd_ne h2]
      rw [e1]
      have xx : Ext S1 H1 S1 (upd H1 dx (.xd [("name", v)])) := Ext.laid hdx
      exact k1 σ S1 _ _ _ ((st.ext.trans x).trans xx) ⟨hcl.symm, dx, v, rfl, upd_same, Rep.ext rv xx⟩
end M
/-! M1: a class's own __init__ that keeps its one value by name. -/
namespace M
open PySem PySem.Spec PyProof.Rows L2
def initN : List Str := ["self", "name"]
def initS (body : List Stmt) : Prop := ∃ p1 p2 p3 pos, body = [.Assign [.Attribute (.Name "self" p1) "name" p2] (.Name "name" p3) pos]
def initB (body : List Stmt) : Bool := match body with
  | [.Assign [.Attribute (.Name x _) n _] (.Name y _) _] => x == ("self" : Str) && (n == ("name" : Str) && y == ("name" : Str))
  | _ => false
theorem initB_ok {body : List Stmt} (h : initB body = true) : initS body := by
  unfold initB at h
  split at h
  · simp only [Bool.and_eq_true, beq_iff_eq] at h
    obtain ⟨rfl, rfl, rfl⟩ := h
    exact ⟨_, _, _, _, rfl⟩
  · cases h
def initSp (K : PySem.W.Frag) : Sp := fun vs H Q E => ∃ (a C : Addr) (v : V), vs = [.ref a, v] ∧ OexC K C ∧ PySem.W.findIn K (.ref C) "name" = some none ∧ H a = some (exo a C none) ∧ ∀ dx, H dx = none → dx ≠ a → Q .non (upd (upd H dx (exd dx [("name", v)])) a (exo a C (some dx)))
theorem init_fn {P : Program} {w : World} {K : PySem.W.Frag} {mg : Str → Option Value} {base : Heap} {CX : CXT} {nm q : Str} {args : Arguments} {body : List Stmt} {scope : Scope} {f : Addr} {fd : FuncData} {n : Nat} (F : FunD K nm q args body scope [] [] f fd) (S : FnScope initN initN scope) (hb : initS body) :
    FnOk P w K mg base CX (n + 1) f fd initN (initSp K) := by
  obtain ⟨p1, p2, p3, pos, rfl⟩ := hb
  refine F.ok S (fun vs H Q E ⟨a, C, v, e, _⟩ => by subst e; rfl) fun cdv A outer s H vs Q E hr h => ?_
  have v1 : Vis scope "self" := (S.par "self" (by decide)).elim .inl fun z => .inr (.inl z)
  have v2 : Vis scope "name" := (S.par "name" (by decide)).elim .inl fun z => .inr (.inl z)
  refine ⟨_, pss_one (ps_ost (X := cxOf CX P w K mg base initN q scope f cdv A outer s H E) (pe_var (i := 0) rfl v1) (pe_var (i := 1) rfl v2)), ?_⟩
  obtain ⟨a, C, v, rfl, T, hf, hH, hQ⟩ := h
  exact ⟨_, rfl, _, rfl, a, C, rfl, T, hf, .inl ⟨hH, fun dx h1 h2 => hQ dx h1 h2⟩⟩
def clsBody : Stmt → List Stmt
  | .ClassDef _ _ _ body _ _ _ _ _ _ _ => body
  | _ => []
/-- a class's __init__, in the text -/
structure Yd where
  x : Str
  q : Str
  st : Stmt
/-- what the written part says of such a class, and of its __init__ -/
def YHd (K : PySem.W.Frag) (mg : Str → Option Value) (cl : Str → Value) (x : Str) : Prop := ∃ (C fI : Addr) (fd : FuncData) (nm q : Str) (args : Arguments) (body : List Stmt) (scope : Scope), OexC K C ∧ PySem.W.findIn K (.ref C) "__init__" = some (some (.ref fI)) ∧
  PySem.W.typeIn K (.ref fI) = some (.type "function") ∧ PySem.W.findIn K (.ref C) "name" = some none ∧ FunD K nm q args body scope [] [] fI fd ∧ FnScope initN initN scope ∧ initS body ∧ Binds K fd initN [] ∧ mg x = some (.ref C) ∧ cl x = .ref C
theorem YHd.ok {X : Cx} {cl : Str → Value} {x : Str} (h : YHd X.K X.mg cl x) (hr : Room 2 X.A) : YOk X cl x := by
  obtain ⟨C, fI, fd, nm, q, args, body, scope, T, iC, tI, nC, F, S, hb, bd, hm, hcl⟩ := h
  exact ⟨C, fI, 1, fd, initN, initSp X.K, T, iC, tI, init_fn F S hb, hr, bd, hm, hcl, fun a v H Q E hH hQ => ⟨a, C, v, rfl, T, nC, hH, hQ⟩⟩
def oexB (K : PySem.W.Frag) (C : Addr) : Bool := (match K.lookup C with
  | some ⟨.type t, dd, .cls cd, sl⟩ => (match cd.mro, sl.toList with
    | .ref C' :: bm, [_, _, _, _, some (.builtin n), _] => decide (t = "type") && (decide (C' = C) && (decide (n = "ValueError.__new__") && (!cd.hasDel && (cd.hasDict && PySem.HandSPX.refsVE bm))))
    | _, _ => false)
  | _ => false) && (decide (PySem.W.findIn K (.ref C) "__setattr__" = some (some (.builtin "object.__setattr__"))) && (decide (PySem.W.subIn K (.ref C) (.type "BaseException") = some true) && (decide (PySem.W.typeIn K (.ref C) = some (.type "type")) && PySem.W.keepIn K (.ref C))))
theorem oexB_ok {K : PySem.W.Frag} {C : Addr} (h : oexB K C = true) : OexC K C := by
  unfold oexB at h
  obtain ⟨h1, h⟩ := He.ba h
  obtain ⟨h2, h⟩ := He.ba h
  obtain ⟨h3, h⟩ := He.ba h
  obtain ⟨h4, h5⟩ := He.ba h
  refine ⟨?_, of_decide_eq_true h2, of_decide_eq_true h3, of_decide_eq_true h4, h5⟩
  split at h1
  · rename_i t dd cd sl ho
    split at h1
    · rename_i C' bm k0 k1 k2 k3 n k5 hm hs
      simp only [Bool.and_eq_true, decide_eq_true_eq, Bool.not_eq_true'] at h1
      obtain ⟨rfl, rfl, rfl, hdel, hdct, hr⟩ := h1
      obtain ⟨nm, bs, mro, ns, qn, hd, sn, sub, ab, col, del⟩ := cd
      dsimp only at hm hdel hdct
      subst hm hdel hdct
      have hsl : sl = #[k0, k1, k2, k3, some (.builtin "ValueError.__new__"), k5] := by
        obtain ⟨l⟩ := sl
        simp only at hs
        rw [hs]
      subst hsl
      exact ⟨nm, qn, ns, bs, bm, sn, sub, ab, col, dd, k0, k1, k2, k3, k5, ho, hr⟩
    · cases h1
  · cases h1
end M
/-! M2: what a suite behind except reads of the exception. -/
namespace M
open PySem PySem.Spec PyProof.Rows L2
/-- isinstance(e, c), e the exception that the suite holds, with a dict or without -/
def rIsX (K : PySem.W.Frag) (D a : Addr) (d : Option Addr) : List V → Hp → VK → Prop := fun xs H Q => ∃ (c : V) (cv : Value) (b : Bool), xs = [.ref a, c] ∧ (∀ u, RelV c u → u = cv) ∧ PySem.W.kitOne K (.ref D) cv = some b ∧ (d = none ∨ ∃ dd fs, d = some dd ∧ H dd = some (.xd fs)) ∧ Q (.bl b) H
theorem kitx_exc {K : PySem.W.Frag} {x D : Addr} {ox : Obj} {od : Option Obj} (C : ExcC K D) : PySem.W.KitX K (.ref x) (.ref D) (fun h => PySem.W.InstAt h x ox D od) where
  ty := fun _ _ _ I => I.type
  it := fun _ _ X _ => by
    obtain ⟨cdD, hcD, _⟩ := PySem.W.any_some C.hd
    unfold PySem.W.clsIn at hcD
    split at hcD
    · rename_i c' d' cd' sl' ho
      intro A' Q' E' s' k q
      unfold isType loadHead
      exact wpAny_bind (wpAny_loadPart (k _ _ (X _ _ ho)) (wpAny_pure q))
    · cases hcD
  ne := fun h tp dd its n sl X htp => by
    obtain ⟨cdD, hcD, _⟩ := PySem.W.any_some C.hd
    refine Bool.eq_false_iff.mpr fun q => ?_
    have e : D = tp := Value.ref.inj (beq_iff_eq.mp q)
    subst e
    unfold PySem.W.clsIn at hcD
    split at hcD
    · rename_i c' d' cd' sl' ho
      have z := (X _ _ ho).symm.trans htp
      cases z
    · cases hcD
  ca := fun X I k => PySem.W.kx_classE X I C.hg C.hk C.hs (PySem.W.findObj_dataE (by obtain ⟨cd, hc, _⟩ := PySem.W.any_some C.hd; rw [hc]; rfl) C.ha C.hn C.ht) C.hm k
theorem call_isX {X : Cx} {a D : Addr} {oe : Obj} {pn : List (Addr × Obj)} {d : Option Addr} (C : ExcC X.K D) (hz : Zc (.ref D) d oe) (hf : ∃ vs, oe.data = .fields vs) : CallR (X.suite a ((a, oe) :: pn)) (.builtin "isinstance") (rIsX X.K D a d) := by
  intro pins s σ H xs us Q I r h
  obtain ⟨c, cv, b, rfl, hcv, e, hd, q⟩ := h
  cases r with
  | cons rx rr =>
    cases rr with
    | cons rt rr =>
      cases rr
      cases rx
      have ec := hcv _ rt
      subst ec
      obtain ⟨hget, _⟩ := I.pin (a, oe) (List.mem_append.mpr (.inl List.mem_cons_self))
      obtain ⟨vs, hv⟩ := hf
      have J : ∃ od, PySem.W.InstAt s.heap a oe D od := by
        obtain ⟨oc, ocd, oda, osl⟩ := oe
        obtain ⟨h1, h2⟩ := hz
        dsimp only at h1 h2 hv
        subst h1 h2 hv
        rcases hd with rfl | ⟨dd, fs, rfl, hx⟩
        · exact ⟨none, hget, rfl, rfl, trivial⟩
        · have hx : ObjOk X.prog X.w H s.heap dd (.xd fs) := I.hok dd _ hx
          obtain ⟨mA, hns, hr⟩ := hx
          obtain ⟨od, ho, hl⟩ := lookIn_ns hns
          exact ⟨some od, hget, rfl, rfl, ho⟩
      obtain ⟨od, J⟩ := J
      exact PySem.W.kia_one (kitx_exc C) I.kIn J e (fun z => nomatch z) fun tk => ⟨.bl b, H, I.kept (t' := tk) fun _ _ z => z, rfl, q⟩
/-! ### small expressions of a suite -/
section
variable {K : PySem.W.Frag} {cl : Str → Value} {mu : List Nat} {i : Nat} {a : Addr} {cls : Value} {d : Option Addr} {x : Ex}
theorem ExOk.ext {S S' : Addr → Prop} {H H' : Hp} (h : ExOk K cl S H cls d x) (e : Ext S H S' H') : ExOk K cl S' H' cls d x := by
  cases x with
  | e0 c => exact h
  | e1 c p =>
    obtain ⟨h1, dd, v, h2, h3, h4⟩ := h
    exact ⟨h1, dd, v, h2, e.same _ _ h3, Rep.ext h4 e⟩
def tX (K : PySem.W.Frag) (cl : Str → Value) (mu : List Nat) (i : Nat) (a : Addr) (cls : Value) (d : Option Addr) (x : Ex) (f : Env' → R PV) : TE := fun σ H Q => ∃ S ρ, RE K mu S σ H ρ ∧ (σ[i]? = some (some (.ref a)) ∧ ExOk K cl S H cls d x) ∧ GoR K cl W0 σ S H (f ρ) (Wn K .sh H Q)
def tXA (K : PySem.W.Frag) (cl : Str → Value) (mu : List Nat) (i : Nat) (a : Addr) (cls : Value) (d : Option Addr) (x : Ex) (f : Env' → R (List PV)) : TA := fun σ H Q => ∃ S ρ, RE K mu S σ H ρ ∧ (σ[i]? = some (some (.ref a)) ∧ ExOk K cl S H cls d x) ∧ GoR K cl W0 σ S H (f ρ) (fun ps S' H' => ∀ vs, Reps K S' H' vs ps → Q vs H')
variable {X : Cx} {e e2 : Expr} {es : List Expr} {f g : Env' → R PV} {fs : Env' → R (List PV)} {pos : Pos}
theorem pxx_of (h : PX X cl W0 mu .sh e f) : PE X e (tX X.K cl mu i a cls d x f) := pe_imp h fun σ H Q ⟨S, ρ, re, _, go⟩ => ⟨S, ρ, re, go⟩
theorem pxx_or {rest : List Expr} (ha : PE X e (tX X.K cl mu i a cls d x f)) (hb : PE X (.BoolOp .Or (e2 :: rest) pos) (tX X.K cl mu i a cls d x g)) : PE X (.BoolOp .Or (e :: e2 :: rest) pos) (tX X.K cl mu i a cls d x (fOrV f g)) :=
  pe_imp (pe_or ha hb) fun σ H Q ⟨S, ρ, re, k, go⟩ => ⟨S, ρ, re, k, go.bind.mono fun p S1 H1 _ y go1 v hv => by
    obtain ⟨c, e, go2⟩ := gor_noex go1 fun e => asBl_noex
    have hv : Pk X.K S1 H1 v p := .inl hv
    rw [asBl_ok e] at hv
    refine ⟨c, hv.bl, ?_⟩
    cases c with
    | true => exact give_bl go2
    | false => exact ⟨S1, ρ, re.ext y, ⟨k.1, k.2.ext y⟩, own_same y.same go2⟩⟩
theorem paxx_nil : PA X [] (tXA X.K cl mu i a cls d x fNil) := pa_imp pa_nil fun σ H Q ⟨S, ρ, re, k, go⟩ => go.here [] .nil
theorem paxx_cons (he : PE X e (tX X.K cl mu i a cls d x f)) (hs : PA X es (tXA X.K cl mu i a cls d x fs)) (st : starEach (e :: es) X.env = (false, eval e X.env) :: starEach es X.env) : PA X (e :: es) (tXA X.K cl mu i a cls d x (fCons f fs)) :=
  pa_imp (pa_cons he hs st) fun σ H Q ⟨S, ρ, re, k, go⟩ => ⟨S, ρ, re, k, go.bind.mono fun p S1 H1 _ y go1 v hv => ⟨S1, ρ, re.ext y, ⟨k.1, k.2.ext y⟩, go1.bind.mono fun ps S2 H2 _ z go2 vs hvs => by
    have hv : Rep X.K S1 H1 v p := hv
    exact go2.here (v :: vs) (.cons (Rep.ext hv z) hvs)⟩⟩
theorem pxx_tup {k : Nat} (hs : PA X es (tXA X.K cl mu i a cls d x fs)) : PE X (.Tuple es k pos) (tX X.K cl mu i a cls d x (fTup fs)) :=
  pe_imp (pe_tupG hs) fun σ H Q ⟨S, ρ, re, k, go⟩ => ⟨S, ρ, re, k, go.bind.mono fun ps S1 H1 _ y go1 vs hv => by
    split at go1
    · rename_i z
      have lb := line_big
      exact ⟨by rw [hv.length]; omega, fun p ob hp hb => give_tup go1 hp hb hv (by omega)⟩
    · exact go1.elim⟩
end
section
variable {X : Cx} {cl : Str → Value} {mu : List Nat} {i : Nat} {a D : Addr} {d : Option Addr} {x : Ex} {oe : Obj} {pn : List (Addr × Obj)} {en : Str} {pos p1 p2 : Pos}
/-- isinstance(e, c): what the classes say -/
theorem pxx_isE {c : Str} {cv : Value} {v : V} {b : Bool} (C : ExcC X.K D) (hz : Zc (.ref D) d oe) (hf : ∃ vs, oe.data = .fields vs) (hg : Gl X "isinstance") (hm : X.mg "isinstance" = none) (hN : X.N[i]? = some en) (hv : Vis X.env.scope en) (hd : (en == ("__debug__" : Str)) = false) (hcd : (en == ("__classdict__" : Str)) = false)
    (hc : PE (X.suite a ((a, oe) :: pn)) (.Name c p2) (tC v)) (hcv : ∀ u, RelV v u → u = cv) (hk : PySem.W.kitOne X.K (.ref D) cv = some b) (p : Pos) :
    PE (X.suite a ((a, oe) :: pn)) (.Call (.Name "isinstance" p) [.Name en p1, .Name c p2] [] pos) (tX X.K cl mu i a (.ref D) d x (fun _ => .ok (.bl b))) :=
  pe_imp (pe_callB (X := X.suite a ((a, oe) :: pn)) (call_isX C hz hf) hg hm boot_isinstance (pa_cons (pe_var (i := i) hN hv hd hcd) (pa_cons hc pa_nil))) fun σ H Q ⟨S, ρ, re, k, go⟩ => by
    refine ⟨_, k.1, v, cv, b, rfl, hcv, hk, ?_, ?_⟩
    · cases x with
      | e0 c => exact .inl k.2.2
      | e1 c p =>
        obtain ⟨_, dd, v, h2, h3, _⟩ := k.2
        exact .inr ⟨dd, _, h2, h3⟩
    · exact go.here _ (Rep.bl b)
/-- e.name -/
theorem pxx_nm {c : Str} {p : PV} (T : XfC X.K D) (hno : PySem.W.findIn X.K (.ref D) "name" = some none) (hz : Zc (.ref D) d oe) (hf : ∃ vs, oe.data = .fields vs) (hN : X.N[i]? = some en) (hv : Vis X.env.scope en) (hd : (en == ("__debug__" : Str)) = false) (hcd : (en == ("__classdict__" : Str)) = false) :
    PE (X.suite a ((a, oe) :: pn)) (.Attribute (.Name en p1) "name" pos) (tX X.K cl mu i a (.ref D) d (.e1 c p) (fun _ => .ok p)) :=
  pe_imp (pe_xf (cls := .ref D) T hno hz hf (pe_var (X := X.suite a ((a, oe) :: pn)) (i := i) hN hv hd hcd)) fun σ H Q ⟨S, ρ, re, k, go⟩ => by
    obtain ⟨_, dd, v, h2, h3, h4⟩ := k.2
    exact ⟨_, k.1, rfl, rfl, dd, _, v, h2, h3, rfl, go.here v h4⟩
end
/-- a slot forgotten -/
theorem StI.forget {K : PySem.W.Frag} {mu : List Nat} {S0 S : Addr → Prop} {H0 H : Hp} {σ : L2.St} {ρ : Env'} (st : StI K mu S0 H0 S σ H ρ) {i : Nat} (hi : i ∉ mu) (o : Option V) : StI K mu S0 H0 S (σ.set i o) H (ρ.set i none) := by
  have hs : ∀ {j : Nat} {p : PV}, (ρ.set i none)[j]? = some (some p) → i ≠ j ∧ ρ[j]? = some (some p) := fun {j p} e => by
    by_cases h : i = j
    · subst h
      have hl : i < ρ.length := by have := get_lt e; simpa using this
      rw [List.getElem?_set_self hl] at e
      cases e
    · rw [List.getElem?_set_ne h] at e
      exact ⟨h, e⟩
  refine ⟨⟨by simp [st.re.len], st.re.dom, fun j p hj e => ?_, fun j p hj e => ?_, fun j k p q b hj hk hne e1 e2 e3 => ?_⟩, st.ext, fun j b p hj e1 e2 => ?_⟩
  · obtain ⟨h, e⟩ := hs e
    rw [List.getElem?_set_ne h]
    exact st.re.sh j p hj e
  · obtain ⟨h, e⟩ := hs e
    rw [List.getElem?_set_ne h]
    exact st.re.ow j p hj e
  · obtain ⟨h1, e1⟩ := hs e1
    obtain ⟨h2, e2⟩ := hs e2
    rw [List.getElem?_set_ne h1] at e3
    rw [List.getElem?_set_ne h2]
    exact st.re.df j k p q b hj hk hne e1 e2 e3
  · obtain ⟨h, e1⟩ := hs e1
    rw [List.getElem?_set_ne h] at e2
    exact st.fr j b p hj e1 e2
/-! ### the suite's statements -/
section
variable {K : PySem.W.Frag} {cl : Str → Value} {mu : List Nat} {i : Nat} {a : Addr} {cls : Value} {d : Option Addr} {x : Ex}
def tXT (K : PySem.W.Frag) (cl : Str → Value) (mu : List Nat) (i : Nat) (a : Addr) (cls : Value) (d : Option Addr) (x : Ex) (f : Env' → R Bool) : TT := fun σ H Q => ∃ S ρ, RE K mu S σ H ρ ∧ (σ[i]? = some (some (.ref a)) ∧ ExOk K cl S H cls d x) ∧ GoR K cl W0 σ S H (f ρ) (fun b _ H' => Q b H')
variable {X : Cx} {e e2 : Expr} {f g : Env' → R PV} {pos pos' : Pos}
theorem ptxx_cmp {op : CmpOp} {k : PV → PV → R PV} (hO : OpS X (compareOp op) k) (ha : PE X e (tX X.K cl mu i a cls d x f)) (hb : PE X e2 (tX X.K cl mu i a cls d x g)) (hm : behindInMarks op e2 = false) : PT X (.Compare e [op] [e2] pos) (tXT X.K cl mu i a cls d x (fTst asBl (fBin k f g))) := by
  obtain ⟨r, o, hop⟩ := hO
  refine pt_imp (pt_cmpR o ha hb hm) fun σ H Q ⟨S, ρ, re, kk, go⟩ => ?_
  have go' : GoR X.K cl W0 σ S H (fBin k f g ρ) (Wn X.K .pk H fun x H' => ∃ c, x = .bl c ∧ Q c H') := go.bind.mono fun p S1 H1 _ x go1 v hv => by
    obtain ⟨b, e, go2⟩ := gor_noex (f := fun b => R.ok b) (show GoR X.K cl W0 σ S1 H1 (asBl p >>= fun b => R.ok b) _ by
      cases q : asBl p with
      | ok b => rw [q] at go1; exact go1
      | ex z => exact (asBl_noex q).elim
      | no => rw [q] at go1; exact go1.elim) fun z => asBl_noex
    rw [asBl_ok e] at hv
    exact ⟨b, hv.bl, go2.here⟩
  refine ⟨S, ρ, re, kk, go'.bind.mono fun p S1 H1 _ y go1 v hv => ⟨S1, ρ, re.ext y, ⟨kk.1, kk.2.ext y⟩, go1.bind.mono fun q S2 H2 _ z go2 u hu => ?_⟩⟩
  have hv : Rep X.K S1 H1 v p := hv
  have hu : Rep X.K S2 H2 u q := hu
  exact hop cl W0 σ S2 H2 H .pk _ v u p q (y.same.trans z.same) ((re.ext y).ext z).dom (.inl (Rep.ext hv z)) (.inl hu) go2
def tXS (K : PySem.W.Frag) (cl : Str → Value) (mu : List Nat) (i : Nat) (a : Addr) (cls : Value) (d : Option Addr) (x : Ex) (F : Env' → R Env') : TS := fun D σ H => ∃ S0 H0 S ρ, StI K mu S0 H0 S σ H ρ ∧ (σ[i]? = some (some (.ref a)) ∧ ExOk K cl S H cls d x) ∧ match F ρ with
  | .ok ρ' => ∀ σ' S' H', StI K mu S0 H0 S' σ' H' ρ' → Mv S H S' H' → σ'[i]? = some (some (.ref a)) → ExOk K cl S' H' cls d x → D.nx σ' H'
  | _ => False
def xNext : Env' → R Env' := fun ρ => .ok ρ
def xSeq (F G : Env' → R Env') : Env' → R Env' := fun ρ => F ρ >>= G
def xSet (j : Nat) (f : Env' → R PV) : Env' → R Env' := fun ρ => f ρ >>= fun p => .ok (ρ.set j (some p))
def xIf (t : Env' → R Bool) (F : Env' → R Env') : Env' → R Env' := fun ρ => t ρ >>= fun b => if b then F ρ else .ok ρ
theorem gor_w0 {α : Type} {K : PySem.W.Frag} {cl : Str → Value} {σ : L2.St} {S : Addr → Prop} {H : Hp} {r : R α} {k : α → (Addr → Prop) → Hp → Prop} {b : α} (e : r = .ok b) (h : ∀ S' H', Ext S H S' H' → k b S' H') : GoR K cl W0 σ S H r k := by
  rw [e]
  exact h
theorem psxx_nil : PSs X [] (tXS X.K cl mu i a cls d x xNext) := pss_imp pss_nil fun D σ H ⟨S0, H0, S, ρ, st, k, h⟩ => h σ S H st (Mv.refl S H) k.1 k.2
theorem psxx_cons {st : Stmt} {r : List Stmt} {F G : Env' → R Env'} (h1 : PS X st (tXS X.K cl mu i a cls d x F)) (h2 : PSs X r (tXS X.K cl mu i a cls d x G)) : PSs X (st :: r) (tXS X.K cl mu i a cls d x (xSeq F G)) :=
  pss_imp (pss_cons h1 h2) fun D σ H ⟨S0, H0, S, ρ, st, k, h⟩ => ⟨S0, H0, S, ρ, st, k, by
    unfold xSeq at h
    cases q : F ρ with
    | ok ρ' =>
      rw [q] at h
      intro σ' S' H' st' mv e1 e2
      refine ⟨S0, H0, S', ρ', st', ⟨e1, e2⟩, ?_⟩
      have h : match G ρ' with
        | .ok ρ' => ∀ σ' S' H', StI X.K mu S0 H0 S' σ' H' ρ' → Mv S H S' H' → σ'[i]? = some (some (.ref a)) → ExOk X.K cl S' H' cls d x → D.nx σ' H'
        | _ => False := h
      cases r : G ρ' with
      | ok ρ2 =>
        rw [r] at h
        exact fun σ2 S2 H2 st2 mv2 e3 e4 => h σ2 S2 H2 st2 (mv.trans mv2) e3 e4
      | ex z => rw [r] at h; exact h.elim
      | no => rw [r] at h; exact h.elim
    | ex z => rw [q] at h; exact h.elim
    | no => rw [q] at h; exact h.elim⟩
theorem psxx_set {j : Nat} {n : Str} (hj : j ∉ mu) (hji : j ≠ i) (hN : X.N.Nodup) (hx : X.N[j]? = some n) (hl : Loc X.env.scope n) (he : PE X e (tX X.K cl mu i a cls d x f)) (hs : swapsWith e (some (.Name n pos')) pos.line X.env = pure false) (hf : X.fn n = true ∨ X.env.scope.names.lookup n = some .local) :
    PS X (.Assign [.Name n pos'] e pos) (tXS X.K cl mu i a cls d x (xSet j f)) := ps_imp (ps_set hN hx hl he hs hf) fun D σ H ⟨S0, H0, S, ρ, st, k, h⟩ => by
  unfold xSet at h
  cases q : f ρ with
  | ok p =>
    rw [q] at h
    refine ⟨S, ρ, st.re, k, gor_w0 q fun S' H' y v hv => ?_⟩
    have hv : Rep X.K S' H' v p := hv
    exact h _ S' H' ((st.ex y).set hj hv) (Mv.of y) (by rw [List.getElem?_set_ne hji]; exact k.1) (k.2.ext y)
  | ex z => rw [q] at h; exact h.elim
  | no => rw [q] at h; exact h.elim
theorem psxx_if {t : Env' → R Bool} {body : List Stmt} {F : Env' → R Env'} (ht : PT X e (tXT X.K cl mu i a cls d x t)) (hb : PSs X body (tXS X.K cl mu i a cls d x F)) : PS X (.If e body [] pos) (tXS X.K cl mu i a cls d x (xIf t F)) :=
  ps_imp (ps_if ht hb psxx_nil) fun D σ H ⟨S0, H0, S, ρ, st, k, h⟩ => by
    unfold xIf at h
    cases q : t ρ with
    | ok b =>
      rw [q] at h
      refine ⟨S, ρ, st.re, k, gor_w0 q fun S' H' y => ?_⟩
      cases b with
      | true =>
        refine ⟨S0, H0, S', ρ, st.ex y, ⟨k.1, k.2.ext y⟩, ?_⟩
        have h : match F ρ with
          | .ok ρ' => ∀ σ' S' H', StI X.K mu S0 H0 S' σ' H' ρ' → Mv S H S' H' → σ'[i]? = some (some (.ref a)) → ExOk X.K cl S' H' cls d x → D.nx σ' H'
          | _ => False := h
        cases r : F ρ with
        | ok ρ2 =>
          rw [r] at h
          exact fun σ2 S2 H2 st2 mv2 e3 e4 => h σ2 S2 H2 st2 ((Mv.of y).trans mv2) e3 e4
        | ex z => rw [r] at h; exact h.elim
        | no => rw [r] at h; exact h.elim
      | false =>
        refine ⟨S0, H0, S', ρ, st.ex y, ⟨k.1, k.2.ext y⟩, ?_⟩
        have h : ∀ σ' S' H', StI X.K mu S0 H0 S' σ' H' ρ → Mv S H S' H' → σ'[i]? = some (some (.ref a)) → ExOk X.K cl S' H' cls d x → D.nx σ' H' := h
        exact fun σ2 S2 H2 st2 mv2 e3 e4 => h σ2 S2 H2 st2 ((Mv.of y).trans mv2) e3 e4
    | ex z => rw [q] at h; exact h.elim
    | no => rw [q] at h; exact h.elim
end
/-! ### try: x = e; except C as n: .. -/
def exName : Ex → Str
  | .e0 c => c
  | .e1 c _ => c
/-- classes of the text: all stand right below TongueError -/
def exIs (x : Ex) (c : Str) : Bool := exName x == c || (c == ("TongueError" : Str) || c == ("ValueError" : Str))
theorem ExOk.name {K : PySem.W.Frag} {cl : Str → Value} {S : Addr → Prop} {H : Hp} {cls : Value} {d : Option Addr} {x : Ex} (h : ExOk K cl S H cls d x) : cls = cl (exName x) := by
  cases x with
  | e0 c => exact h.1
  | e1 c p => exact h.1
def asNx (i : Nat) : R Env' → R Fl
  | .ok ρ' => .ok (.nx (ρ'.set i none))
  | _ => .no
def fTry (j i : Nat) (kn : List Str) (c : Str) (f : Env' → R PV) (G : Ex → Env' → R Env') : Env' → R Fl := fun ρ => match f ρ with
  | .ok p => .ok (.nx (ρ.set j (some p)))
  | .ex x => if kn.contains (exName x) then (if exIs x c then (if i < ρ.length then asNx i (G x (ρ.set i none)) else .no) else .ex x) else .no
  | .no => .no
theorem pss_ex {X : Cx} {st : List Stmt} {α : Type} {P : α → Prop} {t : α → TS} (h : ∀ x, P x → PSs X st (t x)) : PSs X st (fun D σ H => ∃ x, P x ∧ t x D σ H) := ⟨fun pins s σ H D I ⟨x, p, q⟩ => (h x p).run pins s σ H D I q⟩
section
variable {X : Cx} {cl : Str → Value} {W : WX} {mu : List Nat} {m : Md} {e : Expr} {f : Env' → R PV} {pos pos' np bp tp : Pos} {suite : List Stmt} {b₀ : Stmt}
theorem psx_tryA {i j : Nat} {kn : List Str} {c n t : Str} {cv : Value} {G : Ex → Env' → R Env'} (hs : X.stack = X.env :: X.outer) (hf : X.env.frame = some X.env.locals) (hN : X.N.Nodup) (hi : X.N[i]? = some n) (him : i ∉ mu) (hln : X.env.kindOf n = some .local) (hc : Names X c cv) (tk : Takes X W)
    (hj : j ∉ mu) (ht : X.N[j]? = some t) (hl : Loc X.env.scope t) (hsw : swapsWith e (some (.Name t tp)) bp.line X.env = pure false) (hfn : X.fn t = true ∨ X.env.scope.names.lookup t = some .local)
    (he : ∀ (W' : WX) (pn : List (Addr × Obj)) (xe : Value → Shared → Prop), Takes (X.tr pn xe) W' → PX (X.tr pn xe) cl W' mu .sh e f)
    (hk : ∀ y ∈ kn, PySem.W.exmOne X.K (cl y) cv = some (exIs (.e0 y) c))
    (hsu : ∀ (x : Ex), exName x ∈ kn → ∀ (a : Addr) (oe : Obj) (d : Option Addr) (pn : List (Addr × Obj)), Zc (cl (exName x)) d oe → (∃ vs, oe.data = .fields vs) → PSs (X.suite a ((a, oe) :: pn)) (b₀ :: suite) (tXS X.K cl mu i a (cl (exName x)) d x (G x))) :
    PSX X cl W mu m (.Try [.Assign [.Name t tp] e bp] [.ExceptHandler (some (.Name c np)) (some n) (b₀ :: suite) pos'] [] [] pos) (fTry j i kn c f G) := by
  refine ps_imp (ps_try_as (i := i) (tb := fun W' => tAsg (tE X.K cl W' mu .sh f) (gName j)) (ts := fun a cls d D σ H => ∃ x, (exName x ∈ kn ∧ cls = cl (exName x)) ∧ tXS X.K cl mu i a cls d x (G x) D σ H) hs hf hN hi hln hc tk
    (fun W' pn xe tk' _ => pss_one (ps_set (X := X.tr pn xe) hN ht hl (he W' pn xe tk') hsw hfn)) (fun a oe cls d pn hz hv => pss_ex fun x ⟨hx, hcl⟩ => by
      subst hcl
      exact hsu x hx a oe d pn hz hv)) fun D σ H ⟨S0, H0, S, ρ, st, go⟩ => ?_
  refine ⟨S, ρ, st.re, ?_⟩
  unfold fTry at go
  cases q : f ρ with
  | ok p =>
    rw [q] at go
    intro S' H' y v hv
    have hv : Rep X.K S' H' v p := hv
    exact go _ S' H' ((st.ex y).set hj hv) (Mv.of y)
  | no => rw [q] at go; exact go.elim
  | ex x =>
    rw [q] at go
    intro S' H' cls d y ex
    have hcl := ex.name
    by_cases hkn : kn.contains (exName x) = true
    · simp only [hkn, if_true] at go
      have hm : exName x ∈ kn := by simpa using hkn
      refine ⟨exIs x c, by rw [hcl]; exact hk _ hm, fun hb a hn => ?_, fun hb => ?_⟩
      · rw [if_pos hb] at go
        by_cases hlt : i < ρ.length
        · rw [if_pos hlt] at go
          refine ⟨x, ⟨hm, hcl⟩, S0, H0, S', ρ.set i none, (st.ex y).forget him _, ⟨List.getElem?_set_self (by rw [st.re.len]; exact hlt), ex⟩, ?_⟩
          cases r : G x (ρ.set i none) with
          | ok ρ' =>
            rw [r] at go
            intro σ' S2 H2 st2 mv _ _
            have go : GoS X.K cl W mu m S0 H0 S H (.ok (.nx (ρ'.set i none))) D := go
            exact go _ S2 H2 (st2.forget him none) ((Mv.of y).trans mv)
          | ex z =>
            rw [r] at go
            exact go.elim
          | no => rw [r] at go; exact go.elim
        · rw [if_neg hlt] at go
          exact go.elim
      · rw [hb] at go
        rw [if_neg Bool.false_ne_true] at go
        exact go σ S' H' cls d (st.ext.trans y) ex
    · simp only [if_neg hkn] at go
      exact go.elim
/-- .. without a name -/
def fTryO (j : Nat) (kn : List Str) (c : Str) (f : Env' → R PV) (G : Env' → R Fl) : Env' → R Fl := fun ρ => match f ρ with
  | .ok p => .ok (.nx (ρ.set j (some p)))
  | .ex x => if kn.contains (exName x) then (if exIs x c then (match G ρ with
    | .ok fl => .ok fl
    | _ => .no) else .ex x) else .no
  | .no => .no
theorem psx_tryO {j : Nat} {kn : List Str} {c t : Str} {cv : Value} {G : Env' → R Fl} (hs : X.stack = X.env :: X.outer) (hf : X.env.frame = some X.env.locals) (hN : X.N.Nodup) (hc : Names X c cv) (tk : Takes X W)
    (hj : j ∉ mu) (ht : X.N[j]? = some t) (hl : Loc X.env.scope t) (hsw : swapsWith e (some (.Name t tp)) bp.line X.env = pure false) (hfn : X.fn t = true ∨ X.env.scope.names.lookup t = some .local)
    (he : ∀ (W' : WX) (pn : List (Addr × Obj)) (xe : Value → Shared → Prop), Takes (X.tr pn xe) W' → PX (X.tr pn xe) cl W' mu .sh e f)
    (hk : ∀ y ∈ kn, PySem.W.exmOne X.K (cl y) cv = some (exIs (.e0 y) c))
    (hsu : ∀ (a : Addr) (oe : Obj) (pn : List (Addr × Obj)), PSsX (X.suite a ((a, oe) :: pn)) cl W0 mu m (b₀ :: suite) G) :
    PSX X cl W mu m (.Try [.Assign [.Name t tp] e bp] [.ExceptHandler (some (.Name c np)) none (b₀ :: suite) pos'] [] [] pos) (fTryO j kn c f G) := by
  refine ps_imp (ps_try_only (tb := fun W' => tAsg (tE X.K cl W' mu .sh f) (gName j)) (ts := fun a cls d => tS X.K cl W0 mu m G) hs hf hc tk
    (fun W' pn xe tk' _ => pss_one (ps_set (X := X.tr pn xe) hN ht hl (he W' pn xe tk') hsw hfn)) (fun a oe cls d pn hz hv => hsu a oe pn)) fun D σ H ⟨S0, H0, S, ρ, st, go⟩ => ?_
  refine ⟨S, ρ, st.re, ?_⟩
  unfold fTryO at go
  cases q : f ρ with
  | ok p =>
    rw [q] at go
    intro S' H' y v hv
    have hv : Rep X.K S' H' v p := hv
    exact go _ S' H' ((st.ex y).set hj hv) (Mv.of y)
  | no => rw [q] at go; exact go.elim
  | ex x =>
    rw [q] at go
    intro S' H' cls d y ex
    have hcl := ex.name
    by_cases hkn : kn.contains (exName x) = true
    · simp only [hkn, if_true] at go
      have hm : exName x ∈ kn := by simpa using hkn
      refine ⟨exIs x c, by rw [hcl]; exact hk _ hm, fun hb a hn => ?_, fun hb => ?_⟩
      · rw [if_pos hb] at go
        refine ⟨S0, H0, S', ρ, st.ex y, ?_⟩
        cases r : G ρ with
        | ok fl =>
          rw [r] at go
          have go : GoS X.K cl W mu m S0 H0 S H (.ok fl) D := go
          cases fl with
          | nx ρ' => exact fun σ' S2 H2 st2 mv => go σ' S2 H2 st2 ((Mv.of y).trans mv)
          | rt p => exact go
        | ex z => rw [r] at go; exact go.elim
        | no => rw [r] at go; exact go.elim
      · rw [hb] at go
        rw [if_neg Bool.false_ne_true] at go
        exact go σ S' H' cls d (st.ext.trans y) ex
    · simp only [if_neg hkn] at go
      exact go.elim
end
/-! ### the suites' small language -/
mutual
inductive XE where
  | c (p : PV)
  | v (j : Nat)
  | isE (c : Str)
  | nm
  | or (a b : XE)
  | tup (es : XEs)
inductive XEs where
  | nil
  | cons (e : XE) (es : XEs)
end
mutual
inductive XS where
  | set (j : Nat) (e : XE)
  | eq (a b : XE) (r : XSs)
inductive XSs where
  | nil
  | cons (s : XS) (r : XSs)
end
section
variable (ys : List Str) (x : Ex)
def xNm : Env' → R PV := fun _ => match x with
  | .e1 c p => if ys.contains c then .ok p else .no
  | .e0 _ => .no
mutual
def XE.ev : XE → Env' → R PV
  | .c p => fC p
  | .v j => fVar j
  | .isE c => fun _ => .ok (.bl (exIs x c))
  | .nm => xNm ys x
  | .or a b => fOrV a.ev b.ev
  | .tup es => fTup es.ev
def XEs.ev : XEs → Env' → R (List PV)
  | .nil => fNil
  | .cons e es => fCons e.ev es.ev
end
mutual
def XS.ev : XS → Env' → R Env'
  | .set j e => xSet j (e.ev ys x)
  | .eq a b r => xIf (fTst asBl (fBin (cmpP .Eq) (a.ev ys x) (b.ev ys x))) r.ev
def XSs.ev : XSs → Env' → R Env'
  | .nil => xNext
  | .cons s r => xSeq s.ev r.ev
end
end
end M
/-! MW: the small language, what it means, how the text is read into it. -/
namespace M
open PySem PySem.Spec PyProof.Rows L2

inductive Pr where
  | len | all | any | abs | min | int | str | tuple | list | dict | sorted
  deriving DecidableEq, Repr
def Pr.ev : Pr → List PV → R PV
  | .len => lenP
  | .all => allP
  | .any => anyP
  | .abs => absP
  | .min => minP
  | .int => intP
  | .str => strP
  | .tuple => tupleP
  | .list => listP2
  | .dict => dictP
  | .sorted => sortedP
def Pr.name : Pr → Str
  | .len => "len"
  | .all => "all"
  | .any => "any"
  | .abs => "abs"
  | .min => "min"
  | .int => "int"
  | .str => "str"
  | .tuple => "tuple"
  | .list => "list"
  | .dict => "dict"
  | .sorted => "sorted"
def Pr.all' : List Pr := [.len, .all, .any, .abs, .min, .int, .str, .tuple, .list, .dict, .sorted]
def prOf (x : Str) : Option Pr := Pr.all'.find? fun k => k.name == x
inductive M1 where
  | partition | split | join | count
  deriving DecidableEq, Repr
def M1.ev : M1 → List Nat → PV → R PV
  | .partition => partP
  | .split => splitP
  | .join => joinP
  | .count => countP
def M1.name : M1 → Str
  | .partition => "partition"
  | .split => "split"
  | .join => "join"
  | .count => "count"
def m1Of (x : Str) : Option M1 := [M1.partition, .split, .join, .count].find? fun k => k.name == x
def Ty.str' : Ty → Str
  | .str => "str"
  | .int => "int"
  | .bool => "bool"
  | .tuple => "tuple"
def tyOf (x : Str) : Option Ty := [Ty.str, .int, .bool, .tuple].find? fun k => k.str' == x

mutual
inductive E where
  | v (i : Nat)
  | c (p : PV)
  | bin (op : Operator) (a b : E)
  | cmp (op : CmpOp) (a b : E)
  | chn (o p : CmpOp) (a b c : E)
  | and (a b : E)
  | or (a b : E)
  | not (a : E)
  | ite (t : T) (a b : E)
  | neg (a : E)
  | tup (es : Es)
  | lst (es : Es)
  | dic
  | dct
  | ix (a b : E)
  | sl (a : E) (lo hi : O)
  | pr (k : Pr) (es : Es)
  | isa (a : E) (t : Ty)
  | isas (a : E) (ts : List Ty)
  | get (a b c : E)
  | idx (a b : E)
  | m1 (k : M1) (a b : E)
  | upper (a : E)
  | back (a : E)
  | sset (b : Bool) (a : E)
  | lc (own : List Nat) (tg : Tg) (it : I) (c : OT) (e : E)
  | call (f : Str) (np : Nat) (es : Es)
  | callv (i np : Nat) (tab : List Str) (es : Es)
inductive T where
  | cmp (op : CmpOp) (a b : E)
  | chn (o p : CmpOp) (a b c : E)
  | tru (a : E)
  | not (t : T)
  | and (a b : T)
  | or (a b : T)
inductive Es where
  | nil
  | cons (e : E) (es : Es)
inductive O where
  | none
  | some (e : E)
inductive OT where
  | none
  | some (t : T)
inductive I where
  | of (e : E)
  | rng1 (a : E)
  | rng2 (a b : E)
  | zip (a b : E)
  | enum (a : E)
end

section
variable (dn : Str → List PV → R PV)
mutual
def E.ev : E → Env' → R PV
  | .v i => fVar i
  | .c p => fC p
  | .bin op a b => fBin (binP op) a.ev b.ev
  | .cmp op a b => fBin (cmpP op) a.ev b.ev
  | .chn o p a b c => fChain (cmpP o) (cmpP p) a.ev b.ev c.ev
  | .and a b => fAndV a.ev b.ev
  | .or a b => fOrV a.ev b.ev
  | .not a => fNotV a.ev
  | .ite t a b => fIte t.ev a.ev b.ev
  | .neg a => fNeg a.ev
  | .tup es => fTup es.ev
  | .lst es => fLst es.ev
  | .dic => fDic
  | .dct => fDct
  | .ix a b => fBin ixP a.ev b.ev
  | .sl a lo hi => fSl a.ev lo.ev hi.ev
  | .pr k es => fPr k.ev es.ev
  | .isa a t => isP a.ev t
  | .isas a ts => fIsAny a.ev ts
  | .get a b c => fGet a.ev b.ev c.ev
  | .idx a b => fIdx a.ev b.ev
  | .m1 k a b => fM1 k.ev a.ev b.ev
  | .upper a => fUp a.ev
  | .back a => fBack a.ev
  | .sset b a => fSset (if b then ssetP else lsetP) a.ev
  | .lc own tg it c e => fComp own tg it.ev c.ev e.ev
  | .call f np es => fCall (dn f) es.ev np
  | .callv i np tab es => fCallV dn tab np i es.ev
def T.ev : T → Env' → R Bool
  | .cmp op a b => fTst asBl (fBin (cmpP op) a.ev b.ev)
  | .chn o p a b c => fTst asBl (fChain (cmpP o) (cmpP p) a.ev b.ev c.ev)
  | .tru a => fTst truP a.ev
  | .not t => fNotT t.ev
  | .and a b => fAndT a.ev b.ev
  | .or a b => fOrT a.ev b.ev
def Es.ev : Es → Env' → R (List PV)
  | .nil => fNil
  | .cons e es => fCons e.ev es.ev
def O.ev : O → Option (Env' → R PV)
  | .none => Option.none
  | .some e => Option.some e.ev
def OT.ev : OT → Option (Env' → R Bool)
  | .none => Option.none
  | .some t => Option.some t.ev
def I.ev : I → Env' → R (List PV)
  | .of e => fIt e.ev
  | .rng1 a => fRng1 a.ev
  | .rng2 a b => fRng2 a.ev b.ev
  | .zip a b => fZip a.ev b.ev
  | .enum a => fEnum a.ev
end
end

mutual
inductive S where
  | pass
  | set (i : Nat) (e : E)
  | setO (i : Nat) (e : E)
  | asg (tg : Tg) (e : E)
  | ret (e : E)
  | retX (e : E)
  | cond (t : T) (a b : Ss)
  | loop (tg : Tg) (it : I) (b : Ss)
  | whl (t : T) (b : Ss)
  | app (i : Nat) (e : E)
  | ext (i : Nat) (e : E)
  | putK (i : Nat) (k v : E)
  | putT (i : Nat) (k : Es) (v : E)
  | raise (c : Str)
  | raise1 (c : Str) (e : E)
  | tryA (j i : Nat) (kn ys : List Str) (c : Str) (e : E) (r : XSs)
  | tryO (j : Nat) (kn : List Str) (c : Str) (e : E) (k : Nat) (p : PV)
  | par (is : List Nat) (es : Es)
  | drop (i : Nat) (k d : E)
  | mov (i : Nat) (k j : E)
  | fpop (tg : Tg) (i : Nat) (b : Ss)
inductive Ss where
  | nil
  | cons (s : S) (r : Ss)
end
section
variable (dn : Str → List PV → R PV) (wf : Nat)
mutual
def S.ev : S → Env' → R Fl
  | .pass => fNext
  | .set i e => fSet i (e.ev dn)
  | .setO i e => fSetO i (e.ev dn)
  | .asg tg e => fAsg tg (e.ev dn)
  | .ret e => fRet (e.ev dn)
  | .retX e => fRet (e.ev dn)
  | .cond t a b => fIf (t.ev dn) a.ev b.ev
  | .loop tg it b => fFor tg (it.ev dn) b.ev
  | .whl t b => whlL (t.ev dn) b.ev wf
  | .app i e => fApp i (e.ev dn)
  | .ext i e => fExt i (e.ev dn)
  | .putK i k v => fPutK i (k.ev dn) (v.ev dn)
  | .putT i k v => fPutT i (k.ev dn) (v.ev dn)
  | .raise c => fRaise c
  | .raise1 c e => fRaise1 c (e.ev dn)
  | .tryA j i kn ys c e r => fTry j i kn c (e.ev dn) (fun x => r.ev ys x)
  | .tryO j kn c e k p => fTryO j kn c (e.ev dn) (fSeq (fSet k (fC p)) fNext)
  | .par is es => fPar is (es.ev dn)
  | .drop i k d => fDrop i (k.ev dn) (d.ev dn)
  | .mov i k j => fMov i (k.ev dn) (j.ev dn)
  | .fpop tg i b => fForPop tg i b.ev
def Ss.ev : Ss → Env' → R Fl
  | .nil => fNext
  | .cons s r => fSeq s.ev r.ev
end
end

/-! ### reading the text -/
structure Gam where
  gs : List (Str × PV)
  fs : List (Str × Nat × Bool)
  bs : List Str
  xs : List Str
  ys : List Str
  cs : List Str
/-- within a def -/
structure Lo where
  N : List Str
  mu : List Nat
  sc : Scope
  fn : Option Scope
  dt : List Nat
  ro : Bool
def visB (sc : Scope) (x : Str) : Bool := match sc.names.lookup x with
  | some .local => true
  | some .cell => true
  | some .free => true
  | _ => false
def glB (sc : Scope) (x : Str) : Bool := match sc.names.lookup x with
  | some .globalImplicit => true
  | _ => false
def locB (L : Lo) (x : Str) : Bool := match L.sc.names.lookup x with
  | some .local => true
  | some .cell => (match L.fn with
    | none => true
    | some s => s.names.lookup x == some .cell)
  | _ => false
def dunder (x : Str) : Bool := (x == ("__debug__" : Str)) || (x == ("__classdict__" : Str)) || (x == ("__name__" : Str))
def slot (N : List Str) (x : Str) : Option Nat := N.findIdx? fun y => y == x
def okC : Const → Option PV
  | .int i => some (.int i)
  | .bool b => some (.bl b)
  | .none => some .non
  | .str x => if SOk x.cps.toList then some (.str x.cps.toList) else none
  | _ => none
def isStar : Expr → Bool
  | .Starred .. => true
  | _ => false
def isSlice : Expr → Bool
  | .Slice .. => true
  | _ => false
def isSetE : Expr → Bool
  | .Set .. => true
  | _ => false
def isTup : Expr → Bool
  | .Tuple .. => true
  | _ => false
def isCmpr : Expr → Bool
  | .ListComp .. => true
  | .SetComp .. => true
  | .DictComp .. => true
  | _ => false
def isTst : Expr → Bool
  | .UnaryOp .. => true
  | .BoolOp .. => true
  | .IfExp .. => true
  | .Compare .. => true
  | _ => false
/-- f() with nothing given: super's form -/
def isCall0 : Expr → Bool
  | .Call f as ks _ => (match f, as, ks with
    | .Name _ _, [], [] => true
    | _, _, _ => false)
  | _ => false
/-- names that a block binds, with their places -/
def ownOf (N : List Str) (scope : Scope) : List (Str × Nat) := scope.names.filterMap fun (n, k) => match k with
  | .local => (slot N n).map fun i => (n, i)
  | .cell => (slot N n).map fun i => (n, i)
  | _ => none
def Lo.blk (L : Lo) (scope : Scope) : Lo := { L with sc := relS scope L.sc, fn := some scope }
def cNames (L : Lo) : List Expr → Option (List Nat)
  | [] => some []
  | .Name x _ :: r => if locB L x then (slot L.N x).bind fun i => (cNames L r).map fun is => i :: is else none
  | _ :: _ => none
def cTg (L : Lo) : Expr → Option Tg
  | .Name x _ => if locB L x then (slot L.N x).map .nm else none
  | .Tuple es _ _ => (cNames L es).map .tp
  | _ => none
section
variable (Γ : Gam)
def owOk (m : Md) (ro : Bool) : Bool := match m with
  | .ow => ro
  | _ => true
def hasB (x : Str) : Bool := Γ.bs.any fun y => y == x
def cTys (L : Lo) : List Expr → Option (List Ty)
  | [] => some []
  | .Name T _ :: r => if glB L.sc T && hasB Γ T && !dunder T then (tyOf T).bind fun t => (cTys L r).map fun ts => t :: ts else none
  | _ :: _ => none
def isRng (L : Lo) (e : Expr) : Option (Str × List Expr) := match e with
  | .Call f as ks _ => (match f, ks with
    | .Name x _, [] => if glB L.sc x && hasB Γ x && (x == ("range" : Str) || x == ("zip" : Str) || x == ("enumerate" : Str)) then some (x, as) else none
    | _, _ => none)
  | _ => none
/-- sorted(set(a)), len(set(a)) -/
def setArg (L : Lo) (x : Str) (as : List Expr) : Option (Bool × Expr) := match as with
  | [.Call f bs ks _] => (match f, bs, ks with
    | .Name s _, [a], [] => if s == ("set" : Str) && glB L.sc s && hasB Γ s then (if x == ("sorted" : Str) then some (true, a) else if x == ("len" : Str) then some (false, a) else none) else none
    | _, _, _ => none)
  | _ => none
/-- the defs of np arguments that hand back what is shared -/
def fnB (np : Nat) (f : Str) : Bool := match Γ.fs.lookup f with
  | some (k, ro) => k == np && !ro
  | none => false
def tabN (np : Nat) : List Str := (Γ.fs.map (·.1)).filter (fnB Γ np)
mutual
def cE : Nat → Lo → Md → Expr → Option E
  | 0, _, _, _ => none
  | n + 1, L, m, e => match e with
    | .Name x _ => if dunder x then none else
        if visB L.sc x then (slot L.N x).bind fun i => (match m with
          | .pk => some (.v i)
          | .sh => if i ∈ L.mu then none else some (.v i)
          | .ow => none)
        else if glB L.sc x then (match Γ.gs.lookup x with
          | some p => some (.c p)
          | none => if (Γ.fs.lookup x).isSome then some (.c (.fn x [])) else none) else none
    | .Constant k _ _ => (okC k).map .c
    | .BinOp a op b _ => (cE n L .pk a).bind fun a => (cE n L .pk b).map fun b => .bin op a b
    | .Compare a ops bs _ => (match ops, bs with
      | [op], [b] => if isSetE b then none else (cE n L .pk a).bind fun a => (cE n L .pk b).map fun b => .cmp op a b
      | [o, p], [b, c] => if isSetE b || isSetE c then none else (cE n L .pk a).bind fun a => (cE n L .pk b).bind fun b => (cE n L .pk c).map fun c => .chn o p a b c
      | _, _ => none)
    | .BoolOp op es p => (match es with
      | [a] => cE n L m a
      | a :: b :: r => (cE n L .pk a).bind fun a => (cE n L m (.BoolOp op (b :: r) p)).map fun b => (match op with
        | .And => .and a b
        | .Or => .or a b)
      | _ => none)
    | .UnaryOp op a _ => (match op with
      | .Not => (cE n L .pk a).map .not
      | .USub => (cE n L .pk a).map .neg
      | _ => none)
    | .IfExp c a b _ => (cT n L c).bind fun c => (cE n L m a).bind fun a => (cE n L m b).map fun b => .ite c a b
    | .Tuple es _ _ => (cEs n L .sh es).map .tup
    | .List es _ => (cEs n L .sh es).map .lst
    | .Dict ks vs _ => (match ks, vs with
      | [], [] => some .dic
      | _, _ => none)
    | .Subscript a b _ => (match b with
      | .Slice lo hi st _ => (match st with
        | none => (cE n L .pk a).bind fun a => (cO n L lo).bind fun lo => (cO n L hi).map fun hi => .sl a lo hi
        | some st => (match lo, hi, st with
          | none, none, .UnaryOp .USub (.Constant (.int 1) _ _) _ => (cE n L .pk a).map .back
          | _, _, _ => none))
      | b => (match m with
        | .ow => none
        | _ => (cE n L .pk a).bind fun a => (cE n L .pk b).map fun b => .ix a b))
    | .ListComp elt gs scope _ => (match gs with
      | [⟨tg, it, ifs, as⟩] => if as == 0 && blkC L.N L.sc scope (ownOf L.N scope) && !isSetE it then
          (cI n L .pk tg it).bind fun it => (cTg (L.blk scope) tg).bind fun tg => if tg.slots.all fun i => ((ownOf L.N scope).map (·.2)).contains i && !L.mu.contains i then (match ifs with
            | [] => (cE n (L.blk scope) .sh elt).map fun e => .lc ((ownOf L.N scope).map (·.2)) tg it .none e
            | [c] => (cT n (L.blk scope) c).bind fun c => (cE n (L.blk scope) .sh elt).map fun e => .lc ((ownOf L.N scope).map (·.2)) tg it (.some c) e
            | _ => none) else none
        else none
      | _ => none)
    | .Call f as ks p => (match ks with
      | [] => (match f with
        | .Name x _ => if dunder x || !glB L.sc x then (if dunder x || !visB L.sc x then none else (match m, as with
            | .ow, _ => none
            | _, [] => none
            | _, a :: r => (slot L.N x).bind fun i => (cEs n L .sh (a :: r)).map fun es => .callv i (r.length + 1) (tabN Γ (r.length + 1)) es)) else
          (match Γ.fs.lookup x with
          | some (np, ro) => if owOk m ro then (cEs n L .sh as).map fun as => .call x np as else none
          | none => if !hasB Γ x then none else
            if x == ("isinstance" : Str) then (match as with
              | [a, .Name T _] => if glB L.sc T && hasB Γ T && !dunder T then (tyOf T).bind fun t => (cE n L .pk a).map fun a => .isa a t else none
              | [a, .Tuple ts _ _] => (cTys Γ L ts).bind fun ts => if ts.length ≤ 1000 then (cE n L .pk a).map fun a => .isas a ts else none
              | _ => none)
            else (match setArg Γ L x as with
              | some (b, a) => (cE n L .pk a).map fun a => .sset b a
              | none => (prOf x).bind fun k => (match as with
                | [] => none
                | a :: r => (cEs n L .pk (a :: r)).map fun as => .pr k as)))
        | .Attribute o nm ap => (match as with
          | [] => if ap.endLine == p.line && !isCall0 o && nm == ("upper" : Str) then (cE n L .pk o).map .upper else none
          | [a] => if ap.endLine == p.line && !isCall0 o && nm == ("index" : Str) then (match m with
            | .ow => none
            | _ => (cE n L .pk o).bind fun o => (cE n L .pk a).map fun a => .idx o a)
            else if ap.endLine == p.line && !isCall0 o then (m1Of nm).bind fun k => (cE n L .pk o).bind fun o => (cE n L .pk a).map fun a => .m1 k o a else none
          | [a, b] => if ap.endLine == p.line && !isCall0 o && nm == ("get" : Str) then (match m with
            | .ow => none
            | _ => (cE n L .pk o).bind fun o => (cE n L .pk a).bind fun a => (cE n L .sh b).map fun b => .get o a b) else none
          | _ => none)
        | _ => none)
      | _ => none)
    | _ => none
def cEs : Nat → Lo → Md → List Expr → Option Es
  | 0, _, _, _ => none
  | n + 1, L, m, es => match es with
    | [] => some .nil
    | e :: es => (cE n L m e).bind fun e => (cEs n L m es).map fun es => .cons e es
def cT : Nat → Lo → Expr → Option T
  | 0, _, _ => none
  | n + 1, L, e => match e with
    | .UnaryOp op a _ => (match op with
      | .Not => (cT n L a).map .not
      | _ => none)
    | .BoolOp op es _ => cB n L op es
    | .IfExp .. => none
    | .Compare a ops bs _ => (match ops, bs with
      | [op], [b] => if isSetE b then none else (cE n L .pk a).bind fun a => (cE n L .pk b).map fun b => .cmp op a b
      | [o, p], [b, c] => if isSetE b || isSetE c then none else (cE n L .pk a).bind fun a => (cE n L .pk b).bind fun b => (cE n L .pk c).map fun c => .chn o p a b c
      | _, _ => none)
    | e => (cE n L .pk e).map .tru
def cB : Nat → Lo → BoolOp → List Expr → Option T
  | 0, _, _, _ => none
  | n + 1, L, op, es => match es with
    | [] => none
    | a :: r => (match r with
      | [] => cT n L a
      | b :: r => (cT n L a).bind fun a => (cB n L op (b :: r)).map fun b => (match op with
        | .And => .and a b
        | .Or => .or a b))
def cO : Nat → Lo → Option Expr → Option O
  | 0, _, _ => none
  | n + 1, L, o => match o with
    | none => some .none
    | some e => (cE n L .pk e).map .some
def cI : Nat → Lo → Md → Expr → Expr → Option I
  | 0, _, _, _, _ => none
  | n + 1, L, m, tg, e => match isRng Γ L e with
    | some (x, as) =>
      if x == ("range" : Str) then (match as with
        | [a] => (cE n L .pk a).map .rng1
        | [a, b] => (cE n L .pk a).bind fun a => (cE n L .pk b).map fun b => .rng2 a b
        | _ => none)
      else if x == ("zip" : Str) then (match as with
        | [a, b] => if isTup tg then (cE n L .pk a).bind fun a => (cE n L .pk b).map fun b => .zip a b else none
        | _ => none)
      else if x == ("enumerate" : Str) then (match as, m with
        | [a], .pk => if isTup tg then (cE n L .pk a).map .enum else none
        | [a], .sh => if isTup tg then (cE n L .sh a).map .enum else none
        | _, _ => none)
      else none
    | none => (match m with
      | .ow => none
      | m => (cE n L m e).map .of)
end
end

/-! ### that the reading is right -/
structure GOk (Γ : Gam) (dn : Str → List PV → R PV) (X : Cx) (cl : Str → Value) : Prop where
  calm : X.calm = true
  nd : X.N.Nodup
  un : X.A.units + 65 < cLine
  gs : ∀ x p, Γ.gs.lookup x = some p → ∃ v u, X.mg x = some u ∧ RelV v u ∧ (∀ S H, Rep X.K S H v p) ∧ isObjP p = false
  fs : ∀ x np ro, Γ.fs.lookup x = some (np, ro) → ∃ k fa fd ps, FnOk X.prog X.w X.K X.mg X.base (L2.CX X.prog X.w) k fa fd ps (spF X.K cl np ro (dn x)) ∧ Room k X.A ∧ X.mg x = some (.ref fa) ∧ PySem.W.keepIn X.K (.ref fa) = true ∧ Binds X.K fd ps [] ∧ fa = He.ga X.K x
  bs : ∀ x, hasB Γ x = true → X.mg x = none
structure LOk (L : Lo) (X : Cx) : Prop where
  N : X.N = L.N
  sc : X.env.scope = L.sc
  fn : ∀ x, (match L.fn with
    | none => true
    | some s => s.names.lookup x == some .cell) = true → X.fn x = true
structure OK (Γ : Gam) (dn : Str → List PV → R PV) (L : Lo) (X : Cx) (cl : Str → Value) (W : WX) : Prop where
  g : GOk Γ dn X cl
  l : LOk L X
  tk : Takes X W
theorem OK.blk {Γ : Gam} {dn : Str → List PV → R PV} {L : Lo} {X : Cx} {cl : Str → Value} {W : WX} (h : OK Γ dn L X cl W) (scope : Scope) (s : Shared) (H : Hp) (C : Addr) (cs : List (Str × Addr)) (fp : List Addr) :
    OK Γ dn (L.blk scope) (X.blk s H scope (compEnvC scope cs C X.env) fp) cl W0 :=
  ⟨⟨h.g.calm, h.g.nd, h.g.un, h.g.gs, h.g.fs, h.g.bs⟩, ⟨h.l.N, by show relS scope X.env.scope = relS scope L.sc; rw [h.l.sc], fun x hx => hx⟩, takes0⟩
theorem vis_of {X : Cx} {L : Lo} (l : LOk L X) {x : Str} (h : visB L.sc x = true) : Vis X.env.scope x := by
  unfold visB at h
  unfold Vis
  rw [l.sc]
  split at h
  · rename_i e; exact .inl e
  · rename_i e; exact .inr (.inl e)
  · rename_i e; exact .inr (.inr e)
  · cases h
theorem gl_of {X : Cx} {L : Lo} (l : LOk L X) {x : Str} (h : glB L.sc x = true) : Gl X x := by
  unfold glB at h
  show X.env.scope.names.lookup x = _
  rw [l.sc]
  split at h
  · rename_i e; exact e
  · cases h
theorem loc_of {X : Cx} {L : Lo} (l : LOk L X) {x : Str} (h : locB L x = true) : L2.Loc X.env.scope x ∧ (X.fn x = true ∨ X.env.scope.names.lookup x = some .local) := by
  unfold locB at h
  unfold L2.Loc
  rw [l.sc]
  split at h
  · rename_i e; exact ⟨.inl e, .inr e⟩
  · rename_i e; exact ⟨.inr e, .inl (l.fn x h)⟩
  · cases h
theorem slot_of {X : Cx} {L : Lo} (l : LOk L X) {x : Str} {i : Nat} (h : slot L.N x = some i) : X.N[i]? = some x := by
  rw [l.N]
  unfold slot at h
  obtain ⟨h1, h2, _⟩ := List.findIdx?_eq_some_iff_getElem.mp h
  rw [List.getElem?_eq_getElem h1]
  exact congrArg some (by simpa using h2)
theorem dunder_of {x : Str} (h : dunder x = false) : (x == ("__debug__" : Str)) = false ∧ (x == ("__classdict__" : Str)) = false ∧ x ≠ "__name__" := by
  unfold dunder at h
  simp only [Bool.or_eq_false_iff] at h
  exact ⟨h.1.1, h.1.2, by simpa using h.2⟩
theorem star_of {e : Expr} (h : isStar e = false) (es : List Expr) (env : Env) : starEach (e :: es) env = (false, eval e env) :: starEach es env := by
  cases e <;> first | rfl | cases h
theorem marks_of {op : CmpOp} {e : Expr} (h : isSetE e = false) : behindInMarks op e = false := by
  cases e <;> first | rfl | cases h
theorem folded_of {e : Expr} (h : isSetE e = false) (env : Env) (x : Value) : foldedSetIterable e env x = pure x := by
  cases e <;> first | rfl | cases h
theorem plain_of {e : Expr} (h : isSlice e = false) : PlainIx e := by
  cases e <;> first | (intro _ _; rfl) | cases h
theorem base_of {e : Expr} (h : isCall0 e = false) (nm : Str) (env : Env) : attributeBase e nm env (eval e env) = eval e env := by
  cases e with
  | Call f as ks pos =>
    cases as with
    | cons a as => cases f <;> rfl
    | nil =>
      cases ks with
      | cons k ks => cases f <;> rfl
      | nil => cases f <;> first | rfl | cases h
  | _ => rfl
theorem tst_of {e : Expr} (h : isTst e = false) (env : Env) : ∀ whole, isTrue e env whole = (do let v ← whole; standAt e.pos; holding [v] (truthy v)) := by
  cases e <;> first | (intro _; rfl) | cases h
theorem okC_px {X : Cx} {cl : Str → Value} {W : WX} {mu : List Nat} {m : Md} {k : Const} {j : Nat} {pos : Pos} {p : PV} (h : okC k = some p) : PX X cl W mu m (.Constant k j pos) (fC p) := by
  cases k with
  | int i => cases h; exact px_int
  | bool b => cases h; exact px_bl
  | none => cases h; exact px_non
  | str x =>
    have h : (if SOk x.cps.toList then some (PV.str x.cps.toList) else none) = some p := h
    split at h
    · rename_i z; cases h; exact px_str z
    · cases h
  | _ => cases h

/-! ### built-ins, methods, by name -/
theorem pr_ok {X : Cx} (hc : X.calm = true) (k : Pr) : (∃ id, bootBuiltins k.name = some (.builtin id) ∧ CaS X (.builtin id) k.ev) ∨ ∃ id, bootBuiltins k.name = some (.type id) ∧ CaS X (.type id) k.ev := by
  cases k with
  | len => exact .inl ⟨_, boot_len, c_len⟩
  | all => exact .inl ⟨_, boot_all, c_all hc⟩
  | any => exact .inl ⟨_, boot_any, c_any hc⟩
  | abs => exact .inl ⟨_, boot_abs, c_abs⟩
  | min => exact .inl ⟨_, boot_min, c_min hc⟩
  | int => exact .inr ⟨_, boot_int, c_int⟩
  | str => exact .inr ⟨_, boot_str, c_str⟩
  | tuple => exact .inr ⟨_, boot_tuple, c_tuple⟩
  | list => exact .inr ⟨_, boot_list, c_list2 hc⟩
  | dict => exact .inr ⟨_, boot_dict, c_dict hc⟩
  | sorted => exact .inl ⟨_, boot_sorted, c_sorted hc⟩
theorem m1_ok {X : Cx} (k : M1) : ∃ id, PySem.Slot "str" k.name id ∧ typeOf (.builtin id) = pure (.type "method_descriptor") ∧ MtS X id k.ev := by
  cases k with
  | partition => exact ⟨_, PySem.F.slot_str_partition, PySem.F.type_str_partition, m_partition⟩
  | split => exact ⟨_, PySem.F.slot_str_split, PySem.F.type_str_split, m_split⟩
  | join => exact ⟨_, PySem.F.slot_str_join, PySem.F.type_str_join, m_join⟩
  | count => exact ⟨_, PySem.F.slot_str_count, PySem.F.type_str_count, m_count⟩
theorem ty_ok (t : Ty) : bootBuiltins t.str' = some (.type t.name) := by
  cases t with
  | str => exact boot_str
  | int => exact boot_int
  | bool => exact boot_bool
  | tuple => exact boot_tuple
theorem find_name {α : Type} {l : List α} {f : α → Str} {x : Str} {k : α} (h : (l.find? fun k => f k == x) = some k) : f k = x := by
  have := List.find?_some h
  simpa using this
end M
/-! MX: the reading of expressions is right. -/
namespace M
open PySem PySem.Spec PyProof.Rows L2

structure Snd (Γ : Gam) (dn : Str → List PV → R PV) (n : Nat) : Prop where
  e : ∀ {L : Lo} {m : Md} {ex : Expr} {i : E}, cE Γ n L m ex = some i → (isStar ex = false ∧ isSlice ex = false) ∧ ∀ {X : Cx} {cl : Str → Value} {W : WX}, OK Γ dn L X cl W → PX X cl W L.mu m ex (i.ev dn)
  es : ∀ {L : Lo} {m : Md} {es : List Expr} {is : Es}, cEs Γ n L m es = some is → m ≠ .ow → (∀ e ∈ es, isStar e = false) ∧ ∀ {X : Cx} {cl : Str → Value} {W : WX}, OK Γ dn L X cl W → PAX X cl W L.mu m es (is.ev dn)
  t : ∀ {L : Lo} {ex : Expr} {i : T}, cT Γ n L ex = some i → ∀ {X : Cx} {cl : Str → Value} {W : WX}, OK Γ dn L X cl W → PTX X cl W L.mu ex (i.ev dn)
  b : ∀ {L : Lo} {op : BoolOp} {es : List Expr} {i : T}, cB Γ n L op es = some i → ∀ (pos : Pos) {X : Cx} {cl : Str → Value} {W : WX}, OK Γ dn L X cl W → PWX X cl W L.mu (.BoolOp op es pos) (i.ev dn)
  o : ∀ {L : Lo} {o : Option Expr} {i : O}, cO Γ n L o = some i → ∀ {X : Cx} {cl : Str → Value} {W : WX}, OK Γ dn L X cl W → PO X o (tPO X.K cl W L.mu (i.ev dn))
  i : ∀ {L : Lo} {m : Md} {tg ex : Expr} {i : I}, cI Γ n L m tg ex = some i → ∀ {X : Cx} {cl : Str → Value} {W : WX}, OK Γ dn L X cl W → PIX X cl W L.mu m tg ex (i.ev dn)
theorem Snd.zero (Γ : Gam) (dn : Str → List PV → R PV) : Snd Γ dn 0 := ⟨fun h => (nomatch h), fun h => (nomatch h), fun h => (nomatch h), fun h => (nomatch h), fun h => (nomatch h), fun h => (nomatch h)⟩
theorem nostar_any {env : Env} {pos : Pos} : ∀ {es : List Expr}, (∀ e ∈ es, isStar e = false) → (backTo pos (starEach es env)).any (·.1) = false
  | [], _ => rfl
  | e :: es, h => by
    rw [star_of (h e List.mem_cons_self)]
    show (false || (backTo pos (starEach es env)).any (·.1)) = false
    rw [nostar_any fun x hx => h x (List.mem_cons_of_mem _ hx)]
    rfl
theorem bnd {α β : Type} {o : Option α} {f : α → Option β} {b : β} (h : o.bind f = some b) : ∃ a, o = some a ∧ f a = some b := Option.bind_eq_some_iff.mp h
theorem mpd {α β : Type} {o : Option α} {f : α → β} {b : β} (h : o.map f = some b) : ∃ a, o = some a ∧ f a = b := Option.map_eq_some_iff.mp h
theorem names_of {X : Cx} {L : Lo} (l : LOk L X) : ∀ {es : List Expr} {is : List Nat}, cNames L es = some is → NmsOk X es is
  | [], is, h => by cases h; trivial
  | e :: es, is, h => by
    cases e with
    | Name x pos =>
      have h : (if locB L x then (slot L.N x).bind fun i => (cNames L es).map fun is => i :: is else none) = some is := h
      split at h
      · rename_i hx
        obtain ⟨i, hi, h⟩ := bnd h
        obtain ⟨js, hj, rfl⟩ := mpd h
        have z := loc_of l hx
        exact ⟨⟨x, pos, rfl, slot_of l hi, z.1, z.2⟩, names_of l hj⟩
      · cases h
    | _ => cases h
theorem tg_of {X : Cx} {L : Lo} (l : LOk L X) {e : Expr} {tg : Tg} (h : cTg L e = some tg) : TgOk X e tg := by
  cases e with
  | Name x pos =>
    have h : (if locB L x then (slot L.N x).map Tg.nm else none) = some tg := h
    split at h
    · rename_i hx
      obtain ⟨i, hi, rfl⟩ := mpd h
      have z := loc_of l hx
      exact ⟨x, pos, rfl, slot_of l hi, z.1, z.2⟩
    · cases h
  | Tuple es k pos =>
    have h : (cNames L es).map Tg.tp = some tg := h
    obtain ⟨is, hi, rfl⟩ := mpd h
    exact ⟨es, k, pos, rfl, names_of l hi⟩
  | _ => cases h

section
variable {Γ : Gam} {dn : Str → List PV → R PV} {n : Nat} {X : Cx} {cl : Str → Value} {W : WX} {L : Lo} {m : Md}
theorem var_of {x : Str} {pos : Pos} {i : Nat} (ok : OK Γ dn L X cl W) (hd : dunder x = false) (hv : visB L.sc x = true) (hi : slot L.N x = some i) {k : E} (h : (match m with
    | .pk => some (E.v i)
    | .sh => if i ∈ L.mu then none else some (E.v i)
    | .ow => none) = some k) : PX X cl W L.mu m (.Name x pos) (k.ev dn) := by
  obtain ⟨d1, d2, _⟩ := dunder_of hd
  cases m with
  | pk => cases h; exact px_varP (slot_of ok.l hi) (vis_of ok.l hv) d1 d2
  | sh =>
    by_cases hm : i ∈ L.mu
    · have h : (if i ∈ L.mu then none else some (E.v i)) = some k := h
      rw [if_pos hm] at h
      cases h
    · have h : (if i ∈ L.mu then none else some (E.v i)) = some k := h
      rw [if_neg hm] at h
      cases h
      exact px_var hm (slot_of ok.l hi) (vis_of ok.l hv) d1 d2
  | ow => cases h
theorem gl_const {x : Str} {pos : Pos} {p : PV} (ok : OK Γ dn L X cl W) (hd : dunder x = false) (hg : glB L.sc x = true) (h : Γ.gs.lookup x = some p) : PX X cl W L.mu m (.Name x pos) (fC p) := by
  obtain ⟨v, u, h1, h2, h3, h4⟩ := ok.g.gs x p h
  exact px_glob (gl_of ok.l hg) h1 h2 h3 h4 (dunder_of hd).1
theorem gl_fn {x : Str} {pos : Pos} (ok : OK Γ dn L X cl W) (hd : dunder x = false) (hg : glB L.sc x = true) (h : (Γ.fs.lookup x).isSome = true) : PX X cl W L.mu m (.Name x pos) (fC (.fn x [])) := by
  obtain ⟨⟨np, ro⟩, hf⟩ := Option.isSome_iff_exists.mp h
  obtain ⟨k, fa, fd, ps, F, hr, hmg, hk, hb, rfl⟩ := ok.g.fs x np ro hf
  exact px_glob (v := .ref (He.ga X.K x)) (gl_of ok.l hg) hmg rfl (fun S H => .fn x) rfl (dunder_of hd).1
theorem callv_of {x : Str} {i : Nat} {a : Expr} {as : List Expr} {is : Es} {p pos : Pos} (s : Snd Γ dn n) (ok : OK Γ dn L X cl W) (hd : dunder x = false) (hv : visB L.sc x = true) (hi : slot L.N x = some i) (hm : m ≠ .ow) (ha : cEs Γ n L .sh (a :: as) = some is) :
    PX X cl W L.mu m (.Call (.Name x p) (a :: as) [] pos) ((E.callv i (as.length + 1) (tabN Γ (as.length + 1)) is).ev dn) := by
  obtain ⟨d1, d2, _⟩ := dunder_of hd
  obtain ⟨st, hA⟩ := s.es ha (by decide)
  have base : PX X cl W L.mu .sh (.Call (.Name x p) (a :: as) [] pos) ((E.callv i (as.length + 1) (tabN Γ (as.length + 1)) is).ev dn) := by
    refine px_callv (slot_of ok.l hi) (vis_of ok.l hv) d1 d2 (fun f hf => ?_) ok.tk (hA ok) (star_of (st a List.mem_cons_self) as X.env) (nostar_any fun y hy => st y (List.mem_cons_of_mem _ hy))
    have hf := (List.mem_filter.mp hf).2
    unfold fnB at hf
    split at hf
    · rename_i k ro e
      rw [Bool.and_eq_true] at hf
      have h1 : k = as.length + 1 := by simpa using hf.1
      have h2 : ro = false := by simpa using hf.2
      subst h1
      subst h2
      obtain ⟨k, fa, fd, ps, F, hr, hmg, hk, hb, hg⟩ := ok.g.fs f _ _ e
      exact ⟨k, fa, fd, ps, F, hr, hk, hb, hg⟩
    · cases hf
  cases m with
  | pk => exact px_pk base
  | sh => exact base
  | ow => exact absurd rfl hm
theorem call_of {x : Str} {np : Nat} {ro : Bool} {as : List Expr} {is : Es} {p pos : Pos} (s : Snd Γ dn n) (ok : OK Γ dn L X cl W) (hd : dunder x = false) (hg : glB L.sc x = true) (hf : Γ.fs.lookup x = some (np, ro)) (hm : m = .ow → ro = true) (ha : cEs Γ n L .sh as = some is) :
    PX X cl W L.mu m (.Call (.Name x p) as [] pos) (fCall (dn x) (is.ev dn) np) := by
  obtain ⟨k, fa, fd, ps, F, hr, hmg, hk, hb, _⟩ := ok.g.fs x np ro hf
  have d1 := (dunder_of hd).1
  obtain ⟨st, hA⟩ := s.es ha (by decide)
  have base : PX X cl W L.mu (roM ro) (.Call (.Name x p) as [] pos) (fCall (dn x) (is.ev dn) np) := by
    cases as with
    | nil =>
      cases n with
      | zero => cases ha
      | succ n =>
        cases ha
        exact px_call0 F hr (gl_of ok.l hg) hmg hk hb ok.tk d1
    | cons e es =>
      exact px_call F hr (gl_of ok.l hg) hmg hk hb ok.tk (hA ok) d1 (star_of (st e List.mem_cons_self) es X.env) (nostar_any fun y hy => st y (List.mem_cons_of_mem _ hy))
  cases ro with
  | false =>
    cases m with
    | pk => exact px_pk base
    | sh => exact base
    | ow => exact absurd (hm rfl) Bool.false_ne_true
  | true =>
    cases m with
    | pk => exact px_pk (px_sh base)
    | sh => exact px_sh base
    | ow => exact base
theorem prim_of {x : Str} {k : Pr} {e : Expr} {es : List Expr} {is : Es} {p pos : Pos} (s : Snd Γ dn n) (ok : OK Γ dn L X cl W) (hd : dunder x = false) (hg : glB L.sc x = true) (hb : hasB Γ x = true) (hk : prOf x = some k) (ha : cEs Γ n L .pk (e :: es) = some is) :
    PX X cl W L.mu m (.Call (.Name x p) (e :: es) [] pos) (fPr k.ev (is.ev dn)) := by
  obtain ⟨st, hA⟩ := s.es ha (by decide)
  obtain ⟨d1, _, d3⟩ := dunder_of hd
  have hn : k.name = x := find_name hk
  have h1 := star_of (st e List.mem_cons_self) es X.env
  have h2 : (backTo pos (starEach es X.env)).any (·.1) = false := nostar_any fun y hy => st y (List.mem_cons_of_mem _ hy)
  rcases pr_ok ok.g.calm k with ⟨id, b, c⟩ | ⟨id, b, c⟩
  · rw [hn] at b
    exact px_prB c (gl_of ok.l hg) (ok.g.bs x hb) b (hA ok) d3 d1 h1 h2
  · rw [hn] at b
    exact px_prT c (gl_of ok.l hg) (ok.g.bs x hb) b (hA ok) d3 d1 h1 h2
theorem sset_of {x : Str} {b : Bool} {a : Expr} {ia : E} {as : List Expr} {p pos : Pos} (s : Snd Γ dn n) (ok : OK Γ dn L X cl W) (hg : glB L.sc x = true) (hb : hasB Γ x = true) (h : setArg Γ L x as = some (b, a)) (ha : cE Γ n L .pk a = some ia) :
    PX X cl W L.mu m (.Call (.Name x p) as [] pos) ((E.sset b ia).ev dn) := by
  unfold setArg at h
  split at h
  · rename_i f bs ks q
    split at h
    · rename_i sn p2 a'
      split at h
      · rename_i hs
        simp only [Bool.and_eq_true, beq_iff_eq] at hs
        obtain ⟨⟨rfl, h2⟩, h3⟩ := hs
        split at h
        · rename_i hx
          cases h
          have hx : x = "sorted" := by simpa using hx
          subst hx
          exact px_sset (by have := ok.g.un; omega) ok.g.calm (gl_of ok.l hg) (ok.g.bs _ hb) (gl_of ok.l h2) (ok.g.bs _ h3) ((s.e ha).2 ok) (star_of (s.e ha).1.1 _ _)
        · split at h
          · rename_i hx
            cases h
            have hx : x = "len" := by simpa using hx
            subst hx
            exact px_lset ok.g.calm (gl_of ok.l hg) (ok.g.bs _ hb) (gl_of ok.l h2) (ok.g.bs _ h3) ((s.e ha).2 ok) (star_of (s.e ha).1.1 _ _)
          · cases h
      · cases h
    · cases h
  · cases h
theorem tys_of (ok : OK Γ dn L X cl W) : ∀ {es : List Expr} {ts : List Ty}, cTys Γ L es = some ts → TyNames X es ts
  | [], ts, h => by cases h; trivial
  | e :: es, ts, h => by
    cases e with
    | Name x pos =>
      have h : (if glB L.sc x && hasB Γ x && !dunder x then (tyOf x).bind fun t => (cTys Γ L es).map fun ts => t :: ts else none) = some ts := h
      split at h
      · rename_i hT
        simp only [Bool.and_eq_true, Bool.not_eq_true'] at hT
        obtain ⟨⟨h1, h2⟩, h3⟩ := hT
        obtain ⟨t, ht, h⟩ := bnd h
        obtain ⟨us, hu, rfl⟩ := mpd h
        have et : t.str' = x := find_name ht
        obtain ⟨d1, _, d3⟩ := dunder_of h3
        exact ⟨⟨x, pos, rfl, gl_of ok.l h1, ok.g.bs _ h2, by rw [← et]; exact ty_ok t, d3, d1⟩, tys_of ok hu⟩
      · cases h
    | _ => cases h
theorem comp_of {tgE itE elt : Expr} {scope : Scope} {pos : Pos} {it : I} {tg : Tg} {e : E} {c : OT} {ifs : List Expr} (s : Snd Γ dn n) (ok : OK Γ dn L X cl W) (hb : blkC L.N L.sc scope (ownOf L.N scope) = true) (hs : isSetE itE = false) (hi : cI Γ n L .pk tgE itE = some it) (ht : cTg (L.blk scope) tgE = some tg)
    (ho : (tg.slots.all fun i => ((ownOf L.N scope).map (·.2)).contains i && !L.mu.contains i) = true) (he : cE Γ n (L.blk scope) .sh elt = some e) (hc : (ifs = [] ∧ c = .none) ∨ ∃ cE t, ifs = [cE] ∧ c = .some t ∧ cT Γ n (L.blk scope) cE = some t) :
    PX X cl W L.mu m (.ListComp elt [⟨tgE, itE, ifs, 0⟩] scope pos) ((E.lc ((ownOf L.N scope).map (·.2)) tg it c e).ev dn) := by
  have hB : BlkOk X.N X.env.scope scope (ownOf L.N scope) := by rw [ok.l.N, ok.l.sc]; exact blkOk_by hb
  have h1 : ∀ i ∈ tg.slots, i ∈ (ownOf L.N scope).map (·.2) := fun i hi => by
    have := List.all_eq_true.mp ho i hi
    simp only [Bool.and_eq_true] at this
    simpa using this.1
  have h2 : ∀ i ∈ tg.slots, i ∉ L.mu := fun i hi => by
    have := List.all_eq_true.mp ho i hi
    simp only [Bool.and_eq_true] at this
    simpa using this.2
  have hg : Blk X scope fun X => PGX X L.mu ((ownOf L.N scope).map (·.2)) tgE tg := fun s' H C cs fp => by
    have okb := ok.blk scope s' H C cs fp
    exact pgx okb.g.calm okb.g.nd (tg_of okb.l ht) h2
  have hE : Blk X scope fun X => PX X cl W0 L.mu .sh elt (e.ev dn) := fun s' H C cs fp => (s.e he).2 (ok.blk scope s' H C cs fp)
  rcases hc with ⟨rfl, rfl⟩ | ⟨cE, t, rfl, rfl, hc⟩
  · exact px_comp ok.g.calm ok.g.nd (s.i hi ok) hB h1 hg hE (folded_of hs X.env)
  · exact px_compIf ok.g.calm ok.g.nd (s.i hi ok) hB h1 hg (fun s' H C cs fp => s.t hc (ok.blk scope s' H C cs fp)) hE (folded_of hs X.env)
theorem lastM {o p : CmpOp} {b c : Expr} (h : isSetE c = false) : lastMarks [o, p] [b, c] = false := marks_of (op := p) h
theorem snd_e (s : Snd Γ dn n) {ex : Expr} {i : E} (h : cE Γ (n + 1) L m ex = some i) : (isStar ex = false ∧ isSlice ex = false) ∧ ∀ {X : Cx} {cl : Str → Value} {W : WX}, OK Γ dn L X cl W → PX X cl W L.mu m ex (i.ev dn) := by
  cases ex with
  | Name x pos =>
    refine ⟨⟨rfl, rfl⟩, fun {X cl W} ok => ?_⟩
    simp only [cE] at h
    by_cases hd : dunder x = true
    · rw [if_pos hd] at h; cases h
    rw [if_neg hd] at h
    have hd : dunder x = false := by simpa using hd
    by_cases hv : visB L.sc x = true
    · rw [if_pos hv] at h
      obtain ⟨j, hj, h⟩ := bnd h
      exact var_of ok hd hv hj h
    · rw [if_neg hv] at h
      by_cases hg : glB L.sc x = true
      · rw [if_pos hg] at h
        split at h
        · rename_i p hp
          cases h
          exact gl_const ok hd hg hp
        · split at h
          · rename_i hf
            cases h
            exact gl_fn ok hd hg hf
          · cases h
      · rw [if_neg hg] at h; cases h
  | Constant k j pos =>
    refine ⟨⟨rfl, rfl⟩, fun {X cl W} ok => ?_⟩
    simp only [cE] at h
    obtain ⟨p, hp, rfl⟩ := mpd h
    exact okC_px hp
  | BinOp a op b pos =>
    refine ⟨⟨rfl, rfl⟩, fun {X cl W} ok => ?_⟩
    simp only [cE] at h
    obtain ⟨ia, ha, h⟩ := bnd h
    obtain ⟨ib, hb, rfl⟩ := mpd h
    exact px_bin (s_bin op) ((s.e ha).2 ok) ((s.e hb).2 ok)
  | Compare a ops bs pos =>
    refine ⟨⟨rfl, rfl⟩, fun {X cl W} ok => ?_⟩
    simp only [cE] at h
    split at h
    · rename_i op b
      split at h
      · cases h
      · rename_i hs
        obtain ⟨ia, ha, h⟩ := bnd h
        obtain ⟨ib, hb, rfl⟩ := mpd h
        exact px_cmp (s_cmp op ok.g.un) ((s.e ha).2 ok) ((s.e hb).2 ok) (marks_of (by simpa using hs))
    · rename_i o p b c
      split at h
      · cases h
      · rename_i hs
        simp only [Bool.or_eq_true, not_or, Bool.not_eq_true] at hs
        obtain ⟨ia, ha, h⟩ := bnd h
        obtain ⟨ib, hb, h⟩ := bnd h
        obtain ⟨ic, hc, rfl⟩ := mpd h
        exact px_chain (s_cmp o ok.g.un) (s_cmp p ok.g.un) ((s.e ha).2 ok) ((s.e hb).2 ok) ((s.e hc).2 ok) (lastM hs.2)
    · cases h
  | BoolOp op es pos =>
    refine ⟨⟨rfl, rfl⟩, fun {X cl W} ok => ?_⟩
    simp only [cE] at h
    split at h
    · exact px_one ((s.e h).2 ok)
    · obtain ⟨ia, ha, h⟩ := bnd h
      obtain ⟨ib, hb, h⟩ := mpd h
      cases op with
      | And =>
        cases h
        exact px_and ((s.e ha).2 ok) ((s.e hb).2 ok)
      | Or =>
        cases h
        exact px_or ((s.e ha).2 ok) ((s.e hb).2 ok)
    · cases h
  | UnaryOp op a pos =>
    refine ⟨⟨rfl, rfl⟩, fun {X cl W} ok => ?_⟩
    simp only [cE] at h
    cases op with
    | Not =>
      obtain ⟨ia, ha, rfl⟩ := mpd h
      exact px_not ((s.e ha).2 ok)
    | USub =>
      obtain ⟨ia, ha, rfl⟩ := mpd h
      exact px_neg ((s.e ha).2 ok)
    | _ => cases h
  | IfExp c a b pos =>
    refine ⟨⟨rfl, rfl⟩, fun {X cl W} ok => ?_⟩
    simp only [cE] at h
    obtain ⟨ic, hc, h⟩ := bnd h
    obtain ⟨ia, ha, h⟩ := bnd h
    obtain ⟨ib, hb, rfl⟩ := mpd h
    exact px_ite (s.t hc ok) ((s.e ha).2 ok) ((s.e hb).2 ok)
  | Tuple es k pos =>
    refine ⟨⟨rfl, rfl⟩, fun {X cl W} ok => ?_⟩
    simp only [cE] at h
    obtain ⟨ia, ha, rfl⟩ := mpd h
    exact px_tup ((s.es ha (by decide)).2 ok)
  | List es pos =>
    refine ⟨⟨rfl, rfl⟩, fun {X cl W} ok => ?_⟩
    simp only [cE] at h
    obtain ⟨ia, ha, rfl⟩ := mpd h
    exact px_lst ((s.es ha (by decide)).2 ok)
  | Dict ks vs pos =>
    refine ⟨⟨rfl, rfl⟩, fun {X cl W} ok => ?_⟩
    simp only [cE] at h
    split at h
    · cases h; exact px_dic
    · cases h
  | Subscript a b pos =>
    refine ⟨⟨rfl, rfl⟩, fun {X cl W} ok => ?_⟩
    simp only [cE] at h
    split at h
    · split at h
      · obtain ⟨ia, ha, h⟩ := bnd h
        obtain ⟨il, hl, h⟩ := bnd h
        obtain ⟨ih, hh, rfl⟩ := mpd h
        exact px_sl ((s.e ha).2 ok) (s.o hl ok) (s.o hh ok)
      · split at h
        · obtain ⟨ia, ha, rfl⟩ := mpd h
          exact px_back ((s.e ha).2 ok)
        · cases h
    · split at h
      · cases h
      · rename_i hm
        obtain ⟨ia, ha, h⟩ := bnd h
        obtain ⟨ib, hb, rfl⟩ := mpd h
        exact px_ix hm (s_ix (by have := ok.g.un; omega)) ((s.e ha).2 ok) ((s.e hb).2 ok) (plain_of (s.e hb).1.2)
  | ListComp elt gs scope pos =>
    refine ⟨⟨rfl, rfl⟩, fun {X cl W} ok => ?_⟩
    simp only [cE] at h
    split at h
    · rename_i tg it ifs as
      split at h
      · rename_i hc
        simp only [Bool.and_eq_true, Bool.not_eq_true', beq_iff_eq] at hc
        obtain ⟨⟨rfl, hb⟩, hs⟩ := hc
        obtain ⟨ii, hi, h⟩ := bnd h
        obtain ⟨it', ht, h⟩ := bnd h
        split at h
        · rename_i ho
          split at h
          · obtain ⟨ie, he, rfl⟩ := mpd h
            exact comp_of s ok hb hs hi ht ho he (.inl ⟨rfl, rfl⟩)
          · obtain ⟨ic, hc, h⟩ := bnd h
            obtain ⟨ie, he, rfl⟩ := mpd h
            exact comp_of s ok hb hs hi ht ho he (.inr ⟨_, _, rfl, rfl, hc⟩)
          · cases h
        · cases h
      · cases h
    · cases h
  | Call f as ks pos =>
    refine ⟨⟨rfl, rfl⟩, fun {X cl W} ok => ?_⟩
    simp only [cE] at h
    split at h
    · split at h
      · rename_i x p
        split at h
        · split at h
          · cases h
          · rename_i hx
            simp only [Bool.or_eq_true, not_or, Bool.not_eq_true, Bool.not_eq_true', Bool.not_eq_false] at hx
            obtain ⟨hd, hv⟩ := hx
            split at h
            · cases h
            · cases h
            · rename_i m' as' a r hm
              obtain ⟨i, hi, h⟩ := bnd h
              obtain ⟨ia, ha, rfl⟩ := mpd h
              exact callv_of s ok hd hv hi (fun z => hm z) ha
        · rename_i hx
          simp only [Bool.or_eq_true, not_or, Bool.not_eq_true, Bool.not_eq_true', Bool.not_eq_false] at hx
          obtain ⟨hd, hg⟩ := hx
          split at h
          · rename_i np ro hf
            split at h
            · rename_i hm
              obtain ⟨ia, ha, rfl⟩ := mpd h
              exact call_of s ok hd hg hf (fun e => by subst e; exact hm) ha
            · cases h
          · split at h
            · cases h
            · rename_i hb
              have hb : hasB Γ x = true := by simpa using hb
              split at h
              · rename_i he
                have he : x = "isinstance" := by simpa using he
                subst he
                split at h
                · rename_i a T p2
                  split at h
                  · rename_i hT
                    simp only [Bool.and_eq_true, Bool.not_eq_true'] at hT
                    obtain ⟨⟨h1, h2⟩, h3⟩ := hT
                    obtain ⟨t, ht, h⟩ := bnd h
                    obtain ⟨ia, ha, rfl⟩ := mpd h
                    have et : t.str' = T := find_name ht
                    obtain ⟨d1, _, d3⟩ := dunder_of h3
                    exact px_isin ((s.e ha).2 ok) (gl_of ok.l hg) (ok.g.bs _ hb) (gl_of ok.l h1) (ok.g.bs _ h2) (by rw [← et]; exact ty_ok t) d3 d1 (star_of (s.e ha).1.1 _ _)
                  · cases h
                · rename_i a ts k p2
                  obtain ⟨ts', ht, h⟩ := bnd h
                  split at h
                  · rename_i hl
                    obtain ⟨ia, ha, rfl⟩ := mpd h
                    exact px_isinT ((s.e ha).2 ok) (gl_of ok.l hg) (ok.g.bs _ hb) (tys_of ok ht) hl (by decide) rfl (star_of (s.e ha).1.1 _ _)
                  · cases h
                · cases h
              · split at h
                · rename_i b a hset
                  obtain ⟨ia, ha, rfl⟩ := mpd h
                  exact sset_of s ok hg hb hset ha
                · obtain ⟨k, hk, h⟩ := bnd h
                  split at h
                  · cases h
                  · obtain ⟨ia, ha, rfl⟩ := mpd h
                    exact prim_of s ok hd hg hb hk ha
      · rename_i o nm ap
        split at h
        · split at h
          · rename_i hc
            simp only [Bool.and_eq_true, Bool.not_eq_true', beq_iff_eq] at hc
            obtain ⟨⟨h1, h2⟩, rfl⟩ := hc
            obtain ⟨io, ho, rfl⟩ := mpd h
            exact px_upper ((s.e ho).2 ok) (base_of h2 _ _) (by simpa using h1)
          · cases h
        · rename_i a
          split at h
          · rename_i hc
            simp only [Bool.and_eq_true, Bool.not_eq_true', beq_iff_eq] at hc
            obtain ⟨⟨h1, h2⟩, rfl⟩ := hc
            split at h
            · cases h
            · rename_i hm
              obtain ⟨io, ho, h⟩ := bnd h
              obtain ⟨ia, ha, rfl⟩ := mpd h
              exact px_index hm ((s.e ho).2 ok) ((s.e ha).2 ok) (base_of h2 _ _) (star_of (s.e ha).1.1 _ _) (by simpa using h1)
          split at h
          · rename_i hc
            simp only [Bool.and_eq_true, Bool.not_eq_true'] at hc
            obtain ⟨k, hk, h⟩ := bnd h
            obtain ⟨io, ho, h⟩ := bnd h
            obtain ⟨ia, ha, rfl⟩ := mpd h
            obtain ⟨id, h1, h2, h3⟩ := m1_ok (X := X) k
            rw [show k.name = nm from find_name hk] at h1
            exact px_m1 h1 h2 h3 ((s.e ho).2 ok) ((s.e ha).2 ok) (star_of (s.e ha).1.1 _ _) (base_of hc.2 _ _) hc.1
          · cases h
        · rename_i a b
          split at h
          · rename_i hc
            simp only [Bool.and_eq_true, Bool.not_eq_true', beq_iff_eq] at hc
            obtain ⟨⟨h1, h2⟩, rfl⟩ := hc
            split at h
            · cases h
            · rename_i hm
              obtain ⟨io, ho, h⟩ := bnd h
              obtain ⟨ia, ha, h⟩ := bnd h
              obtain ⟨ib, hb, rfl⟩ := mpd h
              have e1 := star_of (s.e ha).1.1 [b] X.env
              have e2 := star_of (s.e hb).1.1 [] X.env
              refine px_get hm (by have := ok.g.un; omega) ((s.e ho).2 ok) ((s.e ha).2 ok) ((s.e hb).2 ok) ⟨base_of h2 _ _, ?_, by simpa using h1, ?_⟩
              · rw [e1, e2]; rfl
              · rw [e1, e2]; rfl
          · cases h
        · cases h
      · cases h
    · cases h
  | _ => simp only [cE] at h; cases h
theorem snd_es (s : Snd Γ dn n) {es : List Expr} {is : Es} (h : cEs Γ (n + 1) L m es = some is) (hm : m ≠ .ow) : (∀ e ∈ es, isStar e = false) ∧ ∀ {X : Cx} {cl : Str → Value} {W : WX}, OK Γ dn L X cl W → PAX X cl W L.mu m es (is.ev dn) := by
  cases es with
  | nil =>
    simp only [cEs] at h
    cases h
    exact ⟨fun _ h => by simp at h, fun {X cl W} ok => pax_nil hm⟩
  | cons e es =>
    simp only [cEs] at h
    obtain ⟨ia, ha, h⟩ := bnd h
    obtain ⟨ib, hb, rfl⟩ := mpd h
    obtain ⟨st, hA⟩ := s.es hb hm
    refine ⟨fun x hx => ?_, fun {X cl W} ok => pax_cons hm ((s.e ha).2 ok) (hA ok) (star_of (s.e ha).1.1 _ _)⟩
    rcases List.mem_cons.mp hx with rfl | hx
    · exact (s.e ha).1.1
    · exact st x hx
theorem tru_of (s : Snd Γ dn n) {ex : Expr} {i : T} (ht : isTst ex = false) (h : (cE Γ n L .pk ex).map T.tru = some i) {X : Cx} {cl : Str → Value} {W : WX} (ok : OK Γ dn L X cl W) : PTX X cl W L.mu ex (i.ev dn) := by
  obtain ⟨ia, ha, rfl⟩ := mpd h
  exact pt_tru ((s.e ha).2 ok) (tst_of ht X.env)
theorem snd_t (s : Snd Γ dn n) {ex : Expr} {i : T} (h : cT Γ (n + 1) L ex = some i) {X : Cx} {cl : Str → Value} {W : WX} (ok : OK Γ dn L X cl W) : PTX X cl W L.mu ex (i.ev dn) := by
  cases ex with
  | UnaryOp op a pos =>
    simp only [cT] at h
    cases op with
    | Not =>
      obtain ⟨ia, ha, rfl⟩ := mpd h
      exact ptx_not (s.t ha ok)
    | _ => cases h
  | BoolOp op es pos =>
    simp only [cT] at h
    exact PW.pt (s.b h pos ok)
  | IfExp c a b pos => simp only [cT] at h; cases h
  | Compare a ops bs pos =>
    simp only [cT] at h
    split at h
    · rename_i op b
      split at h
      · cases h
      · rename_i hs
        obtain ⟨ia, ha, h⟩ := bnd h
        obtain ⟨ib, hb, rfl⟩ := mpd h
        exact pt_cmp' (s_cmp op ok.g.un) ((s.e ha).2 ok) ((s.e hb).2 ok) (marks_of (by simpa using hs))
    · rename_i o p b c
      split at h
      · cases h
      · rename_i hs
        simp only [Bool.or_eq_true, not_or, Bool.not_eq_true] at hs
        obtain ⟨ia, ha, h⟩ := bnd h
        obtain ⟨ib, hb, h⟩ := bnd h
        obtain ⟨ic, hc, rfl⟩ := mpd h
        exact pt_chain' (s_cmp o ok.g.un) (s_cmp p ok.g.un) ((s.e ha).2 ok) ((s.e hb).2 ok) ((s.e hc).2 ok) (lastM hs.2)
    · cases h
  | _ => simp only [cT] at h; exact tru_of s rfl h ok
theorem snd_b (s : Snd Γ dn n) {op : BoolOp} {es : List Expr} {i : T} (h : cB Γ (n + 1) L op es = some i) (pos : Pos) {X : Cx} {cl : Str → Value} {W : WX} (ok : OK Γ dn L X cl W) : PWX X cl W L.mu (.BoolOp op es pos) (i.ev dn) := by
  cases es with
  | nil => simp only [cB] at h; cases h
  | cons a r =>
    simp only [cB] at h
    split at h
    · cases op with
      | And => exact pwx_and1 (s.t h ok)
      | Or => exact pwx_or1 (s.t h ok)
    · obtain ⟨ia, ha, h⟩ := bnd h
      obtain ⟨ib, hb, h⟩ := mpd h
      cases op with
      | And => cases h; exact pwx_and (s.t ha ok) (s.b hb pos ok)
      | Or => cases h; exact pwx_or (s.t ha ok) (s.b hb pos ok)
theorem snd_o (s : Snd Γ dn n) {o : Option Expr} {i : O} (h : cO Γ (n + 1) L o = some i) {X : Cx} {cl : Str → Value} {W : WX} (ok : OK Γ dn L X cl W) : PO X o (tPO X.K cl W L.mu (i.ev dn)) := by
  cases o with
  | none => simp only [cO] at h; cases h; exact pox_none
  | some e =>
    simp only [cO] at h
    obtain ⟨ia, ha, rfl⟩ := mpd h
    exact pox_some ((s.e ha).2 ok)
theorem rng_of {e : Expr} {x : Str} {as : List Expr} (h : isRng Γ L e = some (x, as)) : ∃ p pos, e = .Call (.Name x p) as [] pos ∧ glB L.sc x = true ∧ hasB Γ x = true := by
  unfold isRng at h
  split at h
  · split at h
    · split at h
      · rename_i hc
        cases h
        simp only [Bool.and_eq_true] at hc
        exact ⟨_, _, rfl, hc.1.1, hc.1.2⟩
      · cases h
    · cases h
  · cases h
theorem snd_i (s : Snd Γ dn n) {tg ex : Expr} {i : I} (h : cI Γ (n + 1) L m tg ex = some i) {X : Cx} {cl : Str → Value} {W : WX} (ok : OK Γ dn L X cl W) : PIX X cl W L.mu m tg ex (i.ev dn) := by
  simp only [cI] at h
  split at h
  · rename_i x as hr
    obtain ⟨p, pos, rfl, hg, hb⟩ := rng_of hr
    split at h
    · rename_i hx
      have hx : x = "range" := by simpa using hx
      subst hx
      split at h
      · obtain ⟨ia, ha, rfl⟩ := mpd h
        exact pix_rng1 (gl_of ok.l hg) (ok.g.bs _ hb) ((s.e ha).2 ok) (star_of (s.e ha).1.1 _ _)
      · obtain ⟨ia, ha, h⟩ := bnd h
        obtain ⟨ib, hb', rfl⟩ := mpd h
        exact pix_rng2 (gl_of ok.l hg) (ok.g.bs _ hb) ((s.e ha).2 ok) ((s.e hb').2 ok) (by rw [star_of (s.e ha).1.1, star_of (s.e hb').1.1]; rfl) (star_of (s.e hb').1.1 _ _)
      · cases h
    · split at h
      · rename_i hx
        have hx : x = "zip" := by simpa using hx
        subst hx
        split at h
        · split at h
          · rename_i ht
            obtain ⟨ia, ha, h⟩ := bnd h
            obtain ⟨ib, hb', rfl⟩ := mpd h
            cases tg <;> first
              | (exact pix_zip (gl_of ok.l hg) (ok.g.bs _ hb) ((s.e ha).2 ok) ((s.e hb').2 ok) (star_of (s.e ha).1.1 _ _) (star_of (s.e hb').1.1 _ _))
              | cases ht
          · cases h
        · cases h
      · split at h
        · rename_i hx
          have hx : x = "enumerate" := by simpa using hx
          subst hx
          split at h
          · split at h
            · rename_i ht
              obtain ⟨ia, ha, rfl⟩ := mpd h
              cases tg <;> first
                | (exact pix_enum_pk (gl_of ok.l hg) (ok.g.bs _ hb) ((s.e ha).2 ok) (star_of (s.e ha).1.1 _ _))
                | cases ht
            · cases h
          · split at h
            · rename_i ht
              obtain ⟨ia, ha, rfl⟩ := mpd h
              cases tg <;> first
                | (exact pix_enum_sh (gl_of ok.l hg) (ok.g.bs _ hb) ((s.e ha).2 ok) (star_of (s.e ha).1.1 _ _))
                | cases ht
            · cases h
          · cases h
        · cases h
  · split at h
    · cases h
    · rename_i hm
      obtain ⟨ia, ha, rfl⟩ := mpd h
      cases m with
      | pk => exact pix_pk ((s.e ha).2 ok)
      | sh => exact pix_sh ((s.e ha).2 ok)
      | ow => exact absurd rfl hm
theorem snd (Γ : Gam) (dn : Str → List PV → R PV) : ∀ n, Snd Γ dn n
  | 0 => Snd.zero Γ dn
  | n + 1 => ⟨snd_e (snd Γ dn n), snd_es (snd Γ dn n), fun h _ _ _ ok => snd_t (snd Γ dn n) h ok, fun h pos _ _ _ ok => snd_b (snd Γ dn n) h pos ok, fun h _ _ _ ok => snd_o (snd Γ dn n) h ok, fun h _ _ _ ok => snd_i (snd Γ dn n) h ok⟩
end
end M
/-! MY: the reading of statements, of defs. -/
namespace M
open PySem PySem.Spec PyProof.Rows L2

section
variable {X : Cx} {cl : Str → Value} {W : WX} {mu : List Nat} {m : Md} {pos spos py : Pos}
/-- x = [..] on one line, x a local -/
theorem setLc_go {tgE itE elt : Expr} {scope : Scope} {own : List (Str × Nat)} {tg : Tg} {it : Env' → R (List PV)} {e : Env' → R PV} {c : Option (Env' → R Bool)} {ifs : List Expr} {i : Nat} {y : Str} {Q : Env' → R Fl} {md : Md} (hc : X.calm = true) (hN : X.N.Nodup) (hy : X.N[i]? = some y) (hyl : X.env.scope.names.lookup y = some .local)
    (hsw : swapsWith (.ListComp elt [⟨tgE, itE, ifs, 0⟩] scope pos) (some (.Name y py)) spos.line X.env = pure true) (hi : PIX X cl W mu .pk tgE itE it) (ok : BlkOk X.N X.env.scope scope own)
    (ho : ∀ i ∈ tg.slots, i ∈ own.map (·.2)) (hg : Blk X scope fun X => PGX X mu (own.map (·.2)) tgE tg) (hC : (ifs = [] ∧ c = none) ∨ ∃ cE t, ifs = [cE] ∧ c = some t ∧ Blk X scope fun X => PTX X cl W0 mu cE t) (he : Blk X scope fun X => PX X cl W0 mu .sh elt e) (hs : ∀ x, foldedSetIterable itE X.env x = pure x)
    (hQ : ∀ D σ H, tS X.K cl W mu m Q D σ H → tAsg (tE X.K cl W mu md (fComp (own.map (·.2)) tg it c e)) (gName i) D σ H) :
    PSX X cl W mu m (.Assign [.Name y py] (.ListComp elt [⟨tgE, itE, ifs, 0⟩] scope pos) spos) Q := by
  rcases hC with ⟨rfl, rfl⟩ | ⟨cE, t, rfl, rfl, hC⟩
  · exact ps_imp (ps_setLc hc hN hy hyl hsw hi ok hg (fun _ _ _ _ _ => pts_nil) he hs) fun D σ H h => by
      obtain ⟨S, ρ, re, go⟩ := hQ D σ H h
      exact comp_go (fun _ _ _ h => h) ho re go
  · exact ps_imp (ps_setLc hc hN hy hyl hsw hi ok hg (fun s H C cl fp => pts_one (hC s H C cl fp)) he hs) fun D σ H h => by
      obtain ⟨S, ρ, re, go⟩ := hQ D σ H h
      exact comp_go (fun _ _ _ h => h) ho re go
end

/-! ### reading -/
def kindB (sc : Scope) : Bool := (if sc.kind.isAnnotationScope then ScopeKind.function else sc.kind) == .function
/-- a comprehension stored at once -/
def swB (sc : Scope) (t : Str) (tp : Pos) : Expr → Bool
  | .ListComp _ _ s p => kindB sc && sc.names.lookup t == some .local && tp.line == p.line && !(s.names.any fun (n, k) => n == t && (k == .local || k == .cell))
  | _ => false
def isOtherC : Expr → Bool
  | .SetComp .. => true
  | .DictComp .. => true
  | _ => false
theorem sw_of {e : Expr} {t : Str} {tp : Pos} {l : Nat} {env : Env} (h : isOtherC e = false) : swapsWith e (some (.Name t tp)) l env = pure (swB env.scope t tp e) := by
  cases e <;> first | rfl | cases h
theorem sw_sub {e o k : Expr} {tp : Pos} {l : Nat} {env : Env} : swapsWith e (some (.Subscript o k tp)) l env = pure false := by
  cases e <;> rfl
def isDisp : Expr → Bool
  | .Tuple .. => true
  | .List .. => true
  | _ => false
theorem sw_tup {e : Expr} {es : List Expr} {k : Nat} {tp : Pos} {l : Nat} {env : Env} : swapsWithSole [.Tuple es k tp] e l env = pure false := by
  cases e <;> rfl
theorem stores_of {e : Expr} {es : List Expr} {k : Nat} {tp : Pos} {env : Env} (h : isDisp e = false) : swappedStores [.Tuple es k tp] e env = pure none := by
  cases e <;> first | rfl | cases h
def isDict0 : Expr → Bool
  | .Dict ks vs _ => ks.isEmpty && vs.isEmpty
  | _ => false
section
variable (Γ : Gam)
def asLc (e : Expr) : Bool := match e with
  | .ListComp .. => true
  | _ => false
/-- name = e -/
def cSet (n : Nat) (L : Lo) (x : Str) (tp : Pos) (e : Expr) : Option S :=
  if !locB L x || isOtherC e then none else (slot L.N x).bind fun i =>
    if L.mu.contains i then
      (if isDict0 e && L.dt.contains i then some (.setO i .dct) else (cE Γ n L .ow e).map (.setO i))
    else (cE Γ n L .sh e).map (.set i)
def cCallS (n : Nat) (L : Lo) (x nm : Str) (ap p : Pos) (as : List Expr) : Option S :=
  if dunder x || !visB L.sc x || !(ap.endLine == p.line) then none else (slot L.N x).bind fun i => if !L.mu.contains i then none else (match as with
    | [a] => if nm == ("append" : Str) then (cE Γ n L .sh a).map (.app i) else if nm == ("extend" : Str) then (cE Γ n L .sh a).map (.ext i) else none
    | [a, b] => if nm == ("pop" : Str) then (cE Γ n L .sh a).bind fun a => (cE Γ n L .sh b).map fun b => .drop i a b else none
    | _ => none)
def lclB (sc : Scope) (x : Str) : Bool := sc.names.lookup x == some .local
/-- a, b = x, y -/
def cPar (n : Nat) (L : Lo) (ts : List Expr) (e : Expr) : Option S := match ts, e with
  | [.Name x px, .Name y py], .Tuple [a, b] _ _ => if parK L.sc && lclB L.sc x && lclB L.sc y && py.line == px.line && parV [a, b] then
      (slot L.N x).bind fun i => (slot L.N y).bind fun j => if i == j || L.mu.contains i || L.mu.contains j then none else (cEs Γ n L .sh [a, b]).map (.par [i, j]) else none
  | [.Name x px, .Name y py, .Name z pz], .Tuple [a, b, c] _ _ => if parK L.sc && lclB L.sc x && lclB L.sc y && lclB L.sc z && py.line == px.line && pz.line == px.line && parV [a, b, c] then
      (slot L.N x).bind fun i => (slot L.N y).bind fun j => (slot L.N z).bind fun l => if i == j || i == l || j == l || L.mu.contains i || L.mu.contains j || L.mu.contains l then none else (cEs Γ n L .sh [a, b, c]).map (.par [i, j, l]) else none
  | _, _ => none
/-- x.pop(j) behind x[k] = -/
def asPop (x : Str) (e : Expr) : Option Expr := match e with
  | .Call (.Attribute (.Name y _) nm ap) [j] [] p => if y == x && nm == ("pop" : Str) && ap.endLine == p.line then some j else none
  | _ => none
/-- x.pop() behind in -/
def popOf (e : Expr) : Option Str := match e with
  | .Call (.Attribute (.Name x _) nm ap) [] [] p => if nm == ("pop" : Str) && ap.endLine == p.line then some x else none
  | _ => none
/-! a suite behind except -/
def Gam.own (Γ : Gam) : List Str := Γ.xs ++ Γ.ys
def clsB (L : Lo) (c : Str) : Bool := glB L.sc c && !dunder c && ((Γ.own ++ Γ.cs).contains c || (c == ("ValueError" : Str) && hasB Γ c))
def ownB (L : Lo) (c : Str) : Bool := glB L.sc c && !dunder c && (Γ.own ++ Γ.cs).contains c
mutual
def cX : Nat → Lo → Str → Nat → Expr → Option XE
  | 0, _, _, _, _ => none
  | n + 1, L, en, i, e => match e with
    | .Constant k _ _ => (okC k).map .c
    | .Name x _ => if dunder x || !visB L.sc x then none else (slot L.N x).bind fun j => if j == i || L.mu.contains j then none else some (.v j)
    | .Tuple es _ _ => (cXa n L en i es).map .tup
    | .BoolOp op es p => (match op, es with
      | .Or, [a] => cX n L en i a
      | .Or, a :: b :: r => (cX n L en i a).bind fun a => (cX n L en i (.BoolOp .Or (b :: r) p)).map fun b => .or a b
      | _, _ => none)
    | .Call f as ks _ => (match f, as, ks with
      | .Name f _, [.Name x _, .Name c _], [] => if f == ("isinstance" : Str) && glB L.sc f && hasB Γ f && x == en && visB L.sc x && !dunder x && clsB Γ L c then some (.isE c) else none
      | _, _, _ => none)
    | .Attribute o nm _ => (match o with
      | .Name x _ => if nm == ("name" : Str) && x == en && visB L.sc x && !dunder x then some .nm else none
      | _ => none)
    | _ => none
def cXa : Nat → Lo → Str → Nat → List Expr → Option XEs
  | 0, _, _, _, _ => none
  | n + 1, L, en, i, es => match es with
    | [] => some .nil
    | e :: es => (cX n L en i e).bind fun e => (cXa n L en i es).map fun es => .cons e es
end
mutual
def cXS : Nat → Lo → Str → Nat → Stmt → Option XS
  | 0, _, _, _, _ => none
  | n + 1, L, en, i, st => match st with
    | .Assign [.Name t tp] e _ => if !locB L t || isOtherC e || swB L.sc t tp e then none else (slot L.N t).bind fun j => if j == i || L.mu.contains j then none else (cX Γ n L en i e).map (.set j)
    | .If (.Compare a ops bs _) body els _ => (match ops, bs, els with
      | [.Eq], [b], [] => if isSetE b then none else (cX Γ n L en i a).bind fun a => (cX Γ n L en i b).bind fun b => (cXSs n L en i body).map fun r => .eq a b r
      | _, _, _ => none)
    | _ => none
def cXSs : Nat → Lo → Str → Nat → List Stmt → Option XSs
  | 0, _, _, _, _ => none
  | n + 1, L, en, i, ss => match ss with
    | [] => some .nil
    | s :: r => (cXS n L en i s).bind fun s => (cXSs n L en i r).map fun r => .cons s r
end
/-- try: t = e; except c [as en]: suite -/
def cTry (n : Nat) (L : Lo) (body : List Stmt) (hds : List ExceptHandler) : Option S := match body, hds with
  | [.Assign [.Name t tp] e _], [.ExceptHandler (some (.Name c _)) nm (b0 :: suite) _] =>
    if !locB L t || isOtherC e || swB L.sc t tp e || !ownB Γ L c then none else (slot L.N t).bind fun j => if L.mu.contains j then none else (cE Γ n L .sh e).bind fun ie => (match nm with
      | some en => if dunder en || !lclB L.sc en then none else (slot L.N en).bind fun i => if L.mu.contains i then none else (cXSs Γ n L en i (b0 :: suite)).map fun r => .tryA j i Γ.own Γ.ys c ie r
      | none => (match b0, suite with
        | .Assign [.Name t2 tp2] (.Constant k _ _) _, [] => if !locB L t2 then none else (slot L.N t2).bind fun j2 => if L.mu.contains j2 then none else (okC k).map fun p => .tryO j Γ.own c ie j2 p
        | _, _ => none))
  | _, _ => none
mutual
def cS : Nat → Lo → Stmt → Option S
  | 0, _, _ => none
  | n + 1, L, st => match st with
    | .Pass _ => some .pass
    | .Expr e _ => (match e with
      | .Constant k _ _ => (match k with
        | .str _ => some .pass
        | _ => none)
      | .Call f as ks p => (match f, ks with
        | .Attribute (.Name x _) nm ap, [] => cCallS Γ n L x nm ap p as
        | _, _ => none)
      | _ => none)
    | .Return e _ => (match e with
      | none => none
      | some e => if L.ro then (match e with
          | .Name x _ => if dunder x || !visB L.sc x then none else (slot L.N x).bind fun i => if L.mu.contains i then some (.ret (.v i)) else none
          | _ => (cE Γ n L .ow e).map .retX)
        else (cE Γ n { L with mu := [] } .sh e).map .ret)
    | .Assign ts e _ => (match ts with
      | [t] => (match t with
        | .Name x tp => cSet Γ n L x tp e
        | .Tuple es _ _ => if isDisp e then cPar Γ n L es e else (cNames L es).bind fun is => if is.any L.mu.contains then none else (cE Γ n L .sh e).map (.asg (.tp is))
        | .Subscript o k _ => (match o with
          | .Name x _ => if dunder x || !visB L.sc x then none else (slot L.N x).bind fun i => if !L.mu.contains i then none else (match asPop x e with
            | some j => (cE Γ n L .sh k).bind fun k => (cE Γ n L .sh j).map fun j => .mov i k j
            | none => match k with
            | .Tuple es _ _ => (cEs Γ n L .sh es).bind fun k => (cE Γ n L .sh e).map fun e => .putT i k e
            | k => (cE Γ n L .sh k).bind fun k => (cE Γ n L .sh e).map fun e => .putK i k e)
          | _ => none)
        | _ => none)
      | _ => none)
    | .If t a b _ => (cT Γ n L t).bind fun t => (cSs n L a).bind fun a => (cSs n L b).map fun b => .cond t a b
    | .While t b els _ => (match els with
      | [] => (cT Γ n L t).bind fun t => (cSs n L b).map fun b => .whl t b
      | _ => none)
    | .For tg it b els _ => (match els with
      | [] => if isSetE it then none else (match popOf it with
        | some x => if dunder x || !visB L.sc x then none else (slot L.N x).bind fun i => if !L.mu.contains i then none else (cTg L tg).bind fun tg' => if tg'.slots.any L.mu.contains then none else (cSs n L b).map fun b => .fpop tg' i b
        | none => (cTg L tg).bind fun tg' => if tg'.slots.any L.mu.contains then none else (cI Γ n L .sh tg it).bind fun it => (cSs n L b).map fun b => .loop tg' it b)
      | _ => none)
    | .Raise e c _ => (match e, c with
      | some (.Call f as ks _), none => (match f, as, ks with
        | .Name x _, [.Constant (.str _) _ _], [] => if dunder x || !glB L.sc x then none else if Γ.xs.contains x then some (.raise x) else none
        | .Name x _, [e], [] => if dunder x || !glB L.sc x then none else if Γ.ys.contains x then (cE Γ n L .sh e).map (.raise1 x) else none
        | _, _, _ => none)
      | _, _ => none)
    | .Try body hds els fin _ => (match els, fin with
      | [], [] => cTry Γ n L body hds
      | _, _ => none)
    | _ => none
def cSs : Nat → Lo → List Stmt → Option Ss
  | 0, _, _ => none
  | n + 1, L, ss => match ss with
    | [] => some .nil
    | s :: r => (cS n L s).bind fun s => (cSs n L r).map fun r => .cons s r
end
end
/-- an own exception class of the text -/
def XOk (X : Cx) (cl : Str → Value) (x : Str) : Prop := ∃ C bmB B newId initId, ExcBaseFacts B newId initId bmB ∧ PySem.W.excIn X.K C bmB newId = true ∧ X.mg x = some (.ref C) ∧ PySem.W.keepIn X.K (.ref C) = true ∧ Raises X (.ref C) ∧ cl x = .ref C
/-- what the classes of the text say of each other -/
structure HrOk (Γ : Gam) (K : PySem.W.Frag) (mg : Str → Option Value) (cl : Str → Value) : Prop where
  cls : ∀ c, (Γ.own ++ Γ.cs).contains c = true → mg c = some (cl c) ∧ ∃ D, cl c = .ref D
  one : ∀ y ∈ Γ.own, ∀ c, (Γ.own ++ Γ.cs).contains c = true → PySem.W.kitOne K (cl y) (cl c) = some (exIs (.e0 y) c)
  oneV : ∀ y ∈ Γ.own, PySem.W.kitOne K (cl y) (.type "ValueError") = some true
  exm : ∀ y ∈ Γ.own, ∀ c, (Γ.own ++ Γ.cs).contains c = true → PySem.W.exmOne K (cl y) (cl c) = some (exIs (.e0 y) c)
  exc : ∀ y ∈ Γ.own, ∃ D, cl y = .ref D ∧ ExcC K D
  xf : ∀ y ∈ Γ.ys, ∃ D, cl y = .ref D ∧ XfC K D ∧ PySem.W.findIn K (.ref D) "name" = some none
structure OKS (Γ : Gam) (dn : Str → List PV → R PV) (L : Lo) (X : Cx) (cl : Str → Value) (W : WX) : Prop where
  ok : OK Γ dn L X cl W
  hp : PassesOwn (model X.prog X.w) X.A X.env X.xe
  xs : ∀ x, Γ.xs.contains x = true → XOk X cl x
  ys : ∀ x, Γ.ys.contains x = true → YOk X cl x
  hr : HrOk Γ X.K X.mg cl
  stk : X.stack = X.env :: X.outer
  fr : X.env.frame = some X.env.locals
section
variable {Γ : Gam} {dn : Str → List PV → R PV} {n wf : Nat} {X : Cx} {cl : Str → Value} {W : WX} {L : Lo}
theorem OK.nomu (ok : OK Γ dn L X cl W) : OK Γ dn { L with mu := [] } X cl W := ⟨ok.g, ⟨ok.l.N, ok.l.sc, ok.l.fn⟩, ok.tk⟩
theorem mem_of {mu : List Nat} {i : Nat} (h : mu.contains i = true) : i ∈ mu := by simpa using h
theorem nmem_of {mu : List Nat} {i : Nat} (h : mu.contains i = false) : i ∉ mu := by simpa using h
theorem lc_parts {ex : Expr} {m : Md} {i : E} (hl : asLc ex = true) (h : cE Γ (n + 1) L m ex = some i) : ∃ elt tgE itE ifs scope pos tg it c e, ex = .ListComp elt [⟨tgE, itE, ifs, 0⟩] scope pos ∧ i = .lc ((ownOf L.N scope).map (·.2)) tg it c e ∧
    blkC L.N L.sc scope (ownOf L.N scope) = true ∧ isSetE itE = false ∧ cI Γ n L .pk tgE itE = some it ∧ cTg (L.blk scope) tgE = some tg ∧ (tg.slots.all fun i => ((ownOf L.N scope).map (·.2)).contains i && !L.mu.contains i) = true ∧ cE Γ n (L.blk scope) .sh elt = some e ∧
    ((ifs = [] ∧ c = .none) ∨ ∃ cE t, ifs = [cE] ∧ c = .some t ∧ cT Γ n (L.blk scope) cE = some t) := by
  cases ex with
  | ListComp elt gs scope pos =>
    simp only [cE] at h
    split at h
    · rename_i tg it ifs as
      split at h
      · rename_i hc
        simp only [Bool.and_eq_true, Bool.not_eq_true', beq_iff_eq] at hc
        obtain ⟨⟨rfl, hb⟩, hs⟩ := hc
        obtain ⟨ii, hi, h⟩ := bnd h
        obtain ⟨it', ht, h⟩ := bnd h
        split at h
        · rename_i ho
          split at h
          · obtain ⟨ie, he, rfl⟩ := mpd h
            exact ⟨_, _, _, _, _, _, _, _, _, _, rfl, rfl, hb, hs, hi, ht, ho, he, .inl ⟨rfl, rfl⟩⟩
          · obtain ⟨ic, hc, h⟩ := bnd h
            obtain ⟨ie, he, rfl⟩ := mpd h
            exact ⟨_, _, _, _, _, _, _, _, _, _, rfl, rfl, hb, hs, hi, ht, ho, he, .inr ⟨_, _, rfl, rfl, hc⟩⟩
          · cases h
        · cases h
      · cases h
    · cases h
  | _ => cases hl
theorem swB_lc {sc : Scope} {t : Str} {tp : Pos} {e : Expr} (h : swB sc t tp e = true) : asLc e = true ∧ sc.names.lookup t = some .local := by
  cases e <;> first
    | (cases h; done)
    | (simp only [swB, Bool.and_eq_true] at h
       exact ⟨rfl, by simpa using h.1.1.2⟩)
/-- x = e -/
theorem set_of {m : Md} {x : Str} {tp pos : Pos} {e : Expr} {i : Nat} {ie : E} (ok : OK Γ dn L X cl W) (hx : locB L x = true) (ho : isOtherC e = false) (hi : slot L.N x = some i) (hm : i ∉ L.mu) (he : cE Γ n L .sh e = some ie) :
    PSX X cl W L.mu m (.Assign [.Name x tp] e pos) (fSet i (ie.ev dn)) := by
  have z := loc_of ok.l hx
  have hsw : swapsWith e (some (.Name x tp)) pos.line X.env = pure (swB L.sc x tp e) := by rw [sw_of ho, ok.l.sc]
  cases q : swB L.sc x tp e with
  | false => exact psx_set hm ok.g.nd (slot_of ok.l hi) z.1 (((snd Γ dn n).e he).2 ok) (by rw [hsw, q]) z.2
  | true =>
    obtain ⟨h1, h2⟩ := swB_lc q
    cases n with
    | zero => cases he
    | succ n =>
      obtain ⟨elt, tgE, itE, ifs, scope, lp, tg, it, c, e', rfl, rfl, hb, hs, hI, ht, hO, hE, hC⟩ := lc_parts h1 he
      have s := snd Γ dn n
      have hB : BlkOk X.N X.env.scope scope (ownOf L.N scope) := by rw [ok.l.N, ok.l.sc]; exact blkOk_by hb
      have g1 : ∀ i ∈ tg.slots, i ∈ (ownOf L.N scope).map (·.2) := fun i hi => by
        have := List.all_eq_true.mp hO i hi
        simp only [Bool.and_eq_true] at this
        simpa using this.1
      have g2 : ∀ i ∈ tg.slots, i ∉ L.mu := fun i hi => by
        have := List.all_eq_true.mp hO i hi
        simp only [Bool.and_eq_true] at this
        simpa using this.2
      refine setLc_go (own := ownOf L.N scope) ok.g.calm ok.g.nd (slot_of ok.l hi) (by rw [ok.l.sc]; exact h2) (by rw [hsw, q]) (s.i hI ok) hB g1 (fun s' H C cs fp => pgx (ok.blk scope s' H C cs fp).g.calm (ok.blk scope s' H C cs fp).g.nd (tg_of (ok.blk scope s' H C cs fp).l ht) g2) ?_ (fun s' H C cs fp => (s.e hE).2 (ok.blk scope s' H C cs fp)) (folded_of hs X.env) fun D σ H h => set_go hm h
      rcases hC with ⟨rfl, rfl⟩ | ⟨cE, t, rfl, rfl, hC⟩
      · exact .inl ⟨rfl, rfl⟩
      · exact .inr ⟨_, _, rfl, rfl, fun s' H C cs fp => s.t hC (ok.blk scope s' H C cs fp)⟩
theorem setO_of {m : Md} {x : Str} {tp pos : Pos} {e : Expr} {i : Nat} {ie : E} (ok : OK Γ dn L X cl W) (hx : locB L x = true) (ho : isOtherC e = false) (hi : slot L.N x = some i) (hm : i ∈ L.mu) (he : cE Γ n L .ow e = some ie) :
    PSX X cl W L.mu m (.Assign [.Name x tp] e pos) (fSetO i (ie.ev dn)) := by
  have z := loc_of ok.l hx
  have hsw : swapsWith e (some (.Name x tp)) pos.line X.env = pure (swB L.sc x tp e) := by rw [sw_of ho, ok.l.sc]
  cases q : swB L.sc x tp e with
  | false => exact psx_setO hm ok.g.nd (slot_of ok.l hi) z.1 (((snd Γ dn n).e he).2 ok) (by rw [hsw, q]) z.2
  | true =>
    obtain ⟨h1, h2⟩ := swB_lc q
    cases n with
    | zero => cases he
    | succ n =>
      obtain ⟨elt, tgE, itE, ifs, scope, lp, tg, it, c, e', rfl, rfl, hb, hs, hI, ht, hO, hE, hC⟩ := lc_parts h1 he
      have s := snd Γ dn n
      have hB : BlkOk X.N X.env.scope scope (ownOf L.N scope) := by rw [ok.l.N, ok.l.sc]; exact blkOk_by hb
      have g1 : ∀ i ∈ tg.slots, i ∈ (ownOf L.N scope).map (·.2) := fun i hi => by
        have := List.all_eq_true.mp hO i hi
        simp only [Bool.and_eq_true] at this
        simpa using this.1
      have g2 : ∀ i ∈ tg.slots, i ∉ L.mu := fun i hi => by
        have := List.all_eq_true.mp hO i hi
        simp only [Bool.and_eq_true] at this
        simpa using this.2
      refine setLc_go (own := ownOf L.N scope) ok.g.calm ok.g.nd (slot_of ok.l hi) (by rw [ok.l.sc]; exact h2) (by rw [hsw, q]) (s.i hI ok) hB g1 (fun s' H C cs fp => pgx (ok.blk scope s' H C cs fp).g.calm (ok.blk scope s' H C cs fp).g.nd (tg_of (ok.blk scope s' H C cs fp).l ht) g2) ?_ (fun s' H C cs fp => (s.e hE).2 (ok.blk scope s' H C cs fp)) (folded_of hs X.env) fun D σ H h => setO_go hm h
      rcases hC with ⟨rfl, rfl⟩ | ⟨cE, t, rfl, rfl, hC⟩
      · exact .inl ⟨rfl, rfl⟩
      · exact .inr ⟨_, _, rfl, rfl, fun s' H C cs fp => s.t hC (ok.blk scope s' H C cs fp)⟩
theorem setS_of {m : Md} {x : Str} {tp pos : Pos} {e : Expr} {i : S} (ok : OK Γ dn L X cl W) (h : cSet Γ n L x tp e = some i) : PSX X cl W L.mu m (.Assign [.Name x tp] e pos) (i.ev dn wf) := by
  unfold cSet at h
  split at h
  · cases h
  · rename_i hx
    simp only [Bool.or_eq_true, not_or, Bool.not_eq_true, Bool.not_eq_true', Bool.not_eq_false] at hx
    obtain ⟨hx, ho⟩ := hx
    obtain ⟨j, hj, h⟩ := bnd h
    split at h
    · rename_i hm
      split at h
      · rename_i hd
        cases h
        simp only [Bool.and_eq_true] at hd
        have z := loc_of ok.l hx
        obtain ⟨hd, _⟩ := hd
        cases e with
        | Dict ks vs p =>
          simp only [isDict0, Bool.and_eq_true, List.isEmpty_iff] at hd
          obtain ⟨rfl, rfl⟩ := hd
          exact psx_setO (mem_of hm) ok.g.nd (slot_of ok.l hj) z.1 px_dct rfl z.2
        | _ => cases hd
      · obtain ⟨ie, he, rfl⟩ := mpd h
        exact setO_of ok hx ho hj (mem_of hm) he
    · rename_i hm
      obtain ⟨ie, he, rfl⟩ := mpd h
      exact set_of ok hx ho hj (nmem_of (by simpa using hm)) he
theorem callS_of {m : Md} {x nm : Str} {ap p p2 pos : Pos} {as : List Expr} {i : S} (ok : OK Γ dn L X cl W) (h : cCallS Γ n L x nm ap p as = some i) : PSX X cl W L.mu m (.Expr (.Call (.Attribute (.Name x p2) nm ap) as [] p) pos) (i.ev dn wf) := by
  unfold cCallS at h
  split at h
  · cases h
  · rename_i hx
    simp only [Bool.or_eq_true, not_or, Bool.not_eq_true, Bool.not_eq_true', Bool.not_eq_false] at hx
    obtain ⟨⟨hd, hv⟩, hl⟩ := hx
    obtain ⟨d1, d2, _⟩ := dunder_of hd
    obtain ⟨j, hj, h⟩ := bnd h
    split at h
    · cases h
    · rename_i hm
      have hm : j ∈ L.mu := by simpa using hm
      split at h
      · rename_i a
        split at h
        · rename_i hn
          have hn : nm = "append" := by simpa using hn
          subst hn
          obtain ⟨ia, ha, rfl⟩ := mpd h
          have q := (snd Γ dn n).e ha
          exact psx_app hm (slot_of ok.l hj) (vis_of ok.l hv) d1 d2 (q.2 ok) (star_of q.1.1 _ _) hl
        · split at h
          · rename_i hn
            have hn : nm = "extend" := by simpa using hn
            subst hn
            obtain ⟨ia, ha, rfl⟩ := mpd h
            have q := (snd Γ dn n).e ha
            exact psx_ext hm (slot_of ok.l hj) (vis_of ok.l hv) d1 d2 (q.2 ok) (star_of q.1.1 _ _) hl
          · cases h
      · rename_i a b _
        split at h
        · rename_i hn
          obtain ⟨ia, ha, h⟩ := bnd h
          obtain ⟨ib, hb, rfl⟩ := mpd h
          have hn : nm = "pop" := by simpa using hn
          subst hn
          have qa := (snd Γ dn n).e ha
          have qb := (snd Γ dn n).e hb
          have e1 := star_of qa.1.1 [b] X.env
          have e2 := star_of qb.1.1 [] X.env
          refine psx_drop hm (slot_of ok.l hj) (vis_of ok.l hv) d1 d2 (qa.2 ok) (qb.2 ok) ⟨rfl, ?_, hl, ?_⟩
          · rw [e1, e2]; rfl
          · rw [e1, e2]; rfl
        · cases h
      · cases h
theorem asPop_of {x : Str} {e j : Expr} (h : asPop x e = some j) : ∃ p2 ap p3, e = .Call (.Attribute (.Name x p2) "pop" ap) [j] [] p3 ∧ (ap.endLine == p3.line) = true := by
  unfold asPop at h
  split at h
  · split at h
    · rename_i hc
      simp only [Bool.and_eq_true, beq_iff_eq] at hc
      obtain ⟨⟨rfl, rfl⟩, h3⟩ := hc
      cases h
      exact ⟨_, _, _, rfl, by simpa using h3⟩
    · cases h
  · cases h
theorem popOf_of {x : Str} {e : Expr} (h : popOf e = some x) : ∃ p2 ap p3, e = .Call (.Attribute (.Name x p2) "pop" ap) [] [] p3 ∧ (ap.endLine == p3.line) = true := by
  unfold popOf at h
  split at h
  · split at h
    · rename_i hc
      simp only [Bool.and_eq_true, beq_iff_eq] at hc
      obtain ⟨rfl, h3⟩ := hc
      cases h
      exact ⟨_, _, _, rfl, by simpa using h3⟩
    · cases h
  · cases h
theorem lcl_of {X : Cx} {L : Lo} (l : LOk L X) {x : Str} (h : lclB L.sc x = true) : X.env.scope.names.lookup x = some .local := by
  rw [l.sc]
  unfold lclB at h
  simpa using h
theorem par_of {m : Md} {ts : List Expr} {e : Expr} {k : Nat} {tp pos : Pos} {i : S} (ok : OK Γ dn L X cl W) (h : cPar Γ n L ts e = some i) : PSX X cl W L.mu m (.Assign [.Tuple ts k tp] e pos) (i.ev dn wf) := by
  have hu := ok.g.un
  unfold cPar at h
  split at h
  · split at h
    · rename_i hc
      simp only [Bool.and_eq_true, beq_iff_eq] at hc
      obtain ⟨⟨⟨⟨h1, h2⟩, h3⟩, h4⟩, h5⟩ := hc
      obtain ⟨i, hi, h⟩ := bnd h
      obtain ⟨j, hj, h⟩ := bnd h
      split at h
      · cases h
      · rename_i hm
        simp only [Bool.or_eq_true, not_or, beq_iff_eq] at hm
        obtain ⟨⟨m1, m2⟩, m3⟩ := hm
        obtain ⟨ie, he, rfl⟩ := mpd h
        exact psx_par2 ok.g.calm ok.g.nd (slot_of ok.l hi) (slot_of ok.l hj) m1 (by simpa using m2) (by simpa using m3) (by rw [ok.l.sc]; exact h1) (lcl_of ok.l h2) (lcl_of ok.l h3) h4 h5 (((snd Γ dn n).es he (by decide)).2 ok)
    · cases h
  · split at h
    · rename_i hc
      simp only [Bool.and_eq_true, beq_iff_eq] at hc
      obtain ⟨⟨⟨⟨⟨⟨h1, h2⟩, h3⟩, h4⟩, h5⟩, h6⟩, h7⟩ := hc
      obtain ⟨i, hi, h⟩ := bnd h
      obtain ⟨j, hj, h⟩ := bnd h
      obtain ⟨l, hl, h⟩ := bnd h
      split at h
      · cases h
      · rename_i hm
        simp only [Bool.or_eq_true, not_or, beq_iff_eq] at hm
        obtain ⟨⟨⟨⟨⟨m1, m2⟩, m3⟩, m4⟩, m5⟩, m6⟩ := hm
        obtain ⟨ie, he, rfl⟩ := mpd h
        exact psx_par3 ok.g.calm ok.g.nd (slot_of ok.l hi) (slot_of ok.l hj) (slot_of ok.l hl) m1 m2 m3 (by simpa using m4) (by simpa using m5) (by simpa using m6) (by rw [ok.l.sc]; exact h1) (lcl_of ok.l h2) (lcl_of ok.l h3) (lcl_of ok.l h4) h5 h6 h7 (((snd Γ dn n).es he (by decide)).2 ok)
    · cases h
  · cases h
theorem raise_pmk {x msg : Str} {j : Nat} {p p2 pos : Pos} {C : Addr} {bmB : List Value} {B newId initId : String} (ok : OK Γ dn L X cl W) (hd : dunder x = false) (hg : glB L.sc x = true) (F : ExcBaseFacts B newId initId bmB) (q : PySem.W.excIn X.K C bmB newId = true) (gC : X.mg x = some (.ref C)) (kC : PySem.W.keepIn X.K (.ref C) = true) (r : Raises X (.ref C)) :
    PMk X (.Call (.Name x p) [.Constant (.str msg) j p2] [] pos) (fun _ H Q => Q (.ref C) none H) := pmk_own F q gC kC r (gl_of ok.l hg) (dunder_of hd).1
theorem exIs_name {x : Ex} {c : Str} : exIs (.e0 (exName x)) c = exIs x c := rfl
/-- the suite's expressions -/
structure SndX (Γ : Gam) (n : Nat) : Prop where
  e : ∀ {L : Lo} {en : Str} {i : Nat} {ex : Expr} {k : XE}, cX Γ n L en i ex = some k → isStar ex = false ∧ ∀ {X : Cx} {cl : Str → Value} {W : WX} {dn : Str → List PV → R PV} {x : Ex} {a : Addr} {oe : Obj} {d : Option Addr} {pn : List (Addr × Obj)}, OKS Γ dn L X cl W → slot L.N en = some i → exName x ∈ Γ.own → Zc (cl (exName x)) d oe → (∃ vs, oe.data = .fields vs) →
    PE (X.suite a ((a, oe) :: pn)) ex (tX X.K cl L.mu i a (cl (exName x)) d x (k.ev Γ.ys x))
  es : ∀ {L : Lo} {en : Str} {i : Nat} {es : List Expr} {k : XEs}, cXa Γ n L en i es = some k → ∀ {X : Cx} {cl : Str → Value} {W : WX} {dn : Str → List PV → R PV} {x : Ex} {a : Addr} {oe : Obj} {d : Option Addr} {pn : List (Addr × Obj)}, OKS Γ dn L X cl W → slot L.N en = some i → exName x ∈ Γ.own → Zc (cl (exName x)) d oe → (∃ vs, oe.data = .fields vs) →
    PA (X.suite a ((a, oe) :: pn)) es (tXA X.K cl L.mu i a (cl (exName x)) d x (k.ev Γ.ys x))
theorem sndx_e (s : SndX Γ n) {en : Str} {i : Nat} {ex : Expr} {k : XE} (h : cX Γ (n + 1) L en i ex = some k) : isStar ex = false ∧ ∀ {X : Cx} {cl : Str → Value} {W : WX} {dn : Str → List PV → R PV} {x : Ex} {a : Addr} {oe : Obj} {d : Option Addr} {pn : List (Addr × Obj)}, OKS Γ dn L X cl W → slot L.N en = some i → exName x ∈ Γ.own → Zc (cl (exName x)) d oe → (∃ vs, oe.data = .fields vs) →
    PE (X.suite a ((a, oe) :: pn)) ex (tX X.K cl L.mu i a (cl (exName x)) d x (k.ev Γ.ys x)) := by
  cases ex with
  | Constant kc j pos =>
    refine ⟨rfl, fun {X cl W dn x a oe d pn} ok he hx hz hf => ?_⟩
    simp only [cX] at h
    obtain ⟨p, hp, rfl⟩ := mpd h
    exact pxx_of (okC_px hp)
  | Name y pos =>
    refine ⟨rfl, fun {X cl W dn x a oe d pn} ok he hx hz hf => ?_⟩
    simp only [cX] at h
    split at h
    · cases h
    · rename_i hy
      simp only [Bool.or_eq_true, not_or, Bool.not_eq_true, Bool.not_eq_true', Bool.not_eq_false] at hy
      obtain ⟨hd, hv⟩ := hy
      obtain ⟨d1, d2, _⟩ := dunder_of hd
      obtain ⟨j, hj, h⟩ := bnd h
      split at h
      · cases h
      · rename_i hm
        simp only [Bool.or_eq_true, not_or, Bool.not_eq_true] at hm
        cases h
        exact pxx_of (px_var (X := X.suite a ((a, oe) :: pn)) (nmem_of hm.2) (slot_of ok.ok.l hj) (vis_of ok.ok.l hv) d1 d2)
  | Tuple es kk pos =>
    refine ⟨rfl, fun {X cl W dn x a oe d pn} ok he hx hz hf => ?_⟩
    simp only [cX] at h
    obtain ⟨ks, hk, rfl⟩ := mpd h
    exact pxx_tup (s.es hk ok he hx hz hf)
  | BoolOp op es pos =>
    refine ⟨rfl, fun {X cl W dn x a oe d pn} ok he hx hz hf => ?_⟩
    simp only [cX] at h
    split at h
    · exact pe_one ((s.e h).2 ok he hx hz hf)
    · obtain ⟨ka, ha, h⟩ := bnd h
      obtain ⟨kb, hb, rfl⟩ := mpd h
      exact pxx_or ((s.e ha).2 ok he hx hz hf) ((s.e hb).2 ok he hx hz hf)
    · cases h
  | Call f as ks pos =>
    refine ⟨rfl, fun {X cl W dn x a oe d pn} ok he hx hz hf => ?_⟩
    simp only [cX] at h
    split at h
    · rename_i f' p0 y p1 c p2
      split at h
      · rename_i hc
        simp only [Bool.and_eq_true, beq_iff_eq, Bool.not_eq_true'] at hc
        obtain ⟨⟨⟨⟨⟨⟨rfl, hg⟩, hb⟩, rfl⟩, hv⟩, hd⟩, hcl⟩ := hc
        cases h
        obtain ⟨d1, d2, _⟩ := dunder_of hd
        obtain ⟨D, eD, C⟩ := ok.hr.exc _ hx
        unfold clsB at hcl
        simp only [Bool.and_eq_true, Bool.or_eq_true, Bool.not_eq_true', beq_iff_eq] at hcl
        obtain ⟨⟨hgc, hdc⟩, hcl⟩ := hcl
        obtain ⟨dc1, _, dc3⟩ := dunder_of hdc
        show PE (X.suite a ((a, oe) :: pn)) _ (tX X.K cl L.mu i a (cl (exName x)) d x (fun _ => .ok (.bl (exIs x c))))
        rw [eD] at hz ⊢
        rcases hcl with hcl | ⟨rfl, hbc⟩
        · obtain ⟨m1, D2, eD2⟩ := ok.hr.cls _ hcl
          have k1 := ok.hr.one _ hx _ hcl
          rw [eD, eD2, exIs_name] at k1
          rw [eD2] at m1
          exact pxx_isE C hz hf (gl_of ok.ok.l hg) (ok.ok.g.bs _ hb) (slot_of ok.ok.l he) (vis_of ok.ok.l hv) d1 d2 (pe_glob (X := X.suite a ((a, oe) :: pn)) (v := .ref D2) (gl_of ok.ok.l hgc) m1 rfl dc1) (fun u hu => hu) k1 _
        · have k1 := ok.hr.oneV _ hx
          rw [eD] at k1
          have e1 : exIs x ("ValueError" : Str) = true := by unfold exIs; simp
          rw [e1]
          exact pxx_isE C hz hf (gl_of ok.ok.l hg) (ok.ok.g.bs _ hb) (slot_of ok.ok.l he) (vis_of ok.ok.l hv) d1 d2 (pe_bltn (X := X.suite a ((a, oe) :: pn)) (v := .ty "ValueError") (gl_of ok.ok.l hgc) (ok.ok.g.bs _ hbc) PyProof.Rows.Boot.«ValueError» rfl dc3 dc1) (fun u hu => hu) k1 _
      · cases h
    · cases h
  | Attribute o nm pos =>
    refine ⟨rfl, fun {X cl W dn x a oe d pn} ok he hx hz hf => ?_⟩
    simp only [cX] at h
    split at h
    · rename_i y p1
      split at h
      · rename_i hc
        simp only [Bool.and_eq_true, beq_iff_eq, Bool.not_eq_true'] at hc
        obtain ⟨⟨⟨rfl, rfl⟩, hv⟩, hd⟩ := hc
        cases h
        obtain ⟨d1, d2, _⟩ := dunder_of hd
        show PE (X.suite a ((a, oe) :: pn)) _ (tX X.K cl L.mu i a (cl (exName x)) d x (xNm Γ.ys x))
        cases x with
        | e0 c => exact ⟨fun pins s σ H Q I ⟨S, ρ, re, kk, go⟩ => (show False from go).elim⟩
        | e1 c p =>
          by_cases hcy : Γ.ys.contains c = true
          · have ef : xNm Γ.ys (.e1 c p) = fun _ => .ok p := by
              funext ρ
              exact if_pos hcy
            rw [ef]
            obtain ⟨D, eD, T, hno⟩ := ok.hr.xf c (by simpa using hcy)
            have eD : cl (exName (.e1 c p)) = .ref D := eD
            rw [eD] at hz ⊢
            exact pxx_nm T hno hz hf (slot_of ok.ok.l he) (vis_of ok.ok.l hv) d1 d2
          · have ef : xNm Γ.ys (.e1 c p) = fun _ => .no := by
              funext ρ
              exact if_neg hcy
            rw [ef]
            exact ⟨fun pins s σ H Q I ⟨S, ρ, re, kk, go⟩ => (show False from go).elim⟩
      · cases h
    · cases h
  | _ => simp only [cX] at h; cases h
theorem sndx (Γ : Gam) : ∀ n, SndX Γ n
  | 0 => ⟨fun h => (nomatch h), fun h => (nomatch h)⟩
  | n + 1 => ⟨fun h => sndx_e (sndx Γ n) h, fun {L en i es k} h {X cl W dn x a oe d pn} ok he hx hz hf => by
    cases es with
    | nil =>
      simp only [cXa] at h
      cases h
      exact paxx_nil
    | cons e es =>
      simp only [cXa] at h
      obtain ⟨ka, ha, h⟩ := bnd h
      obtain ⟨kb, hb, rfl⟩ := mpd h
      have qa := (sndx Γ n).e ha
      exact paxx_cons (qa.2 ok he hx hz hf) ((sndx Γ n).es hb ok he hx hz hf) (star_of qa.1 _ _)⟩
/-- the suite's statements -/
structure SndXS (Γ : Gam) (n : Nat) : Prop where
  s : ∀ {L : Lo} {en : Str} {i : Nat} {st : Stmt} {k : XS}, cXS Γ n L en i st = some k → ∀ {X : Cx} {cl : Str → Value} {W : WX} {dn : Str → List PV → R PV} {x : Ex} {a : Addr} {oe : Obj} {d : Option Addr} {pn : List (Addr × Obj)}, OKS Γ dn L X cl W → slot L.N en = some i → exName x ∈ Γ.own → Zc (cl (exName x)) d oe → (∃ vs, oe.data = .fields vs) →
    PS (X.suite a ((a, oe) :: pn)) st (tXS X.K cl L.mu i a (cl (exName x)) d x (k.ev Γ.ys x))
  ss : ∀ {L : Lo} {en : Str} {i : Nat} {st : List Stmt} {k : XSs}, cXSs Γ n L en i st = some k → ∀ {X : Cx} {cl : Str → Value} {W : WX} {dn : Str → List PV → R PV} {x : Ex} {a : Addr} {oe : Obj} {d : Option Addr} {pn : List (Addr × Obj)}, OKS Γ dn L X cl W → slot L.N en = some i → exName x ∈ Γ.own → Zc (cl (exName x)) d oe → (∃ vs, oe.data = .fields vs) →
    PSs (X.suite a ((a, oe) :: pn)) st (tXS X.K cl L.mu i a (cl (exName x)) d x (k.ev Γ.ys x))
theorem sndxs_s (s : SndXS Γ n) {en : Str} {i : Nat} {st : Stmt} {k : XS} (h : cXS Γ (n + 1) L en i st = some k) {X : Cx} {cl : Str → Value} {W : WX} {dn : Str → List PV → R PV} {x : Ex} {a : Addr} {oe : Obj} {d : Option Addr} {pn : List (Addr × Obj)} (ok : OKS Γ dn L X cl W) (he : slot L.N en = some i) (hx : exName x ∈ Γ.own) (hz : Zc (cl (exName x)) d oe) (hf : ∃ vs, oe.data = .fields vs) :
    PS (X.suite a ((a, oe) :: pn)) st (tXS X.K cl L.mu i a (cl (exName x)) d x (k.ev Γ.ys x)) := by
  simp only [cXS] at h
  split at h
  · rename_i t tp e pos
    split at h
    · cases h
    · rename_i hc
      simp only [Bool.or_eq_true, not_or, Bool.not_eq_true, Bool.not_eq_true', Bool.not_eq_false] at hc
      obtain ⟨⟨hl, ho⟩, hsw⟩ := hc
      have z := loc_of ok.ok.l hl
      obtain ⟨j, hj, h⟩ := bnd h
      split at h
      · cases h
      · rename_i hm
        simp only [Bool.or_eq_true, not_or, Bool.not_eq_true, beq_iff_eq] at hm
        obtain ⟨ke, hk, rfl⟩ := mpd h
        exact psxx_set (X := X.suite a ((a, oe) :: pn)) (nmem_of (by simpa using hm.2)) hm.1 ok.ok.g.nd (slot_of ok.ok.l hj) z.1 (((sndx Γ n).e hk).2 ok he hx hz hf) (by rw [sw_of ho, show (X.suite a ((a, oe) :: pn)).env.scope = L.sc from ok.ok.l.sc, hsw]) z.2
  · rename_i a' ops bs p1 body els p2
    split at h
    · rename_i b
      split at h
      · cases h
      · rename_i hs
        obtain ⟨ka, ha, h⟩ := bnd h
        obtain ⟨kb, hb, h⟩ := bnd h
        obtain ⟨kr, hr, rfl⟩ := mpd h
        exact psxx_if (ptxx_cmp (X := X.suite a ((a, oe) :: pn)) (s_cmp .Eq ok.ok.g.un) (((sndx Γ n).e ha).2 ok he hx hz hf) (((sndx Γ n).e hb).2 ok he hx hz hf) (marks_of (by simpa using hs))) (s.ss hr ok he hx hz hf)
    · cases h
  · cases h
theorem sndxs (Γ : Gam) : ∀ n, SndXS Γ n
  | 0 => ⟨fun h => (nomatch h), fun h => (nomatch h)⟩
  | n + 1 => ⟨fun h _ _ _ _ _ _ _ _ _ ok he hx hz hf => sndxs_s (sndxs Γ n) h ok he hx hz hf, fun {L en i st k} h {X cl W dn x a oe d pn} ok he hx hz hf => by
    cases st with
    | nil =>
      simp only [cXSs] at h
      cases h
      exact psxx_nil
    | cons s r =>
      simp only [cXSs] at h
      obtain ⟨ka, ha, h⟩ := bnd h
      obtain ⟨kb, hb, rfl⟩ := mpd h
      exact psxx_cons ((sndxs Γ n).s ha ok he hx hz hf) ((sndxs Γ n).ss hb ok he hx hz hf)⟩
theorem try_of {m : Md} {body : List Stmt} {hds : List ExceptHandler} {pos : Pos} {i : S} (ok : OKS Γ dn L X cl W) (h : cTry Γ n L body hds = some i) : PSX X cl W L.mu m (.Try body hds [] [] pos) (i.ev dn wf) := by
  unfold cTry at h
  split at h
  · rename_i t tp e bp c np nm b0 suite p2
    split at h
    · cases h
    · rename_i hc
      simp only [Bool.or_eq_true, not_or, Bool.not_eq_true, Bool.not_eq_true', Bool.not_eq_false] at hc
      obtain ⟨⟨⟨hl, ho⟩, hsw⟩, hown⟩ := hc
      unfold ownB at hown
      simp only [Bool.and_eq_true, Bool.not_eq_true'] at hown
      obtain ⟨⟨hgc, hdc⟩, hcl⟩ := hown
      have z := loc_of ok.ok.l hl
      have hsw' : swapsWith e (some (.Name t tp)) bp.line X.env = pure false := by rw [sw_of ho, ok.ok.l.sc, hsw]
      obtain ⟨m1, D2, eD2⟩ := ok.hr.cls _ hcl
      have hN : Names X c (cl c) := ⟨gl_of ok.ok.l hgc, (dunder_of hdc).1, .inl m1⟩
      obtain ⟨j, hj, h⟩ := bnd h
      split at h
      · cases h
      · rename_i hm
        obtain ⟨ie, he, h⟩ := bnd h
        have hE : ∀ (W' : WX) (pn : List (Addr × Obj)) (xe : Value → Shared → Prop), Takes (X.tr pn xe) W' → PX (X.tr pn xe) cl W' L.mu .sh e (ie.ev dn) := fun W' pn xe tk' => ((snd Γ dn n).e he).2 (X := X.tr pn xe) ⟨⟨ok.ok.g.calm, ok.ok.g.nd, ok.ok.g.un, ok.ok.g.gs, ok.ok.g.fs, ok.ok.g.bs⟩, ⟨ok.ok.l.N, ok.ok.l.sc, ok.ok.l.fn⟩, tk'⟩
        split at h
        · rename_i en
          split at h
          · cases h
          · rename_i hen
            simp only [Bool.or_eq_true, not_or, Bool.not_eq_true, Bool.not_eq_true', Bool.not_eq_false] at hen
            obtain ⟨k, hk, h⟩ := bnd h
            split at h
            · cases h
            · rename_i hkm
              obtain ⟨r, hr, rfl⟩ := mpd h
              exact psx_tryA ok.stk ok.fr ok.ok.g.nd (slot_of ok.ok.l hk) (nmem_of (by simpa using hkm)) (lcl_of ok.ok.l hen.2) hN ok.ok.tk (nmem_of (by simpa using hm)) (slot_of ok.ok.l hj) z.1 hsw' z.2 hE (fun y hy => ok.hr.exm y hy _ hcl)
                fun x hx a oe d pn hz hf => (sndxs Γ n).ss hr ok hk hx hz hf
        · split at h
          · rename_i t2 tp2 kc jc pc ap _ _
            split at h
            · cases h
            · rename_i hl2
              have hl2 : locB L t2 = true := by simpa using hl2
              have z2 := loc_of ok.ok.l hl2
              obtain ⟨j2, hj2, h⟩ := bnd h
              split at h
              · cases h
              · rename_i hm2
                obtain ⟨p, hp, rfl⟩ := mpd h
                exact psx_tryO ok.stk ok.fr ok.ok.g.nd hN ok.ok.tk (nmem_of (by simpa using hm)) (slot_of ok.ok.l hj) z.1 hsw' z.2 hE (fun y hy => ok.hr.exm y hy _ hcl)
                  fun a oe pn => pssx_cons (psx_set (X := X.suite a ((a, oe) :: pn)) (nmem_of (by simpa using hm2)) ok.ok.g.nd (slot_of ok.ok.l hj2) z2.1 (okC_px hp) rfl z2.2) pssx_nil
          · cases h
  · cases h
structure SndS (Γ : Gam) (dn : Str → List PV → R PV) (wf : Nat) (n : Nat) : Prop where
  s : ∀ {L : Lo} {st : Stmt} {i : S}, cS Γ n L st = some i → ∀ {X : Cx} {cl : Str → Value} {W : WX}, OKS Γ dn L X cl W → PSX X cl W L.mu (roM L.ro) st (i.ev dn wf)
  ss : ∀ {L : Lo} {st : List Stmt} {i : Ss}, cSs Γ n L st = some i → ∀ {X : Cx} {cl : Str → Value} {W : WX}, OKS Γ dn L X cl W → PSsX X cl W L.mu (roM L.ro) st (i.ev dn wf)
theorem pts_mu (is : List Nat) (L : Lo) (h : ¬ (is.any L.mu.contains) = true) : ∀ i ∈ is, i ∉ L.mu := fun i hi z => h (List.any_eq_true.mpr ⟨i, hi, by simpa using z⟩)
theorem snds_s (q : SndS Γ dn wf n) {st : Stmt} {i : S} (h : cS Γ (n + 1) L st = some i) (ok : OKS Γ dn L X cl W) : PSX X cl W L.mu (roM L.ro) st (i.ev dn wf) := by
  have sE := snd Γ dn n
  cases st with
  | Pass pos => simp only [cS] at h; cases h; exact psx_pass
  | Expr e pos =>
    simp only [cS] at h
    split at h
    · split at h
      · cases h; exact psx_doc
      · cases h
    · split at h
      · exact callS_of ok.ok h
      · cases h
    · cases h
  | Return e pos =>
    simp only [cS] at h
    split at h
    · cases h
    · rename_i e
      split at h
      · rename_i hr
        rw [show roM L.ro = .ow by rw [hr]; rfl]
        split at h
        · rename_i x p
          split at h
          · cases h
          · rename_i hx
            simp only [Bool.or_eq_true, not_or, Bool.not_eq_true, Bool.not_eq_true', Bool.not_eq_false] at hx
            obtain ⟨hd, hv⟩ := hx
            obtain ⟨d1, d2, _⟩ := dunder_of hd
            obtain ⟨j, hj, h⟩ := bnd h
            split at h
            · rename_i hm
              cases h
              exact psx_retO (mem_of hm) (slot_of ok.ok.l hj) (vis_of ok.ok.l hv) d1 d2
            · cases h
        · obtain ⟨ie, he, rfl⟩ := mpd h
          exact psx_retX ((sE.e he).2 ok.ok)
      · rename_i hr
        rw [show roM L.ro = .sh by rw [show L.ro = false by simpa using hr]; rfl]
        obtain ⟨ie, he, rfl⟩ := mpd h
        exact psx_ret ((sE.e he).2 ok.ok.nomu)
  | Assign ts e pos =>
    simp only [cS] at h
    split at h
    · rename_i t
      split at h
      · exact setS_of ok.ok h
      · rename_i es k tp
        split at h
        · exact par_of ok.ok h
        · rename_i hD
          have hD : isDisp e = false := by simpa using hD
          obtain ⟨is, hi, h⟩ := bnd h
          split at h
          · cases h
          · rename_i hm
            obtain ⟨ie, he, rfl⟩ := mpd h
            exact psx_asg (tg := .tp is) ok.ok.g.calm ok.ok.g.nd ⟨es, k, tp, rfl, names_of ok.ok.l hi⟩ (pts_mu is L hm) ((sE.e he).2 ok.ok) sw_tup (stores_of hD) rfl
      · rename_i o k tp
        split at h
        · rename_i x p
          split at h
          · cases h
          · rename_i hx
            simp only [Bool.or_eq_true, not_or, Bool.not_eq_true, Bool.not_eq_true', Bool.not_eq_false] at hx
            obtain ⟨hd, hv⟩ := hx
            obtain ⟨d1, d2, _⟩ := dunder_of hd
            obtain ⟨j, hj, h⟩ := bnd h
            have hu : X.A.units + 1 < cLine := by have := ok.ok.g.un; omega
            split at h
            · cases h
            · rename_i hm
              have hm : j ∈ L.mu := by simpa using hm
              split at h
              · rename_i jE hp
                obtain ⟨ik, hk, h⟩ := bnd h
                obtain ⟨ij, hj', rfl⟩ := mpd h
                obtain ⟨p2, ap, p3, rfl, hl⟩ := asPop_of hp
                have qj := sE.e hj'
                have e1 := star_of qj.1.1 [] X.env
                refine psx_mov hu hm (slot_of ok.ok.l hj) (vis_of ok.ok.l hv) d1 d2 ((sE.e hk).2 ok.ok) (qj.2 ok.ok) ⟨rfl, ?_, hl, ?_⟩
                · rw [e1]; rfl
                · rw [e1]; rfl
              split at h
              · obtain ⟨ik, hk, h⟩ := bnd h
                obtain ⟨ie, he, rfl⟩ := mpd h
                exact psx_putT hu hm (slot_of ok.ok.l hj) (vis_of ok.ok.l hv) d1 d2 ((sE.es hk (by decide)).2 ok.ok) ((sE.e he).2 ok.ok) sw_sub
              · obtain ⟨ik, hk, h⟩ := bnd h
                obtain ⟨ie, he, rfl⟩ := mpd h
                exact psx_put hu hm (slot_of ok.ok.l hj) (vis_of ok.ok.l hv) d1 d2 ((sE.e hk).2 ok.ok) ((sE.e he).2 ok.ok) sw_sub
        · cases h
      · cases h
    · cases h
  | If t a b pos =>
    simp only [cS] at h
    obtain ⟨it, ht, h⟩ := bnd h
    obtain ⟨ia, ha, h⟩ := bnd h
    obtain ⟨ib, hb, rfl⟩ := mpd h
    exact psx_if (sE.t ht ok.ok) (q.ss ha ok) (q.ss hb ok)
  | While t b els pos =>
    simp only [cS] at h
    split at h
    · obtain ⟨it, ht, h⟩ := bnd h
      obtain ⟨ib, hb, rfl⟩ := mpd h
      exact psx_whl wf ok.hp (sE.t ht ok.ok) (q.ss hb ok)
    · cases h
  | For tg it b els pos =>
    simp only [cS] at h
    split at h
    · split at h
      · cases h
      · rename_i hs
        split at h
        · rename_i x hp
          split at h
          · cases h
          rename_i hx
          simp only [Bool.or_eq_true, not_or, Bool.not_eq_true, Bool.not_eq_true', Bool.not_eq_false] at hx
          obtain ⟨hd, hv⟩ := hx
          obtain ⟨d1, d2, _⟩ := dunder_of hd
          obtain ⟨j, hj, h⟩ := bnd h
          split at h
          · cases h
          rename_i hm
          have hm : j ∈ L.mu := by simpa using hm
          obtain ⟨tg', ht, h⟩ := bnd h
          split at h
          · cases h
          rename_i hm2
          obtain ⟨ib, hb, rfl⟩ := mpd h
          obtain ⟨p2, ap, p3, rfl, hl⟩ := popOf_of hp
          exact psx_forpop ok.ok.g.calm ok.ok.g.nd ok.hp (tg_of ok.ok.l ht) (pts_mu _ L hm2) hm (slot_of ok.ok.l hj) (vis_of ok.ok.l hv) d1 d2 hl (q.ss hb ok)
        obtain ⟨tg', ht, h⟩ := bnd h
        split at h
        · cases h
        · rename_i hm
          obtain ⟨ii, hi, h⟩ := bnd h
          obtain ⟨ib, hb, rfl⟩ := mpd h
          exact psx_for ok.ok.g.calm ok.ok.g.nd ok.hp (tg_of ok.ok.l ht) (pts_mu _ L hm) (sE.i hi ok.ok) (q.ss hb ok) (folded_of (by simpa using hs) X.env)
    · cases h
  | Raise e c pos =>
    simp only [cS] at h
    split at h
    · split at h
      · split at h
        · cases h
        · rename_i hx
          simp only [Bool.or_eq_true, not_or, Bool.not_eq_true, Bool.not_eq_true', Bool.not_eq_false] at hx
          obtain ⟨hd, hg⟩ := hx
          split at h
          · rename_i hc
            cases h
            obtain ⟨C, bmB, B, newId, initId, F, q1, gC, kC, r, hcl⟩ := ok.xs _ hc
            exact psx_raise ok.ok.g.calm ok.ok.tk (raise_pmk ok.ok hd hg F q1 gC kC r) hcl
          · cases h
      · split at h
        · cases h
        · rename_i hx
          simp only [Bool.or_eq_true, not_or, Bool.not_eq_true, Bool.not_eq_true', Bool.not_eq_false] at hx
          obtain ⟨hd, hg⟩ := hx
          split at h
          · rename_i hc
            obtain ⟨ie, he, rfl⟩ := mpd h
            exact psx_raise1 ok.ok.g.calm ok.ok.tk (ok.ys _ hc) (gl_of ok.ok.l hg) (dunder_of hd).1 ((sE.e he).2 ok.ok) (star_of (sE.e he).1.1 _ _)
          · cases h
      · cases h
    · cases h
  | Try body hds els fin pos =>
    simp only [cS] at h
    split at h
    · exact try_of ok h
    · cases h
  | _ => simp only [cS] at h; cases h
theorem snds_ss (q : SndS Γ dn wf n) {st : List Stmt} {i : Ss} (h : cSs Γ (n + 1) L st = some i) (ok : OKS Γ dn L X cl W) : PSsX X cl W L.mu (roM L.ro) st (i.ev dn wf) := by
  cases st with
  | nil => simp only [cSs] at h; cases h; exact pssx_nil
  | cons s r =>
    simp only [cSs] at h
    obtain ⟨is, hs, h⟩ := bnd h
    obtain ⟨ir, hr, rfl⟩ := mpd h
    exact pssx_cons (q.s hs ok) (q.ss hr ok)
theorem snds (Γ : Gam) (dn : Str → List PV → R PV) (wf : Nat) : ∀ n, SndS Γ dn wf n
  | 0 => ⟨fun h => (nomatch h), fun h => (nomatch h)⟩
  | n + 1 => ⟨fun h _ _ _ ok => snds_s (snds Γ dn wf n) h ok, fun h _ _ _ ok => snds_ss (snds Γ dn wf n) h ok⟩
end
end M
/-! MZ: all defs of a text, the head's facts, a law's end. -/
namespace M
open PySem PySem.Spec PyProof.Rows L2

/-- a def of the text, read -/
structure Dd where
  x : Str
  st : Stmt
  N : List Str
  np : Nat
  ro : Bool
  mu : List Nat
  dt : List Nat
  body : Ss
def Dd.ps (d : Dd) : List Str := d.N.take d.np
def Dd.lo (d : Dd) : Lo := ⟨d.N, d.mu, defScope d.st, none, d.dt, d.ro⟩
def den (ds : List Dd) (wf : Nat) : Nat → Str → List PV → R PV
  | 0, _, _ => .no
  | n + 1, f, ps => match ds.find? fun d => d.x == f with
    | none => .no
    | some d => d.body.ev (den ds wf n) wf (entry d.N.length ps) >>= endF
def fsOf (ds : List Dd) : List (Str × Nat × Bool) := ds.map fun d => (d.x, d.np, d.ro)
def scB (N ps : List Str) (sc : Scope) : Bool := decide (sc.kind = .function) && (sc.isCoroutine == false) && (sc.isGenerator == false) && decide N.Nodup && (ps.all fun x => match sc.names.lookup x with
  | some .local => true
  | some .cell => true
  | _ => false) && sc.names.all fun y => decide (y.2 ≠ .free)
theorem scB_ok {N : List Str} {np : Nat} {sc : Scope} (h : scB N (N.take np) sc = true) : FnScope N (N.take np) sc := by
  unfold scB at h
  simp only [Bool.and_eq_true, decide_eq_true_eq, beq_iff_eq] at h
  obtain ⟨⟨⟨⟨⟨h1, h2⟩, h3⟩, h4⟩, h5⟩, h6⟩ := h
  refine ⟨h1, h2, h3, h4, ?_, fun x hx => ?_, fun y hy => ?_⟩
  · rw [List.length_take, List.take_eq_take_iff]
    omega
  · have := List.all_eq_true.mp h5 x hx
    split at this
    · rename_i e; exact .inl e
    · rename_i e; exact .inr e
    · cases this
  · have := List.all_eq_true.mp h6 y hy
    simpa using this
/-- how a def's arguments are bound -/
def BdOk (d : Dd) : Prop := ∀ (kV doc pm : Value) (an : Option Addr) (cdv ct : Value) (us : List Value), us.length = d.ps.length → bindArgs (PySem.W.fnOf d.x d.x (defArgs d.st) (defBody d.st) (defScope d.st) .none kV doc pm an cdv ct) ⟨us, []⟩ = pure (d.ps.zip us)
structure DOk (Γ : Gam) (d : Dd) : Prop where
  comp : cSs Γ 60 d.lo (defBody d.st) = some d.body
  sc : scB d.N d.ps (defScope d.st) = true
  mu : (d.mu.all fun i => decide (d.np ≤ i)) = true
  bd : BdOk d
  np : d.ps.length = d.np
theorem find_fs {x : Str} {np : Nat} {ro : Bool} : ∀ {ds : List Dd}, (fsOf ds).lookup x = some (np, ro) → ∃ d, d ∈ ds ∧ d.x = x ∧ d.np = np ∧ d.ro = ro ∧ (ds.find? fun d => d.x == x) = some d
  | [], h => by cases h
  | d :: ds, h => by
    have h : List.lookup x ((d.x, d.np, d.ro) :: fsOf ds) = some (np, ro) := h
    rw [List.lookup_cons] at h
    by_cases e : x = d.x
    · rw [show (x == d.x) = true by simpa using e] at h
      cases h
      exact ⟨d, List.mem_cons_self, e.symm, rfl, rfl, by rw [List.find?_cons, show (d.x == x) = true by simpa using e.symm]⟩
    · rw [show (x == d.x) = false by simpa using e] at h
      obtain ⟨d', h1, h2, h3, h4, h5⟩ := find_fs h
      exact ⟨d', List.mem_cons_of_mem _ h1, h2, h3, h4, by rw [List.find?_cons, show (d.x == x) = false by simpa using fun z => e z.symm]; exact h5⟩
/-- what the head tells -/
structure HOk' (Γ : Gam) (ds : List Dd) (K : PySem.W.Frag) (mg : Str → Option Value) (cl : Str → Value) : Prop where
  gs : ∀ x p, Γ.gs.lookup x = some p → ∃ v u, mg x = some u ∧ RelV v u ∧ (∀ S H, Rep K S H v p) ∧ isObjP p = false
  bs : ∀ x, hasB Γ x = true → mg x = none
  xs : ∀ x, Γ.xs.contains x = true → ∃ C bmB B newId initId, ExcBaseFacts B newId initId bmB ∧ PySem.W.excIn K C bmB newId = true ∧ mg x = some (.ref C) ∧ PySem.W.keepIn K (.ref C) = true ∧ (PySem.W.subIn K (.ref C) (.type "BaseException") = some true ∧ PySem.W.typeIn K (.ref C) = some (.type "type")) ∧ cl x = .ref C
  ys : ∀ x, Γ.ys.contains x = true → YHd K mg cl x
  hr : HrOk Γ K mg cl
  ds : ∀ d ∈ ds, ∃ f fd, FunD K d.x d.x (defArgs d.st) (defBody d.st) (defScope d.st) [] [] f fd ∧ mg d.x = some (.ref f) ∧ f = He.ga K d.x
section
variable {Γ : Gam} {ds : List Dd} {K : PySem.W.Frag} {mg : Str → Option Value} {cl : Str → Value} {P : Program} {w : World} {base : Heap} {wf : Nat}
theorem den_none {x : Str} {np : Nat} {ro : Bool} {vs : List V} {H : Hp} {Q : VK} {E : XK} (h : spF K cl np ro (den ds wf 0 x) vs H Q E) : False := by
  obtain ⟨S, ps, _, _, _, go⟩ := h
  exact go
theorem all_ok (hΓ : Γ.fs = fsOf ds) (hd : ∀ d ∈ ds, DOk Γ d) (hh : HOk' Γ ds K mg cl) : ∀ n, ∀ d ∈ ds, (ds.find? fun e => e.x == d.x) = some d → ∀ f fd, FunD K d.x d.x (defArgs d.st) (defBody d.st) (defScope d.st) [] [] f fd →
    FnOk P w K mg base (L2.CX P w) (n + 2) f fd d.ps (spF K cl d.np d.ro (den ds wf n d.x))
  | 0, d, hm, _, f, fd, F => ⟨fun vs H Q E h => (den_none h).elim, fun A outer s H args us vs Q E _ _ _ _ h => (den_none h).elim⟩
  | n + 1, d, hm, hfi, f, fd, F => by
    have D := hd d hm
    have S := scB_ok (np := d.np) D.sc
    refine F.ok S (fun vs H Q E h => ?_) (fun cdv A outer s H vs Q E hr h => ⟨tS K cl (fun cls dd _ H' => E cls dd H') d.mu (roM d.ro) (d.body.ev (den ds wf n) wf), ?_, ?_⟩)
    · obtain ⟨S', ps, _, r, hl, _⟩ := h
      rw [r.length, hl, D.np]
    · refine (snds Γ (den ds wf n) wf 60).ss (L := d.lo) D.comp (X := cxOf (L2.CX P w) P w K mg base d.N d.x (defScope d.st) f cdv A outer s H E) ⟨⟨⟨rfl, S.nd, ?_, hh.gs, fun x np ro hl => ?_, hh.bs⟩, ⟨rfl, rfl, fun _ _ => rfl⟩, takes_of rfl rfl rfl rfl⟩, passes_of rfl, fun x hx => ?_, fun x hx => (hh.ys x hx).ok (hr.mono (by omega)), hh.hr, rfl, rfl⟩
      · have := hr.un
        show (A.deeper (envOfC d.x (defScope d.st) s.heap.objs.size f cdv)).units + 65 < cLine
        omega
      · rw [hΓ] at hl
        obtain ⟨d', h1, rfl, rfl, rfl, h5⟩ := find_fs hl
        obtain ⟨f', fd', F', g', ga'⟩ := hh.ds d' h1
        exact ⟨n + 2, f', fd', d'.ps, all_ok hΓ hd hh n d' h1 h5 f' fd' F', hr, g', F'.kp, F'.bindsN (hd d' h1).bd, ga'⟩
      · obtain ⟨C, bmB, B, n1, n2, h1, h2, h3, h4, h5, h6⟩ := hh.xs x hx
        exact ⟨C, bmB, B, n1, n2, h1, h2, h3, h4, raises_own h5.1 h5.2, h6⟩
    · refine body_go (np := d.np) (fun i hi => by simpa using List.all_eq_true.mp D.mu i hi) ?_
      have e : den ds wf (n + 1) d.x = fun ps => d.body.ev (den ds wf n) wf (entry d.N.length ps) >>= endF := by
        funext ps
        show (match ds.find? fun e => e.x == d.x with
          | none => (R.no : R PV)
          | some d => d.body.ev (den ds wf n) wf (entry d.N.length ps) >>= endF) = _
        rw [hfi]
      rw [e] at h
      exact h
end

/-! ### constants -/
def dvOf : PV → Option He.Dv
  | .int i => some (.int i)
  | .str l => if SOk l then some (.str (strOf l)) else none
  | _ => none
def dvsOf : List PV → Option (List He.Dv)
  | [] => some []
  | p :: ps => match dvOf p, dvsOf ps with
    | some d, some ds => some (d :: ds)
    | _, _ => none
def tupGB (K : PySem.W.Frag) (x : Str) (ds : List He.Dv) : Bool := match K.lookup (He.ga K x) with
  | some ⟨.type c, none, .seq its _, _⟩ => decide (c = "tuple") && (decide (its.size ≤ sizeLine) && He.relAll (ds.map (He.Dv.v K)) its.toList)
  | _ => false
theorem tupGB_ok {K : PySem.W.Frag} {x : Str} {ds : List He.Dv} (h : tupGB K x ds = true) (H : Hp) : SqG K H (He.ga K x) (ds.map (He.Dv.v K)) := by
  unfold tupGB at h
  split at h
  · rename_i c its n sl e
    obtain ⟨h1, h2⟩ := He.ba h
    obtain ⟨h3, h4⟩ := He.ba h2
    exact .inr ⟨_, its, n, e, congrArg Value.type (of_decide_eq_true h1), rfl, rfl, of_decide_eq_true h3, He.relAll_ok h4⟩
  · cases h
def gB (K : PySem.W.Frag) (x : Str) : PV → Bool
  | .int i => (He.Fa.int x i).ok K
  | .str l => decide (SOk l) && (He.Fa.str x (strOf l)).ok K
  | .tup ps => decide (ps.length ≤ 1000) && (He.Fa.glo x).ok K && (match dvsOf ps with
    | some ds => tupGB K x ds
    | none => false)
  | _ => false
theorem dvs_rep {K : PySem.W.Frag} {S : Addr → Prop} {H : Hp} : ∀ {ps : List PV} {ds : List He.Dv}, dvsOf ps = some ds → Reps K S H (ds.map (He.Dv.v K)) ps
  | [], ds, h => by cases h; exact .nil
  | p :: ps, ds, h => by
    unfold dvsOf at h
    split at h
    · rename_i d ds' h1 h2
      cases h
      refine .cons ?_ (dvs_rep h2)
      cases p with
      | int i => cases h1; exact .int i
      | str l =>
        have h1 : (if SOk l then some (He.Dv.str (strOf l)) else none) = some d := h1
        split at h1
        · rename_i z; cases h1; exact .str l z
        · cases h1
      | _ => cases h1
    · cases h
theorem gB_ok {K : PySem.W.Frag} {h : Heap} {mg : Str → Option Value} (X : K.In h) (G : h.Ns mainGlobals mg) {x : Str} {p : PV} (c : gB K x p = true) : ∃ v u, mg x = some u ∧ RelV v u ∧ (∀ S H, Rep K S H v p) ∧ isObjP p = false := by
  cases p with
  | int i =>
    obtain ⟨t, e⟩ := He.int_ok X G c
    exact ⟨.int i, _, e, ⟨t, rfl⟩, fun _ _ => .int i, rfl⟩
  | str l =>
    simp only [gB, Bool.and_eq_true, decide_eq_true_eq] at c
    obtain ⟨t, e⟩ := He.str_ok X G c.2
    exact ⟨.str (strOf l), _, e, ⟨t, rfl⟩, fun _ _ => .str l c.1, rfl⟩
  | tup ps =>
    simp only [gB, Bool.and_eq_true, decide_eq_true_eq] at c
    obtain ⟨⟨c1, c2⟩, c3⟩ := c
    split at c3
    · rename_i ds e
      have lb := line_big
      exact ⟨.ref (He.ga K x), _, He.glo_ok X G c2, rfl, fun S H => .tup (tupGB_ok c3 H) (dvs_rep e) (by omega), rfl⟩
    · cases c3
  | _ => cases c

/-! ### the head's facts -/
def dD (d : Dd) : He.DefD := ⟨(d.x, none), d.x, d.x, defArgs d.st, defBody d.st, defScope d.st, [], []⟩
/-- all that is asked of the written part -/
def excCB (K : PySem.W.Frag) (D : Addr) : Bool := decide (PySem.W.findIn K (.ref D) "__getattribute__" = some (some (.builtin "BaseException.__getattribute__"))) && (decide (PySem.W.findIn K (.ref D) "__getattr__" = some none) && (decide (PySem.W.subIn K (.ref D) (.type "BaseException") = some true) &&
  (PySem.W.hasDictIn K D && (decide (PySem.W.findIn K (.ref D) "__class__" = some (some (.builtin "object.__class__"))) && (decide (PySem.W.specialIn K (.builtin "object.__class__") "__get__" = some (some (.builtin "getset_descriptor.__get__"))) && (decide (PySem.W.takesIn K (.builtin "object.__class__") = some true) && decide (PySem.W.mroIn K D (.type "object") = some true)))))))
theorem excCB_ok {K : PySem.W.Frag} {D : Addr} (h : excCB K D = true) : ExcC K D := by
  obtain ⟨h1, h⟩ := He.ba h
  obtain ⟨h2, h⟩ := He.ba h
  obtain ⟨h3, h⟩ := He.ba h
  obtain ⟨h4, h⟩ := He.ba h
  obtain ⟨h5, h⟩ := He.ba h
  obtain ⟨h6, h⟩ := He.ba h
  obtain ⟨h7, h8⟩ := He.ba h
  exact ⟨of_decide_eq_true h1, of_decide_eq_true h2, of_decide_eq_true h3, h4, of_decide_eq_true h5, of_decide_eq_true h6, of_decide_eq_true h7, of_decide_eq_true h8⟩
def hrB (Γ : Gam) (K : PySem.W.Frag) : Bool := ((Γ.own ++ Γ.cs).all fun c => (He.Fa.glo c).ok K) && ((Γ.own.all fun y => excCB K (He.ga K y) && (decide (PySem.W.kitOne K (.ref (He.ga K y)) (.type "ValueError") = some true) &&
  (Γ.own ++ Γ.cs).all fun c => decide (PySem.W.kitOne K (.ref (He.ga K y)) (.ref (He.ga K c)) = some (exIs (.e0 y) c)) && decide (PySem.W.exmOne K (.ref (He.ga K y)) (.ref (He.ga K c)) = some (exIs (.e0 y) c)))) &&
  Γ.ys.all fun y => xfB K (He.ga K y) && decide (PySem.W.findIn K (.ref (He.ga K y)) "name" = some none))
theorem hrB_ok {Γ : Gam} {K : PySem.W.Frag} {h : Heap} {mg : Str → Option Value} (X : K.In h) (G : h.Ns mainGlobals mg) (b : hrB Γ K = true) : HrOk Γ K mg fun x => .ref (He.ga K x) := by
  obtain ⟨b1, b⟩ := He.ba b
  obtain ⟨b2, b3⟩ := He.ba b
  have own : ∀ y ∈ Γ.own, excCB K (He.ga K y) = true ∧ PySem.W.kitOne K (.ref (He.ga K y)) (.type "ValueError") = some true ∧ ∀ c, (Γ.own ++ Γ.cs).contains c = true → PySem.W.kitOne K (.ref (He.ga K y)) (.ref (He.ga K c)) = some (exIs (.e0 y) c) ∧ PySem.W.exmOne K (.ref (He.ga K y)) (.ref (He.ga K c)) = some (exIs (.e0 y) c) := fun y hy => by
    obtain ⟨z1, z⟩ := He.ba (List.all_eq_true.mp b2 y hy)
    obtain ⟨z2, z3⟩ := He.ba z
    refine ⟨z1, of_decide_eq_true z2, fun c hc => ?_⟩
    obtain ⟨w1, w2⟩ := He.ba (List.all_eq_true.mp z3 c (by simpa using hc))
    exact ⟨of_decide_eq_true w1, of_decide_eq_true w2⟩
  exact ⟨fun c hc => ⟨He.glo_ok X G (List.all_eq_true.mp b1 c (by simpa using hc)), _, rfl⟩, fun y hy c hc => ((own y hy).2.2 c hc).1, fun y hy => (own y hy).2.1, fun y hy c hc => ((own y hy).2.2 c hc).2, fun y hy => ⟨_, rfl, excCB_ok (own y hy).1⟩,
    fun y hy => by
      obtain ⟨z1, z2⟩ := He.ba (List.all_eq_true.mp b3 y hy)
      exact ⟨_, rfl, xfB_ok z1, of_decide_eq_true z2⟩⟩
def yB (K : PySem.W.Frag) (y : Yd) : Bool := oexB K (He.ga K y.x) && ((He.Fa.meth y.x "__init__").ok K && (decide (PySem.W.typeIn K (.ref (He.ma K (He.ga K y.x) "__init__")) = some (.type "function")) && ((He.Fa.noat y.x "name").ok K && (He.Fa.glo y.x).ok K)))
def yD (y : Yd) : He.DefD := ⟨(y.x, some "__init__"), "__init__", y.q, defArgs y.st, defBody y.st, defScope y.st, [], []⟩
structure YdOk (y : Yd) : Prop where
  body : initS (defBody y.st)
  sc : scB initN initN (defScope y.st) = true
  bd : ∀ (kV doc pm : Value) (an : Option Addr) (cdv ct : Value) (us : List Value), us.length = initN.length → bindArgs (PySem.W.fnOf "__init__" y.q (defArgs y.st) (defBody y.st) (defScope y.st) .none kV doc pm an cdv ct) ⟨us, []⟩ = pure (initN.zip us)
def exB (Γ : Gam) (ds : List Dd) (ys : List Yd) (K : PySem.W.Frag) : Bool := (hrB Γ K && ys.all fun y => yB K y) && (Γ.gs.all fun q => gB K q.1 q.2) && (Γ.bs.all fun x => (He.Fa.free x).ok K) && (Γ.xs.all fun x => (He.Fa.exc x).ok K && (He.Fa.glo x).ok K) && ds.all fun d => (He.Fa.glo d.x).ok K
def dDs (ds : List Dd) (ys : List Yd) : List He.DefD := ds.map dD ++ ys.map yD
def obsM (Γ : Gam) (ds : List Dd) (ys : List Yd) (K : PySem.W.Frag) : He.AlD := (exB Γ ds ys K && (dDs ds ys).all fun d => d.ok K, (dDs ds ys).map fun d => He.fnW K d.at_)
def valM (ds : List Dd) (ys : List Yd) : He.AlD := (true, (dDs ds ys).map He.DefD.val)
def SaysM (Γ : Gam) (ds : List Dd) (ys : List Yd) (K : PySem.W.Frag) : Prop := obsM Γ ds ys K = valM ds ys
def obsMG (n : Nat) (Γ : Gam) (ds : List Dd) (ys : List Yd) (g : Addr → Option Obj) : He.AlD := obsM Γ ds ys (He.frG g (He.asD g n))
def hookM (n : Nat) (Γ : Gam) (ds : List Dd) (ys : List Yd) : PySem.W.Hook where
  α := He.AlD
  obs := fun s => obsMG n Γ ds ys s.heap.get?
  val := fun _ => valM ds ys
  says := fun _ h => ∃ K : PySem.W.Frag, K.In h ∧ SaysM Γ ds ys K
  of := fun _ _ e => ⟨_, He.frG_in, e⟩
  keeps := fun _ _ _ ⟨K, hK, c⟩ k => ⟨K, PySem.W.Frag.In.keeps hK k, c⟩
theorem obsMG_eq {n : Nat} {Γ : Gam} {ds : List Dd} {ys : List Yd} {g : Addr → Option Obj} {s : Shared} (h : ∀ a, g a = s.heap.get? a) : obsMG n Γ ds ys g = (hookM n Γ ds ys).obs s := by
  have e : g = s.heap.get? := funext h
  rw [e] <;> rfl
theorem lookup_mem {α : Type} {x : Str} {p : α} : ∀ {l : List (Str × α)}, l.lookup x = some p → (x, p) ∈ l
  | [], h => by cases h
  | (y, q) :: l, h => by
    rw [List.lookup_cons] at h
    by_cases e : x = y
    · rw [show (x == y) = true by simpa using e] at h
      cases h
      rw [e]
      exact List.mem_cons_self
    · rw [show (x == y) = false by simpa using e] at h
      exact List.mem_cons_of_mem _ (lookup_mem h)
section
variable {Γ : Gam} {ds : List Dd} {ys : List Yd} {K : PySem.W.Frag} {h : Heap} {mg : Str → Option Value}
theorem SaysM.defD (c : SaysM Γ ds ys K) {d : He.DefD} (hd : d ∈ dDs ds ys) : ∃ fd, FunD K d.name d.qual d.params d.body d.scope (d.dvs K) (d.kws K) (He.fAd K d.at_) fd := by
  have c1 : (exB Γ ds ys K && (dDs ds ys).all fun d => d.ok K) = true := congrArg (fun z : He.AlD => z.1) c
  have c2 := (He.ba c1).2
  have e : (dDs ds ys).map (fun d => He.fnW K d.at_) = (dDs ds ys).map He.DefD.val := congrArg (fun z : He.AlD => z.2) c
  obtain ⟨i, hi, e3⟩ := List.mem_iff_getElem.mp hd
  have e2 : ((dDs ds ys).map fun d => He.fnW K d.at_)[i]? = ((dDs ds ys).map He.DefD.val)[i]? := by rw [e]
  have hg : (dDs ds ys)[i]? = some d := by rw [List.getElem?_eq_getElem hi, e3]
  have e4 : ((dDs ds ys)[i]?).map (fun d => He.fnW K d.at_) = ((dDs ds ys)[i]?).map He.DefD.val := by rw [← List.getElem?_map, ← List.getElem?_map]; exact e2
  rw [hg] at e4
  exact He.DefD.funD (d := d) (Option.some.inj e4) (List.all_eq_true.mp c2 d (List.mem_of_getElem? hg))
theorem SaysM.funD (c : SaysM Γ ds ys K) {d : Dd} (hd : d ∈ ds) : ∃ fd, FunD K d.x d.x (defArgs d.st) (defBody d.st) (defScope d.st) [] [] (He.ga K d.x) fd :=
  c.defD (d := dD d) (List.mem_append_left _ (List.mem_map.mpr ⟨d, hd, rfl⟩))
theorem SaysM.hok (X : K.In h) (G : h.Ns mainGlobals mg) (hy : Γ.ys = ys.map (·.x)) (hyo : ∀ y ∈ ys, YdOk y) (c : SaysM Γ ds ys K) : HOk' Γ ds K mg fun x => .ref (He.ga K x) := by
  have c1 : (exB Γ ds ys K && (dDs ds ys).all fun d => d.ok K) = true := congrArg (fun z : He.AlD => z.1) c
  have c2 := (He.ba c1).1
  unfold exB at c2
  obtain ⟨c3, c4⟩ := He.ba c2
  obtain ⟨c5, c6⟩ := He.ba c3
  obtain ⟨c7, c8⟩ := He.ba c5
  obtain ⟨c9, c7⟩ := He.ba c7
  obtain ⟨c10, c9⟩ := He.ba c9
  refine ⟨fun x p hl => gB_ok X G (List.all_eq_true.mp c7 _ (lookup_mem hl)), fun x hx => ?_, fun x hx => ?_, fun x hx => ?_, hrB_ok X G c10, fun d hd => ?_⟩
  · obtain ⟨y, hy, e⟩ := List.any_eq_true.mp hx
    have e : y = x := by simpa using e
    rw [← e]
    exact He.free_ok X G (List.all_eq_true.mp c8 _ hy)
  · have hx : x ∈ Γ.xs := by simpa using hx
    obtain ⟨z1, z2⟩ := He.ba (List.all_eq_true.mp c6 _ hx)
    obtain ⟨h1, h2, h3, h4⟩ := He.exc_ok z1
    exact ⟨He.ga K x, _, _, _, _, PySem.F.excBase_ValueError, h1, He.glo_ok X G z2, h2, ⟨h3, h4⟩, rfl⟩
  · have hx : x ∈ Γ.ys := by simpa using hx
    rw [hy] at hx
    obtain ⟨y, hm, rfl⟩ := List.mem_map.mp hx
    have z := List.all_eq_true.mp c9 y hm
    unfold yB at z
    obtain ⟨z1, z⟩ := He.ba z
    obtain ⟨z2, z⟩ := He.ba z
    obtain ⟨z3, z⟩ := He.ba z
    obtain ⟨z4, z5⟩ := He.ba z
    obtain ⟨fd, F⟩ := c.defD (d := yD y) (List.mem_append_right _ (List.mem_map.mpr ⟨y, hm, rfl⟩))
    have o := hyo y hm
    exact ⟨He.ga K y.x, _, fd, _, _, _, _, _, oexB_ok z1, (He.meth_ok z2).1, of_decide_eq_true z3, He.noat_ok z4, F, scB_ok (np := 2) o.sc, o.body, F.bindsN o.bd, He.glo_ok X G z5, rfl⟩
  · obtain ⟨fd, F⟩ := c.funD hd
    exact ⟨_, fd, F, He.glo_ok X G (List.all_eq_true.mp c4 _ hd), rfl⟩
/-- what may be let out, of any world -/
def CXE (P : Program) : CXT := fun outer H s E u s' => ∃ w, L2.CX P w outer H s E u s'
theorem FnOk.cx {P : Program} {w : World} {base : Heap} {CX CX' : CXT} {k : Nat} {f : Addr} {fd : FuncData} {ps : List Str} {sp : Sp} (F : FnOk P w K mg base CX k f fd ps sp) (h : ∀ outer H s E u s', CX outer H s E u s' → CX' outer H s E u s') : FnOk P w K mg base CX' k f fd ps sp :=
  ⟨F.len, fun A outer s H args us vs Q E hr he hb hv hs => codeAny_mono (F.run A outer s H args us vs Q E hr he hb hv hs) fun r s' q => by
    cases r with
    | error e => exact h _ _ _ _ _ _ q
    | ok fl => cases fl <;> exact q⟩
theorem cxe_no {P : Program} (H : Hp) (s : Shared) (e : Value) (s' : Shared) (z : CXE P [] H s (fun _ _ _ => False) e s') : False := by
  obtain ⟨w, _, _, _, _, _, _, _, _, _, _, _, _, z⟩ := z
  exact z.elim
/-- a law's end: the law's def tells True of every script -/
theorem law_end {P : Program} {w : World} {wf n : Nat} (X : K.In h) (G : h.Ns mainGlobals mg) (c : SaysM Γ ds ys K) (hΓ : Γ.fs = fsOf ds) (hy : Γ.ys = ys.map (·.x)) (hyo : ∀ y ∈ ys, YdOk y) (hd : ∀ d ∈ ds, DOk Γ d) {d : Dd} {x : Str} (hm : d ∈ ds) (hf : (ds.find? fun e => e.x == d.x) = some d) (hps : d.ps = [x]) (hnp : d.np = 1) (hro : d.ro = false)
    (hden : ∀ ns : List Int, ns.length ≤ 63 → den ds wf n d.x [.scr ns] = .ok (.bl true)) {fa : Addr} (hfa : mg d.x = some (.ref fa)) :
    ∃ (fd : FuncData) (sp : Sp), (∀ (s : Shared) (u : Value), BindsTo s fd ⟨[u], []⟩ [(x, u)]) ∧
        (∀ (H : Hp) (a : Addr) (ns : List Int), ns.length ≤ 63 → Only H → SqL K H a (ns.map V.int) → sp [.ref a] H (fun v _ => v = .bl true) fun _ _ _ => False) ∧
        ∀ base : Heap, K.In base → base.Ns mainGlobals mg → FnOk P w K mg base (CXE P) (n + 2) fa fd [x] sp := by
  have H' := c.hok X G hy hyo
  obtain ⟨fd, F⟩ := c.funD hm
  obtain ⟨f', fd', F', g', _⟩ := H'.ds d hm
  have e : He.ga K d.x = fa := by
    have c1 : (exB Γ ds ys K && (dDs ds ys).all fun d => d.ok K) = true := congrArg (fun z : He.AlD => z.1) c
    have c4 := (He.ba (show ((hrB Γ K && ys.all fun y => yB K y) && (Γ.gs.all fun q => gB K q.1 q.2) && (Γ.bs.all fun x => (He.Fa.free x).ok K) && (Γ.xs.all fun x => (He.Fa.exc x).ok K && (He.Fa.glo x).ok K) && ds.all fun d => (He.Fa.glo d.x).ok K) = true from (He.ba c1).1)).2
    have g := He.glo_ok X G (List.all_eq_true.mp c4 _ hm)
    rw [hfa] at g
    cases g
    rfl
  rw [e] at F
  refine ⟨fd, spF K (fun x => .ref (He.ga K x)) d.np d.ro (den ds wf n d.x), fun s u => ?_, fun H a ns hl hO hS => ?_, fun base hb hn => ?_⟩
  · have b := F.bindsA (ps := d.ps) (hd d hm).bd s [u] (by rw [hps]; rfl)
    rw [hps] at b
    exact b
  · refine ⟨fun _ => False, [.scr ns], fun _ z => z.elim, .cons (.scr ?_ hl) .nil, by rw [hnp]; rfl, ?_⟩
    · rcases hS with (z | z) | z
      · rcases hO a with q | ⟨o, xs, q⟩
        · rw [z] at q; cases q
        · rw [z] at q; cases q
      · exact .inl z
      · exact .inr z
    · rw [hden ns hl, hro]
      intro S' H2 x2 v hv
      have hv : Rep K S' H2 v (.bl true) := hv
      cases hv
      rfl
  · have q := all_ok (P := P) (w := w) (base := base) (wf := wf) hΓ hd H' n d hm hf fa fd F
    rw [hps] at q
    exact FnOk.cx q fun _ _ _ _ _ _ z => ⟨w, z⟩
end
end M
/-! MT: tools for the plain part: evaluation by simp. -/
namespace M
open PySem

@[simp] theorem Rbind_assoc {α β γ : Type} (r : R α) (f : α → R β) (g : β → R γ) : ((r >>= f) >>= g) = (r >>= fun a => f a >>= g) := by cases r <;> rfl
@[simp] theorem R_ok_inj {α : Type} {a b : α} : (R.ok a = R.ok b) ↔ a = b := ⟨fun h => by cases h; rfl, fun h => by rw [h]⟩
/-- it ends well -/
theorem Rif {α β : Type} (c : Prop) [Decidable c] (a b : R α) (f : α → R β) : ((if c then a else b) >>= f) = if c then a >>= f else b >>= f := by split <;> rfl

section
variable {dn : Str → List PV → R PV} {wf : Nat}
@[simp] theorem ev_v (i : Nat) (ρ : Env') : (E.v i).ev dn ρ = fVar i ρ := rfl
@[simp] theorem ev_c (p : PV) (ρ : Env') : (E.c p).ev dn ρ = .ok p := rfl
@[simp] theorem ev_bin (op : Operator) (a b : E) (ρ : Env') : (E.bin op a b).ev dn ρ = (a.ev dn ρ >>= fun p => b.ev dn ρ >>= fun q => binP op p q) := rfl
@[simp] theorem ev_cmp (op : CmpOp) (a b : E) (ρ : Env') : (E.cmp op a b).ev dn ρ = (a.ev dn ρ >>= fun p => b.ev dn ρ >>= fun q => cmpP op p q) := rfl
@[simp] theorem ev_chn (o p : CmpOp) (a b c : E) (ρ : Env') : (E.chn o p a b c).ev dn ρ = (a.ev dn ρ >>= fun x => b.ev dn ρ >>= fun y => cmpP o x y >>= fun r => asBl r >>= fun t => if t then c.ev dn ρ >>= fun z => cmpP p y z else .ok (.bl false)) := rfl
@[simp] theorem ev_and (a b : E) (ρ : Env') : (E.and a b).ev dn ρ = (a.ev dn ρ >>= fun p => asBl p >>= fun t => if t then b.ev dn ρ else .ok (.bl false)) := rfl
@[simp] theorem ev_or (a b : E) (ρ : Env') : (E.or a b).ev dn ρ = (a.ev dn ρ >>= fun p => asBl p >>= fun t => if t then .ok (.bl true) else b.ev dn ρ) := rfl
@[simp] theorem ev_not (a : E) (ρ : Env') : (E.not a).ev dn ρ = (a.ev dn ρ >>= fun p => asBl p >>= fun t => .ok (.bl (!t))) := rfl
@[simp] theorem ev_ite (t : T) (a b : E) (ρ : Env') : (E.ite t a b).ev dn ρ = (t.ev dn ρ >>= fun c => if c then a.ev dn ρ else b.ev dn ρ) := rfl
@[simp] theorem ev_neg (a : E) (ρ : Env') : (E.neg a).ev dn ρ = fNeg (a.ev dn) ρ := rfl
@[simp] theorem ev_tup (es : Es) (ρ : Env') : (E.tup es).ev dn ρ = (es.ev dn ρ >>= fun ps => if ps.length ≤ 1000 then .ok (.tup ps) else .no) := rfl
@[simp] theorem ev_lst (es : Es) (ρ : Env') : (E.lst es).ev dn ρ = (es.ev dn ρ >>= fun ps => if ps.length ≤ 1000 then .ok (.lst ps) else .no) := rfl
@[simp] theorem ev_dic (ρ : Env') : (E.dic).ev dn ρ = .ok (.dic []) := rfl
@[simp] theorem ev_dct (ρ : Env') : (E.dct).ev dn ρ = .ok (.dct []) := rfl
@[simp] theorem ev_ix (a b : E) (ρ : Env') : (E.ix a b).ev dn ρ = (a.ev dn ρ >>= fun p => b.ev dn ρ >>= fun q => ixP p q) := rfl
@[simp] theorem ev_sl (a : E) (lo hi : O) (ρ : Env') : (E.sl a lo hi).ev dn ρ = (a.ev dn ρ >>= fun p => asPart (lo.ev dn) ρ >>= fun l => asPart (hi.ev dn) ρ >>= fun h => slP p l h) := rfl
@[simp] theorem ev_pr (k : Pr) (es : Es) (ρ : Env') : (E.pr k es).ev dn ρ = (es.ev dn ρ >>= k.ev) := rfl
@[simp] theorem ev_isa (a : E) (t : Ty) (ρ : Env') : (E.isa a t).ev dn ρ = isP (a.ev dn) t ρ := rfl
@[simp] theorem ev_isas (a : E) (ts : List Ty) (ρ : Env') : (E.isas a ts).ev dn ρ = fIsAny (a.ev dn) ts ρ := rfl
@[simp] theorem ev_idx (a b : E) (ρ : Env') : (E.idx a b).ev dn ρ = (a.ev dn ρ >>= fun p => asTupG p >>= fun ps => b.ev dn ρ >>= fun q => idxP ps q) := rfl
@[simp] theorem ev_get (a b c : E) (ρ : Env') : (E.get a b c).ev dn ρ = (a.ev dn ρ >>= fun d => asDic d >>= fun kvs => b.ev dn ρ >>= fun k => c.ev dn ρ >>= fun x => getP (.dic kvs) k x) := rfl
@[simp] theorem ev_m1 (k : M1) (a b : E) (ρ : Env') : (E.m1 k a b).ev dn ρ = (a.ev dn ρ >>= fun p => asStr p >>= fun l => b.ev dn ρ >>= fun q => k.ev l q) := rfl
@[simp] theorem ev_back (a : E) (ρ : Env') : (E.back a).ev dn ρ = (a.ev dn ρ >>= fun p => match p with
  | .tup xs => .ok (.tup xs.reverse)
  | _ => .no) := rfl
@[simp] theorem ev_upper (a : E) (ρ : Env') : (E.upper a).ev dn ρ = (a.ev dn ρ >>= fun p => asStr p >>= upP) := rfl
@[simp] theorem ev_sset (a : E) (ρ : Env') : (E.sset true a).ev dn ρ = (a.ev dn ρ >>= ssetP) := rfl
@[simp] theorem ev_lset (a : E) (ρ : Env') : (E.sset false a).ev dn ρ = (a.ev dn ρ >>= lsetP) := rfl
@[simp] theorem ev_lc (own : List Nat) (tg : Tg) (it : I) (c : OT) (e : E) (ρ : Env') : (E.lc own tg it c e).ev dn ρ = (it.ev dn ρ >>= fun xs => (compL (turnC own tg (c.ev dn) (e.ev dn) ρ) xs).nox >>= fun ys => .ok (.lst ys)) := rfl
@[simp] theorem ev_call (f : Str) (np : Nat) (es : Es) (ρ : Env') : (E.call f np es).ev dn ρ = (es.ev dn ρ >>= fun ps => if ps.length = np then dn f ps else .no) := rfl
@[simp] theorem ev_callv (i np : Nat) (tab : List Str) (es : Es) (ρ : Env') : (E.callv i np tab es).ev dn ρ = (fVar i ρ >>= fun p => fnOfP tab p >>= fun f => es.ev dn ρ >>= fun ps => if ps.length = np then dn f ps else .no) := rfl
@[simp] theorem evt_cmp (op : CmpOp) (a b : E) (ρ : Env') : (T.cmp op a b).ev dn ρ = (a.ev dn ρ >>= fun p => b.ev dn ρ >>= fun q => cmpP op p q >>= asBl) := by
  show ((a.ev dn ρ >>= fun p => b.ev dn ρ >>= fun q => cmpP op p q) >>= asBl) = _
  simp
@[simp] theorem evt_chn (o p : CmpOp) (a b c : E) (ρ : Env') : (T.chn o p a b c).ev dn ρ = ((E.chn o p a b c).ev dn ρ >>= asBl) := rfl
@[simp] theorem evt_tru (a : E) (ρ : Env') : (T.tru a).ev dn ρ = (a.ev dn ρ >>= truP) := rfl
@[simp] theorem evt_not (t : T) (ρ : Env') : (T.not t).ev dn ρ = (t.ev dn ρ >>= fun b => .ok (!b)) := rfl
@[simp] theorem evt_and (a b : T) (ρ : Env') : (T.and a b).ev dn ρ = (a.ev dn ρ >>= fun t => if t then b.ev dn ρ else .ok false) := rfl
@[simp] theorem evt_or (a b : T) (ρ : Env') : (T.or a b).ev dn ρ = (a.ev dn ρ >>= fun t => if t then .ok true else b.ev dn ρ) := rfl
@[simp] theorem evs_nil (ρ : Env') : (Es.nil).ev dn ρ = .ok [] := rfl
@[simp] theorem evs_cons (e : E) (es : Es) (ρ : Env') : (Es.cons e es).ev dn ρ = (e.ev dn ρ >>= fun p => es.ev dn ρ >>= fun ps => .ok (p :: ps)) := rfl
@[simp] theorem evo_none : (O.none).ev dn = none := rfl
@[simp] theorem evo_some (e : E) : (O.some e).ev dn = some (e.ev dn) := rfl
@[simp] theorem evot_none : (OT.none).ev dn = none := rfl
@[simp] theorem evot_some (e : T) : (OT.some e).ev dn = some (e.ev dn) := rfl
@[simp] theorem evi_of (e : E) (ρ : Env') : (I.of e).ev dn ρ = (e.ev dn ρ >>= itemsP) := rfl
@[simp] theorem evi_rng1 (e : E) (ρ : Env') : (I.rng1 e).ev dn ρ = fRng1 (e.ev dn) ρ := rfl
@[simp] theorem evi_rng2 (a b : E) (ρ : Env') : (I.rng2 a b).ev dn ρ = fRng2 (a.ev dn) (b.ev dn) ρ := rfl
@[simp] theorem evi_zip (a b : E) (ρ : Env') : (I.zip a b).ev dn ρ = fZip (a.ev dn) (b.ev dn) ρ := rfl
@[simp] theorem evi_enum (a : E) (ρ : Env') : (I.enum a).ev dn ρ = (a.ev dn ρ >>= fun p => asSeq p >>= fun xs => .ok (enumL xs)) := rfl
@[simp] theorem asPart_none (ρ : Env') : asPart none ρ = .ok none := rfl
@[simp] theorem asPart_some (f : Env' → R PV) (ρ : Env') : asPart (some f) ρ = (f ρ >>= fun p => match p with
    | .int i => .ok (some i)
    | _ => .no) := rfl
/-! statements -/
@[simp] theorem evb_nil (ρ : Env') : (Ss.nil).ev dn wf ρ = .ok (.nx ρ) := rfl
/-- what stands behind -/
def thenS (r : R Fl) (k : Env' → R Fl) : R Fl := r >>= fun fl => match fl with
  | .nx ρ => k ρ
  | .rt p => .ok (.rt p)
@[simp] theorem thenS_nx (ρ : Env') (k : Env' → R Fl) : thenS (.ok (.nx ρ)) k = k ρ := rfl
@[simp] theorem thenS_rt (p : PV) (k : Env' → R Fl) : thenS (.ok (.rt p)) k = .ok (.rt p) := rfl
@[simp] theorem thenS_ex (x : Ex) (k : Env' → R Fl) : thenS (.ex x) k = .ex x := rfl
@[simp] theorem thenS_no (k : Env' → R Fl) : thenS .no k = .no := rfl
@[simp] theorem thenS_if (c : Prop) [Decidable c] (a b : R Fl) (k : Env' → R Fl) : thenS (if c then a else b) k = if c then thenS a k else thenS b k := by split <;> rfl
@[simp] theorem thenS_bind {α : Type} (r : R α) (f : α → R Fl) (k : Env' → R Fl) : thenS (r >>= f) k = (r >>= fun a => thenS (f a) k) := by unfold thenS; simp
@[simp] theorem evb_cons (s : S) (r : Ss) (ρ : Env') : (Ss.cons s r).ev dn wf ρ = thenS (s.ev dn wf ρ) (r.ev dn wf) := rfl
@[simp] theorem evs_pass (ρ : Env') : (S.pass).ev dn wf ρ = .ok (.nx ρ) := rfl
@[simp] theorem evs_set (i : Nat) (e : E) (ρ : Env') : (S.set i e).ev dn wf ρ = (e.ev dn ρ >>= fun p => .ok (.nx (ρ.set i (some p)))) := rfl
@[simp] theorem evs_setO (i : Nat) (e : E) (ρ : Env') : (S.setO i e).ev dn wf ρ = (e.ev dn ρ >>= fun p => if isObjP p then .ok (.nx (ρ.set i (some p))) else .no) := rfl
@[simp] theorem evs_asg (tg : Tg) (e : E) (ρ : Env') : (S.asg tg e).ev dn wf ρ = (e.ev dn ρ >>= fun p => bindT tg p ρ >>= fun ρ' => .ok (.nx ρ')) := rfl
@[simp] theorem evs_ret (e : E) (ρ : Env') : (S.ret e).ev dn wf ρ = (e.ev dn ρ >>= fun p => .ok (.rt p)) := rfl
@[simp] theorem evs_retX (e : E) (ρ : Env') : (S.retX e).ev dn wf ρ = (e.ev dn ρ >>= fun p => .ok (.rt p)) := rfl
@[simp] theorem evs_cond (t : T) (a b : Ss) (ρ : Env') : (S.cond t a b).ev dn wf ρ = (t.ev dn ρ >>= fun c => if c then a.ev dn wf ρ else b.ev dn wf ρ) := rfl
@[simp] theorem evs_loop (tg : Tg) (it : I) (b : Ss) (ρ : Env') : (S.loop tg it b).ev dn wf ρ = (it.ev dn ρ >>= fun xs => forL tg (b.ev dn wf) xs ρ) := rfl
@[simp] theorem evs_whl (t : T) (b : Ss) (ρ : Env') : (S.whl t b).ev dn wf ρ = whlL (t.ev dn) (b.ev dn wf) wf ρ := rfl
@[simp] theorem evs_app (i : Nat) (e : E) (ρ : Env') : (S.app i e).ev dn wf ρ = (lstAt i ρ >>= fun xs => e.ev dn ρ >>= fun q => if xs.length < big then .ok (.nx (ρ.set i (some (.lst (xs ++ [q]))))) else .no) := rfl
@[simp] theorem evs_ext (i : Nat) (e : E) (ρ : Env') : (S.ext i e).ev dn wf ρ = (lstAt i ρ >>= fun xs => e.ev dn ρ >>= fun q => asLst q >>= fun ys => if xs.length + ys.length ≤ big then .ok (.nx (ρ.set i (some (.lst (xs ++ ys))))) else .no) := rfl
@[simp] theorem evs_putK (i : Nat) (k v : E) (ρ : Env') : (S.putK i k v).ev dn wf ρ = fPutK i (k.ev dn) (v.ev dn) ρ := rfl
@[simp] theorem evs_putT (i : Nat) (k : Es) (v : E) (ρ : Env') : (S.putT i k v).ev dn wf ρ = fPutT i (k.ev dn) (v.ev dn) ρ := rfl
@[simp] theorem evs_par (is : List Nat) (es : Es) (ρ : Env') : (S.par is es).ev dn wf ρ = (es.ev dn ρ >>= fun ps => if ps.length = is.length then .ok (.nx (setP is ps ρ)) else .no) := rfl
@[simp] theorem evs_drop (i : Nat) (k d : E) (ρ : Env') : (S.drop i k d).ev dn wf ρ = fDrop i (k.ev dn) (d.ev dn) ρ := rfl
@[simp] theorem evs_mov (i : Nat) (k j : E) (ρ : Env') : (S.mov i k j).ev dn wf ρ = fMov i (k.ev dn) (j.ev dn) ρ := rfl
@[simp] theorem evs_fpop (tg : Tg) (i : Nat) (b : Ss) (ρ : Env') : (S.fpop tg i b).ev dn wf ρ = fForPop tg i (b.ev dn wf) ρ := rfl
@[simp] theorem evs_tryA (j i : Nat) (kn ys : List Str) (c : Str) (e : E) (r : XSs) (ρ : Env') : (S.tryA j i kn ys c e r).ev dn wf ρ = fTry j i kn c (e.ev dn) (fun x => r.ev ys x) ρ := rfl
@[simp] theorem evs_tryO (j : Nat) (kn : List Str) (c : Str) (e : E) (k : Nat) (p : PV) (ρ : Env') : (S.tryO j kn c e k p).ev dn wf ρ = fTryO j kn c (e.ev dn) (fSeq (fSet k (fC p)) fNext) ρ := rfl
@[simp] theorem evs_raise1 (c : Str) (e : E) (ρ : Env') : (S.raise1 c e).ev dn wf ρ = (e.ev dn ρ >>= fun p => .ex (.e1 c p)) := by
  show (fCons (e.ev dn) fNil ρ >>= _) = _
  unfold fCons fNil
  cases e.ev dn ρ <;> rfl
@[simp] theorem evs_raise (c : Str) (ρ : Env') : (S.raise c).ev dn wf ρ = .ex (.e0 c) := rfl
end
/-! slots of explicit environments -/
@[simp] theorem fVar_0 (p : PV) (ρ : Env') : fVar 0 (some p :: ρ) = .ok p := rfl
@[simp] theorem fVar_s (i : Nat) (o : Option PV) (ρ : Env') : fVar (i + 1) (o :: ρ) = fVar i ρ := rfl
@[simp] theorem lstAt_0 (p : List PV) (ρ : Env') : lstAt 0 (some (.lst p) :: ρ) = .ok p := rfl
@[simp] theorem lstAt_s (i : Nat) (o : Option PV) (ρ : Env') : lstAt (i + 1) (o :: ρ) = lstAt i ρ := by simp [lstAt]
@[simp] theorem bindT_nm (i : Nat) (p : PV) (ρ : Env') : bindT (.nm i) p ρ = .ok (ρ.set i (some p)) := rfl
@[simp] theorem asBl_bl (b : Bool) : asBl (.bl b) = .ok b := rfl
@[simp] theorem asStr_str (b : List Nat) : asStr (.str b) = .ok b := rfl
@[simp] theorem asLst_lst (b : List PV) : asLst (.lst b) = .ok b := rfl
@[simp] theorem asLst_tup (b : List PV) : asLst (.tup b) = .ok b := rfl
@[simp] theorem asLst_wt (b : List PV) : asLst (.wt b) = .ok b := rfl
@[simp] theorem itemsP_tup (xs : List PV) : itemsP (.tup xs) = .ok xs := rfl
@[simp] theorem itemsP_lst (xs : List PV) : itemsP (.lst xs) = .ok xs := rfl
@[simp] theorem itemsP_str (s : List Nat) : itemsP (.str s) = .ok (s.map fun c => .str [c]) := rfl
@[simp] theorem wipeP_nil (ρ : Env') : wipeP ρ [] = ρ := rfl
@[simp] theorem wipeP_cons (ρ : Env') (v : Nat) (vs : List Nat) : wipeP ρ (v :: vs) = (wipeP ρ vs).set v none := rfl
@[simp] theorem condR_none (ρ : Env') : condR none ρ = .ok true := rfl
@[simp] theorem condR_some (c : Env' → R Bool) (ρ : Env') : condR (some c) ρ = c ρ := rfl
@[simp] theorem endF_rt (p : PV) : endF (.rt p) = .ok p := rfl
@[simp] theorem endF_nx (ρ : Env') : endF (.nx ρ) = .ok .non := rfl
end M
namespace M
open PySem L2
/-! ### operators on known shapes -/
@[simp] theorem bin_add (p q : PV) : binP .Add p q = addP p q := rfl
@[simp] theorem bin_sub (p q : PV) : binP .Sub p q = subP p q := rfl
@[simp] theorem bin_mul (p q : PV) : binP .Mult p q = mulP p q := rfl
@[simp] theorem bin_mod (p q : PV) : binP .Mod p q = modP p q := rfl
@[simp] theorem bin_fdiv (p q : PV) : binP .FloorDiv p q = fdivP p q := rfl
@[simp] theorem bin_pow (p q : PV) : binP .Pow p q = powP p q := rfl
@[simp] theorem add_int (i j : Int) : addP (.int i) (.int j) = .ok (.int (i + j)) := rfl
@[simp] theorem sub_int (i j : Int) : subP (.int i) (.int j) = .ok (.int (i - j)) := rfl
theorem mul_r (i j : Int) (h1 : -(2 ^ 64) < j) (h2 : j < 2 ^ 64) : mulP (.int i) (.int j) = .ok (.int (i * j)) := by
  show (if mulOk i j then _ else _) = _
  rw [if_pos (by unfold mulOk; exact decide_eq_true (.inr ⟨h1, h2⟩))]
theorem mul_l (i j : Int) (h1 : -(2 ^ 64) < i) (h2 : i < 2 ^ 64) : mulP (.int i) (.int j) = .ok (.int (i * j)) := by
  show (if mulOk i j then _ else _) = _
  rw [if_pos (by unfold mulOk; exact decide_eq_true (.inl ⟨h1, h2⟩))]
theorem mod_pos (i j : Int) (h : 0 < j) : modP (.int i) (.int j) = .ok (.int (i % j)) := by
  show (if 0 < j then _ else _) = _
  rw [if_pos h]
theorem add_str (a b : List Nat) (h : a.length + b.length ≤ 16777216) : addP (.str a) (.str b) = .ok (.str (a ++ b)) := by
  show (if _ then _ else _) = _
  rw [if_pos (by have := line24; omega)]
theorem add_tup (a b : List PV) (h : a.length + b.length ≤ 16777216) : addP (.tup a) (.tup b) = .ok (.tup (a ++ b)) := by
  show (if _ then _ else _) = _
  rw [if_pos (by have := line24; omega)]
theorem add_lst (a b : List PV) (h : a.length + b.length ≤ 16777216) : addP (.lst a) (.lst b) = .ok (.lst (a ++ b)) := by
  show (if _ then _ else _) = _
  rw [if_pos (by have := line24; omega)]
@[simp] theorem c_eq (p q : PV) : cmpP .Eq p q = eqR p q := rfl
@[simp] theorem c_ne (p q : PV) : cmpP .NotEq p q = neR p q := rfl
@[simp] theorem c_lt (p q : PV) : cmpP .Lt p q = ltR p q := rfl
@[simp] theorem c_le (p q : PV) : cmpP .LtE p q = leR p q := rfl
@[simp] theorem c_gt (p q : PV) : cmpP .Gt p q = gtR p q := rfl
@[simp] theorem c_ge (p q : PV) : cmpP .GtE p q = geR p q := rfl
@[simp] theorem c_is (p q : PV) : cmpP .Is p q = (isB p q >>= fun b => .ok (.bl b)) := rfl
@[simp] theorem c_isn (p q : PV) : cmpP .IsNot p q = (isB p q >>= fun b => .ok (.bl (!b))) := rfl
@[simp] theorem c_in (p q : PV) : cmpP .In p q = (inB p q >>= fun b => .ok (.bl b)) := rfl
@[simp] theorem c_nin (p q : PV) : cmpP .NotIn p q = (inB p q >>= fun b => .ok (.bl (!b))) := rfl
@[simp] theorem eqR_int (i j : Int) : eqR (.int i) (.int j) = .ok (.bl (i == j)) := rfl
@[simp] theorem eqR_str (i j : List Nat) : eqR (.str i) (.str j) = .ok (.bl (i == j)) := rfl
@[simp] theorem eqR_bl (i j : Bool) : eqR (.bl i) (.bl j) = .ok (.bl (i == j)) := rfl
@[simp] theorem neR_int (i j : Int) : neR (.int i) (.int j) = .ok (.bl (!(i == j))) := rfl
@[simp] theorem neR_str (i j : List Nat) : neR (.str i) (.str j) = .ok (.bl (!(i == j))) := rfl
@[simp] theorem neR_bl (i j : Bool) : neR (.bl i) (.bl j) = .ok (.bl (!(i == j))) := rfl
theorem eqR_dat {p q : PV} (h : okEq p q = true) : eqR p q = .ok (.bl (eqP p q)) := if_pos h
theorem neR_dat {p q : PV} (h : okEq p q = true) : neR p q = .ok (.bl (!eqP p q)) := if_pos h
@[simp] theorem ltR_int (i j : Int) : ltR (.int i) (.int j) = .ok (.bl (decide (i < j))) := rfl
@[simp] theorem ltR_str (i j : List Nat) : ltR (.str i) (.str j) = .ok (.bl (ltL i j)) := rfl
@[simp] theorem leR_int (i j : Int) : leR (.int i) (.int j) = .ok (.bl (decide (i ≤ j))) := rfl
@[simp] theorem leR_str (i j : List Nat) : leR (.str i) (.str j) = .ok (.bl (!ltL j i)) := rfl
@[simp] theorem gtR_int (i j : Int) : gtR (.int i) (.int j) = .ok (.bl (decide (j < i))) := rfl
@[simp] theorem geR_int (i j : Int) : geR (.int i) (.int j) = .ok (.bl (decide (j ≤ i))) := rfl
@[simp] theorem isB_bl (i j : Bool) : isB (.bl i) (.bl j) = .ok (i == j) := rfl
@[simp] theorem isB_nn : isB .non .non = .ok true := rfl
@[simp] theorem isB_int (i : Int) : isB (.int i) .non = .ok false := rfl
@[simp] theorem isB_str (i : List Nat) : isB (.str i) .non = .ok false := rfl
@[simp] theorem isB_tup (i : List PV) : isB (.tup i) .non = .ok false := rfl
@[simp] theorem inB_sign (c : Nat) (z : List Nat) : inB (.str [c]) (.str z) = .ok (z.contains c) := by rw [inB]
@[simp] theorem inB_tup_str (c : List Nat) (ys : List PV) : inB (.str c) (.tup ys) = if ys.all flatP then .ok (inL (.str c) ys) else .no := by
  cases c with
  | nil => simp [inB, flatP, isTupP]
  | cons a l => cases l <;> simp [inB, flatP, isTupP]
@[simp] theorem tru_bl (b : Bool) : truP (.bl b) = .ok b := rfl
@[simp] theorem tru_lst (b : List PV) : truP (.lst b) = .ok (!b.isEmpty) := rfl
@[simp] theorem tru_tup (b : List PV) : truP (.tup b) = .ok (!b.isEmpty) := rfl
@[simp] theorem tru_str (b : List Nat) : truP (.str b) = .ok (!b.isEmpty) := rfl
@[simp] theorem tru_int (b : Int) : truP (.int b) = .ok (b != 0) := rfl
@[simp] theorem tru_non : truP .non = .ok false := rfl
@[simp] theorem pr_len (ps : List PV) : Pr.len.ev ps = lenP ps := rfl
@[simp] theorem pr_all (ps : List PV) : Pr.all.ev ps = allP ps := rfl
@[simp] theorem pr_any (ps : List PV) : Pr.any.ev ps = anyP ps := rfl
@[simp] theorem pr_abs (ps : List PV) : Pr.abs.ev ps = absP ps := rfl
@[simp] theorem pr_min (ps : List PV) : Pr.min.ev ps = minP ps := rfl
@[simp] theorem pr_int (ps : List PV) : Pr.int.ev ps = intP ps := rfl
@[simp] theorem pr_str (ps : List PV) : Pr.str.ev ps = strP ps := rfl
@[simp] theorem pr_tuple (ps : List PV) : Pr.tuple.ev ps = tupleP ps := rfl
@[simp] theorem pr_list (ps : List PV) : Pr.list.ev ps = listP2 ps := rfl
@[simp] theorem m1_partition (l : List Nat) (p : PV) : M1.partition.ev l p = partP l p := rfl
@[simp] theorem m1_split (l : List Nat) (p : PV) : M1.split.ev l p = splitP l p := rfl
@[simp] theorem m1_join (l : List Nat) (p : PV) : M1.join.ev l p = joinP l p := rfl
@[simp] theorem len_str (l : List Nat) : lenP [.str l] = .ok (.int l.length) := rfl
@[simp] theorem len_tup (l : List PV) : lenP [.tup l] = .ok (.int l.length) := rfl
@[simp] theorem len_lst (l : List PV) : lenP [.lst l] = .ok (.int l.length) := rfl
@[simp] theorem len_scr (l : List Int) : lenP [.scr l] = .ok (.int l.length) := rfl
@[simp] theorem tuple_lst (l : List PV) : tupleP [.lst l] = .ok (.tup l) := rfl
@[simp] theorem tuple_tup (l : List PV) : tupleP [.tup l] = .ok (.tup l) := rfl
@[simp] theorem int_bl (b : Bool) : intP [.bl b] = .ok (.int (if b then 1 else 0)) := rfl
@[simp] theorem int_int (i : Int) : intP [.int i] = .ok (.int i) := rfl
@[simp] theorem str_str (l : List Nat) : strP [.str l] = .ok (.str l) := rfl
@[simp] theorem min_int (i j : Int) : minP [.int i, .int j] = .ok (.int (if j < i then j else i)) := rfl
@[simp] theorem abs_int (i : Int) : absP [.int i] = .ok (.int (if i < 0 then -i else i)) := rfl
@[simp] theorem list_lst (l : List PV) : listP [.lst l] = .ok (.lst l) := rfl
@[simp] theorem list_tup (l : List PV) : listP [.tup l] = .ok (.lst l) := rfl
@[simp] theorem isP_of (f : Env' → R PV) (t : Ty) (ρ : Env') : isP f t ρ = (f ρ >>= fun p => match isT p t with
  | some b => .ok (.bl b)
  | none => .no) := rfl
@[simp] theorem all_bls (bs : List Bool) : allP [.lst (bs.map PV.bl)] = .ok (.bl (bs.all id)) := by simp [allP]
@[simp] theorem any_bls (bs : List Bool) : anyP [.lst (bs.map PV.bl)] = .ok (.bl (bs.any id)) := by simp [anyP]
@[simp] theorem all_nil : allP [.lst []] = .ok (.bl true) := rfl
@[simp] theorem any_nil : anyP [.lst []] = .ok (.bl false) := rfl
@[simp] theorem part_one (l : List Nat) (c : Nat) : partP l (.str [c]) = .ok (partL l c) := rfl
@[simp] theorem sl_str (l : List Nat) (a b : Option Int) : slP (.str l) a b = .ok (.str (cutL l a b)) := rfl
@[simp] theorem sl_tup' (l : List PV) (a b : Option Int) : slP (.tup l) a b = .ok (.tup (cutL l a b)) := rfl
@[simp] theorem sl_lst' (l : List PV) (a b : Option Int) : slP (.lst l) a b = .ok (.lst (cutL l a b)) := rfl
@[simp] theorem neg_ev (f : Env' → R PV) (ρ : Env') : fNeg f ρ = (f ρ >>= fun p => match p with
  | .int i => .ok (.int (-i))
  | _ => .no) := rfl
@[simp] theorem rng1_ev (f : Env' → R PV) (ρ : Env') : fRng1 f ρ = (f ρ >>= fun p => match p with
  | .int n => rngP 0 n
  | _ => .no) := rfl
@[simp] theorem rng2_ev (f g : Env' → R PV) (ρ : Env') : fRng2 f g ρ = (f ρ >>= fun p => g ρ >>= fun q => match p, q with
  | .int a, .int b => rngP a b
  | _, _ => .no) := rfl
@[simp] theorem zip_ev (f g : Env' → R PV) (ρ : Env') : fZip f g ρ = (f ρ >>= fun p => g ρ >>= fun q => asTup p >>= fun a => asTup q >>= fun b => .ok (zipP a b)) := rfl
@[simp] theorem asTup_tup (xs : List PV) : asTup (.tup xs) = .ok xs := rfl
@[simp] theorem asTup_wt (xs : List PV) : asTup (.wt xs) = .ok xs := rfl
@[simp] theorem itemsP_wt (xs : List PV) : itemsP (.wt xs) = .ok xs := rfl
@[simp] theorem len_wt (l : List PV) : lenP [.wt l] = .ok (.int l.length) := rfl
@[simp] theorem isB_wt (i : List PV) : isB (.wt i) .non = .ok false := rfl
theorem ix_wt {xs : List PV} {i : Int} {p : PV} (h : atI xs i = some p) : ixP (.wt xs) (.int i) = .ok p := by
  show (match atI xs i with
    | some p => (R.ok p : R PV)
    | none => .no) = _
  rw [h]

/-! ### subscripts -/
theorem ix_tup {xs : List PV} {i : Int} {p : PV} (h : atI xs i = some p) : ixP (.tup xs) (.int i) = .ok p := by
  show (match atI xs i with
    | some p => (R.ok p : R PV)
    | none => .no) = _
  rw [h]
theorem ix_lst {xs : List PV} {i : Int} {p : PV} (h : atI xs i = some p) : ixP (.lst xs) (.int i) = .ok p := by
  show (match atI xs i with
    | some p => (R.ok p : R PV)
    | none => .no) = _
  rw [h]
theorem ix_scr {xs : List Int} {i : Int} {p : Int} (h : atI xs i = some p) : ixP (.scr xs) (.int i) = .ok (.int p) := by
  show (match atI xs i with
    | some p => (R.ok (.int p) : R PV)
    | none => .no) = _
  rw [h]
theorem ix_str {xs : List Nat} {i : Int} {p : Nat} (h : atI xs i = some p) : ixP (.str xs) (.int i) = .ok (.str [p]) := by
  show (match atI xs i with
    | some c => (R.ok (.str [c]) : R PV)
    | none => .no) = _
  rw [h]

/-! ### comprehensions, loops -/
theorem comp_map {f : PV → R (Option PV)} {g : PV → PV} : ∀ {xs : List PV}, (∀ x ∈ xs, f x = .ok (some (g x))) → compL f xs = .ok (xs.map g)
  | [], _ => rfl
  | x :: xs, h => by
    simp only [compL]
    rw [h x List.mem_cons_self, comp_map fun y hy => h y (List.mem_cons_of_mem _ hy)]
    rfl
theorem comp_filter {f : PV → R (Option PV)} {p : PV → Bool} {g : PV → PV} : ∀ {xs : List PV}, (∀ x ∈ xs, f x = .ok (if p x then some (g x) else none)) → compL f xs = .ok ((xs.filter p).map g)
  | [], _ => rfl
  | x :: xs, h => by
    simp only [compL]
    rw [h x List.mem_cons_self, comp_filter fun y hy => h y (List.mem_cons_of_mem _ hy)]
    by_cases e : p x = true
    · simp [e]
    · simp [e]
/-- over a mapped list -/
theorem comp_mapS {α : Type} {f : PV → R (Option PV)} {e : α → PV} {g : α → PV} : ∀ {xs : List α}, (∀ x ∈ xs, f (e x) = .ok (some (g x))) → compL f (xs.map e) = .ok (xs.map g)
  | [], _ => rfl
  | x :: xs, h => by
    simp only [compL, List.map_cons]
    rw [h x List.mem_cons_self, comp_mapS fun y hy => h y (List.mem_cons_of_mem _ hy)]
    rfl
theorem comp_filterS {α : Type} {f : PV → R (Option PV)} {e : α → PV} {p : α → Bool} {g : α → PV} : ∀ {xs : List α}, (∀ x ∈ xs, f (e x) = .ok (if p x then some (g x) else none)) → compL f (xs.map e) = .ok ((xs.filter p).map g)
  | [], _ => rfl
  | x :: xs, h => by
    simp only [compL, List.map_cons]
    rw [h x List.mem_cons_self, comp_filterS fun y hy => h y (List.mem_cons_of_mem _ hy)]
    by_cases e : p x = true
    · simp [e]
    · simp [e]
@[simp] theorem turn_ev (own : List Nat) (tg : Tg) (c : Option (Env' → R Bool)) (e : Env' → R PV) (ρ : Env') (x : PV) : turnC own tg c e ρ x = (bindT tg x (wipeP ρ own) >>= fun ρ1 => condR c ρ1 >>= fun b => if b then e ρ1 >>= fun y => .ok (some y) else .ok none) := rfl
theorem forL_nil (tg : Tg) (body : Env' → R Fl) (ρ : Env') : forL tg body [] ρ = .ok (.nx ρ) := rfl
theorem forL_cons (tg : Tg) (body : Env' → R Fl) (x : PV) (xs : List PV) (ρ : Env') : forL tg body (x :: xs) ρ = (bindT tg x ρ >>= fun ρ1 => thenS (body ρ1) (forL tg body xs)) := rfl
/-- each turn ends as the state says -/
theorem forL_all {tg : Tg} {body : Env' → R Fl} (P : Env' → Prop) : ∀ {xs : List PV} {ρ : Env'}, (∀ x ∈ xs, ∀ ρ, P ρ → ∃ ρ2, (bindT tg x ρ >>= body) = .ok (.nx ρ2) ∧ P ρ2) → P ρ → ∃ ρ', forL tg body xs ρ = .ok (.nx ρ') ∧ P ρ'
  | [], ρ, _, h0 => ⟨ρ, rfl, h0⟩
  | x :: xs, ρ, h, h0 => by
    obtain ⟨ρ2, e, h2⟩ := h x List.mem_cons_self ρ h0
    obtain ⟨ρ1, e1, e2⟩ := R.bind_eq_ok e
    obtain ⟨ρ', e3, h3⟩ := forL_all P (fun y hy => h y (List.mem_cons_of_mem _ hy)) h2
    exact ⟨ρ', by rw [forL_cons, e1]; show thenS (body ρ1) _ = _; rw [e2]; exact e3, h3⟩
/-- the state goes by a function -/
theorem forL_fold {α β : Type} {tg : Tg} {body : Env' → R Fl} {e : α → PV} {st : β → Env'} {g : β → α → β} : ∀ {xs : List α} {b : β}, (∀ x ∈ xs, ∀ b, (bindT tg (e x) (st b) >>= body) = .ok (.nx (st (g b x)))) → forL tg body (xs.map e) (st b) = .ok (.nx (st (xs.foldl g b)))
  | [], b, _ => rfl
  | x :: xs, b, h => by
    have e := h x List.mem_cons_self b
    obtain ⟨ρ1, e1, e2⟩ := R.bind_eq_ok e
    rw [List.map_cons, forL_cons, e1]
    show thenS (body ρ1) _ = _
    rw [e2]
    exact forL_fold fun y hy => h y (List.mem_cons_of_mem _ hy)
end M
namespace M
open PySem L2
/-- a def's body run -/
def runB (dn : Str → List PV → R PV) (wf : Nat) (N : Nat) (b : Ss) (ps : List PV) : R PV := b.ev dn wf (entry N ps) >>= endF
@[simp] theorem entry_0 (N : Nat) : entry N [] = List.replicate N none := by simp [entry]
@[simp] theorem entry_1 (N : Nat) (a : PV) : entry (N + 1) [a] = some a :: List.replicate N none := by simp [entry]
@[simp] theorem entry_2 (N : Nat) (a b : PV) : entry (N + 2) [a, b] = some a :: some b :: List.replicate N none := by simp [entry]
@[simp] theorem entry_3 (N : Nat) (a b c : PV) : entry (N + 3) [a, b, c] = some a :: some b :: some c :: List.replicate N none := by simp [entry]
@[simp] theorem entry_4 (N : Nat) (a b c d : PV) : entry (N + 4) [a, b, c, d] = some a :: some b :: some c :: some d :: List.replicate N none := by simp [entry]
@[simp] theorem entry_5 (N : Nat) (a b c d e : PV) : entry (N + 5) [a, b, c, d, e] = some a :: some b :: some c :: some d :: some e :: List.replicate N none := by simp [entry]
theorem run_eq {dn : Str → List PV → R PV} {wf N : Nat} {b : Ss} {ps : List PV} {ρ : Env'} (h : entry N ps = ρ) : runB dn wf N b ps = (b.ev dn wf ρ >>= endF) := by rw [← h]; rfl
theorem atI_nn {α : Type} {xs : List α} {i : Int} (h0 : 0 ≤ i) : atI xs i = xs[i.toNat]? := by
  unfold atI ixN
  rw [if_pos h0]
  by_cases h : i < xs.length
  · rw [if_pos h]; rfl
  · rw [if_neg h, List.getElem?_eq_none (by omega)]; rfl
theorem atI_nat {α : Type} {xs : List α} {i : Nat} : atI xs (i : Int) = xs[i]? := by rw [atI_nn (by omega)]; rfl
theorem atI_neg1 {α : Type} {xs : List α} (h : xs ≠ []) : atI xs (-1) = xs.getLast? := by
  unfold atI ixN
  have hl : 0 < xs.length := List.length_pos_iff.mpr h
  rw [if_neg (by omega), if_pos (by omega)]
  show xs[(-1 + (xs.length : Int)).toNat]? = _
  rw [List.getLast?_eq_getElem?]
  congr 1
  omega
/-- some item, of a place within -/
theorem atI_some {α : Type} {xs : List α} {i : Int} (h0 : 0 ≤ i) (h1 : i < xs.length) : ∃ p, atI xs i = some p ∧ p ∈ xs := by
  rw [atI_nn h0]
  have h : i.toNat < xs.length := by omega
  exact ⟨_, List.getElem?_eq_getElem h, List.getElem_mem h⟩

/-! ### the drawing -/
def mixM (c p m : Int) : Int := c * 48271 % p * (c * 48271 % p + 7) % p % m
theorem mixM_nn (c p m : Int) (hm : 0 < m) : 0 ≤ mixM c p m := Int.emod_nonneg _ (by omega)
theorem mixM_lt (c p m : Int) (hm : 0 < m) : mixM c p m < m := Int.emod_lt_of_pos _ hm
def cellM (ns : List Int) (k : Int) : Int := if k < ns.length then (atI ns k).getD 0 else 0
abbrev SpMix (dn : Str → List PV → R PV) : Prop := ∀ c p m : Int, 0 < p → p ≤ 100000 → 0 < m → dn "_law_mix" [.int c, .int p, .int m] = .ok (.int (mixM c p m))
abbrev SpCell (dn : Str → List PV → R PV) : Prop := ∀ (ns : List Int) (k : Int), 0 ≤ k → dn "_law_cell" [.scr ns, .int k] = .ok (.int (cellM ns k))
end M
namespace M
open PySem L2
@[simp] theorem ite_bl_f (c : Prop) [Decidable c] (a : Bool) : (if c then R.ok (PV.bl a) else R.ok (PV.bl false)) = .ok (.bl (decide c && a)) := by by_cases h : c <;> simp [h]
@[simp] theorem ite_bl_t (c : Prop) [Decidable c] (a : Bool) : (if c then R.ok (PV.bl true) else R.ok (PV.bl a)) = .ok (.bl (decide c || a)) := by by_cases h : c <;> simp [h]
@[simp] theorem ite_b_f (c : Prop) [Decidable c] (a : Bool) : (if c then R.ok a else R.ok false) = .ok (decide c && a) := by by_cases h : c <;> simp [h]
@[simp] theorem ite_b_t (c : Prop) [Decidable c] (a : Bool) : (if c then R.ok true else R.ok a) = .ok (decide c || a) := by by_cases h : c <;> simp [h]
@[simp] theorem ite_bb (c : Prop) [Decidable c] (a b : Bool) : (if c then R.ok (PV.bl a) else R.ok (PV.bl b)) = .ok (.bl (if c then a else b)) := by by_cases h : c <;> simp [h]
@[simp] theorem ite_rt_bl (c : Prop) [Decidable c] (a b : Bool) : (if c then R.ok (Fl.rt (PV.bl a)) else R.ok (Fl.rt (PV.bl b))) = .ok (.rt (.bl (if c then a else b))) := by by_cases h : c <;> simp [h]
@[simp] theorem all_map {α : Type} (p : α → Bool) (l : List α) : allP [.lst (l.map fun x => .bl (p x))] = .ok (.bl (l.all p)) := by
  have e : (l.map fun x => PV.bl (p x)) = (l.map p).map PV.bl := by simp
  rw [e, all_bls]
  simp [List.all_map]
@[simp] theorem any_map {α : Type} (p : α → Bool) (l : List α) : anyP [.lst (l.map fun x => .bl (p x))] = .ok (.bl (l.any p)) := by
  have e : (l.map fun x => PV.bl (p x)) = (l.map p).map PV.bl := by simp
  rw [e, any_bls]
  simp [List.any_map]
theorem natCast_beq (a b : Nat) : ((a : Int) == (b : Int)) = (a == b) := by
  by_cases h : a = b
  · simp [h]
  · have : (a : Int) ≠ b := by omega
    rw [beq_eq_false_iff_ne.mpr h, beq_eq_false_iff_ne.mpr this]
end M
namespace M
open PySem L2
@[simp] theorem sum_ones {α : Type} : ∀ l : List α, (l.map fun _ => 1).sum = l.length
  | [] => rfl
  | _ :: l => by simp [sum_ones l]; omega
theorem joinL_nil_len : ∀ ls : List (List Nat), (TL.joinL [] ls).length = (ls.map (·.length)).sum
  | [] => rfl
  | [p] => by simp [TL.joinL]
  | p :: q :: r => by simp only [TL.joinL, List.length_append, joinL_nil_len (q :: r)]; simp
theorem step {dn : Str → List PV → R PV} {wf : Nat} {s : S} {r : Ss} {ρ ρ' : Env'} (h : s.ev dn wf ρ = .ok (.nx ρ')) : (Ss.cons s r).ev dn wf ρ = r.ev dn wf ρ' := by rw [evb_cons, h]; rfl
/-- parts of a text -/
def S.blk : S → Ss
  | .loop _ _ b => b
  | .whl _ b => b
  | _ => .nil
def S.thn : S → Ss
  | .cond _ a _ => a
  | _ => .nil
def S.els : S → Ss
  | .cond _ _ b => b
  | _ => .nil
def Ss.at (r : Ss) : Nat → S
  | 0 => match r with
    | .cons s _ => s
    | .nil => .pass
  | n + 1 => match r with
    | .cons _ r => r.at n
    | .nil => .pass
def Ss.from (r : Ss) : Nat → Ss
  | 0 => r
  | n + 1 => match r with
    | .cons _ r => r.from n
    | .nil => .nil
end M
namespace M
open PySem L2
theorem rng0 {n : Int} (h0 : 0 ≤ n) (h1 : n ≤ 1000000) : rngP 0 n = .ok ((List.range n.toNat).map fun i => .int (i : Nat)) := by
  unfold rngP
  rw [if_pos (by omega), Int.sub_zero]
  simp
end M
namespace M
open PySem L2
theorem isDats_map {α : Type} {f : α → PV} (h : ∀ x, isDat (f x) = true) : ∀ l : List α, isDats (l.map f) = true
  | [] => by simp [isDats]
  | x :: l => by simp [isDats, h x, isDats_map h l]
theorem deps_map {α : Type} {f : α → PV} {n : Nat} (h : ∀ x, dep (f x) ≤ n) : ∀ l : List α, deps (l.map f) ≤ n
  | [] => by simp [deps]
  | x :: l => by simp only [List.map_cons, deps]; have := h x; have := deps_map h l; omega
@[simp] theorem eq_strs_nil {α : Type} (f : α → List Nat) (l : List α) : eqR (.lst (l.map fun x => .str (f x))) (.lst []) = .ok (.bl l.isEmpty) := by
  have h1 : isDats (l.map fun x => PV.str (f x)) = true := isDats_map (f := fun x => PV.str (f x)) (fun _ => rfl) l
  have h2 : deps (l.map fun x => PV.str (f x)) ≤ 0 := deps_map (f := fun x => PV.str (f x)) (n := 0) (fun _ => Nat.le_refl 0) l
  rw [eqR_dat]
  · cases l <;> rfl
  · simp [okEq, isDat, dep, h1, isDats, deps]
    omega
@[simp] theorem ltL_one (a b : Nat) : ltL [a] [b] = decide (a < b) := by
  unfold ltL
  congr 1
  rw [List.cons_lt_cons_iff]
  simp
theorem filter_not_nil {α : Type} (p : α → Bool) (l : List α) : (l.filter fun x => !p x).isEmpty = l.all p := by
  induction l with
  | nil => rfl
  | cons x l ih => by_cases h : p x = true <;> simp [h, ih, List.filter_cons]
end M
/-! the defs, read -/
namespace M
open PySem
def b__law_cases : Ss := (.cons (.set 4 (.lst .nil)) (.cons (.cond (.cmp .Eq (.v 1) (.c (.str [99, 111, 117, 110, 116]))) (.cons (.set 4 (.sset true (.lc [7] (.nm 7) (.rng1 (.call "_law_mix" 3 (.cons (.v 0) (.cons (.c (.int 9901)) (.cons (.c (.int 3)) .nil))))) .none (.call "_law_mix" 3 (.cons (.bin .Add (.v 0) (.bin .Mult (.c (.int 3)) (.v 7))) (.cons (.c (.int 9907)) (.cons (.c (.int 6)) .nil))))))) (.cons (.set 6 (.tup (.cons (.c (.str [122, 101, 114, 111])) (.cons (.c (.str [111, 110, 101])) (.cons (.c (.str [116, 119, 111])) (.cons (.c (.str [102, 101, 119])) (.cons (.c (.str [109, 97, 110, 121])) .nil))))))) (.cons (.set 4 (.bin .Add (.v 4) (.lc [7, 9] (.tp [7, 9]) (.enum (.v 6)) (.some (.cmp .Eq (.call "_law_mix" 3 (.cons (.bin .Add (.v 0) (.v 7)) (.cons (.c (.int 9887)) (.cons (.c (.int 3)) .nil)))) (.c (.int 0)))) (.v 9)))) .nil))) (.cons (.set 4 (.sl (.sset true (.lc [7] (.nm 7) (.rng1 (.c (.int 3))) .none (.ix (.tup (.cons (.c (.str [102])) (.cons (.c (.str [109])) (.cons (.c (.str [115, 104, 101])) (.cons (.c (.str [116, 104, 101, 121])) .nil))))) (.call "_law_mix" 3 (.cons (.bin .Add (.v 0) (.bin .Mult (.c (.int 3)) (.v 7))) (.cons (.c (.int 9883)) (.cons (.c (.int 4)) .nil))))))) .none (.some (.c (.int 2))))) .nil)) (.cons (.set 5 (.or (.v 3) (.cmp .Eq (.v 1) (.c (.str [99, 111, 117, 110, 116]))))) (.cons (.ret (.pr .tuple (.cons (.lc [7, 8] (.tp [7, 8]) (.enum (.bin .Add (.v 4) (.lst (.cons (.c (.str [111, 116, 104, 101, 114])) .nil)))) .none (.tup (.cons (.v 8) (.cons (.call "_law_message" 3 (.cons (.bin .Add (.bin .Add (.v 0) (.bin .Mult (.c (.int 17)) (.v 7))) (.c (.int 5))) (.cons (.bin .Sub (.v 2) (.c (.int 1))) (.cons (.v 5) .nil)))) .nil)))) .nil))) .nil))))
def b__law_category : Ss := (.cons (.set 1 (.pr .abs (.cons (.v 1) .nil))) (.cons (.loop (.tp [2, 3]) (.of (.v 0)) (.cons (.loop (.nm 4) (.of (.v 3)) (.cons (.set 5 (.c (.bl true))) (.cons (.loop (.tp [6, 7, 8, 9]) (.of (.v 4)) (.cons (.set 10 (.v 1)) (.cons (.cond (.cmp .NotEq (.v 6) (.c (.int 0))) (.cons (.set 10 (.bin .Sub (.v 1) (.bin .Mult (.bin .FloorDiv (.v 1) (.v 6)) (.v 6)))) .nil) .nil) (.cons (.cond (.cmp .NotEq (.and (.cmp .GtE (.v 10) (.v 7)) (.cmp .LtE (.v 10) (.v 8))) (.v 9)) (.cons (.set 5 (.c (.bl false))) .nil) .nil) .nil)))) (.cons (.cond (.tru (.v 5)) (.cons (.ret (.v 2)) .nil) .nil) .nil)))) .nil)) (.cons (.ret (.c (.str [111, 116, 104, 101, 114]))) .nil)))
def b__law_cell : Ss := (.cons (.cond (.cmp .Lt (.v 1) (.pr .len (.cons (.v 0) .nil))) (.cons (.ret (.ix (.v 0) (.v 1))) .nil) .nil) (.cons (.ret (.c (.int 0))) .nil))
def b__law_chain : Ss := (.cons (.setO 3 (.lst .nil)) (.cons (.set 4 (.v 0)) (.cons (.whl (.and (.cmp .IsNot (.v 4) (.c .non)) (.cmp .NotIn (.v 4) (.v 3))) (.cons (.app 3 (.v 4)) (.cons (.set 5 (.lc [6, 7] (.tp [6, 7]) (.of (.v 1)) (.some (.cmp .Eq (.v 6) (.v 4))) (.v 7))) (.cons (.cond (.tru (.v 5)) (.cons (.set 4 (.ix (.v 5) (.c (.int 0)))) .nil) (.cons (.cond (.cmp .In (.c (.str [45])) (.v 4)) (.cons (.set 4 (.ix (.m1 .split (.v 4) (.c (.str [45]))) (.c (.int 0)))) .nil) (.cons (.set 4 (.c .non)) .nil)) .nil)) .nil)))) (.cons (.cond (.and (.cmp .IsNot (.v 2) (.c .non)) (.cmp .NotIn (.v 2) (.v 3))) (.cons (.app 3 (.v 2)) .nil) .nil) (.cons (.ret (.pr .tuple (.cons (.v 3) .nil))) .nil)))))
def b__law_links : Ss := (.cons (.setO 1 .dic) (.cons (.loop (.nm 2) (.rng1 (.call "_law_mix" 3 (.cons (.v 0) (.cons (.c (.int 9949)) (.cons (.c (.int 5)) .nil))))) (.cons (.putK 1 (.call "_law_tag" 1 (.cons (.bin .Add (.v 0) (.bin .Mult (.c (.int 11)) (.v 2))) .nil)) (.call "_law_tag" 1 (.cons (.bin .Add (.bin .Add (.v 0) (.bin .Mult (.c (.int 13)) (.v 2))) (.c (.int 1))) .nil))) .nil)) (.cons (.ret (.pr .tuple (.cons (.lc [3] (.nm 3) (.of (.pr .sorted (.cons (.v 1) .nil))) .none (.tup (.cons (.v 3) (.cons (.ix (.v 1) (.v 3)) .nil)))) .nil))) .nil)))
def b__law_message : Ss := (.cons (.setO 3 (.lst .nil)) (.cons (.loop (.nm 4) (.rng1 (.call "_law_mix" 3 (.cons (.v 0) (.cons (.c (.int 9871)) (.cons (.c (.int 4)) .nil))))) (.cons (.set 5 (.bin .Add (.v 0) (.bin .Mult (.c (.int 19)) (.v 4)))) (.cons (.set 6 (.call "_law_mix" 3 (.cons (.v 5) (.cons (.c (.int 9859)) (.cons (.c (.int 7)) .nil))))) (.cons (.cond (.and (.cmp .Lt (.v 6) (.c (.int 2))) (.or (.not (.tru (.v 3))) (.cmp .NotEq (.ix (.ix (.v 3) (.neg (.c (.int 1)))) (.c (.int 0))) (.c (.str [116, 101, 120, 116]))))) (.cons (.app 3 (.tup (.cons (.c (.str [116, 101, 120, 116])) (.cons (.call "_law_text" 1 (.cons (.v 5) .nil)) .nil)))) .nil) (.cons (.cond (.and (.cmp .Eq (.v 6) (.c (.int 2))) (.tru (.v 2))) (.cons (.app 3 (.tup (.cons (.c (.str [109, 97, 114, 107])) .nil))) .nil) (.cons (.cond (.or (.cmp .Lt (.v 6) (.c (.int 5))) (.cmp .Eq (.v 1) (.c (.int 0)))) (.cons (.app 3 (.tup (.cons (.c (.str [115, 108, 111, 116])) (.cons (.call "_law_name" 1 (.cons (.v 5) .nil)) .nil)))) .nil) (.cons (.set 7 (.ix (.tup (.cons (.c (.str [99, 111, 117, 110, 116])) (.cons (.c (.str [107, 105, 110, 100])) .nil))) (.bin .Sub (.v 6) (.c (.int 5))))) (.cons (.app 3 (.tup (.cons (.v 7) (.cons (.call "_law_name" 1 (.cons (.v 5) .nil)) (.cons (.call "_law_cases" 4 (.cons (.bin .Add (.v 5) (.c (.int 1))) (.cons (.v 7) (.cons (.v 1) (.cons (.v 2) .nil))))) .nil))))) .nil))) .nil)) .nil)) .nil)))) (.cons (.ret (.pr .tuple (.cons (.v 3) .nil))) .nil)))
def b__law_mix : Ss := (.cons (.set 3 (.bin .Mod (.bin .Mult (.v 0) (.c (.int 48271))) (.v 1))) (.cons (.ret (.bin .Mod (.bin .Mod (.bin .Mult (.v 3) (.bin .Add (.v 3) (.c (.int 7)))) (.v 1)) (.v 2))) .nil))
def b__law_name : Ss := (.cons (.ret (.ix (.tup (.cons (.c (.str [97])) (.cons (.c (.str [110])) (.cons (.c (.str [119, 104, 111])) (.cons (.c (.str [102, 105, 108, 101])) (.cons (.c (.str [122, 122, 122, 122, 122, 122])) .nil)))))) (.call "_law_mix" 3 (.cons (.v 0) (.cons (.c (.int 9923)) (.cons (.c (.int 5)) .nil)))))) .nil)
def b__law_nearest : Ss := (.cons (.loop (.nm 3) (.of (.v 0)) (.cons (.loop (.nm 4) (.of (.call "_law_chain" 3 (.cons (.v 3) (.cons (.v 2) (.cons (.c .non) .nil))))) (.cons (.cond (.cmp .In (.v 4) (.v 1)) (.cons (.ret (.v 4)) .nil) .nil) .nil)) (.cons (.loop (.nm 4) (.of (.v 1)) (.cons (.cond (.cmp .Eq (.ix (.m1 .split (.v 4) (.c (.str [45]))) (.c (.int 0))) (.ix (.m1 .split (.v 3) (.c (.str [45]))) (.c (.int 0)))) (.cons (.ret (.v 4)) .nil) .nil) .nil)) .nil))) (.cons (.ret (.c .non)) .nil))
def b__law_rules : Ss := (.cons (.setO 1 (.lst .nil)) (.cons (.loop (.tp [2, 3]) (.enum (.tup (.cons (.c (.str [111, 110, 101])) (.cons (.c (.str [102, 101, 119])) (.cons (.c (.str [122, 101, 114, 111])) (.cons (.c (.str [109, 97, 110, 121])) (.cons (.c (.str [116, 119, 111])) .nil))))))) (.cons (.cond (.cmp .Gt (.call "_law_mix" 3 (.cons (.bin .Add (.v 0) (.v 2)) (.cons (.c (.int 9817)) (.cons (.c (.int 5)) .nil)))) (.bin .Sub (.c (.int 2)) (.pr .int (.cons (.cmp .Eq (.v 2) (.c (.int 0))) .nil)))) (.cons (.setO 4 (.lst .nil)) (.cons (.loop (.nm 5) (.rng1 (.bin .Add (.call "_law_mix" 3 (.cons (.bin .Add (.v 0) (.bin .Mult (.c (.int 3)) (.v 2))) (.cons (.c (.int 9811)) (.cons (.c (.int 3)) .nil)))) (.pr .int (.cons (.cmp .Eq (.v 2) (.c (.int 0))) .nil)))) (.cons (.set 6 (.bin .Add (.c (.int 1)) (.call "_law_mix" 3 (.cons (.bin .Add (.bin .Add (.v 0) (.bin .Mult (.c (.int 5)) (.v 5))) (.v 2)) (.cons (.c (.int 9803)) (.cons (.c (.int 2)) .nil)))))) (.cons (.app 4 (.pr .tuple (.cons (.lc [7] (.nm 7) (.rng1 (.v 6)) .none (.call "_law_test" 1 (.cons (.bin .Add (.bin .Add (.bin .Add (.v 0) (.bin .Mult (.c (.int 23)) (.v 5))) (.bin .Mult (.c (.int 29)) (.v 7))) (.bin .Mult (.c (.int 31)) (.v 2))) .nil))) .nil))) .nil))) (.cons (.app 1 (.tup (.cons (.v 3) (.cons (.pr .tuple (.cons (.v 4) .nil)) .nil)))) .nil))) .nil) .nil)) (.cons (.ret (.pr .tuple (.cons (.v 1) .nil))) .nil)))
def b__law_same : Ss := (.cons (.cond (.tru (.isa (.v 1) .tuple)) (.cons (.cond (.or (.not (.tru (.isa (.v 0) .tuple))) (.cmp .NotEq (.pr .len (.cons (.v 0) .nil)) (.pr .len (.cons (.v 1) .nil)))) (.cons (.ret (.c (.bl false))) .nil) .nil) (.cons (.ret (.pr .all (.cons (.lc [2, 3] (.tp [2, 3]) (.zip (.v 0) (.v 1)) .none (.call "_law_same" 2 (.cons (.v 2) (.cons (.v 3) .nil)))) .nil))) .nil)) .nil) (.cons (.cond (.cmp .Is (.v 1) (.c .non)) (.cons (.ret (.cmp .Is (.v 0) (.c .non))) .nil) .nil) (.cons (.cond (.or (.tru (.isa (.v 1) .bool)) (.tru (.isa (.v 0) .bool))) (.cons (.ret (.and (.isa (.v 1) .bool) (.and (.isa (.v 0) .bool) (.cmp .Eq (.v 0) (.v 1))))) .nil) .nil) (.cons (.ret (.and (.isas (.v 0) [.int, .str]) (.cmp .Eq (.v 0) (.v 1)))) .nil))))
def b__law_some_tags : Ss := (.cons (.setO 2 .dic) (.cons (.loop (.nm 3) (.rng1 (.call "_law_mix" 3 (.cons (.v 0) (.cons (.c (.int 9967)) (.cons (.bin .Add (.v 1) (.c (.int 1))) .nil))))) (.cons (.putK 2 (.call "_law_tag" 1 (.cons (.bin .Add (.v 0) (.bin .Mult (.c (.int 7)) (.v 3))) .nil)) (.c (.bl true))) .nil)) (.cons (.ret (.pr .tuple (.cons (.pr .sorted (.cons (.v 2) .nil)) .nil))) .nil)))
def b__law_stretched : Ss := (.cons (.setO 1 (.lst .nil)) (.cons (.loop (.nm 2) (.of (.v 0)) (.cons (.cond (.cmp .Eq (.ix (.v 2) (.c (.int 0))) (.c (.str [116, 101, 120, 116]))) (.cons (.set 3 (.c (.str [91]))) (.cons (.loop (.nm 4) (.of (.ix (.v 2) (.c (.int 1)))) (.cons (.set 3 (.bin .Add (.v 3) (.v 4))) (.cons (.cond (.cmp .In (.v 4) (.tup (.cons (.c (.str [97])) (.cons (.c (.str [101])) (.cons (.c (.str [105])) (.cons (.c (.str [111])) (.cons (.c (.str [117])) .nil))))))) (.cons (.set 3 (.bin .Add (.v 3) (.v 4))) .nil) .nil) .nil))) (.cons (.set 2 (.tup (.cons (.c (.str [116, 101, 120, 116])) (.cons (.bin .Add (.v 3) (.c (.str [93]))) .nil)))) .nil))) .nil) (.cons (.cond (.cmp .Gt (.pr .len (.cons (.v 2) .nil)) (.c (.int 2))) (.cons (.set 2 (.bin .Add (.sl (.v 2) .none (.some (.c (.int 2)))) (.tup (.cons (.pr .tuple (.cons (.lc [5, 6] (.tp [5, 6]) (.of (.ix (.v 2) (.c (.int 2)))) .none (.tup (.cons (.v 5) (.cons (.call "_law_stretched" 1 (.cons (.v 6) .nil)) .nil)))) .nil)) .nil)))) .nil) .nil) (.cons (.app 1 (.v 2)) .nil)))) (.cons (.ret (.pr .tuple (.cons (.v 1) .nil))) .nil)))
def b__law_tag : Ss := (.cons (.ret (.ix (.call "_law_tags" 0 .nil) (.call "_law_mix" 3 (.cons (.v 0) (.cons (.c (.int 9973)) (.cons (.c (.int 11)) .nil)))))) .nil)
def b__law_tags : Ss := (.cons (.ret (.tup (.cons (.c (.str [100, 101])) (.cons (.c (.str [100, 101, 45, 65, 84])) (.cons (.c (.str [100, 101, 45, 67, 72])) (.cons (.c (.str [101, 110])) (.cons (.c (.str [101, 110, 45, 71, 66])) (.cons (.c (.str [102, 114])) (.cons (.c (.str [102, 114, 45, 67, 65])) (.cons (.c (.str [103, 115, 119])) (.cons (.c (.str [112, 116, 45, 66, 82])) (.cons (.c (.str [122, 104])) (.cons (.c (.str [122, 104, 45, 84, 87])) .nil))))))))))))) .nil)
def b__law_test : Ss := (.cons (.set 1 (.ix (.tup (.cons (.c (.int 0)) (.cons (.c (.int 0)) (.cons (.c (.int 2)) (.cons (.c (.int 5)) (.cons (.c (.int 10)) (.cons (.c (.int 100)) .nil))))))) (.call "_law_mix" 3 (.cons (.v 0) (.cons (.c (.int 9857)) (.cons (.c (.int 6)) .nil)))))) (.cons (.set 2 (.ix (.tup (.cons (.c (.int 12)) (.cons (.c (.int 1)) (.cons (.c (.int 4)) (.cons (.c (.int 9)) (.cons (.c (.int 99)) .nil)))))) (.idx (.tup (.cons (.c (.int 0)) (.cons (.c (.int 2)) (.cons (.c (.int 5)) (.cons (.c (.int 10)) (.cons (.c (.int 100)) .nil)))))) (.v 1)))) (.cons (.set 3 (.call "_law_mix" 3 (.cons (.v 0) (.cons (.c (.int 9851)) (.cons (.bin .Add (.v 2) (.c (.int 1))) .nil))))) (.cons (.set 4 (.pr .min (.cons (.bin .Add (.v 3) (.call "_law_mix" 3 (.cons (.v 0) (.cons (.c (.int 9839)) (.cons (.c (.int 4)) .nil))))) (.cons (.c (.int 999)) .nil)))) (.cons (.cond (.cmp .Eq (.call "_law_mix" 3 (.cons (.v 0) (.cons (.c (.int 9833)) (.cons (.c (.int 12)) .nil)))) (.c (.int 0))) (.cons (.set 4 (.c (.int 999))) .nil) .nil) (.cons (.ret (.tup (.cons (.v 1) (.cons (.v 3) (.cons (.v 4) (.cons (.cmp .Gt (.call "_law_mix" 3 (.cons (.v 0) (.cons (.c (.int 9829)) (.cons (.c (.int 4)) .nil)))) (.c (.int 0))) .nil)))))) .nil))))))
def b__law_text : Ss := (.cons (.set 1 (.c (.str [32, 33, 34, 35, 36, 38, 39, 40, 41, 42, 43, 44, 45, 46, 47, 48, 49, 50, 51, 52, 53, 54, 55, 56, 57, 58, 59, 60, 61, 62, 63, 64, 65, 66, 67, 68, 69, 70, 71, 72, 73, 74, 75, 76, 77, 78, 79, 80, 81, 82, 83, 84, 85, 86, 87, 88, 89, 90, 91, 92, 93, 94, 95, 96, 97, 98, 99, 100, 101, 102, 103, 104, 105, 106, 107, 108, 109, 110, 111, 112, 113, 114, 115, 116, 117, 118, 119, 120, 121, 122, 123, 124, 125, 126]))) (.cons (.cond (.cmp .Eq (.bin .Mod (.v 0) (.c (.int 3))) (.c (.int 0))) (.cons (.ret (.ix (.tup (.cons (.c (.str [97])) (.cons (.c (.str [101, 105, 110])) (.cons (.c (.str [123])) (.cons (.c (.str [125])) (.cons (.c (.str [35])) (.cons (.c (.str [92])) (.cons (.c (.str [97, 32, 35, 32, 98])) (.cons (.c (.str [44, 32])) (.cons (.c (.str [32, 123, 120, 125])) (.cons (.c (.str [111])) .nil))))))))))) (.call "_law_mix" 3 (.cons (.v 0) (.cons (.c (.int 9941)) (.cons (.c (.int 10)) .nil)))))) .nil) .nil) (.cons (.set 2 (.bin .Add (.c (.int 1)) (.call "_law_mix" 3 (.cons (.v 0) (.cons (.c (.int 9931)) (.cons (.c (.int 4)) .nil)))))) (.cons (.ret (.m1 .join (.c (.str [])) (.lc [3] (.nm 3) (.rng1 (.v 2)) .none (.ix (.v 1) (.call "_law_mix" 3 (.cons (.bin .Add (.v 0) (.bin .Mult (.c (.int 7)) (.v 3))) (.cons (.c (.int 9929)) (.cons (.pr .len (.cons (.v 1) .nil)) .nil)))))))) .nil))))
def b_all_uses : Ss := (.cons (.setO 1 (.lst .nil)) (.cons (.loop (.nm 2) (.of (.v 0)) (.cons (.cond (.cmp .In (.ix (.v 2) (.c (.int 0))) (.tup (.cons (.c (.str [115, 108, 111, 116])) (.cons (.c (.str [99, 111, 117, 110, 116])) (.cons (.c (.str [107, 105, 110, 100])) .nil))))) (.cons (.app 1 (.tup (.cons (.ix (.v 2) (.c (.int 1))) (.cons (.ix (.v 2) (.c (.int 0))) .nil)))) .nil) .nil) (.cons (.loop (.nm 3) (.of (.call "inner_of" 1 (.cons (.v 2) .nil))) (.cons (.ext 1 (.call "all_uses" 1 (.cons (.v 3) .nil))) .nil)) .nil))) (.cons (.ret (.v 1)) .nil)))
def b_are_cases : Ss := (.cons (.cond (.or (.not (.tru (.isa (.v 1) .tuple))) (.not (.tru (.pr .all (.cons (.lc [5] (.nm 5) (.of (.v 1)) .none (.and (.isa (.v 5) .tuple) (.cmp .Eq (.pr .len (.cons (.v 5) .nil)) (.c (.int 2))))) .nil))))) (.cons (.ret (.c (.bl false))) .nil) .nil) (.cons (.set 4 (.lc [5] (.nm 5) (.of (.v 1)) .none (.ix (.v 5) (.c (.int 0))))) (.cons (.cond (.or (.and (.cmp .Eq (.v 0) (.c (.str [99, 111, 117, 110, 116]))) (.not (.tru (.call "are_counted" 1 (.cons (.v 4) .nil))))) (.and (.cmp .Eq (.v 0) (.c (.str [107, 105, 110, 100]))) (.not (.tru (.call "are_kinds" 1 (.cons (.v 4) .nil)))))) (.cons (.ret (.c (.bl false))) .nil) .nil) (.cons (.ret (.pr .all (.cons (.lc [5] (.nm 5) (.of (.v 1)) .none (.call "is_message_in" 3 (.cons (.ix (.v 5) (.c (.int 1))) (.cons (.bin .Sub (.v 2) (.c (.int 1))) (.cons (.or (.v 3) (.cmp .Eq (.v 0) (.c (.str [99, 111, 117, 110, 116])))) .nil))))) .nil))) .nil))))
def b_are_counted : Ss := (.cons (.set 1 (.lc [3] (.nm 3) (.of (.v 0)) (.some (.tru (.call "is_number" 2 (.cons (.v 3) (.cons (.c (.int 999)) .nil))))) (.v 3))) (.cons (.set 2 (.sl (.v 0) (.some (.pr .len (.cons (.v 1) .nil))) .none)) (.cons (.cond (.or (.cmp .NotEq (.sl (.v 0) .none (.some (.pr .len (.cons (.v 1) .nil)))) (.v 1)) (.not (.tru (.pr .all (.cons (.lc [4] (.nm 4) (.of (.v 2)) .none (.and (.isa (.v 4) .str) (.cmp .In (.v 4) (.c (.tup [(.str [122, 101, 114, 111]), (.str [111, 110, 101]), (.str [116, 119, 111]), (.str [102, 101, 119]), (.str [109, 97, 110, 121]), (.str [111, 116, 104, 101, 114])]))))) .nil))))) (.cons (.ret (.c (.bl false))) .nil) .nil) (.cons (.ret (.and (.call "rises" 1 (.cons (.v 1) .nil)) (.and (.call "rises" 1 (.cons (.lc [4] (.nm 4) (.of (.v 2)) .none (.idx (.c (.tup [(.str [122, 101, 114, 111]), (.str [111, 110, 101]), (.str [116, 119, 111]), (.str [102, 101, 119]), (.str [109, 97, 110, 121]), (.str [111, 116, 104, 101, 114])])) (.v 4))) .nil)) (.cmp .Eq (.sl (.v 2) (.some (.neg (.c (.int 1)))) .none) (.lst (.cons (.c (.str [111, 116, 104, 101, 114])) .nil)))))) .nil))))
def b_are_kinds : Ss := (.cons (.cond (.or (.not (.tru (.pr .all (.cons (.lc [1] (.nm 1) (.of (.v 0)) .none (.call "is_name" 1 (.cons (.v 1) .nil))) .nil)))) (.cmp .NotEq (.sl (.v 0) (.some (.neg (.c (.int 1)))) .none) (.lst (.cons (.c (.str [111, 116, 104, 101, 114])) .nil)))) (.cons (.ret (.c (.bl false))) .nil) .nil) (.cons (.ret (.and (.call "rises" 1 (.cons (.sl (.v 0) .none (.some (.neg (.c (.int 1))))) .nil)) (.cmp .NotIn (.c (.str [111, 116, 104, 101, 114])) (.sl (.v 0) .none (.some (.neg (.c (.int 1)))))))) .nil))
def b_can_be : Ss := (.cons (.set 1 (.lc [2] (.nm 2) (.rng1 (.c (.int 1200))) .none (.call "category_of" 2 (.cons (.v 0) (.cons (.v 2) .nil))))) (.cons (.ret (.pr .tuple (.cons (.lc [3] (.nm 3) (.of (.c (.tup [(.str [122, 101, 114, 111]), (.str [111, 110, 101]), (.str [116, 119, 111]), (.str [102, 101, 119]), (.str [109, 97, 110, 121]), (.str [111, 116, 104, 101, 114])]))) (.some (.cmp .In (.v 3) (.v 1))) (.v 3)) .nil))) .nil))
def b_category_of : Ss := (.cons (.loop (.tp [2, 3]) (.of (.v 0)) (.cons (.cond (.tru (.pr .any (.cons (.lc [4] (.nm 4) (.of (.v 3)) .none (.pr .all (.cons (.lc [5] (.nm 5) (.of (.v 4)) .none (.call "holds" 2 (.cons (.v 5) (.cons (.v 1) .nil)))) .nil))) .nil))) (.cons (.ret (.v 2)) .nil) .nil) .nil)) (.cons (.ret (.c (.str [111, 116, 104, 101, 114]))) .nil))
def b_chain : Ss := (.cons (.setO 3 (.lst .nil)) (.cons (.whl (.and (.cmp .IsNot (.v 0) (.c .non)) (.cmp .NotIn (.v 0) (.v 3))) (.cons (.app 3 (.v 0)) (.cons (.set 0 (.call "next_tag" 2 (.cons (.v 0) (.cons (.v 1) .nil)))) .nil))) (.cons (.cond (.and (.cmp .IsNot (.v 2) (.c .non)) (.cmp .NotIn (.v 2) (.v 3))) (.cons (.app 3 (.v 2)) .nil) .nil) (.cons (.ret (.pr .tuple (.cons (.v 3) .nil))) .nil))))
def b_holds : Ss := (.cons (.asg (.tp [2, 3, 4, 5]) (.v 0)) (.cons (.set 1 (.pr .abs (.cons (.v 1) .nil))) (.cons (.cond (.cmp .Gt (.v 2) (.c (.int 0))) (.cons (.set 1 (.bin .Mod (.v 1) (.v 2))) .nil) .nil) (.cons (.ret (.cmp .Eq (.chn .LtE .LtE (.v 3) (.v 1) (.v 4)) (.v 5))) .nil))))
def b_inner_of : Ss := (.cons (.cond (.cmp .Lt (.pr .len (.cons (.v 0) .nil)) (.c (.int 3))) (.cons (.ret (.lst .nil)) .nil) .nil) (.cons (.ret (.lc [1, 2] (.tp [1, 2]) (.of (.ix (.v 0) (.c (.int 2)))) .none (.v 2))) .nil))
def b_is_message : Ss := (.cons (.ret (.call "is_message_in" 3 (.cons (.v 0) (.cons (.c (.int 3)) (.cons (.c (.bl false)) .nil))))) .nil)
def b_is_message_in : Ss := (.cons (.cond (.or (.not (.tru (.isa (.v 0) .tuple))) (.not (.tru (.pr .all (.cons (.lc [4] (.nm 4) (.of (.v 0)) .none (.call "is_part" 3 (.cons (.v 4) (.cons (.v 1) (.cons (.v 2) .nil))))) .nil))))) (.cons (.ret (.c (.bl false))) .nil) .nil) (.cons (.ret (.not (.pr .any (.cons (.lc [3] (.nm 3) (.rng2 (.c (.int 1)) (.pr .len (.cons (.v 0) .nil))) .none (.and (.cmp .Eq (.ix (.ix (.v 0) (.bin .Sub (.v 3) (.c (.int 1)))) (.c (.int 0))) (.c (.str [116, 101, 120, 116]))) (.cmp .Eq (.ix (.ix (.v 0) (.v 3)) (.c (.int 0))) (.c (.str [116, 101, 120, 116]))))) .nil)))) .nil))
def b_is_name : Ss := (.cons (.ret (.and (.isa (.v 0) .str) (.and (.chn .LtE .LtE (.c (.int 1)) (.pr .len (.cons (.v 0) .nil)) (.c (.int 6))) (.pr .all (.cons (.lc [1] (.nm 1) (.of (.v 0)) .none (.cmp .In (.v 1) (.c (.str [97, 98, 99, 100, 101, 102, 103, 104, 105, 106, 107, 108, 109, 110, 111, 112, 113, 114, 115, 116, 117, 118, 119, 120, 121, 122])))) .nil))))) .nil)
def b_is_number : Ss := (.cons (.ret (.and (.isa (.v 0) .int) (.and (.not (.isa (.v 0) .bool)) (.chn .LtE .LtE (.c (.int 0)) (.v 0) (.v 1))))) .nil)
def b_is_part : Ss := (.cons (.cond (.or (.not (.tru (.isa (.v 0) .tuple))) (.or (.cmp .Eq (.pr .len (.cons (.v 0) .nil)) (.c (.int 0))) (.not (.tru (.isa (.ix (.v 0) (.c (.int 0))) .str))))) (.cons (.ret (.c (.bl false))) .nil) .nil) (.cons (.set 3 (.ix (.v 0) (.c (.int 0)))) (.cons (.cond (.cmp .Eq (.v 3) (.c (.str [109, 97, 114, 107]))) (.cons (.ret (.and (.cmp .Eq (.pr .len (.cons (.v 0) .nil)) (.c (.int 1))) (.v 2))) .nil) .nil) (.cons (.cond (.cmp .Eq (.v 3) (.c (.str [116, 101, 120, 116]))) (.cons (.ret (.and (.cmp .Eq (.pr .len (.cons (.v 0) .nil)) (.c (.int 2))) (.and (.isa (.ix (.v 0) (.c (.int 1))) .str) (.cmp .NotEq (.ix (.v 0) (.c (.int 1))) (.c (.str [])))))) .nil) .nil) (.cons (.cond (.cmp .Eq (.v 3) (.c (.str [115, 108, 111, 116]))) (.cons (.ret (.and (.cmp .Eq (.pr .len (.cons (.v 0) .nil)) (.c (.int 2))) (.call "is_name" 1 (.cons (.ix (.v 0) (.c (.int 1))) .nil)))) .nil) .nil) (.cons (.cond (.or (.cmp .NotIn (.v 3) (.tup (.cons (.c (.str [99, 111, 117, 110, 116])) (.cons (.c (.str [107, 105, 110, 100])) .nil)))) (.or (.cmp .NotEq (.pr .len (.cons (.v 0) .nil)) (.c (.int 3))) (.cmp .Eq (.v 1) (.c (.int 0))))) (.cons (.ret (.c (.bl false))) .nil) .nil) (.cons (.ret (.and (.call "is_name" 1 (.cons (.ix (.v 0) (.c (.int 1))) .nil)) (.call "are_cases" 4 (.cons (.v 3) (.cons (.ix (.v 0) (.c (.int 2))) (.cons (.v 1) (.cons (.v 2) .nil))))))) .nil)))))))
def b_law_k08 : Ss := (.cons (.loop (.nm 1) (.rng1 (.c (.int 10))) (.cons (.set 2 (.call "_law_message" 3 (.cons (.bin .Add (.call "_law_cell" 2 (.cons (.v 0) (.cons (.bin .Mod (.v 1) (.c (.int 9))) .nil))) (.bin .Mult (.c (.int 31)) (.v 1))) (.cons (.c (.int 3)) (.cons (.c (.bl false)) .nil))))) (.cons (.set 3 (.call "stretched" 1 (.cons (.v 2) .nil))) (.cons (.cond (.not (.tru (.call "_law_same" 2 (.cons (.v 3) (.cons (.call "_law_stretched" 1 (.cons (.v 2) .nil)) .nil))))) (.cons (.ret (.c (.bl false))) .nil) .nil) (.cons (.cond (.or (.cmp .IsNot (.call "is_message" 1 (.cons (.v 3) .nil)) (.c (.bl true))) (.cmp .NotEq (.call "uses" 1 (.cons (.v 3) .nil)) (.call "uses" 1 (.cons (.v 2) .nil)))) (.cons (.ret (.c (.bl false))) .nil) .nil) .nil))))) (.cons (.ret (.cmp .Eq (.call "stretched" 1 (.cons (.tup (.cons (.tup (.cons (.c (.str [116, 101, 120, 116])) (.cons (.c (.str [65, 98, 101, 114, 32, 121, 111, 117])) .nil))) .nil)) .nil)) (.tup (.cons (.tup (.cons (.c (.str [116, 101, 120, 116])) (.cons (.c (.str [91, 65, 98, 101, 101, 114, 32, 121, 111, 111, 117, 117, 93])) .nil))) .nil)))) .nil))
def b_nearest : Ss := (.cons (.loop (.nm 3) (.of (.v 0)) (.cons (.setO 4 (.lc [5] (.nm 5) (.of (.call "chain" 3 (.cons (.v 3) (.cons (.v 2) (.cons (.c .non) .nil))))) (.some (.cmp .In (.v 5) (.v 1))) (.v 5))) (.cons (.ext 4 (.lc [5] (.nm 5) (.of (.v 1)) (.some (.cmp .Eq (.call "tongue_of" 1 (.cons (.v 5) .nil)) (.call "tongue_of" 1 (.cons (.v 3) .nil)))) (.v 5))) (.cons (.cond (.tru (.v 4)) (.cons (.ret (.ix (.v 4) (.c (.int 0)))) .nil) .nil) .nil)))) (.cons (.ret (.c .non)) .nil))
def b_next_tag : Ss := (.cons (.cond (.cmp .In (.v 0) (.pr .dict (.cons (.v 1) .nil))) (.cons (.ret (.ix (.pr .dict (.cons (.v 1) .nil)) (.v 0))) .nil) .nil) (.cons (.cond (.cmp .NotEq (.call "tongue_of" 1 (.cons (.v 0) .nil)) (.v 0)) (.cons (.ret (.call "tongue_of" 1 (.cons (.v 0) .nil))) .nil) .nil) (.cons (.ret (.c .non)) .nil)))
def b_rises : Ss := (.cons (.ret (.pr .all (.cons (.lc [1] (.nm 1) (.rng2 (.c (.int 1)) (.pr .len (.cons (.v 0) .nil))) .none (.cmp .Lt (.ix (.v 0) (.bin .Sub (.v 1) (.c (.int 1)))) (.ix (.v 0) (.v 1)))) .nil))) .nil)
def b_stretched : Ss := (.cons (.setO 1 (.lst .nil)) (.cons (.loop (.nm 2) (.of (.v 0)) (.cons (.cond (.cmp .Eq (.ix (.v 2) (.c (.int 0))) (.c (.str [116, 101, 120, 116]))) (.cons (.set 2 (.tup (.cons (.c (.str [116, 101, 120, 116])) (.cons (.call "stretched_text" 1 (.cons (.ix (.v 2) (.c (.int 1))) .nil)) .nil)))) .nil) .nil) (.cons (.cond (.cmp .Gt (.pr .len (.cons (.v 2) .nil)) (.c (.int 2))) (.cons (.set 2 (.call "with_inner" 2 (.cons (.v 2) (.cons (.c (.fn "stretched" [])) .nil)))) .nil) .nil) (.cons (.app 1 (.v 2)) .nil)))) (.cons (.ret (.pr .tuple (.cons (.v 1) .nil))) .nil)))
def b_stretched_text : Ss := (.cons (.ret (.bin .Add (.bin .Add (.c (.str [91])) (.m1 .join (.c (.str [])) (.lc [1] (.nm 1) (.of (.v 0)) .none (.bin .Mult (.v 1) (.bin .Add (.c (.int 1)) (.pr .int (.cons (.cmp .In (.v 1) (.c (.str [97, 101, 105, 111, 117]))) .nil))))))) (.c (.str [93])))) .nil)
def b_tongue_of : Ss := (.cons (.ret (.ix (.m1 .partition (.v 0) (.c (.str [45]))) (.c (.int 0)))) .nil)
def b_uses : Ss := (.cons (.ret (.pr .tuple (.cons (.sset true (.call "all_uses" 1 (.cons (.v 0) .nil))) .nil))) .nil)
def b_with_inner_k08 : Ss := (.cons (.ret (.bin .Add (.sl (.v 0) .none (.some (.c (.int 2)))) (.tup (.cons (.pr .tuple (.cons (.lc [2, 3] (.tp [2, 3]) (.of (.ix (.v 0) (.c (.int 2)))) .none (.tup (.cons (.v 2) (.cons (.callv 1 1 ["is_name", "rises", "are_counted", "are_kinds", "is_message", "inner_of", "all_uses", "uses", "stretched_text", "stretched", "_law_text", "_law_name", "_law_stretched", "law"] (.cons (.v 3) .nil)) .nil)))) .nil)) .nil)))) .nil)
end M
namespace M
open PySem L2
theorem b_mix {dn : Str → List PV → R PV} {wf : Nat} (c p m : Int) (hp : 0 < p) (h2 : p ≤ 100000) (hm : 0 < m) : runB dn wf 4 b__law_mix [.int c, .int p, .int m] = .ok (.int (mixM c p m)) := by
  have h3 : 0 ≤ c * 48271 % p := Int.emod_nonneg _ (by omega)
  have h4 : c * 48271 % p < p := Int.emod_lt_of_pos _ hp
  simp [runB, b__law_mix, mul_r, mod_pos, hp, hm]
  rw [mul_l _ _ (by omega) (by omega)]
  simp [mod_pos, hp, hm, mixM]
theorem b_cell {dn : Str → List PV → R PV} {wf : Nat} (ns : List Int) (k : Int) (hk : 0 ≤ k) : runB dn wf 2 b__law_cell [.scr ns, .int k] = .ok (.int (cellM ns k)) := by
  simp [runB, b__law_cell, cellM]
  by_cases h : k < ns.length
  · obtain ⟨p, hp, _⟩ := atI_some hk h
    simp [h, ix_scr hp, hp]
  · simp [h]
end M
/-! P0: plain tools: dicts, walks. -/
namespace M
open PySem L2
theorem nodup_len {α : Type} : ∀ {l u : List α}, l.Nodup → (∀ x ∈ l, x ∈ u) → l.length ≤ u.length
  | [], _, _, _ => Nat.zero_le _
  | x :: l, u, h, s => by
    obtain ⟨h1, h2⟩ := List.nodup_cons.mp h
    obtain ⟨a, b, rfl⟩ := List.append_of_mem (s x List.mem_cons_self)
    have := nodup_len (l := l) (u := a ++ b) h2 fun y hy => by
      have hm := s y (List.mem_cons_of_mem _ hy)
      simp only [List.mem_append, List.mem_cons] at hm ⊢
      rcases hm with h | rfl | h
      · exact .inl h
      · exact absurd hy h1
      · exact .inr h
    simp only [List.length_append, List.length_cons] at this ⊢
    omega

/-! ### dicts -/
section
variable {κ : Type} [DecidableEq κ]
theorem getD_cons' (k' : κ) (v : PV) (ds : List (κ × PV)) (k : κ) : getD ((k', v) :: ds) k = if k' = k then some v else getD ds k := by
  by_cases h : k' = k <;> simp [getD, List.find?_cons, h]
theorem getD_none {ds : List (κ × PV)} {k : κ} : getD ds k = none ↔ k ∉ ds.map (·.1) := by
  induction ds with
  | nil => simp [getD]
  | cons kv ds ih =>
    obtain ⟨k', v⟩ := kv
    rw [getD_cons']
    by_cases h : k' = k
    · simp [h]
    · rw [if_neg h, ih]
      simp [Ne.symm h, fun e => h (Eq.symm e)]
theorem getD_isSome {ds : List (κ × PV)} {k : κ} : (getD ds k).isSome = decide (k ∈ ds.map (·.1)) := by
  cases h : getD ds k with
  | none => have := getD_none.mp h; simp at this; simpa using this
  | some v =>
    have : ¬ (k ∉ ds.map (·.1)) := fun z => by rw [getD_none.mpr z] at h; cases h
    have := Decidable.not_not.mp this
    simp only [Option.isSome_some]
    exact (decide_eq_true this).symm
theorem getD_mem {ds : List (κ × PV)} {k : κ} {v : PV} (h : getD ds k = some v) : (k, v) ∈ ds := by
  induction ds with
  | nil => cases h
  | cons kv ds ih =>
    obtain ⟨k', v'⟩ := kv
    rw [getD_cons'] at h
    by_cases e : k' = k
    · rw [if_pos e] at h; cases h; subst e; exact List.mem_cons_self
    · rw [if_neg e] at h; exact List.mem_cons_of_mem _ (ih h)
theorem getD_of {ds : List (κ × PV)} {k : κ} {v : PV} (hn : (ds.map (·.1)).Nodup) (h : (k, v) ∈ ds) : getD ds k = some v := by
  induction ds with
  | nil => cases h
  | cons kv ds ih =>
    obtain ⟨k', v'⟩ := kv
    simp only [List.map_cons, List.nodup_cons] at hn
    rw [getD_cons']
    rcases List.mem_cons.mp h with e | h
    · cases e; rw [if_pos rfl]
    · have : k' ≠ k := fun e => by subst e; exact hn.1 (List.mem_map_of_mem (f := (·.1)) h)
      rw [if_neg this]
      exact ih hn.2 h
theorem putD_keys {ds : List (κ × PV)} {k : κ} {v : PV} : (putD ds k v).map (·.1) = if k ∈ ds.map (·.1) then ds.map (·.1) else ds.map (·.1) ++ [k] := by
  unfold putD
  by_cases h : k ∈ ds.map (·.1)
  · have h2 : (ds.any fun kv => decide (kv.1 = k)) = true := by
      obtain ⟨kv, h1, h2⟩ := List.mem_map.mp h
      exact List.any_eq_true.mpr ⟨kv, h1, by simpa using h2⟩
    rw [if_pos h2, if_pos h, List.map_map]
    apply List.map_congr_left
    intro kv _
    simp only [Function.comp]
    split <;> rfl
  · have h2 : ¬ (ds.any fun kv => decide (kv.1 = k)) = true := fun z => h (by
      obtain ⟨kv, h1, h2⟩ := List.any_eq_true.mp z
      exact List.mem_map.mpr ⟨kv, h1, by simpa using h2⟩)
    rw [if_neg h2, if_neg h]
    simp
theorem putD_nodup {ds : List (κ × PV)} {k : κ} {v : PV} (h : (ds.map (·.1)).Nodup) : ((putD ds k v).map (·.1)).Nodup := by
  rw [putD_keys]
  split
  · exact h
  · rename_i hk
    rw [List.nodup_append]
    exact ⟨h, by simp, fun a ha b hb => by simp at hb; subst hb; intro e; subst e; exact hk ha⟩
theorem putD_mem {ds : List (κ × PV)} {k : κ} {v : PV} {kv : κ × PV} (h : kv ∈ putD ds k v) : kv ∈ ds ∨ kv = (k, v) := by
  unfold putD at h
  split at h
  · obtain ⟨kv', h1, h2⟩ := List.mem_map.mp h
    split at h2
    · rename_i e; subst h2; right; rw [← e]
    · subst h2; exact .inl h1
  · rcases List.mem_append.mp h with h | h
    · exact .inl h
    · right; simpa using h
theorem putD_new {ds : List (κ × PV)} {k : κ} {v : PV} (h : k ∉ ds.map (·.1)) : putD ds k v = ds ++ [(k, v)] := by
  unfold putD
  rw [if_neg fun z => h (by
      obtain ⟨kv, h1, h2⟩ := List.any_eq_true.mp z
      exact List.mem_map.mpr ⟨kv, h1, by simpa using h2⟩)]
theorem mergeD_new : ∀ {more ds : List (κ × PV)}, ((ds ++ more).map (·.1)).Nodup → mergeD ds more = ds ++ more
  | [], ds, _ => by simp [mergeD]
  | kv :: more, ds, h => by
    have h1 : kv.1 ∉ ds.map (·.1) := by
      simp only [List.map_append, List.map_cons, List.nodup_append] at h
      intro z
      exact h.2.2 _ z _ List.mem_cons_self rfl
    show mergeD (putD ds kv.1 kv.2) more = _
    rw [putD_new h1, mergeD_new]
    · simp
    · simpa using h
theorem mergeD_nil {ds : List (κ × PV)} (h : (ds.map (·.1)).Nodup) : mergeD [] ds = ds := by
  rw [mergeD_new (by simpa using h)]; rfl
end
/-- a dict by texts -/
def strD (ds : List (List Nat × PV)) : List (K1 × PV) := ds.map fun kv => (.inr kv.1, kv.2)
@[simp] theorem strD_nil : strD [] = [] := rfl
@[simp] theorem strD_len (ds : List (List Nat × PV)) : (strD ds).length = ds.length := by simp [strD]
theorem strD_keys (ds : List (List Nat × PV)) : (strD ds).map (·.1) = (ds.map (·.1)).map .inr := by simp [strD]
theorem inr_inj (a b : List Nat) : ((.inr a : K1) = .inr b) ↔ a = b := ⟨fun h => by cases h; rfl, fun h => by rw [h]⟩
theorem getD_strD (k : List Nat) : ∀ ds : List (List Nat × PV), getD (strD ds) (.inr k) = getD ds k
  | [] => rfl
  | (k', v) :: ds => by
    show getD (((.inr k' : K1), v) :: strD ds) _ = _
    rw [getD_cons', getD_cons', getD_strD k ds]
    simp only [inr_inj]
theorem putD_strD (k : List Nat) (v : PV) (ds : List (List Nat × PV)) : putD (strD ds) (.inr k) v = strD (putD ds k v) := by
  have e : ((strD ds).any fun kv => decide (kv.1 = .inr k)) = ds.any fun kv => decide (kv.1 = k) := by
    simp only [strD, List.any_map]
    congr 1
    funext kv
    simp only [Function.comp, inr_inj]
  unfold putD
  rw [e]
  split
  · simp only [strD, List.map_map]
    apply List.map_congr_left
    intro kv _
    simp only [Function.comp, inr_inj]
    split <;> rfl
  · simp [strD]
theorem keysS_strD : ∀ ds : List (List Nat × PV), keysS (strD ds) = some (ds.map (·.1))
  | [] => rfl
  | (k, v) :: ds => by
    show (keysS (strD ds)).map (k :: ·) = _
    rw [keysS_strD ds]
    rfl
@[simp] theorem inB_dic (k : List Nat) (ds : List (List Nat × PV)) : inB (.str k) (.dic (strD ds)) = .ok (getD ds k).isSome := by
  rw [← getD_strD]
  cases k with
  | nil => simp [inB, inD, asKey]
  | cons a l => cases l <;> simp [inB, inD, asKey]
theorem ix_dic {k : K1} {kvs : List (K1 × PV)} {v : PV} (h : getD kvs k = some v) : ixP (.dic kvs) (unKey k) = .ok v := by
  cases k <;> (show (match getD kvs _ with | some p => (R.ok p : R PV) | none => _) = _; rw [h])
theorem ix_dicS {k : List Nat} {ds : List (List Nat × PV)} {v : PV} (h : getD ds k = some v) : ixP (.dic (strD ds)) (.str k) = .ok v := ix_dic (k := .inr k) (by rw [getD_strD]; exact h)
theorem get_dicS (k : List Nat) (ds : List (List Nat × PV)) (x : PV) : getP (.dic (strD ds)) (.str k) x = .ok ((getD ds k).getD x) := by
  show R.ok ((getD (strD ds) (.inr k)).getD x) = _
  rw [getD_strD]
@[simp] theorem asDic_dic (kvs : List (K1 × PV)) : asDic (.dic kvs) = .ok kvs := rfl
theorem put_dicS {k : List Nat} {ds : List (List Nat × PV)} {v : PV} (h : ds.length < 1000000) : putP (.dic (strD ds)) (.str k) v = .ok (.dic (strD (putD ds k v))) := by
  show (if (strD ds).length < big then (R.ok (.dic (putD (strD ds) (.inr k) v)) : R PV) else .no) = _
  rw [if_pos (by rw [strD_len]; have : (1000000 : Nat) ≤ big := by decide +kernel
                 omega), putD_strD]
@[simp] theorem pr_dict (ps : List PV) : Pr.dict.ev ps = dictP ps := rfl
@[simp] theorem pr_sorted (ps : List PV) : Pr.sorted.ev ps = sortedP ps := rfl
theorem sorted_dicS {ds : List (List Nat × PV)} (h : ds.length < 64) : sortedP [.dic (strD ds)] = .ok (.lst ((sortS (ds.map (·.1))).map .str)) := by
  show (match keysS (strD ds) with
    | some ls => if ls.length < 64 then (R.ok (.lst ((sortS ls).map .str)) : R PV) else .no
    | none => .no) = _
  rw [keysS_strD]
  show (if _ then _ else _) = _
  rw [if_pos (by rw [List.length_map]; exact h)]
/-- a tuple of pairs -/
def pairsK (ds : List (K1 × PV)) : PV := .tup (ds.map fun kv => .tup [unKey kv.1, kv.2])
def pairsS (ds : List (List Nat × PV)) : PV := .tup (ds.map fun kv => .tup [.str kv.1, kv.2])
theorem pairsS_K (ds : List (List Nat × PV)) : pairsS ds = pairsK (strD ds) := by
  unfold pairsS pairsK strD
  rw [List.map_map]
  rfl
theorem pairsOf_K : ∀ ds : List (K1 × PV), pairsOf (ds.map fun kv => .tup [unKey kv.1, kv.2]) = some ds
  | [] => rfl
  | (k, v) :: ds => by
    rw [List.map_cons, pairsOf, pairsOf_K ds]
    cases k <;> rfl
theorem dict_K {ds : List (K1 × PV)} (h : (ds.map (·.1)).Nodup) : dictP [pairsK ds] = .ok (.dic ds) := by
  show (match pairsOf _ with
    | some kvs => (R.ok (.dic (mergeD [] kvs)) : R PV)
    | none => .no) = _
  rw [pairsOf_K]
  show R.ok (PV.dic (mergeD [] ds)) = _
  rw [mergeD_nil h]
theorem nodup_strD {ds : List (List Nat × PV)} (h : (ds.map (·.1)).Nodup) : ((strD ds).map (·.1)).Nodup := by
  rw [strD_keys]
  exact List.Pairwise.map (R := (· ≠ ·)) (S := (· ≠ ·)) _ (fun a b hab e => hab ((inr_inj a b).mp e)) h
@[simp] theorem dicAt_0 (p : List (K1 × PV)) (ρ : Env') : dicAt 0 (some (.dic p) :: ρ) = .ok (.dic p) := rfl
@[simp] theorem dicAt_s (i : Nat) (o : Option PV) (ρ : Env') : dicAt (i + 1) (o :: ρ) = dicAt i ρ := by simp [dicAt]
theorem dict_S {ds : List (List Nat × PV)} (h : (ds.map (·.1)).Nodup) : dictP [pairsS ds] = .ok (.dic (strD ds)) := by
  rw [pairsS_K, dict_K (nodup_strD h)]
theorem ins_mem {α : Type} {le : α → α → Bool} {x y : α} {l : List α} : y ∈ ins le x l ↔ y = x ∨ y ∈ l := by
  rw [(ins_perm x l).mem_iff]; simp
theorem isort_perm' {α : Type} {le : α → α → Bool} : ∀ l : List α, (isort le l).Perm l
  | [] => .refl _
  | x :: l => (ins_perm x _).trans ((isort_perm' l).cons x)
theorem sortS_mem {x : List Nat} {l : List (List Nat)} : x ∈ sortS l ↔ x ∈ l := (isort_perm' l).mem_iff
theorem sortS_nodup {l : List (List Nat)} (h : l.Nodup) : (sortS l).Nodup := ((isort_perm' l).nodup_iff).mpr h
theorem sortS_len (l : List (List Nat)) : (sortS l).length = l.length := (isort_perm' l).length_eq

/-! ### texts in rows -/
theorem strs_dat : ∀ l : List (List Nat), isDats (l.map .str) = true
  | [] => by simp [isDats]
  | x :: l => by simp [isDats, isDat, strs_dat l]
theorem strs_dep : ∀ l : List (List Nat), deps (l.map .str) = 0
  | [] => by simp [deps]
  | x :: l => by simp [deps, dep, strs_dep l]
theorem inL_strs (k : List Nat) (l : List (List Nat)) : inL (.str k) (l.map .str) = l.contains k := by
  induction l with
  | nil => simp [inL]
  | cons x l ih =>
    have : (PV.str x :: l.map PV.str).any (fun y => eqP y (.str k)) = (eqP (.str x) (.str k) || (l.map PV.str).any fun y => eqP y (.str k)) := rfl
    unfold inL at ih ⊢
    rw [List.map_cons, this, ih, List.contains_cons]
    congr 1
    show (x == k) = (k == x)
    exact Bool.beq_comm
@[simp] theorem inB_lstS (k : List Nat) (l : List (List Nat)) : inB (.str k) (.lst (l.map .str)) = .ok (l.contains k) := by
  have h : okEq (.str k) (.lst (l.map .str)) = true := by
    have h1 := strs_dat l
    have h2 := strs_dep l
    unfold okEq
    rw [show isDat (.str k) = true from rfl, show isDat (.lst (l.map .str)) = isDats (l.map .str) from by rw [isDat], h1, show dep (.str k) = 0 from by simp [dep], show dep (.lst (l.map .str)) = deps (l.map .str) + 1 from by rw [dep], h2]
    decide
  have e : inB (.str k) (.lst (l.map .str)) = if okEq (.str k) (.lst (l.map .str)) then .ok (inL (.str k) (l.map .str)) else .no := by
    cases k with
    | nil => simp [inB]
    | cons a k => cases k <;> simp [inB]
  rw [e, if_pos h, inL_strs]
@[simp high] theorem inB_tupS (k : List Nat) (l : List (List Nat)) : inB (.str k) (.tup (l.map .str)) = .ok (l.contains k) := by
  rw [inB_tup_str, if_pos (by simp [flatP]), inL_strs]

theorem forN_all {i : Nat} {body : Env' → R Fl} (P : Env' → Prop) {xs : List PV} {ρ : Env'} (h : ∀ x ∈ xs, ∀ ρ, P ρ → ∃ ρ2, body (ρ.set i (some x)) = .ok (.nx ρ2) ∧ P ρ2) (h0 : P ρ) : ∃ ρ', forL (.nm i) body xs ρ = .ok (.nx ρ') ∧ P ρ' :=
  forL_all P h h0
/-! ### walks -/
section
variable {T : Type} [DecidableEq T] (nxt : T → Option T)
def walkM : Nat → Option T → List T → Option (List T)
  | 0, _, _ => none
  | _ + 1, none, f => some f
  | n + 1, some t, f => if t ∈ f then some f else walkM n (nxt t) (f ++ [t])
theorem walkM_up : ∀ (n : Nat) (t : Option T) (f g : List T), walkM nxt n t f = some g → walkM nxt (n + 1) t f = some g
  | 0, _, _, _, h => by cases h
  | n + 1, none, f, g, h => h
  | n + 1, some t, f, g, h => by
    simp only [walkM] at h ⊢
    by_cases e : t ∈ f
    · rw [if_pos e] at h ⊢; exact h
    · rw [if_neg e] at h ⊢; exact walkM_up n _ _ _ h
theorem walkM_le {n m : Nat} {t : Option T} {f g : List T} (h : walkM nxt n t f = some g) (hl : n ≤ m) : walkM nxt m t f = some g := by
  obtain ⟨d, rfl⟩ := Nat.le.dest hl
  clear hl
  induction d with
  | zero => exact h
  | succ d ih => exact walkM_up nxt _ _ _ _ ih
def Good (U : List T) (t : Option T) (f : List T) : Prop := (∀ u, t = some u → u ∈ U) ∧ f.Nodup ∧ ∀ x ∈ f, x ∈ U
variable {nxt} {U : List T} (hU : ∀ t ∈ U, ∀ u, nxt t = some u → u ∈ U)
include hU
theorem Good.step {t : T} {f : List T} (g : Good U (some t) f) (h : t ∉ f) : Good U (nxt t) (f ++ [t]) := by
  obtain ⟨g1, g2, g3⟩ := g
  refine ⟨fun u e => hU t (g1 t rfl) u e, ?_, ?_⟩
  · rw [List.nodup_append]
    exact ⟨g2, by simp, fun a ha b hb => by simp at hb; subst hb; intro e; subst e; exact h ha⟩
  · intro x hx
    rcases List.mem_append.mp hx with hx | hx
    · exact g3 x hx
    · simp at hx; subst hx; exact g1 x rfl
theorem walkM_ends : ∀ (n : Nat) {t : Option T} {f : List T}, Good U t f → U.length + 1 ≤ n + f.length → 0 < n → ∃ g, walkM nxt n t f = some g ∧ g.Nodup ∧ (∀ x ∈ g, x ∈ U) ∧ ∀ x ∈ f, x ∈ g
  | 0, _, _, _, _, h => by omega
  | n + 1, none, f, g, _, _ => ⟨f, rfl, g.2.1, g.2.2, fun _ h => h⟩
  | n + 1, some t, f, g, hl, _ => by
    simp only [walkM]
    by_cases e : t ∈ f
    · rw [if_pos e]; exact ⟨f, rfl, g.2.1, g.2.2, fun _ h => h⟩
    · rw [if_neg e]
      have g' := g.step hU e
      have hl' := nodup_len g'.2.1 g'.2.2
      simp only [List.length_append, List.length_cons, List.length_nil] at hl'
      obtain ⟨k, h1, h2, h3, h4⟩ := walkM_ends n g' (by simp only [List.length_append, List.length_cons, List.length_nil]; omega) (by omega)
      exact ⟨k, h1, h2, h3, fun x hx => h4 x (List.mem_append_left _ hx)⟩
/-- a loop that walks -/
theorem whl_walk {c : Env' → R Bool} {body : Env' → R Fl} (R' : Option T → List T → Env' → Prop)
    (h0 : ∀ f ρ, R' none f ρ → c ρ = .ok false) (h1 : ∀ t f ρ, Good U (some t) f → R' (some t) f ρ → c ρ = .ok (!decide (t ∈ f)))
    (h2 : ∀ t f ρ, Good U (some t) f → t ∉ f → R' (some t) f ρ → ∃ ρ', body ρ = .ok (.nx ρ') ∧ R' (nxt t) (f ++ [t]) ρ') :
    ∀ (n : Nat) {t : Option T} {f g : List T} {ρ : Env'}, Good U t f → R' t f ρ → walkM nxt n t f = some g → ∃ ρ' t', whlL c body n ρ = .ok (.nx ρ') ∧ R' t' g ρ'
  | 0, _, _, _, _, _, _, h => by cases h
  | n + 1, none, f, g, ρ, hg, hr, h => by
    cases h
    refine ⟨ρ, none, ?_, hr⟩
    simp only [whlL]
    rw [h0 f ρ hr]
    rfl
  | n + 1, some t, f, g, ρ, hg, hr, h => by
    simp only [walkM] at h
    by_cases e : t ∈ f
    · rw [if_pos e] at h
      cases h
      refine ⟨ρ, some t, ?_, hr⟩
      simp only [whlL]
      rw [h1 t f ρ hg hr, decide_eq_true e]
      rfl
    · rw [if_neg e] at h
      obtain ⟨ρ1, e1, r1⟩ := h2 t f ρ hg e hr
      obtain ⟨ρ', t', e2, r2⟩ := whl_walk R' h0 h1 h2 n (hg.step hU e) r1 h
      refine ⟨ρ', t', ?_, r2⟩
      simp only [whlL]
      rw [h1 t f ρ hg hr, decide_eq_false e]
      show (body ρ >>= _) = _
      rw [e1]
      exact e2
end
end M
/-! P2: tags, links, chains. -/
namespace M
open PySem L2
/-- cut at the first c -/
def cutAt (c : Nat) : List Nat → Option (List Nat × List Nat)
  | [] => none
  | x :: l => if x = c then some ([], l) else (cutAt c l).map fun ab => (x :: ab.1, ab.2)
theorem par_cut (c : Nat) : ∀ (l acc : List Nat), TL.par [c] acc l = (cutAt c l).map fun ab => (acc ++ ab.1, ab.2)
  | [], acc => rfl
  | x :: l, acc => by
    have e : TL.pre [c] (x :: l) = decide (x = c) := by
      show ((x :: l).take 1 == [c]) = _
      by_cases h : x = c <;> simp [h]
    by_cases h : x = c
    · rw [TL.par_hit (by rw [e]; simpa using h)]
      simp [cutAt, h]
    · rw [TL.par_miss (by rw [e]; simpa using h), par_cut c l]
      simp only [cutAt, if_neg h]
      cases cutAt c l <;> simp
theorem partL_cut (l : List Nat) (c : Nat) : partL l c = match cutAt c l with
    | some (a, b) => .wt [.str a, .str [c], .str b]
    | none => .wt [.str l, .str [], .str []] := by
  unfold partL
  rw [par_cut]
  cases cutAt c l with
  | none => rfl
  | some ab => rfl
def tagsV : List PV := [.str [100, 101], .str [100, 101, 45, 65, 84], .str [100, 101, 45, 67, 72], .str [101, 110], .str [101, 110, 45, 71, 66], .str [102, 114], .str [102, 114, 45, 67, 65], .str [103, 115, 119], .str [112, 116, 45, 66, 82], .str [122, 104], .str [122, 104, 45, 84, 87]]
abbrev SpTags (dn : Str → List PV → R PV) : Prop := dn "_law_tags" [] = .ok (.tup tagsV)
theorem b_tags {dn : Str → List PV → R PV} {wf : Nat} : runB dn wf 0 b__law_tags [] = .ok (.tup tagsV) := by
  simp [runB, b__law_tags, tagsV]
theorem cutAt_none {c : Nat} : ∀ {l : List Nat}, cutAt c l = none → c ∉ l
  | [], _ => by simp
  | x :: l, h => by
    simp only [cutAt] at h
    by_cases e : x = c
    · rw [if_pos e] at h; cases h
    · rw [if_neg e] at h
      have h2 : cutAt c l = none := by
        cases q : cutAt c l with
        | none => rfl
        | some ab => rw [q] at h; cases h
      simp only [List.mem_cons, not_or]
      exact ⟨fun z => e z.symm, cutAt_none h2⟩
theorem cutAt_some {c : Nat} : ∀ {l a b : List Nat}, cutAt c l = some (a, b) → l = a ++ c :: b ∧ c ∉ a
  | [], a, b, h => by cases h
  | x :: l, a, b, h => by
    simp only [cutAt] at h
    by_cases e : x = c
    · rw [if_pos e] at h
      cases h
      exact ⟨by rw [e]; rfl, by simp⟩
    · rw [if_neg e] at h
      cases q : cutAt c l with
      | none => rw [q] at h; cases h
      | some ab =>
        obtain ⟨a', b'⟩ := ab
        rw [q] at h
        cases h
        obtain ⟨h1, h2⟩ := cutAt_some q
        refine ⟨by rw [h1]; rfl, ?_⟩
        simp only [List.mem_cons, not_or]
        exact ⟨fun z => e z.symm, h2⟩
theorem cutAt_app {c : Nat} {r : List Nat} : ∀ {t : List Nat}, c ∉ t → cutAt c (t ++ c :: r) = some (t, r)
  | [], _ => by simp [cutAt]
  | x :: t, h => by
    simp only [List.mem_cons, not_or] at h
    show (if x = c then _ else (cutAt c (t ++ c :: r)).map _) = _
    rw [if_neg fun z => h.1 z.symm, cutAt_app h.2]
    rfl
theorem cutL_to {α : Type} (l : List α) (k : Int) (h0 : 0 ≤ k) : cutL l none (some k) = l.take k.toNat := by
  simp only [cutL, HT.sIx]
  rw [if_neg (by omega)]
  simp only [List.drop_zero, Nat.sub_zero]
  rw [Nat.min_def]
  split
  · rfl
  · rw [List.take_length, List.take_of_length_le (by omega)]
theorem cutL_from {α : Type} (l : List α) (k : Nat) : cutL l (some (k : Int)) none = l.drop k := by
  simp only [cutL, HT.sIx]
  rw [if_neg (by omega)]
  simp only [Int.toNat_natCast]
  rw [Nat.min_def]
  split
  · exact List.take_of_length_le (by rw [List.length_drop]; exact Nat.le_refl _)
  · rw [List.drop_length, List.drop_eq_nil_of_le (by omega)]
    simp

def tagL : List (List Nat) := [[100, 101], [100, 101, 45, 65, 84], [100, 101, 45, 67, 72], [101, 110], [101, 110, 45, 71, 66], [102, 114], [102, 114, 45, 67, 65], [103, 115, 119], [112, 116, 45, 66, 82], [122, 104], [122, 104, 45, 84, 87]]
theorem tagsV_eq : tagsV = tagL.map .str := rfl
/-- tags and tongues -/
def tagU : List (List Nat) := tagL ++ [[112, 116]]
def tongL (l : List Nat) : List Nat := match cutAt 45 l with
  | some ab => ab.1
  | none => l
theorem tong_U : ∀ t ∈ tagU, tongL t ∈ tagU := by decide
theorem tag_U {t : List Nat} (h : t ∈ tagL) : t ∈ tagU := List.mem_append_left _ h
abbrev SpTongue (dn : Str → List PV → R PV) : Prop := ∀ l : List Nat, dn "tongue_of" [.str l] = .ok (.str (tongL l))
theorem b_tong {dn : Str → List PV → R PV} {wf : Nat} (l : List Nat) : runB dn wf 1 b_tongue_of [.str l] = .ok (.str (tongL l)) := by
  simp [runB, b_tongue_of, partL_cut, tongL]
  cases cutAt 45 l with
  | none => simp [ix_wt (xs := [PV.str l, PV.str [], PV.str []]) (i := 0) (p := .str l) rfl]
  | some ab => simp [ix_wt (xs := [PV.str ab.1, PV.str [45], PV.str ab.2]) (i := 0) (p := .str ab.1) rfl]
/-- the head of a split -/
def splitOk (t : List Nat) : Bool := decide ((45 : Nat) < 256 ∧ t.length ≤ 1000000 ∧ (∀ x ∈ TL.spl [45] 0 [] t, SOk x) ∧ (TL.spl [45] 0 [] t).length ≤ 16777216) && decide ((TL.spl [45] 0 [] t)[0]? = some (tongL t))
theorem split_U : ∀ t ∈ tagU, splitOk t = true := by decide +kernel
theorem split_at {t : List Nat} (h : t ∈ tagU) : ∃ xs, splitP t (.str [45]) = .ok (.lst xs) ∧ ixP (.lst xs) (.int 0) = .ok (.str (tongL t)) := by
  have h1 := split_U t h
  simp only [splitOk, Bool.and_eq_true, decide_eq_true_eq] at h1
  obtain ⟨⟨h1, h2, h3, h4⟩, h5⟩ := h1
  refine ⟨(TL.spl [45] 0 [] t).map .str, ?_, ?_⟩
  · show (if _ then _ else _) = _
    rw [if_pos ⟨h1, h2, h3, by have := line24; omega⟩]
  · refine ix_lst ?_
    rw [atI_nn (by decide)]
    show ((TL.spl [45] 0 [] t).map PV.str)[0]? = _
    rw [List.getElem?_map, h5]
    rfl
/-! ### links -/
def linkV (ls : List (List Nat × List Nat)) : List (List Nat × PV) := ls.map fun ab => (ab.1, .str ab.2)
def linksP (ls : List (List Nat × List Nat)) : PV := pairsS (linkV ls)
def lookL (ls : List (List Nat × List Nat)) (t : List Nat) : Option (List Nat) := (ls.find? fun ab => decide (ab.1 = t)).map (·.2)
structure LinksOk (ls : List (List Nat × List Nat)) : Prop where
  nd : (ls.map (·.1)).Nodup
  mem : ∀ ab ∈ ls, ab.1 ∈ tagU ∧ ab.2 ∈ tagU
theorem LinksOk.nd' {ls : List (List Nat × List Nat)} (h : LinksOk ls) : ((linkV ls).map (·.1)).Nodup := by
  unfold linkV
  rw [List.map_map]
  exact h.nd
theorem getD_link (t : List Nat) : ∀ ls : List (List Nat × List Nat), getD (linkV ls) t = (lookL ls t).map .str
  | [] => rfl
  | ab :: ls => by
    show getD ((ab.1, PV.str ab.2) :: linkV ls) t = _
    rw [getD_cons', getD_link t ls]
    unfold lookL
    rw [List.find?_cons]
    by_cases h : ab.1 = t <;> simp [h]
theorem look_mem {ls : List (List Nat × List Nat)} {t u : List Nat} (h : lookL ls t = some u) : (t, u) ∈ ls := by
  unfold lookL at h
  obtain ⟨ab, h1, h2⟩ := Option.map_eq_some_iff.mp h
  have := List.find?_some h1
  have e : ab.1 = t := by simpa using this
  have := List.mem_of_find?_eq_some h1
  rw [← e, ← h2]
  exact this
def nextM (ls : List (List Nat × List Nat)) (t : List Nat) : Option (List Nat) := match lookL ls t with
  | some u => some u
  | none => if tongL t = t then none else some (tongL t)
theorem next_U {ls : List (List Nat × List Nat)} (h : LinksOk ls) : ∀ t ∈ tagU, ∀ u, nextM ls t = some u → u ∈ tagU := fun t ht u e => by
  unfold nextM at e
  cases q : lookL ls t with
  | some w => rw [q] at e; cases e; exact (h.mem _ (look_mem q)).2
  | none =>
    rw [q] at e
    have e : (if tongL t = t then none else some (tongL t)) = some u := e
    split at e
    · cases e
    · cases e; exact tong_U t ht
def optS : Option (List Nat) → PV
  | none => .non
  | some l => .str l
abbrev SpNext (dn : Str → List PV → R PV) : Prop := ∀ (t : List Nat) (ls : List (List Nat × List Nat)), LinksOk ls → dn "next_tag" [.str t, linksP ls] = .ok (optS (nextM ls t))
theorem b_next {dn : Str → List PV → R PV} {wf : Nat} (hT : SpTongue dn) (t : List Nat) (ls : List (List Nat × List Nat)) (h : LinksOk ls) : runB dn wf 2 b_next_tag [.str t, linksP ls] = .ok (optS (nextM ls t)) := by
  have hd : dictP [linksP ls] = .ok (.dic (strD (linkV ls))) := dict_S h.nd'
  unfold nextM
  cases q : lookL ls t with
  | some u =>
    have e : getD (linkV ls) t = some (.str u) := by rw [getD_link, q]; rfl
    simp [runB, b_next_tag, hd, e, ix_dicS e, optS]
  | none =>
    have e : getD (linkV ls) t = none := by rw [getD_link, q]; rfl
    simp [runB, b_next_tag, hd, e, hT t]
    by_cases h : tongL t = t
    · simp [h, optS]
    · simp [h, optS]
/-! ### chains -/
theorem step_whl {dn : Str → List PV → R PV} {wf : Nat} {t : T} {b r : Ss} {ρ ρ' : Env'} (h : whlL (t.ev dn) (b.ev dn wf) wf ρ = .ok (.nx ρ')) : (Ss.cons (.whl t b) r).ev dn wf ρ = r.ev dn wf ρ' := step h
def chainW (ls : List (List Nat × List Nat)) (t : List Nat) : List (List Nat) := (walkM (nextM ls) 64 (some t) []).getD []
def chainM (ls : List (List Nat × List Nat)) (t : List Nat) (last : Option (List Nat)) : List (List Nat) := match last with
  | none => chainW ls t
  | some z => if z ∈ chainW ls t then chainW ls t else chainW ls t ++ [z]
theorem good1 {t : List Nat} (h : t ∈ tagU) : Good tagU (some t) [] := ⟨fun u e => by cases e; exact h, List.nodup_nil, fun _ h => by simp at h⟩
theorem chainW_ok {ls : List (List Nat × List Nat)} (h : LinksOk ls) {t : List Nat} (ht : t ∈ tagU) : walkM (nextM ls) 1000 (some t) [] = some (chainW ls t) ∧ (chainW ls t).Nodup ∧ (∀ x ∈ chainW ls t, x ∈ tagU) := by
  obtain ⟨g, e, h1, h2, _⟩ := walkM_ends (next_U h) 64 (good1 ht) (by decide) (by decide)
  have e2 : chainW ls t = g := by unfold chainW; rw [e]; rfl
  rw [e2]
  exact ⟨walkM_le _ e (by decide), h1, h2⟩
theorem chainW_wf {wf : Nat} (hw : 64 ≤ wf) {ls : List (List Nat × List Nat)} (h : LinksOk ls) {t : List Nat} (ht : t ∈ tagU) : walkM (nextM ls) wf (some t) [] = some (chainW ls t) := by
  obtain ⟨g, e, h1, h2, _⟩ := walkM_ends (next_U h) 64 (good1 ht) (by decide) (by decide)
  have e2 : chainW ls t = g := by unfold chainW; rw [e]; rfl
  rw [e2]
  exact walkM_le _ e hw
theorem chainW_len {ls : List (List Nat × List Nat)} (h : LinksOk ls) {t : List Nat} (ht : t ∈ tagU) : (chainW ls t).length ≤ 12 := nodup_len (chainW_ok h ht).2.1 (chainW_ok h ht).2.2
abbrev SpChain (f : Str) (dn : Str → List PV → R PV) : Prop := ∀ (t : List Nat) (ls : List (List Nat × List Nat)) (last : Option (List Nat)), t ∈ tagU → LinksOk ls → dn f [.str t, linksP ls, optS last] = .ok (.tup ((chainM ls t last).map .str))
theorem big_ge : (1000000 : Nat) ≤ big := by decide +kernel
theorem b_chain' {dn : Str → List PV → R PV} {wf : Nat} (hw : 64 ≤ wf) (hN : SpNext dn) (t : List Nat) (ls : List (List Nat × List Nat)) (last : Option (List Nat)) (ht : t ∈ tagU) (h : LinksOk ls) : runB dn wf 4 b_chain [.str t, linksP ls, optS last] = .ok (.tup ((chainM ls t last).map .str)) := by
  have e := chainW_wf hw h ht
  have hl := chainW_len h ht
  have := big_ge
  obtain ⟨ρ', t', e1, r⟩ := whl_walk (nxt := nextM ls) (next_U h) (c := (T.and (.cmp .IsNot (.v 0) (.c .non)) (.cmp .NotIn (.v 0) (.v 3))).ev dn) (body := (Ss.cons (.app 3 (.v 0)) (.cons (.set 0 (.call "next_tag" 2 (.cons (.v 0) (.cons (.v 1) .nil)))) .nil)).ev dn wf)
    (fun t f ρ => ρ = [some (optS t), some (linksP ls), some (optS last), some (.lst (f.map .str))])
    (fun f ρ e => by subst e; simp [optS]) (fun t f ρ _ e => by subst e; simp [optS])
    (fun t f ρ g hn e => by
      subst e
      have hl := nodup_len g.2.1 g.2.2
      have hl : f.length ≤ 12 := hl
      refine ⟨_, ?_, rfl⟩
      simp [optS, hN t ls h, show f.length < big by omega]) wf (good1 ht) (ρ := [some (.str t), some (linksP ls), some (optS last), some (.lst [])]) rfl e
  subst r
  simp only [runB, b_chain, entry_3, List.replicate]
  rw [step (ρ' := [some (.str t), some (linksP ls), some (optS last), some (.lst [])]) (by simp [isObjP])]
  rw [step_whl e1]
  unfold chainM
  cases last with
  | none => simp [optS]
  | some z =>
    by_cases hz : z ∈ chainW ls t
    · simp [optS, hz]
    · simp [optS, hz, show (chainW ls t).length < big by omega]
theorem linksP_eq (ls : List (List Nat × List Nat)) : linksP ls = .tup (ls.map fun ab => .tup [.str ab.1, .str ab.2]) := by
  unfold linksP pairsS linkV
  rw [List.map_map]
  rfl
theorem look_filter (ls : List (List Nat × List Nat)) (u : List Nat) : lookL ls u = ((ls.filter fun ab => ab.1 == u).head?).map (·.2) := by
  unfold lookL
  rw [List.head?_filter]
  have e : (fun ab : List Nat × List Nat => decide (ab.1 = u)) = fun ab => ab.1 == u := by funext ab; by_cases h : ab.1 = u <;> simp [h]
  rw [e]
theorem tong_dash (u : List Nat) : u.contains 45 = !decide (tongL u = u) := by
  unfold tongL
  cases h : cutAt 45 u with
  | none => have := cutAt_none h; simp [this]
  | some ab =>
    obtain ⟨a, b⟩ := ab
    obtain ⟨h1, h2⟩ := cutAt_some h
    have h3 : a ≠ u := fun e => by rw [h1] at e; have := congrArg List.length e; simp at this
    simp [h3]
    rw [h1]; simp
theorem b_law_chain {dn : Str → List PV → R PV} {wf : Nat} (hw : 64 ≤ wf) (t : List Nat) (ls : List (List Nat × List Nat)) (last : Option (List Nat)) (ht : t ∈ tagU) (h : LinksOk ls) : runB dn wf 8 b__law_chain [.str t, linksP ls, optS last] = .ok (.tup ((chainM ls t last).map .str)) := by
  have e := chainW_wf hw h ht
  have hl := chainW_len h ht
  have := big_ge
  obtain ⟨ρ', t', e1, o5, o6, o7, r⟩ := whl_walk (nxt := nextM ls) (next_U h) (c := (T.and (.cmp .IsNot (.v 4) (.c .non)) (.cmp .NotIn (.v 4) (.v 3))).ev dn) (body := ((b__law_chain.at 2).blk).ev dn wf)
    (fun u f ρ => ∃ o5 o6 o7, ρ = [some (.str t), some (linksP ls), some (optS last), some (.lst (f.map .str)), some (optS u), o5, o6, o7])
    (fun f ρ ⟨_, _, _, e⟩ => by subst e; simp [optS]) (fun t f ρ _ ⟨_, _, _, e⟩ => by subst e; simp [optS])
    (fun u f ρ g hn ⟨o5, o6, o7, e⟩ => by
      subst e
      have hl := nodup_len g.2.1 g.2.2
      have hl : f.length ≤ 12 := hl
      have hu := g.1 u rfl
      have hc : ∀ ρ : Env', ρ.length = 8 → ρ[4]? = some (some (.str u)) → compL (turnC [6, 7] (Tg.tp [6, 7]) (some ((T.cmp .Eq (.v 6) (.v 4)).ev dn)) ((E.v 7).ev dn) ρ) (ls.map fun ab => .tup [.str ab.1, .str ab.2]) = .ok ((ls.filter fun ab => ab.1 == u).map fun ab => .str ab.2) := fun ρ hl h4 => by
        match ρ, hl, h4 with
        | [a, b, c, d, e, f, g, i], _, h4 =>
          have h4 : e = some (.str u) := by simpa using h4
          subst h4
          refine comp_filterS fun ab _ => ?_
          by_cases q : ab.1 = u <;> simp [bindT, setP, q]
      have hk := look_filter ls u
      simp only [b__law_chain, Ss.at, S.blk]
      rw [step (ρ' := [some (.str t), some (linksP ls), some (optS last), some (.lst ((f ++ [u]).map .str)), some (optS (some u)), o5, o6, o7]) (by simp [optS, show f.length < big by omega])]
      rw [step (ρ' := [some (.str t), some (linksP ls), some (optS last), some (.lst ((f ++ [u]).map .str)), some (optS (some u)), some (.lst ((ls.filter fun ab => ab.1 == u).map fun ab => .str ab.2)), o6, o7]) (by simp [linksP_eq, optS]; rw [hc _ rfl rfl]; simp)]
      cases q : ls.filter fun ab => ab.1 == u with
      | cons ab r =>
        rw [q] at hk
        refine ⟨_, ?_, some (.lst ((ab :: r).map fun ab => .str ab.2)), o6, o7, rfl⟩
        simp [nextM, hk, optS]
        rw [ix_lst (p := .str ab.2) (by rw [atI_nn (by decide)]; rfl)]
        simp
      | nil =>
        rw [q] at hk
        obtain ⟨xs, s1, s2⟩ := split_at hu
        refine ⟨_, ?_, some (.lst []), o6, o7, rfl⟩
        simp [nextM, hk, optS, -List.contains_eq_mem, tong_dash u]
        by_cases q : tongL u = u
        · simp [q]
        · simp [q, s1, s2]) wf (good1 ht) (ρ := [some (.str t), some (linksP ls), some (optS last), some (.lst []), some (.str t), none, none, none]) ⟨_, _, _, rfl⟩ e
  subst r
  simp only [b__law_chain, Ss.at, S.blk] at e1
  simp only [runB, b__law_chain, entry_3, List.replicate]
  rw [step (ρ' := [some (.str t), some (linksP ls), some (optS last), some (.lst []), none, none, none, none]) (by simp [isObjP])]
  rw [step (ρ' := [some (.str t), some (linksP ls), some (optS last), some (.lst []), some (.str t), none, none, none]) (by simp)]
  rw [step_whl e1]
  unfold chainM
  cases last with
  | none => simp [optS]
  | some z =>
    by_cases hz : z ∈ chainW ls t
    · simp [optS, hz]
    · simp [optS, hz, show (chainW ls t).length < big by omega]

/-! ### drawn tags and links -/
def tagM (c : Int) : List Nat := (atI tagL (mixM c 9973 11)).getD []
theorem tagM_at (c : Int) : atI tagL (mixM c 9973 11) = some (tagM c) ∧ tagM c ∈ tagL := by
  obtain ⟨p, h1, h2⟩ := atI_some (xs := tagL) (mixM_nn c 9973 11 (by decide)) (mixM_lt c 9973 11 (by decide))
  unfold tagM
  rw [h1]
  exact ⟨rfl, h2⟩
theorem tagM_U (c : Int) : tagM c ∈ tagU := tag_U (tagM_at c).2
abbrev SpTagOf (dn : Str → List PV → R PV) : Prop := ∀ c : Int, dn "_law_tag" [.int c] = .ok (.str (tagM c))
theorem b_law_tag {dn : Str → List PV → R PV} {wf : Nat} (hM : SpMix dn) (hT : SpTags dn) (c : Int) : runB dn wf 1 b__law_tag [.int c] = .ok (.str (tagM c)) := by
  simp [runB, b__law_tag, hM, hT, tagsV_eq]
  rw [ix_tup (p := .str (tagM c)) (by rw [atI_map, (tagM_at c).1]; rfl)]
  rfl
/-- drawn keys, in a dict -/
def KeysIn (U : List (List Nat)) (ds : List (List Nat × PV)) : Prop := (ds.map (·.1)).Nodup ∧ ∀ kv ∈ ds, kv.1 ∈ U
theorem KeysIn.len {U : List (List Nat)} {ds : List (List Nat × PV)} (h : KeysIn U ds) : ds.length ≤ U.length := by
  have := nodup_len h.1 (u := U) fun x hx => by
    obtain ⟨kv, h1, rfl⟩ := List.mem_map.mp hx
    exact h.2 kv h1
  simpa using this
theorem KeysIn.put {U : List (List Nat)} {ds : List (List Nat × PV)} (h : KeysIn U ds) {k : List Nat} {v : PV} (hk : k ∈ U) : KeysIn U (putD ds k v) :=
  ⟨putD_nodup h.1, fun kv hkv => by
    rcases putD_mem hkv with h1 | rfl
    · exact h.2 kv h1
    · exact hk⟩
def lstr : PV → List Nat
  | .str l => l
  | _ => []
abbrev SpLinks (dn : Str → List PV → R PV) : Prop := ∀ c : Int, ∃ ls, LinksOk ls ∧ dn "_law_links" [.int c] = .ok (linksP ls)
theorem b_law_links {dn : Str → List PV → R PV} {wf : Nat} (hM : SpMix dn) (hT : SpTagOf dn) (c : Int) : ∃ ls, LinksOk ls ∧ runB dn wf 4 b__law_links [.int c] = .ok (linksP ls) := by
  have m1 := mixM_nn c 9949 5 (by decide)
  have m2 := mixM_lt c 9949 5 (by decide)
  obtain ⟨ρ', e1, ds, o, rfl, h1, h2⟩ := forL_all (tg := .nm 2) (body := ((b__law_links.at 1).blk).ev dn wf) (xs := (List.range (mixM c 9949 5).toNat).map fun i => .int (i : Nat)) (ρ := [some (.int c), some (.dic (strD [])), none, none])
    (fun ρ => ∃ ds o, ρ = [some (.int c), some (.dic (strD ds)), o, none] ∧ KeysIn tagL ds ∧ ∀ kv ∈ ds, ∃ t ∈ tagL, kv.2 = .str t)
    (fun x hx ρ ⟨ds, o, e, h1, h2⟩ => by
      subst e
      obtain ⟨i, _, rfl⟩ := List.mem_map.mp hx
      have hl := h1.len
      have hl : ds.length ≤ 11 := hl
      refine ⟨_, ?_, _, some (.int i), rfl, h1.put (tagM_at (c + 11 * i)).2 (v := .str (tagM (c + 13 * i + 1))), fun kv hkv => ?_⟩
      · simp [b__law_links, Ss.at, S.blk, mul_l, hT, fPutK, put_dicS (show ds.length < 1000000 by omega)]
      · rcases putD_mem hkv with h | rfl
        · exact h2 kv h
        · exact ⟨_, (tagM_at _).2, rfl⟩) ⟨[], none, rfl, ⟨by simp, by simp⟩, by simp⟩
  have hl := h1.len
  have hl : ds.length ≤ 11 := hl
  simp only [b__law_links, Ss.at, S.blk] at e1
  have hv : ∀ k ∈ ds.map (·.1), ∃ t ∈ tagL, getD ds k = some (.str t) := fun k hk => by
    obtain ⟨kv, g1, rfl⟩ := List.mem_map.mp hk
    obtain ⟨t, g2, g3⟩ := h2 kv g1
    exact ⟨t, g2, by rw [← g3]; exact getD_of h1.1 g1⟩
  refine ⟨(sortS (ds.map (·.1))).map fun k => (k, lstr ((getD ds k).getD .non)), ⟨?_, ?_⟩, ?_⟩
  · rw [List.map_map]
    exact (List.map_id' _).symm ▸ sortS_nodup h1.1
  · intro ab hab
    obtain ⟨k, hk, rfl⟩ := List.mem_map.mp hab
    rw [sortS_mem] at hk
    obtain ⟨t, g2, g3⟩ := hv k hk
    obtain ⟨kv, g4, rfl⟩ := List.mem_map.mp hk
    refine ⟨tag_U (h1.2 kv g4), ?_⟩
    show lstr ((getD ds kv.1).getD .non) ∈ tagU
    rw [g3]
    exact tag_U g2
  · simp only [runB, b__law_links, entry_1, List.replicate]
    rw [step (ρ' := [some (.int c), some (.dic (strD [])), none, none]) (by simp [isObjP])]
    rw [step (ρ' := [some (.int c), some (.dic (strD ds)), o, none]) (by simp [hM, rng0 m1 (show mixM c 9949 5 ≤ 1000000 by omega)]; exact e1)]
    simp [sorted_dicS (show ds.length < 64 by omega), linksP_eq]
    rw [comp_mapS (g := fun k => .tup [.str k, .str (lstr ((getD ds k).getD .non))])]
    · simp
    · intro k hk
      rw [sortS_mem] at hk
      obtain ⟨t, g2, g3⟩ := hv k hk
      simp [g3, ix_dicS g3, lstr]
end M
/-! P3: the same. -/
namespace M
open PySem L2
mutual
theorem eqP_refl : ∀ p : PV, isDat p = true → eqP p p = true
  | .non, _ => rfl
  | .bl b, _ => by simp [eqP]
  | .int i, _ => by simp [eqP]
  | .str l, _ => by simp [eqP]
  | .tup xs, h => by rw [eqP]; exact eqPs_refl xs (by simpa [isDat] using h)
  | .wt xs, h => by rw [eqP]; exact eqPs_refl xs (by simpa [isDat] using h)
  | .lst xs, h => by rw [eqP]; exact eqPs_refl xs (by simpa [isDat] using h)
  | .dic _, h => by simp [isDat] at h
  | .dct _, h => by simp [isDat] at h
  | .scr _, h => by simp [isDat] at h
  | .fn _ _, h => by simp [isDat] at h
theorem eqPs_refl : ∀ ps : List PV, isDats ps = true → eqPs ps ps = true
  | [], _ => rfl
  | p :: ps, h => by
    simp only [isDats, Bool.and_eq_true] at h
    rw [eqPs, eqP_refl p h.1, eqPs_refl ps h.2]
    rfl
end
@[simp] theorem isB_bn (b : Bool) : isB (.bl b) .non = .ok false := rfl
@[simp] theorem isB_ln (b : List PV) : isB (.lst b) .non = .ok false := rfl
theorem eqR_self {p : PV} (h : isDat p = true) (hd : dep p ≤ 64) : eqR p p = .ok (.bl true) := by
  rw [eqR_dat (by simp [okEq, h, hd]), eqP_refl p h]
theorem neR_self {p : PV} (h : isDat p = true) (hd : dep p ≤ 64) : neR p p = .ok (.bl false) := by
  rw [neR_dat (by simp [okEq, h, hd]), eqP_refl p h]
  rfl
mutual
def sameOk : PV → Bool
  | .tup xs => sameOks xs
  | .non => true
  | .bl _ => true
  | .int _ => true
  | .str _ => true
  | _ => false
def sameOks : List PV → Bool
  | [] => true
  | p :: ps => sameOk p && sameOks ps
end
mutual
theorem same_dat : ∀ p : PV, sameOk p = true → isDat p = true
  | .tup xs, h => by rw [isDat]; exact same_dats xs (by simpa [sameOk] using h)
  | .non, _ => rfl
  | .bl _, _ => rfl
  | .int _, _ => rfl
  | .str _, _ => rfl
  | .wt _, h => by simp [sameOk] at h
  | .lst _, h => by simp [sameOk] at h
  | .dic _, h => by simp [sameOk] at h
  | .dct _, h => by simp [sameOk] at h
  | .scr _, h => by simp [sameOk] at h
  | .fn _ _, h => by simp [sameOk] at h
theorem same_dats : ∀ ps : List PV, sameOks ps = true → isDats ps = true
  | [], _ => by simp [isDats]
  | p :: ps, h => by
    simp only [sameOks, Bool.and_eq_true] at h
    simp [isDats, same_dat p h.1, same_dats ps h.2]
end
theorem sameOks_mem {ps : List PV} (h : sameOks ps = true) {p : PV} (hp : p ∈ ps) : sameOk p = true := by
  induction ps with
  | nil => simp at hp
  | cons q ps ih =>
    simp only [sameOks, Bool.and_eq_true] at h
    rcases List.mem_cons.mp hp with rfl | hp
    · exact h.1
    · exact ih h.2 hp
theorem deps_mem {ps : List PV} {p : PV} (hp : p ∈ ps) : dep p ≤ deps ps := by
  induction ps with
  | nil => simp at hp
  | cons q ps ih =>
    rw [deps]
    rcases List.mem_cons.mp hp with rfl | hp
    · omega
    · have := ih hp; omega
theorem zip_self : ∀ xs : List PV, zipP xs xs = xs.map fun x => .wt [x, x]
  | [] => rfl
  | x :: xs => by
    show PV.wt [x, x] :: zipP xs xs = _
    rw [zip_self xs]
    rfl
abbrev SameAt (dn : Str → List PV → R PV) (d : Nat) : Prop := ∀ p : PV, sameOk p = true → dep p ≤ d → dn "_law_same" [p, p] = .ok (.bl true)
theorem b_same {dn : Str → List PV → R PV} {wf : Nat} (p : PV) (hp : sameOk p = true) (hd : ∀ q : PV, sameOk q = true → dep q < dep p → dn "_law_same" [q, q] = .ok (.bl true)) : runB dn wf 4 b__law_same [p, p] = .ok (.bl true) := by
  cases p with
  | tup xs =>
    have h : sameOks xs = true := by simpa [sameOk] using hp
    simp [runB, b__law_same, isT, zip_self]
    rw [comp_mapS (g := fun _ => .bl true)]
    · have := all_map (fun _ : PV => true) xs
      show (allP [.lst (xs.map fun _ => .bl true)] >>= fun a => R.ok a) = _
      rw [this]
      simp
    · intro x hx
      have := hd x (sameOks_mem h hx) (by rw [dep]; have := deps_mem hx; omega)
      simp [bindT, setP, this]
  | non => simp [runB, b__law_same, isT]
  | bl b => simp [runB, b__law_same, isT]
  | int i => simp [runB, b__law_same, isT, fIsAny, isAny]
  | str l => simp [runB, b__law_same, isT, fIsAny, isAny]
  | _ => simp [sameOk] at hp
theorem strs_same : ∀ l : List (List Nat), sameOks (l.map .str) = true
  | [] => by simp [sameOks]
  | x :: l => by simp [sameOks, sameOk, strs_same l]
theorem strsT_same (l : List (List Nat)) : sameOk (.tup (l.map .str)) = true := by rw [sameOk]; exact strs_same l
theorem strsT_dep (l : List (List Nat)) : dep (.tup (l.map .str)) = 1 := by rw [dep, strs_dep]
end M
/-! P4: the nearest tag. -/
namespace M
open PySem L2
/-- a loop that ends at the first that is found -/
theorem forN_find {α : Type} {i : Nat} {body : Env' → R Fl} (P : Env' → Prop) {e : α → PV} {g : α → Option PV} : ∀ {xs : List α} {ρ : Env'}, (∀ x ∈ xs, ∀ ρ, P ρ → match g x with
    | some p => body (ρ.set i (some (e x))) = .ok (.rt p)
    | none => ∃ ρ2, body (ρ.set i (some (e x))) = .ok (.nx ρ2) ∧ P ρ2) → P ρ → match xs.findSome? g with
    | some p => forL (.nm i) body (xs.map e) ρ = .ok (.rt p)
    | none => ∃ ρ', forL (.nm i) body (xs.map e) ρ = .ok (.nx ρ') ∧ P ρ'
  | [], ρ, _, h0 => ⟨ρ, rfl, h0⟩
  | x :: xs, ρ, h, h0 => by
    have hx := h x List.mem_cons_self ρ h0
    have ih := fun ρ' h' => forN_find P (xs := xs) (ρ := ρ') (fun y hy => h y (List.mem_cons_of_mem _ hy)) h'
    rw [List.findSome?_cons]
    cases q : g x with
    | some p =>
      rw [q] at hx
      show thenS (body (ρ.set i (some (e x)))) _ = _
      rw [hx]
      rfl
    | none =>
      rw [q] at hx
      obtain ⟨ρ2, e2, h2⟩ := hx
      have := ih ρ2 h2
      show match xs.findSome? g with
        | some p => thenS (body (ρ.set i (some (e x)))) (forL (.nm i) body (xs.map e)) = .ok (.rt p)
        | none => ∃ ρ', thenS (body (ρ.set i (some (e x)))) (forL (.nm i) body (xs.map e)) = .ok (.nx ρ') ∧ P ρ'
      rw [e2]
      exact this
def nearT (ls : List (List Nat × List Nat)) (there : List (List Nat)) (t : List Nat) : Option (List Nat) := ((chainW ls t).filter there.contains ++ there.filter fun o => tongL o == tongL t).head?
def nearM (ls : List (List Nat × List Nat)) (there wished : List (List Nat)) : Option (List Nat) := wished.findSome? (nearT ls there)
theorem near_some (ls : List (List Nat × List Nat)) (there : List (List Nat)) : ∀ wished : List (List Nat), wished.findSome? (fun t => (nearT ls there t).map PV.str) = (nearM ls there wished).map .str
  | [] => rfl
  | t :: w => by
    unfold nearM
    rw [List.findSome?_cons, List.findSome?_cons]
    cases nearT ls there t with
    | some x => rfl
    | none => exact near_some ls there w
theorem optS_of (o : Option (List Nat)) : optS o = match o.map PV.str with
    | some p => p
    | none => .non := by cases o <;> rfl
abbrev SpNear (f : Str) (dn : Str → List PV → R PV) : Prop := ∀ (wished there : List (List Nat)) (ls : List (List Nat × List Nat)), (∀ t ∈ wished, t ∈ tagU) → (∀ t ∈ there, t ∈ tagU) → there.length ≤ 1000 → LinksOk ls → dn f [.tup (wished.map .str), .tup (there.map .str), linksP ls] = .ok (optS (nearM ls there wished))
theorem b_near {dn : Str → List PV → R PV} {wf : Nat} (hT : SpTongue dn) (hC : SpChain "chain" dn) (wished there : List (List Nat)) (ls : List (List Nat × List Nat)) (h1 : ∀ t ∈ wished, t ∈ tagU) (h2 : ∀ t ∈ there, t ∈ tagU) (h3 : there.length ≤ 1000) (hl : LinksOk ls) :
    runB dn wf 6 b_nearest [.tup (wished.map .str), .tup (there.map .str), linksP ls] = .ok (optS (nearM ls there wished)) := by
  have hb := big_ge
  have key := forN_find (i := 3) (body := ((b_nearest.at 0).blk).ev dn wf) (e := PV.str) (g := fun t => (nearT ls there t).map PV.str) (fun ρ => ∃ o3 o4 o5, ρ = [some (.tup (wished.map .str)), some (.tup (there.map .str)), some (linksP ls), o3, o4, o5]) (xs := wished) (ρ := [some (.tup (wished.map .str)), some (.tup (there.map .str)), some (linksP ls), none, none, none])
    (fun t ht ρ ⟨o3, o4, o5, e⟩ => by
      subst e
      have c1 : ∀ (a : Option PV) , compL (turnC [5] (Tg.nm 5) (some ((T.cmp .In (.v 5) (.v 1)).ev dn)) ((E.v 5).ev dn) [some (.tup (wished.map .str)), some (.tup (there.map .str)), some (linksP ls), some (.str t), o4, a]) ((chainW ls t).map .str) = .ok (((chainW ls t).filter there.contains).map .str) := fun a => by
        refine comp_filterS fun o _ => ?_
        by_cases q : o ∈ there <;> simp [q]
      have c2 : ∀ (a b : Option PV) , compL (turnC [5] (Tg.nm 5) (some ((T.cmp .Eq (.call "tongue_of" 1 (.cons (.v 5) .nil)) (.call "tongue_of" 1 (.cons (.v 3) .nil))).ev dn)) ((E.v 5).ev dn) [some (.tup (wished.map .str)), some (.tup (there.map .str)), some (linksP ls), some (.str t), a, b]) (there.map .str) = .ok ((there.filter fun o => tongL o == tongL t).map .str) := fun a b => by
        refine comp_filterS fun o _ => ?_
        by_cases q : tongL o = tongL t <;> simp [q, hT]
      have e1 := hC t ls none (h1 t ht) hl
      have l1 := chainW_len hl (h1 t ht)
      have l2 := List.length_filter_le there.contains (chainW ls t)
      have l3 := List.length_filter_le (fun o => tongL o == tongL t) there
      have run : ((b_nearest.at 0).blk).ev dn wf [some (.tup (wished.map .str)), some (.tup (there.map .str)), some (linksP ls), some (.str t), o4, o5] = ((b_nearest.at 0).blk.from 2).ev dn wf [some (.tup (wished.map .str)), some (.tup (there.map .str)), some (linksP ls), some (.str t), some (.lst (((chainW ls t).filter there.contains ++ there.filter fun o => tongL o == tongL t).map .str)), o5] := by
        simp only [b_nearest, Ss.at, S.blk, Ss.from]
        rw [step (ρ' := [some (.tup (wished.map .str)), some (.tup (there.map .str)), some (linksP ls), some (.str t), some (.lst (((chainW ls t).filter there.contains).map .str)), o5]) (by
          simp [optS] at e1
          simp [e1, chainM]
          rw [c1]
          simp [isObjP])]
        rw [step (ρ' := [some (.tup (wished.map .str)), some (.tup (there.map .str)), some (linksP ls), some (.str t), some (.lst (((chainW ls t).filter there.contains ++ there.filter fun o => tongL o == tongL t).map .str)), o5]) (by
          simp
          rw [c2]
          simp
          omega)]
      cases q : nearT ls there t with
      | some x =>
        unfold nearT at q
        obtain ⟨r, hr⟩ := List.head?_eq_some_iff.mp q
        show ((b_nearest.at 0).blk).ev dn wf [some (.tup (wished.map .str)), some (.tup (there.map .str)), some (linksP ls), some (.str t), o4, o5] = _
        rw [run, hr]
        simp only [b_nearest, Ss.at, S.blk, Ss.from]
        simp [ix_lst (xs := PV.str x :: r.map .str) (i := 0) (p := .str x) (by rw [atI_nn (by decide)]; rfl)]
      | none =>
        unfold nearT at q
        have hr := List.head?_eq_none_iff.mp q
        refine ⟨_, ?_, some (.str t), some (.lst []), o5, rfl⟩
        show ((b_nearest.at 0).blk).ev dn wf [some (.tup (wished.map .str)), some (.tup (there.map .str)), some (linksP ls), some (.str t), o4, o5] = _
        rw [run, hr]
        simp only [b_nearest, Ss.at, S.blk, Ss.from]
        simp) ⟨_, _, _, rfl⟩
  rw [near_some] at key
  simp only [b_nearest, Ss.at, S.blk] at key
  simp only [runB, b_nearest, entry_3, List.replicate]
  cases q : nearM ls there wished with
  | some x =>
    rw [q] at key
    have key : forL _ _ _ _ = _ := key
    simp [optS]
    rw [key]
    rfl
  | none =>
    rw [q] at key
    obtain ⟨ρ', e, _⟩ := key
    simp [optS]
    rw [e]
    simp

theorem head_find {α : Type} (a b : List α) (p q : α → Bool) : (a.filter p ++ b.filter q).head? = match a.find? p with
    | some x => some x
    | none => b.find? q := by
  rw [List.head?_append, List.head?_filter, List.head?_filter]
  cases a.find? p <;> rfl
theorem find_some {α β : Type} (p : α → Bool) (f : α → β) : ∀ l : List α, l.findSome? (fun x => if p x then some (f x) else none) = (l.find? p).map f
  | [] => rfl
  | x :: l => by
    rw [List.findSome?_cons, List.find?_cons]
    cases h : p x with
    | true => rfl
    | false => simp [find_some p f l]
theorem b_law_near {dn : Str → List PV → R PV} {wf : Nat} (hC : SpChain "_law_chain" dn) (wished there : List (List Nat)) (ls : List (List Nat × List Nat)) (h1 : ∀ t ∈ wished, t ∈ tagU) (h2 : ∀ t ∈ there, t ∈ tagU) (h3 : there.length ≤ 1000) (hl : LinksOk ls) :
    runB dn wf 5 b__law_nearest [.tup (wished.map .str), .tup (there.map .str), linksP ls] = .ok (optS (nearM ls there wished)) := by
  have key := forN_find (i := 3) (body := ((b__law_nearest.at 0).blk).ev dn wf) (e := PV.str) (g := fun t => (nearT ls there t).map PV.str) (fun ρ => ∃ o3 o4, ρ = [some (.tup (wished.map .str)), some (.tup (there.map .str)), some (linksP ls), o3, o4]) (xs := wished) (ρ := [some (.tup (wished.map .str)), some (.tup (there.map .str)), some (linksP ls), none, none])
    (fun t ht ρ ⟨o3, o4, e⟩ => by
      subst e
      have e1 := hC t ls none (h1 t ht) hl
      simp only [optS, chainM] at e1
      have k1 := forN_find (i := 4) (body := ((((b__law_nearest.at 0).blk).at 0).blk).ev dn wf) (e := PV.str) (g := fun o => if there.contains o then some (PV.str o) else none) (fun ρ => ∃ o4, ρ = [some (.tup (wished.map .str)), some (.tup (there.map .str)), some (linksP ls), some (.str t), o4]) (xs := chainW ls t) (ρ := [some (.tup (wished.map .str)), some (.tup (there.map .str)), some (linksP ls), some (.str t), o4])
        (fun o ho ρ ⟨o4, e⟩ => by
          subst e
          simp only [b__law_nearest, Ss.at, S.blk]
          by_cases q : o ∈ there
          · simp [q]
          · simp [q]) ⟨_, rfl⟩
      have k2 := fun o4 => forN_find (i := 4) (body := ((((b__law_nearest.at 0).blk).at 1).blk).ev dn wf) (e := PV.str) (g := fun o => if tongL o == tongL t then some (PV.str o) else none) (fun ρ => ∃ o4, ρ = [some (.tup (wished.map .str)), some (.tup (there.map .str)), some (linksP ls), some (.str t), o4]) (xs := there) (ρ := [some (.tup (wished.map .str)), some (.tup (there.map .str)), some (linksP ls), some (.str t), o4])
        (fun o ho ρ ⟨o4, e⟩ => by
          subst e
          obtain ⟨xs, s1, s2⟩ := split_at (h1 t ht)
          obtain ⟨ys, s3, s4⟩ := split_at (h2 o ho)
          simp only [b__law_nearest, Ss.at, S.blk]
          by_cases q : tongL o = tongL t
          · simp [q, s1, s2, s3, s4]
          · simp [q, s1, s2, s3, s4]) ⟨o4, rfl⟩
      rw [find_some] at k1
      simp only [find_some] at k2
      have nt : nearT ls there t = match (chainW ls t).find? there.contains with
        | some x => some x
        | none => there.find? fun o => tongL o == tongL t := by unfold nearT; rw [head_find]; cases (chainW ls t).find? there.contains <;> rfl
      have b0 : ((b__law_nearest.at 0).blk).ev dn wf [some (.tup (wished.map .str)), some (.tup (there.map .str)), some (linksP ls), some (.str t), o4] = thenS (forL (.nm 4) (((((b__law_nearest.at 0).blk).at 0).blk).ev dn wf) ((chainW ls t).map .str) [some (.tup (wished.map .str)), some (.tup (there.map .str)), some (linksP ls), some (.str t), o4]) ((((b__law_nearest.at 0).blk).from 1).ev dn wf) := by
        simp only [b__law_nearest, Ss.at, S.blk, Ss.from]
        rw [evb_cons, evs_loop]
        simp [e1]
      have b1 : ∀ o4, (((b__law_nearest.at 0).blk).from 1).ev dn wf [some (.tup (wished.map .str)), some (.tup (there.map .str)), some (linksP ls), some (.str t), o4] = thenS (forL (.nm 4) (((((b__law_nearest.at 0).blk).at 1).blk).ev dn wf) (there.map .str) [some (.tup (wished.map .str)), some (.tup (there.map .str)), some (linksP ls), some (.str t), o4]) (Ss.nil.ev dn wf) := fun o4 => by
        simp only [b__law_nearest, Ss.at, S.blk, Ss.from]
        rw [evb_cons, evs_loop]
        simp
      have b0 : ((b__law_nearest.at 0).blk).ev dn wf ([some (.tup (wished.map .str)), some (.tup (there.map .str)), some (linksP ls), o3, o4].set 3 (some (.str t))) = _ := b0
      rw [b0]
      clear b0
      cases q : (chainW ls t).find? there.contains with
      | some x =>
        rw [q] at k1 nt
        have k1 : forL _ _ _ _ = _ := k1
        have nt : nearT ls there t = some x := nt
        rw [nt, k1]
        rfl
      | none =>
        rw [q] at k1 nt
        obtain ⟨ρ1, k1, o4', rfl⟩ := k1
        have nt : nearT ls there t = there.find? fun o => tongL o == tongL t := nt
        rw [nt, k1, thenS_nx, b1]
        have k2 := k2 o4'
        cases q2 : there.find? (fun o => tongL o == tongL t) with
        | some x =>
          rw [q2] at k2
          have k2 : forL _ _ _ _ = _ := k2
          rw [k2]
          rfl
        | none =>
          rw [q2] at k2
          obtain ⟨ρ2, k2, o4'', rfl⟩ := k2
          rw [k2]
          exact ⟨_, rfl, _, _, rfl⟩) ⟨_, _, rfl⟩
  rw [near_some] at key
  simp only [b__law_nearest, Ss.at, S.blk] at key
  simp only [runB, b__law_nearest, entry_3, List.replicate]
  cases q : nearM ls there wished with
  | some x =>
    rw [q] at key
    have key : forL _ _ _ _ = _ := key
    simp [optS]
    rw [key]
    rfl
  | none =>
    rw [q] at key
    obtain ⟨ρ', e, _⟩ := key
    simp [optS]
    rw [e]
    simp
/-! ### drawn tags -/
structure TagsOk (ts : List (List Nat)) : Prop where
  nd : ts.Nodup
  mem : ∀ t ∈ ts, t ∈ tagL
  srt : ts.Pairwise fun a b => leS a b = true
theorem TagsOk.len {ts : List (List Nat)} (h : TagsOk ts) : ts.length ≤ 11 := nodup_len h.nd h.mem
theorem TagsOk.memU {ts : List (List Nat)} (h : TagsOk ts) : ∀ t ∈ ts, t ∈ tagU := fun t ht => tag_U (h.mem t ht)
abbrev SpSome (dn : Str → List PV → R PV) : Prop := ∀ c m : Int, 0 ≤ m → m ≤ 1000 → ∃ ts, TagsOk ts ∧ dn "_law_some_tags" [.int c, .int m] = .ok (.tup (ts.map .str))
theorem b_some {dn : Str → List PV → R PV} {wf : Nat} (hM : SpMix dn) (hT : SpTagOf dn) (c m : Int) (h0 : 0 ≤ m) (hm : m ≤ 1000) : ∃ ts, TagsOk ts ∧ runB dn wf 4 b__law_some_tags [.int c, .int m] = .ok (.tup (ts.map .str)) := by
  have m1 := mixM_nn c 9967 (m + 1) (by omega)
  have m2 := mixM_lt c 9967 (m + 1) (by omega)
  obtain ⟨ρ', e1, ds, o, rfl, h1⟩ := forN_all (i := 3) (body := ((b__law_some_tags.at 1).blk).ev dn wf) (xs := (List.range (mixM c 9967 (m + 1)).toNat).map fun i => .int (i : Nat)) (ρ := [some (.int c), some (.int m), some (.dic (strD [])), none])
    (fun ρ => ∃ ds o, ρ = [some (.int c), some (.int m), some (.dic (strD ds)), o] ∧ KeysIn tagL ds)
    (fun x hx ρ ⟨ds, o, e, h1⟩ => by
      subst e
      obtain ⟨i, _, rfl⟩ := List.mem_map.mp hx
      have hl := h1.len
      have hl : ds.length ≤ 11 := hl
      refine ⟨_, ?_, _, some (.int i), rfl, h1.put (tagM_at (c + 7 * i)).2 (v := .bl true)⟩
      simp [b__law_some_tags, Ss.at, S.blk, mul_l, hT, fPutK, put_dicS (show ds.length < 1000000 by omega)]) ⟨[], none, rfl, ⟨by simp, by simp⟩⟩
  have hl := h1.len
  have hl : ds.length ≤ 11 := hl
  simp only [b__law_some_tags, Ss.at, S.blk] at e1
  refine ⟨sortS (ds.map (·.1)), ⟨sortS_nodup h1.1, fun t ht => ?_, isort_pw leS_tr leS_to _⟩, ?_⟩
  · rw [sortS_mem] at ht
    obtain ⟨kv, g1, rfl⟩ := List.mem_map.mp ht
    exact h1.2 kv g1
  · simp only [runB, b__law_some_tags, entry_2, List.replicate]
    rw [step (ρ' := [some (.int c), some (.int m), some (.dic (strD [])), none]) (by simp [isObjP])]
    rw [step (ρ' := [some (.int c), some (.int m), some (.dic (strD ds)), o]) (by simp [hM, show 0 < m + 1 by omega, rng0 m1 (show mixM c 9967 (m + 1) ≤ 1000000 by omega)]; exact e1)]
    simp [sorted_dicS (show ds.length < 64 by omega)]
end M
/-! P5: rules, categories. -/
namespace M
open PySem L2
theorem forT_find {α : Type} {tg : Tg} {body : Env' → R Fl} (P : Env' → Prop) {e : α → PV} {g : α → Option PV} : ∀ {xs : List α} {ρ : Env'}, (∀ x ∈ xs, ∀ ρ, P ρ → match g x with
    | some r => (bindT tg (e x) ρ >>= body) = .ok (.rt r)
    | none => ∃ ρ2, (bindT tg (e x) ρ >>= body) = .ok (.nx ρ2) ∧ P ρ2) → P ρ → match xs.findSome? g with
    | some r => forL tg body (xs.map e) ρ = .ok (.rt r)
    | none => ∃ ρ', forL tg body (xs.map e) ρ = .ok (.nx ρ') ∧ P ρ'
  | [], ρ, _, h0 => ⟨ρ, rfl, h0⟩
  | x :: xs, ρ, h, h0 => by
    have h1 := h x List.mem_cons_self ρ h0
    rw [List.findSome?_cons, List.map_cons]
    cases q : g x with
    | some r =>
      rw [q] at h1
      obtain ⟨ρ1, e1, e2⟩ := R.bind_eq_ok h1
      rw [forL_cons, e1]
      show thenS (body ρ1) _ = _
      rw [e2]
      rfl
    | none =>
      rw [q] at h1
      obtain ⟨ρ2, e1, p2⟩ := h1
      obtain ⟨ρ1, e1, e2⟩ := R.bind_eq_ok e1
      have ih := forT_find P (xs := xs) (fun y hy => h y (List.mem_cons_of_mem _ hy)) p2
      have e3 : forL tg body (e x :: xs.map e) ρ = forL tg body (xs.map e) ρ2 := by
        rw [forL_cons, e1]
        show thenS (body ρ1) _ = _
        rw [e2]
        rfl
      rw [e3]
      exact ih
/-- a step that ends all -/
theorem stepR {dn : Str → List PV → R PV} {wf : Nat} {s : S} {r : Ss} {ρ : Env'} {p : PV} (h : s.ev dn wf ρ = .ok (.rt p)) : (Ss.cons s r).ev dn wf ρ = .ok (.rt p) := by rw [evb_cons, h]; rfl
structure Tst where
  rest : Int
  low : Int
  high : Int
  isIn : Bool
def Tst.pv (t : Tst) : PV := .tup [.int t.rest, .int t.low, .int t.high, .bl t.isIn]
abbrev Rl := List Nat × List (List Tst)
def choiceP (c : List Tst) : PV := .tup (c.map Tst.pv)
def ruleP (r : Rl) : PV := .tup [.str r.1, .tup (r.2.map choiceP)]
def rulesP (rs : List Rl) : PV := .tup (rs.map ruleP)
def absM (n : Int) : Int := if n < 0 then -n else n
def restM (r n : Int) : Int := if 0 < r then n % r else n
def holdsM (t : Tst) (n : Int) : Bool := (decide (t.low ≤ restM t.rest (absM n)) && decide (restM t.rest (absM n) ≤ t.high)) == t.isIn
def othS : List Nat := [111, 116, 104, 101, 114]
def catM (rs : List Rl) (n : Int) : List Nat := ((rs.find? fun r => r.2.any fun c => c.all fun t => holdsM t n).map (·.1)).getD othS
abbrev SpHolds (dn : Str → List PV → R PV) : Prop := ∀ (t : Tst) (n : Int), dn "holds" [t.pv, .int n] = .ok (.bl (holdsM t n))
theorem b_holds' {dn : Str → List PV → R PV} {wf : Nat} (t : Tst) (n : Int) : runB dn wf 6 b_holds [t.pv, .int n] = .ok (.bl (holdsM t n)) := by
  obtain ⟨r, l, h, b⟩ := t
  by_cases hr : 0 < r
  · simp [runB, b_holds, Tst.pv, bindT, setP, hr, mod_pos, holdsM, restM, absM]
  · simp [runB, b_holds, Tst.pv, bindT, setP, hr, holdsM, restM, absM]
abbrev SpCat (f : Str) (dn : Str → List PV → R PV) : Prop := ∀ (rs : List Rl) (n : Int), (∀ r ∈ rs, ∀ c ∈ r.2, ∀ t ∈ c, 0 ≤ t.rest ∧ t.rest ≤ 1000) → dn f [rulesP rs, .int n] = .ok (.str (catM rs n))
theorem cat_some (rs : List Rl) (n : Int) : catM rs n = match rs.findSome? fun r => if (r.2.any fun c => c.all fun t => holdsM t n) = true then some (PV.str r.1) else none with
    | some p => lstr p
    | none => othS := by
  unfold catM
  rw [find_some (fun r : Rl => r.2.any fun c => c.all fun t => holdsM t n) (fun r : Rl => PV.str r.1)]
  cases rs.find? fun r : Rl => r.2.any fun c => c.all fun t => holdsM t n <;> rfl
theorem b_category {dn : Str → List PV → R PV} {wf : Nat} (hH : SpHolds dn) (rs : List Rl) (n : Int) : runB dn wf 6 b_category_of [rulesP rs, .int n] = .ok (.str (catM rs n)) := by
  have hx : ∀ (c : List Tst) (ρ : Env'), ρ.length = 6 → ρ[1]? = some (some (.int n)) → compL (turnC [5] (Tg.nm 5) none ((E.call "holds" 2 (.cons (.v 5) (.cons (.v 1) .nil))).ev dn) ρ) (c.map Tst.pv) = .ok (c.map fun t => .bl (holdsM t n)) := fun c ρ hl h1 => by
    match ρ, hl, h1 with
    | [a, b, c, d, e, f], _, h1 =>
      have h1 : b = some (.int n) := by simpa using h1
      subst h1
      exact comp_mapS fun t _ => by simp [hH]
  have hy : ∀ (cs : List (List Tst)) (ρ : Env'), ρ.length = 6 → ρ[1]? = some (some (.int n)) → compL (turnC [4] (Tg.nm 4) none ((E.pr .all (.cons (.lc [5] (.nm 5) (.of (.v 4)) .none (.call "holds" 2 (.cons (.v 5) (.cons (.v 1) .nil)))) .nil)).ev dn) ρ) (cs.map choiceP) = .ok (cs.map fun c => .bl (c.all fun t => holdsM t n)) := fun cs ρ hl h1 => by
    match ρ, hl, h1 with
    | [a, b, c, d, e, f], _, h1 =>
      have h1 : b = some (.int n) := by simpa using h1
      subst h1
      refine comp_mapS fun c _ => ?_
      simp [choiceP]
      rw [hx c _ rfl rfl]
      simp
  have F := forT_find (tg := .tp [2, 3]) (body := ((b_category_of.at 0).blk).ev dn wf) (xs := rs) (e := ruleP) (g := fun r => if (r.2.any fun c => c.all fun t => holdsM t n) = true then some (PV.str r.1) else none) (ρ := [some (rulesP rs), some (.int n), none, none, none, none])
    (fun ρ => ∃ o2 o3 o4 o5, ρ = [some (rulesP rs), some (.int n), o2, o3, o4, o5])
    (fun r _ ρ ⟨o2, o3, o4, o5, e⟩ => by
      subst e
      simp only [b_category_of, Ss.at, S.blk]
      by_cases h : (r.2.any fun c => c.all fun t => holdsM t n) = true
      · rw [if_pos h]
        simp [ruleP, bindT, setP]
        rw [hy r.2 _ rfl rfl]
        simp only [R.ok_bind, R.nox_ok, any_map, h]
        simp [h]
      · rw [if_neg h]
        have h : (r.2.any fun c => c.all fun t => holdsM t n) = false := by simpa using h
        refine ⟨[some (rulesP rs), some (.int n), some (.str r.1), some (.tup (r.2.map choiceP)), o4, o5], ?_, _, _, _, _, rfl⟩
        simp [ruleP, bindT, setP]
        rw [hy r.2 _ rfl rfl]
        simp only [R.ok_bind, R.nox_ok, any_map, h]
        simp [h]) ⟨_, _, _, _, rfl⟩
  rw [cat_some]
  simp only [b_category_of, Ss.at, S.blk] at F
  simp only [runB, b_category_of, entry_2, List.replicate]
  cases q : rs.findSome? fun r => if (r.2.any fun c => c.all fun t => holdsM t n) = true then some (PV.str r.1) else none with
  | some p =>
    rw [q] at F
    obtain ⟨r, _, h2⟩ := List.exists_of_findSome?_eq_some q
    have hp : ∃ l, p = .str l := by
      split at h2
      · exact ⟨_, (Option.some.inj h2).symm⟩
      · cases h2
    obtain ⟨l, rfl⟩ := hp
    rw [stepR (p := .str l) (by simp [rulesP]; exact F)]
    rfl
  | none =>
    rw [q] at F
    obtain ⟨ρ', e, _, _, _, _, rfl⟩ := F
    rw [step (by simp [rulesP]; exact e)]
    simp [othS]

/-- the state goes on, in some way -/
theorem forT_fold {α β : Type} {tg : Tg} {body : Env' → R Fl} (P : β → Env' → Prop) {e : α → PV} {g : β → α → β} : ∀ {xs : List α} {b : β} {ρ : Env'}, (∀ x ∈ xs, ∀ b ρ, P b ρ → ∃ ρ2, (bindT tg (e x) ρ >>= body) = .ok (.nx ρ2) ∧ P (g b x) ρ2) → P b ρ → ∃ ρ', forL tg body (xs.map e) ρ = .ok (.nx ρ') ∧ P (xs.foldl g b) ρ'
  | [], b, ρ, _, h0 => ⟨ρ, rfl, h0⟩
  | x :: xs, b, ρ, h, h0 => by
    obtain ⟨ρ2, e2, h2⟩ := h x List.mem_cons_self b ρ h0
    obtain ⟨ρ1, e1, e3⟩ := R.bind_eq_ok e2
    obtain ⟨ρ', e4, h4⟩ := forT_fold P (xs := xs) (fun y hy => h y (List.mem_cons_of_mem _ hy)) h2
    refine ⟨ρ', ?_, h4⟩
    rw [List.map_cons, forL_cons, e1]
    show thenS (body ρ1) _ = _
    rw [e3]
    exact e4
theorem foldl_and {α : Type} (p : α → Bool) : ∀ (l : List α) (b : Bool), l.foldl (fun b x => b && p x) b = (b && l.all p)
  | [], b => by simp
  | x :: l, b => by
    rw [List.foldl_cons, foldl_and p l, List.all_cons, Bool.and_assoc]
theorem fdiv_pos (i j : Int) (h : 0 < j) (h2 : j ≤ 1000) : fdivP (.int i) (.int j) = .ok (.int (i / j)) := by
  show (if _ then _ else _) = _
  rw [if_pos ⟨h, by omega⟩]
theorem sub_div (n r : Int) : n - n / r * r = n % r := by
  rw [Int.emod_def, Int.mul_comm]
theorem b_law_category' {dn : Str → List PV → R PV} {wf : Nat} (rs : List Rl) (n : Int) (hr : ∀ r ∈ rs, ∀ c ∈ r.2, ∀ t ∈ c, 0 ≤ t.rest ∧ t.rest ≤ 1000) : runB dn wf 11 b__law_category [rulesP rs, .int n] = .ok (.str (catM rs n)) := by
  have T : ∀ (c : List Tst) (o2 o3 o4 o6 o7 o8 o9 o10 : Option PV), (∀ t ∈ c, 0 ≤ t.rest ∧ t.rest ≤ 1000) → ∃ p6 p7 p8 p9 p10, forL (.tp [6, 7, 8, 9]) ((((((b__law_category.at 1).blk).at 0).blk.at 1).blk).ev dn wf) (c.map Tst.pv) [some (rulesP rs), some (.int (absM n)), o2, o3, o4, some (.bl true), o6, o7, o8, o9, o10] =
      .ok (.nx [some (rulesP rs), some (.int (absM n)), o2, o3, o4, some (.bl (c.all fun t => holdsM t n)), p6, p7, p8, p9, p10]) := fun c o2 o3 o4 o6 o7 o8 o9 o10 hc => by
    obtain ⟨ρ', e, p6, p7, p8, p9, p10, rfl⟩ := forT_fold (tg := .tp [6, 7, 8, 9]) (body := (((((b__law_category.at 1).blk).at 0).blk.at 1).blk).ev dn wf) (fun b ρ => ∃ p6 p7 p8 p9 p10, ρ = [some (rulesP rs), some (.int (absM n)), o2, o3, o4, some (.bl b), p6, p7, p8, p9, p10])
      (e := Tst.pv) (g := fun b t => b && holdsM t n) (xs := c) (b := true) (fun t ht b ρ ⟨p6, p7, p8, p9, p10, e⟩ => by
        subst e
        obtain ⟨h0, h1⟩ := hc t ht
        obtain ⟨r, l, h, i⟩ := t
        simp only at h0 h1
        refine ⟨[some (rulesP rs), some (.int (absM n)), o2, o3, o4, some (.bl (b && holdsM ⟨r, l, h, i⟩ n)), some (.int r), some (.int l), some (.int h), some (.bl i), some (.int (restM r (absM n)))], ?_, _, _, _, _, _, rfl⟩
        simp only [b__law_category, Ss.at, S.blk]
        by_cases hr : 0 < r
        · simp [Tst.pv, bindT, setP, show r ≠ 0 by omega, fdiv_pos _ _ hr h1, mul_r _ r (by omega) (by omega), sub_div, holdsM, restM, hr]
          cases b <;> simp <;> (split <;> simp_all)
        · have : r = 0 := by omega
          subst this
          simp [Tst.pv, bindT, setP, holdsM, restM]
          cases b <;> simp <;> (split <;> simp_all)) ⟨_, _, _, _, _, rfl⟩
    rw [foldl_and, Bool.true_and] at e
    exact ⟨_, _, _, _, _, e⟩
  have C : ∀ (cs : List (List Tst)) (k : List Nat) (o3 o4 o5 o6 o7 o8 o9 o10 : Option PV), (∀ c ∈ cs, ∀ t ∈ c, 0 ≤ t.rest ∧ t.rest ≤ 1000) → match cs.findSome? fun c => if (c.all fun t => holdsM t n) = true then some (PV.str k) else none with
      | some r => forL (.nm 4) (((((b__law_category.at 1).blk).at 0).blk).ev dn wf) (cs.map choiceP) [some (rulesP rs), some (.int (absM n)), some (.str k), o3, o4, o5, o6, o7, o8, o9, o10] = .ok (.rt r)
      | none => ∃ ρ', forL (.nm 4) (((((b__law_category.at 1).blk).at 0).blk).ev dn wf) (cs.map choiceP) [some (rulesP rs), some (.int (absM n)), some (.str k), o3, o4, o5, o6, o7, o8, o9, o10] = .ok (.nx ρ') ∧ ∃ p3 p4 p5 p6 p7 p8 p9 p10, ρ' = [some (rulesP rs), some (.int (absM n)), some (.str k), p3, p4, p5, p6, p7, p8, p9, p10] := fun cs k o3 o4 o5 o6 o7 o8 o9 o10 hc =>
    forT_find (tg := .nm 4) (e := choiceP) (fun ρ' => ∃ p3 p4 p5 p6 p7 p8 p9 p10, ρ' = [some (rulesP rs), some (.int (absM n)), some (.str k), p3, p4, p5, p6, p7, p8, p9, p10]) (fun c hcm ρ ⟨p3, p4, p5, p6, p7, p8, p9, p10, e⟩ => by
      subst e
      obtain ⟨q6, q7, q8, q9, q10, e⟩ := T c (some (.str k)) p3 (some (choiceP c)) p6 p7 p8 p9 p10 (hc c hcm)
      simp only [b__law_category, Ss.at, S.blk] at e ⊢
      have e2 : forL (.tp [6, 7, 8, 9]) _ (c.map Tst.pv) _ = _ := e
      by_cases h : (c.all fun t => holdsM t n) = true
      · rw [if_pos h]
        rw [h] at e
        simp only [bindT_nm, R.ok_bind, List.set]
        rw [step (ρ' := [some (rulesP rs), some (.int (absM n)), some (.str k), p3, some (choiceP c), some (.bl true), p6, p7, p8, p9, p10]) (by simp)]
        rw [step (by simp only [evs_loop, evi_of, ev_v, fVar_s, fVar_0, R.ok_bind, choiceP, itemsP_tup]; exact e)]
        simp
      · rw [if_neg h]
        have h : (c.all fun t => holdsM t n) = false := by simpa using h
        rw [h] at e
        refine ⟨_, ?_, p3, some (choiceP c), some (.bl false), q6, q7, q8, q9, q10, rfl⟩
        simp only [bindT_nm, R.ok_bind, List.set]
        rw [step (ρ' := [some (rulesP rs), some (.int (absM n)), some (.str k), p3, some (choiceP c), some (.bl true), p6, p7, p8, p9, p10]) (by simp)]
        rw [step (by simp only [evs_loop, evi_of, ev_v, fVar_s, fVar_0, R.ok_bind, choiceP, itemsP_tup]; exact e)]
        simp) ⟨_, _, _, _, _, _, _, _, rfl⟩
  have F := forT_find (tg := .tp [2, 3]) (body := ((b__law_category.at 1).blk).ev dn wf) (xs := rs) (e := ruleP) (g := fun r => if (r.2.any fun c => c.all fun t => holdsM t n) = true then some (PV.str r.1) else none) (ρ := [some (rulesP rs), some (.int (absM n)), none, none, none, none, none, none, none, none, none])
    (fun ρ => ∃ p2 p3 p4 p5 p6 p7 p8 p9 p10, ρ = [some (rulesP rs), some (.int (absM n)), p2, p3, p4, p5, p6, p7, p8, p9, p10])
    (fun r hrm ρ ⟨p2, p3, p4, p5, p6, p7, p8, p9, p10, e⟩ => by
      subst e
      have c := C r.2 r.1 (some (.tup (r.2.map choiceP))) p4 p5 p6 p7 p8 p9 p10 (hr r hrm)
      rw [find_some (fun c : List Tst => c.all fun t => holdsM t n) (fun _ => PV.str r.1)] at c
      have eb : (bindT (.tp [2, 3]) (ruleP r) [some (rulesP rs), some (.int (absM n)), p2, p3, p4, p5, p6, p7, p8, p9, p10]) = .ok [some (rulesP rs), some (.int (absM n)), some (.str r.1), some (.tup (r.2.map choiceP)), p4, p5, p6, p7, p8, p9, p10] := by simp [ruleP, bindT, setP]
      rw [eb]
      simp only [b__law_category, Ss.at, S.blk, R.ok_bind] at c ⊢
      cases q : r.2.find? fun c => c.all fun t => holdsM t n with
      | some c' =>
        rw [q] at c
        have h : (r.2.any fun c => c.all fun t => holdsM t n) = true := List.any_eq_true.mpr ⟨c', List.mem_of_find?_eq_some q, by simpa using List.find?_some q⟩
        rw [if_pos h]
        exact stepR (by simp only [evs_loop, evi_of, ev_v, fVar_s, fVar_0, R.ok_bind, itemsP_tup]; exact c)
      | none =>
        rw [q] at c
        have h : ¬ (r.2.any fun c => c.all fun t => holdsM t n) = true := fun z => by
          obtain ⟨c', h1, h2⟩ := List.any_eq_true.mp z
          exact List.find?_eq_none.mp q c' h1 h2
        rw [if_neg h]
        obtain ⟨ρ', e, p⟩ := c
        obtain ⟨p3, p4, p5, p6, p7, p8, p9, p10, rfl⟩ := p
        refine ⟨_, ?_, some (.str r.1), p3, p4, p5, p6, p7, p8, p9, p10, rfl⟩
        rw [step (by simp only [evs_loop, evi_of, ev_v, fVar_s, fVar_0, R.ok_bind, itemsP_tup]; exact e)]
        rfl) ⟨_, _, _, _, _, _, _, _, _, rfl⟩
  rw [cat_some]
  simp only [b__law_category, Ss.at, S.blk] at F
  simp only [runB, b__law_category, entry_2, List.replicate]
  rw [step (ρ' := [some (rulesP rs), some (.int (absM n)), none, none, none, none, none, none, none, none, none]) (by simp [absM])]
  cases q : rs.findSome? fun r => if (r.2.any fun c => c.all fun t => holdsM t n) = true then some (PV.str r.1) else none with
  | some p =>
    rw [q] at F
    obtain ⟨r, _, h2⟩ := List.exists_of_findSome?_eq_some q
    have hp : ∃ l, p = .str l := by
      split at h2
      · exact ⟨_, (Option.some.inj h2).symm⟩
      · cases h2
    obtain ⟨l, rfl⟩ := hp
    rw [stepR (p := .str l) (by simp [rulesP]; exact F)]
    rfl
  | none =>
    rw [q] at F
    obtain ⟨ρ', e, _, _, _, _, _, _, _, _, _, rfl⟩ := F
    rw [step (by simp [rulesP]; exact e)]
    simp [othS]
end M
/-! P6: drawn rules. -/
namespace M
open PySem L2
@[simp] theorem pr_min_ev (a b : PV) : Pr.min.ev [a, b] = minP [a, b] := rfl
@[simp] theorem asTupG_tup (xs : List PV) : asTupG (.tup xs) = .ok xs := rfl
theorem ixT_lit {xs : List PV} {i : Int} : ixP (.tup xs) (.int i) = (match atI xs i with
    | some p => (R.ok p : R PV)
    | none => .no) := rfl
theorem dr_cases {c p m : Int} (hm : 0 < m) : ∃ k : Nat, mixM c p m = (k : Int) ∧ k < m.toNat := by
  have h1 := mixM_nn c p m hm
  have h2 := mixM_lt c p m hm
  exact ⟨(mixM c p m).toNat, by omega, by omega⟩
structure TstOk (t : Tst) : Prop where
  rest : t.rest = 0 ∨ t.rest = 2 ∨ t.rest = 5 ∨ t.rest = 10 ∨ t.rest = 100
  low : 0 ≤ t.low
  lh : t.low ≤ t.high
  high : t.high ≤ 999
abbrev SpTest (dn : Str → List PV → R PV) : Prop := ∀ c : Int, ∃ t, TstOk t ∧ dn "_law_test" [.int c] = .ok t.pv
theorem b_law_test' {dn : Str → List PV → R PV} {wf : Nat} (hM : SpMix dn) (c : Int) : ∃ t, TstOk t ∧ runB dn wf 5 b__law_test [.int c] = .ok t.pv := by
  obtain ⟨k, hk, hk6⟩ := dr_cases (c := c) (p := 9857) (m := 6) (by decide)
  have h9 := mixM_nn c 9839 4 (by decide)
  have h10 := mixM_lt c 9839 4 (by decide)
  have key : ∀ (r m : Int), (r = 0 ∨ r = 2 ∨ r = 5 ∨ r = 10 ∨ r = 100) → 0 ≤ m → m ≤ 99 → ∃ t, TstOk t ∧ (((b__law_test.from 2).ev dn wf [some (.int c), some (.int r), some (.int m), none, none]) >>= endF) = .ok t.pv := fun r m hr h0 h1 => by
    have h2 := mixM_nn c 9851 (m + 1) (by omega)
    have h3 := mixM_lt c 9851 (m + 1) (by omega)
    refine ⟨⟨r, mixM c 9851 (m + 1), if mixM c 9833 12 = 0 then 999 else (if 999 < mixM c 9851 (m + 1) + mixM c 9839 4 then 999 else mixM c 9851 (m + 1) + mixM c 9839 4), decide (0 < mixM c 9829 4)⟩, ⟨hr, h2, ?_, ?_⟩, ?_⟩
    · dsimp only
      split
      · omega
      · split <;> omega
    · dsimp only
      split
      · omega
      · split <;> omega
    · simp only [b__law_test, Ss.from]
      have hmx := hM c 9851 (m + 1) (by omega) (by omega) (by omega)
      by_cases hz : mixM c 9833 12 = 0
      · simp [hM, hmx, hz, Tst.pv]
      · simp [hM, hmx, hz, Tst.pv]
  simp only [runB, entry_1, List.replicate]
  simp only [b__law_test, Ss.from] at key
  have hk6 : k < 6 := hk6
  have go : ∀ (r m : Int), (r = 0 ∨ r = 2 ∨ r = 5 ∨ r = 10 ∨ r = 100) → 0 ≤ m → m ≤ 99 → atI [PV.int 0, .int 0, .int 2, .int 5, .int 10, .int 100] (k : Int) = some (.int r) → (idxP [.int 0, .int 2, .int 5, .int 10, .int 100] (.int r) >>= fun q => ixP (.tup [.int 12, .int 1, .int 4, .int 9, .int 99]) q) = .ok (.int m) → ∃ t, TstOk t ∧ (b__law_test.ev dn wf [some (.int c), none, none, none, none] >>= endF) = .ok t.pv := fun r m hr h0 h1 e1 e2 => by
    obtain ⟨t, ht, e⟩ := key r m hr h0 h1
    refine ⟨t, ht, ?_⟩
    simp only [b__law_test]
    rw [step (ρ' := [some (.int c), some (.int r), none, none, none]) (by simp [hM, hk, ixT_lit, e1])]
    rw [step (ρ' := [some (.int c), some (.int r), some (.int m), none, none]) (by
      obtain ⟨q, q1, q2⟩ := R.bind_eq_ok e2
      simp [q1, q2])]
    exact e
  have : k = 0 ∨ k = 1 ∨ k = 2 ∨ k = 3 ∨ k = 4 ∨ k = 5 := by omega
  rcases this with rfl | rfl | rfl | rfl | rfl | rfl
  · exact go 0 12 (by decide) (by decide) (by decide) rfl rfl
  · exact go 0 12 (by decide) (by decide) (by decide) rfl rfl
  · exact go 2 1 (by decide) (by decide) (by decide) rfl rfl
  · exact go 5 4 (by decide) (by decide) (by decide) rfl rfl
  · exact go 10 9 (by decide) (by decide) (by decide) rfl rfl
  · exact go 100 99 (by decide) (by decide) (by decide) rfl rfl

theorem comp_ex {α β : Type} {f : PV → R (Option PV)} {e : α → PV} {pv : β → PV} {Ok : α → β → Prop} : ∀ {xs : List α}, (∀ x ∈ xs, ∃ y, Ok x y ∧ f (e x) = .ok (some (pv y))) → ∃ ys : List β, ys.length = xs.length ∧ (∀ y ∈ ys, ∃ x ∈ xs, Ok x y) ∧ compL f (xs.map e) = .ok (ys.map pv)
  | [], _ => ⟨[], rfl, by simp, rfl⟩
  | x :: xs, h => by
    obtain ⟨y, h1, h2⟩ := h x List.mem_cons_self
    obtain ⟨ys, g1, g2, g3⟩ := comp_ex (xs := xs) fun z hz => h z (List.mem_cons_of_mem _ hz)
    refine ⟨y :: ys, by simp [g1], fun z hz => ?_, ?_⟩
    · rcases List.mem_cons.mp hz with rfl | hz
      · exact ⟨x, List.mem_cons_self, h1⟩
      · obtain ⟨w, w1, w2⟩ := g2 z hz
        exact ⟨w, List.mem_cons_of_mem _ w1, w2⟩
    · simp only [compL, List.map_cons]
      rw [h2, g3]
      rfl
theorem foldl_len {α : Type} : ∀ (l : List α) (n : Nat), l.foldl (fun n _ => n + 1) n = n + l.length
  | [], n => rfl
  | x :: l, n => by rw [List.foldl_cons, foldl_len l]; simp; omega
/-- the state goes on along the row -/
theorem forT_pre {α : Type} {tg : Tg} {body : Env' → R Fl} {e : α → PV} (P : List α → Env' → Prop) : ∀ (post pre : List α) {ρ : Env'}, (∀ (p : List α) (x : α) (q : List α) (ρ : Env'), pre ++ post = p ++ x :: q → P p ρ → ∃ ρ2, (bindT tg (e x) ρ >>= body) = .ok (.nx ρ2) ∧ P (p ++ [x]) ρ2) → P pre ρ → ∃ ρ', forL tg body (post.map e) ρ = .ok (.nx ρ') ∧ P (pre ++ post) ρ'
  | [], pre, ρ, _, h0 => ⟨ρ, rfl, by simpa using h0⟩
  | x :: post, pre, ρ, h, h0 => by
    obtain ⟨ρ2, e2, h2⟩ := h pre x post ρ rfl h0
    obtain ⟨ρ1, e1, e3⟩ := R.bind_eq_ok e2
    obtain ⟨ρ', e4, h4⟩ := forT_pre P post (pre ++ [x]) (fun p y q ρ hq hp => h p y q ρ (by rw [← hq]; simp) hp) h2
    refine ⟨ρ', ?_, by simpa using h4⟩
    rw [List.map_cons, forL_cons, e1]
    show thenS (body ρ1) _ = _
    rw [e3]
    exact e4
theorem forT_pre' {α : Type} {tg : Tg} {body : Env' → R Fl} {e : α → PV} (P : List α → Env' → Prop) {xs : List α} {ρ : Env'} (h : ∀ (p : List α) (x : α) (q : List α) (ρ : Env'), xs = p ++ x :: q → P p ρ → ∃ ρ2, (bindT tg (e x) ρ >>= body) = .ok (.nx ρ2) ∧ P (p ++ [x]) ρ2) (h0 : P [] ρ) : ∃ ρ', forL tg body (xs.map e) ρ = .ok (.nx ρ') ∧ P xs ρ' := by
  have := forT_pre P xs [] (ρ := ρ) (fun p x q ρ hq hp => h p x q ρ (by simpa using hq) hp) h0
  simpa using this
def catL5 : List (List Nat) := [[111, 110, 101], [102, 101, 119], [122, 101, 114, 111], [109, 97, 110, 121], [116, 119, 111]]
structure RulesOk (rs : List Rl) : Prop where
  nd : (rs.map (·.1)).Nodup
  mem : ∀ r ∈ rs, r.1 ∈ catL5
  c2 : ∀ r ∈ rs, r.2.length ≤ 100
  c3 : ∀ r ∈ rs, ∀ c ∈ r.2, c.length ≤ 100
  t : ∀ r ∈ rs, ∀ c ∈ r.2, ∀ t ∈ c, TstOk t
theorem RulesOk.len {rs : List Rl} (h : RulesOk rs) : rs.length ≤ 5 := by
  have := nodup_len h.nd (u := catL5) fun x hx => by
    obtain ⟨r, h1, rfl⟩ := List.mem_map.mp hx
    exact h.mem r h1
  simpa [catL5] using this
theorem RulesOk.rest {rs : List Rl} (h : RulesOk rs) : ∀ r ∈ rs, ∀ c ∈ r.2, ∀ t ∈ c, 0 ≤ t.rest ∧ t.rest ≤ 1000 := fun r hr c hc t ht => by
  have := (h.t r hr c hc t ht).rest
  omega
abbrev SpRules (dn : Str → List PV → R PV) : Prop := ∀ c : Int, ∃ rs, RulesOk rs ∧ dn "_law_rules" [.int c] = .ok (rulesP rs)
/-- a rule drawn -/
def RlOk (r : Rl) : Prop := r.2.length ≤ 100 ∧ ∀ c ∈ r.2, c.length ≤ 100 ∧ ∀ t ∈ c, TstOk t
theorem rl_inner {dn : Str → List PV → R PV} {wf : Nat} (hM : SpMix dn) (hT : SpTest dn) (c k : Int) (w : List Nat) (rs : List Rl) (n : Nat) (o5 o6 o7 : Option PV) (hn : n ≤ 100) :
    ∃ cs : List (List Tst), RlOk (w, cs) ∧ ∃ p5 p6, forL (.nm 5) ((((((b__law_rules.at 1).blk).at 0).thn).at 1).blk.ev dn wf) ((List.range n).map fun i => .int (i : Nat)) [some (.int c), some (.lst (rs.map ruleP)), some (.int k), some (.str w), some (.lst []), o5, o6, o7] =
      .ok (.nx [some (.int c), some (.lst (rs.map ruleP)), some (.int k), some (.str w), some (.lst (cs.map choiceP)), p5, p6, o7]) := by
  have := big_ge
  obtain ⟨ρ', e, cs, p5, p6, rfl, h1, h2⟩ := forT_pre' (tg := .nm 5) (body := (((((b__law_rules.at 1).blk).at 0).thn).at 1).blk.ev dn wf) (e := fun i : Nat => PV.int (i : Nat)) (xs := List.range n) (ρ := [some (.int c), some (.lst (rs.map ruleP)), some (.int k), some (.str w), some (.lst []), o5, o6, o7])
    (fun pre ρ => ∃ cs p5 p6, ρ = [some (.int c), some (.lst (rs.map ruleP)), some (.int k), some (.str w), some (.lst (cs.map choiceP)), p5, p6, o7] ∧ cs.length = pre.length ∧ ∀ c ∈ cs, c.length ≤ 100 ∧ ∀ t ∈ c, TstOk t)
    (fun pre i post ρ hp ⟨cs, p5, p6, e, h1, h2⟩ => by
      subst e
      have hl := congrArg List.length hp
      simp only [List.length_range, List.length_append, List.length_cons] at hl
      have m1 := mixM_nn (c + 5 * i + k) 9803 2 (by decide)
      have m2 := mixM_lt (c + 5 * i + k) 9803 2 (by decide)
      obtain ⟨ts, t1, t2, t3⟩ := comp_ex (f := turnC [7] (Tg.nm 7) none ((E.call "_law_test" 1 (.cons (.bin .Add (.bin .Add (.bin .Add (.v 0) (.bin .Mult (.c (.int 23)) (.v 5))) (.bin .Mult (.c (.int 29)) (.v 7))) (.bin .Mult (.c (.int 31)) (.v 2))) .nil)).ev dn) [some (.int c), some (.lst (rs.map ruleP)), some (.int k), some (.str w), some (.lst (cs.map choiceP)), some (.int i), some (.int (1 + mixM (c + 5 * i + k) 9803 2)), o7])
        (e := fun i : Nat => PV.int (i : Nat)) (pv := Tst.pv) (Ok := fun _ t => TstOk t) (xs := List.range (1 + mixM (c + 5 * i + k) 9803 2).toNat) (fun j _ => by
          obtain ⟨t, g1, g2⟩ := hT (c + 23 * i + 29 * j + 31 * k)
          exact ⟨t, g1, by simp [mul_l, g2]⟩)
      rw [List.length_range] at t1
      refine ⟨_, ?_, cs ++ [ts], some (.int i), some (.int (1 + mixM (c + 5 * i + k) 9803 2)), rfl, by simp [h1], fun c' hc' => ?_⟩
      · have hr := rng0 (n := 1 + mixM (c + 5 * i + k) 9803 2) (by omega) (by omega)
        simp [b__law_rules, Ss.at, S.blk, S.thn, mul_l, hM, hr]
        rw [t3]
        simp [show cs.length < big by omega, choiceP]
      · rcases List.mem_append.mp hc' with h | h
        · exact h2 c' h
        · have : c' = ts := by simpa using h
          subst this
          exact ⟨by omega, fun t ht => (t2 t ht).elim fun _ z => z.2⟩) ⟨[], o5, o6, rfl, rfl, by simp⟩
  rw [List.length_range] at h1
  exact ⟨cs, ⟨by show cs.length ≤ 100; omega, h2⟩, p5, p6, e⟩
theorem b_law_rules' {dn : Str → List PV → R PV} {wf : Nat} (hM : SpMix dn) (hT : SpTest dn) (c : Int) : ∃ rs, RulesOk rs ∧ runB dn wf 8 b__law_rules [.int c] = .ok (rulesP rs) := by
  have := big_ge
  obtain ⟨ρ', e, rs, p2, p3, p4, p5, p6, p7, rfl, h1, h2⟩ := forT_pre' (tg := .tp [2, 3]) (body := ((b__law_rules.at 1).blk).ev dn wf) (e := fun kw : Nat × List Nat => PV.wt [.int (kw.1 : Nat), .str kw.2]) (xs := [(0, [111, 110, 101]), (1, [102, 101, 119]), (2, [122, 101, 114, 111]), (3, [109, 97, 110, 121]), (4, [116, 119, 111])]) (ρ := [some (.int c), some (.lst []), none, none, none, none, none, none])
    (fun pre ρ => ∃ rs p2 p3 p4 p5 p6 p7, ρ = [some (.int c), some (.lst (rs.map ruleP)), p2, p3, p4, p5, p6, p7] ∧ (rs.map (·.1)).Sublist (pre.map (·.2)) ∧ ∀ r ∈ rs, RlOk r)
    (fun pre kw post ρ hp ⟨rs, p2, p3, p4, p5, p6, p7, e, h1, h2⟩ => by
      subst e
      obtain ⟨k, w⟩ := kw
      have hl := congrArg List.length hp
      simp only [List.length_append, List.length_cons, List.length_nil] at hl
      have hs := h1.length_le
      simp only [List.length_map] at hs
      have eb : bindT (.tp [2, 3]) (PV.wt [.int (k : Nat), .str w]) [some (.int c), some (.lst (rs.map ruleP)), p2, p3, p4, p5, p6, p7] = .ok [some (.int c), some (.lst (rs.map ruleP)), some (.int k), some (.str w), p4, p5, p6, p7] := by simp [bindT, setP]
      rw [eb]
      simp only [R.ok_bind]
      by_cases hc : 2 - (if k = 0 then 1 else 0) < mixM (c + k) 9817 5
      · have m1 := mixM_nn (c + 3 * k) 9811 3 (by decide)
        have m2 := mixM_lt (c + 3 * k) 9811 3 (by decide)
        obtain ⟨cs, r1, q5, q6, e1⟩ := rl_inner (wf := wf) hM hT c k w rs (mixM (c + 3 * k) 9811 3 + (if k = 0 then 1 else 0)).toNat p5 p6 p7 (by split <;> omega)
        have hr := rng0 (n := mixM (c + 3 * k) 9811 3 + (if k = 0 then 1 else 0)) (by split <;> omega) (by split <;> omega)
        refine ⟨_, ?_, rs ++ [(w, cs)], some (.int k), some (.str w), some (.lst (cs.map choiceP)), q5, q6, p7, rfl, ?_, ?_⟩
        · simp only [b__law_rules, Ss.at, S.blk, S.thn] at e1 ⊢
          have et : (T.cmp .Gt (.call "_law_mix" 3 (.cons (.bin .Add (.v 0) (.v 2)) (.cons (.c (.int 9817)) (.cons (.c (.int 5)) .nil)))) (.bin .Sub (.c (.int 2)) (.pr .int (.cons (.cmp .Eq (.v 2) (.c (.int 0))) .nil)))).ev dn [some (.int c), some (.lst (rs.map ruleP)), some (.int k), some (.str w), p4, p5, p6, p7] = .ok true := by
            simp [hM]
            by_cases h0 : k = 0
            · simp [h0] at hc ⊢; omega
            · simp [h0] at hc ⊢; omega
          rw [evb_cons, evs_cond, et]
          simp only [R.ok_bind, if_true]
          rw [step (ρ' := [some (.int c), some (.lst (rs.map ruleP)), some (.int k), some (.str w), some (.lst []), p5, p6, p7]) (by simp [isObjP])]
          rw [step (by
            have e0 : (I.rng1 (.bin .Add (.call "_law_mix" 3 (.cons (.bin .Add (.v 0) (.bin .Mult (.c (.int 3)) (.v 2))) (.cons (.c (.int 9811)) (.cons (.c (.int 3)) .nil)))) (.pr .int (.cons (.cmp .Eq (.v 2) (.c (.int 0))) .nil)))).ev dn [some (.int c), some (.lst (rs.map ruleP)), some (.int k), some (.str w), some (.lst []), p5, p6, p7] = rngP 0 (mixM (c + 3 * k) 9811 3 + (if k = 0 then 1 else 0)) := by
              simp [hM, mul_l]
            rw [evs_loop, e0, hr]
            exact e1)]
          simp [show rs.length < big by omega, ruleP]
        · rw [List.map_append, List.map_append]
          exact h1.append (List.Sublist.refl _)
        · intro r hr
          rcases List.mem_append.mp hr with h | h
          · exact h2 r h
          · have : r = (w, cs) := by simpa using h
            subst this
            exact r1
      · refine ⟨[some (.int c), some (.lst (rs.map ruleP)), some (.int k), some (.str w), p4, p5, p6, p7], ?_, rs, _, _, _, _, _, _, rfl, ?_, h2⟩
        · simp only [b__law_rules, Ss.at, S.blk, S.thn]
          have et : (T.cmp .Gt (.call "_law_mix" 3 (.cons (.bin .Add (.v 0) (.v 2)) (.cons (.c (.int 9817)) (.cons (.c (.int 5)) .nil)))) (.bin .Sub (.c (.int 2)) (.pr .int (.cons (.cmp .Eq (.v 2) (.c (.int 0))) .nil)))).ev dn [some (.int c), some (.lst (rs.map ruleP)), some (.int k), some (.str w), p4, p5, p6, p7] = .ok false := by
            simp [hM]
            by_cases h0 : k = 0
            · simp [h0] at hc ⊢; omega
            · simp [h0] at hc ⊢; omega
          rw [evb_cons, evs_cond, et]
          rfl
        · rw [List.map_append]
          exact h1.trans (List.sublist_append_left _ _)) ⟨[], none, none, none, none, none, none, rfl, List.Sublist.refl _, by simp⟩
  have hm : ∀ r ∈ rs, r.1 ∈ catL5 := fun r hr => h1.subset (List.mem_map_of_mem hr)
  have hn : (rs.map (·.1)).Nodup := h1.nodup (by decide)
  refine ⟨rs, ⟨hn, hm, fun r hr => (h2 r hr).1, fun r hr c hc => ((h2 r hr).2 c hc).1, fun r hr c hc => ((h2 r hr).2 c hc).2⟩, ?_⟩
  simp only [b__law_rules, Ss.at, S.blk] at e
  simp only [runB, b__law_rules, entry_1, List.replicate]
  rw [step (ρ' := [some (.int c), some (.lst []), none, none, none, none, none, none]) (by simp [isObjP])]
  rw [step (by simp [enumL, enumFrom']; exact e)]
  simp [rulesP]
end M
/-! P7: all categories that can be. -/
namespace M
open PySem L2
def catL6 : List (List Nat) := [[122, 101, 114, 111], [111, 110, 101], [116, 119, 111], [102, 101, 119], [109, 97, 110, 121], [111, 116, 104, 101, 114]]
def catsTo (rs : List Rl) (n : Nat) : List (List Nat) := (List.range n).map fun i => catM rs (i : Nat)
def canM (rs : List Rl) : List (List Nat) := catL6.filter (catsTo rs 1200).contains
abbrev SpCan (dn : Str → List PV → R PV) : Prop := ∀ rs : List Rl, RulesOk rs → dn "can_be" [rulesP rs] = .ok (.tup ((canM rs).map .str))
theorem catsTo_map (rs : List Rl) (n : Nat) : (catsTo rs n).map PV.str = (List.range n).map fun i => .str (catM rs (i : Nat)) := by
  unfold catsTo
  rw [List.map_map]
  rfl
theorem b_can {dn : Str → List PV → R PV} {wf : Nat} (h1 : SpCat "category_of" dn) (rs : List Rl) (hr : RulesOk rs) : runB dn wf 4 b_can_be [rulesP rs] = .ok (.tup ((canM rs).map .str)) := by
  have r0 := rng0 (n := 1200) (by omega) (by omega)
  have c1 : compL (turnC [2] (Tg.nm 2) none ((E.call "category_of" 2 (.cons (.v 0) (.cons (.v 2) .nil))).ev dn) [some (rulesP rs), none, none, none]) ((List.range 1200).map fun i => .int (i : Nat)) = .ok ((catsTo rs 1200).map .str) := by
    rw [catsTo_map]
    exact comp_mapS fun i _ => by simp [h1 rs _ hr.rest]
  have c2 : compL (turnC [3] (Tg.nm 3) (some ((T.cmp .In (.v 3) (.v 1)).ev dn)) ((E.v 3).ev dn) [some (rulesP rs), some (.lst ((catsTo rs 1200).map .str)), none, none]) (catL6.map .str) = .ok ((canM rs).map .str) :=
    comp_filterS (p := (catsTo rs 1200).contains) fun w _ => by
      simp only [turn_ev, bindT_nm, R.ok_bind, wipeP_cons, wipeP_nil, List.set, condR_some, evt_cmp, ev_v, fVar_s, fVar_0, c_in, inB_lstS, asBl_bl]
      cases (catsTo rs 1200).contains w <;> rfl
  simp only [runB, b_can_be, entry_1, List.replicate]
  rw [step (ρ' := [some (rulesP rs), some (.lst ((catsTo rs 1200).map .str)), none, none]) (by
    simp only [evs_set, ev_lc, evi_rng1, rng1_ev, ev_c, R.ok_bind]
    rw [r0]
    simp only [R.ok_bind]
    rw [show (Int.toNat 1200) = 1200 from rfl]
    simp only [evot_none]
    rw [c1]
    rfl)]
  simp only [catL6, List.map_cons, List.map_nil] at c2
  simp [c2]
theorem holds_per {t : Tst} (h : TstOk t) {a b : Int} (ha : 1000 ≤ a) (hb : 1000 ≤ b) (e : a % 100 = b % 100) : holdsM t a = holdsM t b := by
  obtain ⟨r, l, hi, i⟩ := t
  obtain ⟨h1, h2, h3, h4⟩ := h
  simp only at h1 h2 h3 h4
  have aa : absM a = a := by unfold absM; rw [if_neg (by omega)]
  have ab : absM b = b := by unfold absM; rw [if_neg (by omega)]
  unfold holdsM
  simp only [aa, ab]
  unfold restM
  rcases h1 with rfl | rfl | rfl | rfl | rfl
  · simp only [Int.lt_irrefl, if_false]
    rw [decide_eq_false (show ¬ a ≤ hi by omega), decide_eq_false (show ¬ b ≤ hi by omega)]
    simp
  · rw [if_pos (by decide), if_pos (by decide), show a % 2 = b % 2 by omega]
  · rw [if_pos (by decide), if_pos (by decide), show a % 5 = b % 5 by omega]
  · rw [if_pos (by decide), if_pos (by decide), show a % 10 = b % 10 by omega]
  · rw [if_pos (by decide), if_pos (by decide), e]
theorem find_congr {α : Type} {p q : α → Bool} : ∀ {l : List α}, (∀ x ∈ l, p x = q x) → l.find? p = l.find? q
  | [], _ => rfl
  | x :: l, h => by
    rw [List.find?_cons, List.find?_cons, h x List.mem_cons_self, find_congr fun y hy => h y (List.mem_cons_of_mem _ hy)]
theorem any_congr {α : Type} {p q : α → Bool} : ∀ {l : List α}, (∀ x ∈ l, p x = q x) → l.any p = l.any q
  | [], _ => rfl
  | x :: l, h => by
    rw [List.any_cons, List.any_cons, h x List.mem_cons_self, any_congr fun y hy => h y (List.mem_cons_of_mem _ hy)]
theorem all_congr {α : Type} {p q : α → Bool} : ∀ {l : List α}, (∀ x ∈ l, p x = q x) → l.all p = l.all q
  | [], _ => rfl
  | x :: l, h => by
    rw [List.all_cons, List.all_cons, h x List.mem_cons_self, all_congr fun y hy => h y (List.mem_cons_of_mem _ hy)]
theorem cat_per {rs : List Rl} (hr : RulesOk rs) {a b : Int} (ha : 1000 ≤ a) (hb : 1000 ≤ b) (e : a % 100 = b % 100) : catM rs a = catM rs b := by
  unfold catM
  rw [find_congr (q := fun r : Rl => r.2.any fun c => c.all fun t => holdsM t b) fun r h1 => any_congr fun c h2 => all_congr fun t h3 => holds_per (hr.t r h1 c h2 t h3) ha hb e]
theorem cat_mem {rs : List Rl} (hr : RulesOk rs) (n : Int) : catM rs n ∈ catL6 := by
  unfold catM
  cases q : rs.find? fun r : Rl => r.2.any fun c => c.all fun t => holdsM t n with
  | none => decide
  | some r =>
    have h := hr.mem r (List.mem_of_find?_eq_some q)
    show r.1 ∈ catL6
    revert h
    generalize r.1 = w
    intro h
    simp only [catL5, List.mem_cons, List.not_mem_nil, or_false] at h
    rcases h with rfl | rfl | rfl | rfl | rfl <;> decide
/-- every number's category is met below 1200 -/
theorem cat_below {rs : List Rl} (hr : RulesOk rs) {n : Int} (h0 : 0 ≤ n) : catM rs n ∈ catsTo rs 1200 := by
  unfold catsTo
  by_cases h : n < 1200
  · refine List.mem_map.mpr ⟨n.toNat, List.mem_range.mpr (by omega), ?_⟩
    rw [show ((n.toNat : Nat) : Int) = n by omega]
  · refine List.mem_map.mpr ⟨(1000 + n % 100).toNat, List.mem_range.mpr (by omega), ?_⟩
    rw [show (((1000 + n % 100).toNat : Nat) : Int) = 1000 + n % 100 by omega]
    exact cat_per hr (by omega) (by omega) (by omega)
theorem can_mem {rs : List Rl} (hr : RulesOk rs) {n : Int} (h0 : 0 ≤ n) : catM rs n ∈ canM rs := by
  unfold canM
  rw [List.mem_filter]
  exact ⟨cat_mem hr n, by simpa using cat_below hr h0⟩
end M
/-! P8: facts about the nearest tag; sorted sets. -/
namespace M
open PySem L2
theorem nearT_mem {ls : List (List Nat × List Nat)} {there : List (List Nat)} {t x : List Nat} (h : nearT ls there t = some x) : x ∈ there ∧ (x ∈ chainW ls t ∨ tongL x = tongL t) := by
  have := List.mem_of_head? h
  rcases List.mem_append.mp this with h | h
  · obtain ⟨h1, h2⟩ := List.mem_filter.mp h
    exact ⟨by simpa using h2, .inl h1⟩
  · obtain ⟨h1, h2⟩ := List.mem_filter.mp h
    exact ⟨h1, .inr (by simpa using h2)⟩
theorem nearM_mem {ls : List (List Nat × List Nat)} {there w : List (List Nat)} {x : List Nat} (h : nearM ls there w = some x) : x ∈ there ∧ ∃ t ∈ w, x ∈ chainW ls t ∨ tongL x = tongL t := by
  obtain ⟨t, h1, h2⟩ := List.exists_of_findSome?_eq_some h
  obtain ⟨h3, h4⟩ := nearT_mem h2
  exact ⟨h3, t, h1, h4⟩
theorem nearM_nil (ls : List (List Nat × List Nat)) (w : List (List Nat)) : nearM ls [] w = none := by
  cases h : nearM ls [] w with
  | none => rfl
  | some x => exact absurd (nearM_mem h).1 (by simp)
theorem walkM_pre {T : Type} [DecidableEq T] (nxt : T → Option T) : ∀ (n : Nat) (t : Option T) (f g : List T), walkM nxt n t f = some g → f <+: g
  | 0, _, _, _, h => by cases h
  | n + 1, none, f, g, h => by cases h; exact List.prefix_rfl
  | n + 1, some t, f, g, h => by
    simp only [walkM] at h
    split at h
    · cases h; exact List.prefix_rfl
    · exact (List.prefix_append f [t]).trans (walkM_pre nxt n _ _ _ h)
theorem chainW_head {ls : List (List Nat × List Nat)} (h : LinksOk ls) {t : List Nat} (ht : t ∈ tagU) : ∃ r, chainW ls t = t :: r := by
  obtain ⟨e, _, _⟩ := chainW_ok h ht
  have : walkM (nextM ls) (999 + 1) (some t) [] = some (chainW ls t) := e
  simp only [walkM, List.not_mem_nil, if_false, List.nil_append] at this
  obtain ⟨r, hr⟩ := walkM_pre _ _ _ _ _ this
  exact ⟨r, hr.symm⟩
theorem nearM_self {ls : List (List Nat × List Nat)} (h : LinksOk ls) {there w : List (List Nat)} {one : List Nat} (ho : one ∈ there) (ht : one ∈ tagU) : nearM ls there (one :: w) = some one := by
  obtain ⟨r, hr⟩ := chainW_head h ht
  unfold nearM
  rw [List.findSome?_cons]
  have : nearT ls there one = some one := by
    unfold nearT
    rw [hr, List.filter_cons, if_pos (by simpa using ho)]
    rfl
  rw [this]
theorem nearM_more {ls : List (List Nat × List Nat)} {there w : List (List Nat)} {x m : List Nat} (h : nearM ls there w = some x) : nearM ls there (w ++ [m]) = some x := by
  unfold nearM at h ⊢
  rw [List.findSome?_append, h]
  rfl
theorem head_less {α : Type} [BEq α] [LawfulBEq α] (m : α) : ∀ L : List α, L.head? = some m ∨ L.head? = (L.filter (· != m)).head?
  | [] => .inr rfl
  | x :: L => by
    by_cases h : x = m
    · subst h; exact .inl rfl
    · right
      rw [List.filter_cons, if_pos (by simpa using h)]
      rfl
/-- a sorted row with one more -/
theorem once_id {κ : Type} [DecidableEq κ] {l : List κ} (h : l.Nodup) : once l = l := by
  have : ∀ (l acc : List κ), (acc ++ l).Nodup → l.foldl met acc = acc ++ l := fun l => by
    induction l with
    | nil => simp
    | cons x l ih =>
      intro acc h
      have hx : x ∉ acc := fun z => by
        have := (List.nodup_append.mp h).2.2 x z x List.mem_cons_self
        exact this rfl
      rw [List.foldl_cons, show met acc x = acc ++ [x] from if_neg hx, ih (acc ++ [x]) (by simpa using h)]
      simp
  unfold once
  rw [this l [] (by simpa using h)]
  rfl
theorem sortS_id {l : List (List Nat)} (h : l.Pairwise fun a b => leS a b = true) : sortS l = l := (isort_uniq leS_tr leS_to leS_an (.refl l) h).symm
theorem longer_cases {ts : List (List Nat)} (nd : ts.Nodup) (srt : ts.Pairwise fun a b => leS a b = true) (m : List Nat) : sortS (once (ts ++ [m])) = ts ∨ ((sortS (once (ts ++ [m]))).filter (· != m) = ts ∧ ∀ c, c ∈ sortS (once (ts ++ [m])) ↔ c = m ∨ c ∈ ts) := by
  rw [once_snoc, once_id nd]
  by_cases h : m ∈ ts
  · left
    rw [show met ts m = ts from if_pos h, sortS_id srt]
  · right
    rw [show met ts m = ts ++ [m] from if_neg h]
    have pw : (sortS (ts ++ [m])).Pairwise fun a b => leS a b = true := isort_pw leS_tr leS_to _
    have pm : (sortS (ts ++ [m])).Perm (ts ++ [m]) := isort_perm _
    refine ⟨?_, fun c => by rw [pm.mem_iff]; simp [or_comm]⟩
    have p2 : ((sortS (ts ++ [m])).filter (· != m)).Perm ts := by
      refine (pm.filter _).trans ?_
      rw [List.filter_append, List.filter_cons, if_neg (by simp), List.filter_nil, List.append_nil]
      rw [List.filter_eq_self.mpr fun x hx => by
      have : x ≠ m := fun e => h (e ▸ hx)
      simpa using this]
    rw [isort_uniq leS_tr leS_to leS_an p2 (pw.sublist List.filter_sublist)]
    exact sortS_id srt
theorem nearT_longer {ls : List (List Nat × List Nat)} {ts lo : List (List Nat)} {m t : List Nat} (h1 : lo.filter (· != m) = ts) (h2 : ∀ c, c ∈ lo ↔ c = m ∨ c ∈ ts) (h3 : m ∉ ts) : nearT ls lo t = some m ∨ nearT ls lo t = nearT ls ts t := by
  unfold nearT
  rcases head_less m ((chainW ls t).filter lo.contains ++ lo.filter fun o => tongL o == tongL t) with h | h
  · exact .inl h
  · right
    rw [h, List.filter_append]
    congr 1
    congr 1
    · rw [List.filter_filter]
      apply List.filter_congr
      intro c _
      rw [Bool.eq_iff_iff]
      simp only [Bool.and_eq_true, List.contains_eq_mem, decide_eq_true_eq, bne_iff_ne, ne_eq, h2]
      constructor
      · rintro ⟨a, b | b⟩
        · exact absurd b a
        · exact b
      · intro b
        exact ⟨fun e => h3 (e ▸ b), .inr b⟩
    · rw [← h1, List.filter_filter, List.filter_filter]
      apply List.filter_congr
      intro c _
      exact Bool.and_comm _ _
theorem nearM_longer {ls : List (List Nat × List Nat)} {ts : List (List Nat)} (nd : ts.Nodup) (srt : ts.Pairwise fun a b => leS a b = true) (m : List Nat) : ∀ w : List (List Nat), nearM ls (sortS (once (ts ++ [m]))) w = some m ∨ nearM ls (sortS (once (ts ++ [m]))) w = nearM ls ts w := by
  by_cases h : m ∈ ts
  · intro w
    right
    rw [once_snoc, once_id nd, show met ts m = ts from if_pos h, sortS_id srt]
  · rcases longer_cases nd srt m with e | ⟨e1, e2⟩
    · intro w; right; rw [e]
    · intro w
      induction w with
      | nil => exact .inr rfl
      | cons t w ih =>
        have e3 : ∀ th, nearM ls th (t :: w) = match nearT ls th t with
          | some x => some x
          | none => nearM ls th w := fun th => by
          unfold nearM
          rw [List.findSome?_cons]
          cases nearT ls th t <;> rfl
        rw [e3, e3]
        rcases nearT_longer (ls := ls) (t := t) e1 e2 h with q | q
        · left; rw [q]
        · rw [q]
          cases nearT ls ts t with
          | some x => exact .inr rfl
          | none => exact ih
end M
/-! Q0: messages. -/
namespace M
open PySem L2
inductive Part where
  | text (t : List Nat)
  | slot (n : List Nat)
  | mark
  | fork (b : Bool) (n : List Nat) (cs : List (K1 × List Part))
abbrev Msg := List Part
abbrev Cse := K1 × List Part
def wTx : List Nat := [116, 101, 120, 116]
def wSl : List Nat := [115, 108, 111, 116]
def wMk : List Nat := [109, 97, 114, 107]
def wCo : List Nat := [99, 111, 117, 110, 116]
def wKi : List Nat := [107, 105, 110, 100]
def wFk (b : Bool) : List Nat := if b then wCo else wKi
mutual
def partV : Part → PV
  | .text t => .tup [.str wTx, .str t]
  | .slot n => .tup [.str wSl, .str n]
  | .mark => .tup [.str wMk]
  | .fork b n cs => .tup [.str (wFk b), .str n, .tup (casesV cs)]
def partsV : List Part → List PV
  | [] => []
  | p :: m => partV p :: partsV m
def casesV : List (K1 × List Part) → List PV
  | [] => []
  | (k, m) :: cs => .tup [unKey k, .tup (partsV m)] :: casesV cs
end
def msgV (m : Msg) : PV := .tup (m.map partV)
theorem partsV_map : ∀ m : List Part, partsV m = m.map partV
  | [] => by rw [partsV]; rfl
  | p :: m => by rw [partsV, partsV_map m]; rfl
def caseV (km : Cse) : PV := .tup [unKey km.1, msgV km.2]
theorem casesV_map : ∀ cs : List Cse, casesV cs = cs.map caseV
  | [] => by rw [casesV]; rfl
  | (k, m) :: cs => by rw [casesV, casesV_map cs, partsV_map]; rfl
@[simp] theorem partV_text (t : List Nat) : partV (.text t) = .tup [.str wTx, .str t] := by rw [partV]
@[simp] theorem partV_slot (t : List Nat) : partV (.slot t) = .tup [.str wSl, .str t] := by rw [partV]
@[simp] theorem partV_mark : partV .mark = .tup [.str wMk] := by rw [partV]
@[simp] theorem partV_fork (b : Bool) (n : List Nat) (cs : List Cse) : partV (.fork b n cs) = .tup [.str (wFk b), .str n, .tup (cs.map caseV)] := by rw [partV, casesV_map]

/-! ### what is a message -/
def isTx : Part → Bool
  | .text _ => true
  | _ => false
/-- no two texts side by side -/
def NoAdj : Msg → Bool
  | p :: q :: m => !(isTx p && isTx q) && NoAdj (q :: m)
  | _ => true
structure TxOk (t : List Nat) : Prop where
  ne : t ≠ []
  asc : ∀ c ∈ t, 32 ≤ c ∧ c ≤ 126
  len : t.length ≤ 40
/-- all names and kinds that the laws know -/
def nmU : List (List Nat) := [[97], [110], [119, 104, 111], [102, 105, 108, 101], [122, 122, 122, 122, 122, 122], [102], [109], [115, 104, 101], [116, 104, 101, 121], [98], [99], [107], [110, 101, 119], [110, 101, 119, 97], [110, 101, 119, 98], [110, 101, 119, 99], [110, 101, 119, 100], [110, 101, 119, 101]]
structure NmeOk (n : List Nat) : Prop where
  ne : n ≠ []
  az : ∀ c ∈ n, 97 ≤ c ∧ c ≤ 122
  len : n.length ≤ 6
  u : n ∈ nmU
/-- categories in their order, other left out -/
def catW : List (List Nat) := [[122, 101, 114, 111], [111, 110, 101], [116, 119, 111], [102, 101, 119], [109, 97, 110, 121]]
/-- what cases are for -/
def CkOk (b : Bool) (ks : List K1) : Prop := if b then ∃ (ns : List Int) (cs : List (List Nat)), ks = ns.map .inl ++ (cs ++ [othS]).map .inr ∧ ns.Pairwise (· < ·) ∧ (∀ n ∈ ns, 0 ≤ n ∧ n ≤ 999) ∧ cs.Sublist catW
  else ∃ ls : List (List Nat), ks = (ls ++ [othS]).map .inr ∧ ls.Pairwise (fun a b => ltL a b = true) ∧ ∀ l ∈ ls, NmeOk l ∧ l ≠ othS
theorem ckT {ks : List K1} (h : CkOk true ks) : ∃ (ns : List Int) (cs : List (List Nat)), ks = (ns.map Sum.inl ++ (cs ++ [othS]).map Sum.inr : List K1) ∧ ns.Pairwise (· < ·) ∧ (∀ n ∈ ns, 0 ≤ n ∧ n ≤ 999) ∧ cs.Sublist catW := h
theorem ckF {ks : List K1} (h : CkOk false ks) : ∃ ls : List (List Nat), ks = ((ls ++ [othS]).map Sum.inr : List K1) ∧ ls.Pairwise (fun a b => ltL a b = true) ∧ ∀ l ∈ ls, NmeOk l ∧ l ≠ othS := h
def LeafP (P : List Nat → Prop) (c : Bool) : Part → Prop
  | .text t => P t
  | .slot n => NmeOk n
  | .mark => c = true
  | .fork .. => False
/-- a message whose texts are P -/
def MsgP (P : List Nat → Prop) : Nat → Bool → Msg → Prop
  | 0, c, m => m.length ≤ 4 ∧ NoAdj m = true ∧ ∀ p ∈ m, LeafP P c p
  | d + 1, c, m => m.length ≤ 4 ∧ NoAdj m = true ∧ ∀ p ∈ m, LeafP P c p ∨ ∃ b n cs, p = .fork b n cs ∧ NmeOk n ∧ CkOk b (cs.map (·.1)) ∧ cs.length ≤ 8 ∧ ∀ km ∈ cs, MsgP P d (c || b) km.2
abbrev LeafOk := LeafP TxOk
abbrev MsgOk := MsgP TxOk
theorem MsgP.len {P : List Nat → Prop} {d : Nat} {c : Bool} {m : Msg} (h : MsgP P d c m) : m.length ≤ 4 := by cases d <;> exact h.1
theorem MsgP.adj {P : List Nat → Prop} {d : Nat} {c : Bool} {m : Msg} (h : MsgP P d c m) : NoAdj m = true := by cases d <;> exact h.2.1
theorem MsgOk.len {d : Nat} {c : Bool} {m : Msg} (h : MsgOk d c m) : m.length ≤ 4 := MsgP.len h
theorem MsgOk.adj {d : Nat} {c : Bool} {m : Msg} (h : MsgOk d c m) : NoAdj m = true := MsgP.adj h
/-- a part's shape -/
def PartP (P : List Nat → Prop) : Nat → Bool → Part → Prop
  | 0, c, p => LeafP P c p
  | d + 1, c, p => LeafP P c p ∨ ∃ b n cs, p = .fork b n cs ∧ NmeOk n ∧ CkOk b (cs.map (·.1)) ∧ cs.length ≤ 8 ∧ ∀ km ∈ cs, MsgP P d (c || b) km.2
abbrev PartOk := PartP TxOk
theorem msgP_iff {P : List Nat → Prop} {d : Nat} {c : Bool} {m : Msg} : MsgP P d c m ↔ m.length ≤ 4 ∧ NoAdj m = true ∧ ∀ p ∈ m, PartP P d c p := by
  cases d <;> exact Iff.rfl
theorem msgOk_iff {d : Nat} {c : Bool} {m : Msg} : MsgOk d c m ↔ m.length ≤ 4 ∧ NoAdj m = true ∧ ∀ p ∈ m, PartOk d c p := msgP_iff
theorem MsgP.part {P : List Nat → Prop} {d : Nat} {c : Bool} {m : Msg} (h : MsgP P d c m) : ∀ p ∈ m, PartP P d c p := (msgP_iff.mp h).2.2
theorem MsgOk.part {d : Nat} {c : Bool} {m : Msg} (h : MsgOk d c m) : ∀ p ∈ m, PartOk d c p := (msgOk_iff.mp h).2.2
theorem leaf_mono {P : List Nat → Prop} {c c' : Bool} (hc : c = true → c' = true) {p : Part} (h : LeafP P c p) : LeafP P c' p := by
  cases p with
  | mark => exact hc h
  | text t => exact h
  | slot t => exact h
  | fork b n cs => exact h
theorem MsgP.mono {P : List Nat → Prop} : ∀ {d d' : Nat} {c c' : Bool} {m : Msg}, MsgP P d c m → d ≤ d' → (c = true → c' = true) → MsgP P d' c' m
  | 0, 0, c, c', m, h, _, hc => ⟨h.1, h.2.1, fun p hp => leaf_mono hc (h.2.2 p hp)⟩
  | 0, d' + 1, c, c', m, h, _, hc => ⟨h.1, h.2.1, fun p hp => .inl (leaf_mono hc (h.2.2 p hp))⟩
  | d + 1, d' + 1, c, c', m, h, hd, hc => ⟨h.1, h.2.1, fun p hp => (h.2.2 p hp).elim (fun z => .inl (leaf_mono hc z)) fun ⟨b, n, cs, e, h1, h2, h3, h4⟩ => .inr ⟨b, n, cs, e, h1, h2, h3, fun km hk => (h4 km hk).mono (by omega) (fun z => by
      rw [Bool.or_eq_true] at z ⊢
      exact z.imp hc id)⟩⟩
theorem MsgOk.mono {d d' : Nat} {c c' : Bool} {m : Msg} (h : MsgOk d c m) (h1 : d ≤ d') (h2 : c = true → c' = true) : MsgOk d' c' m := MsgP.mono h h1 h2
theorem noAdj_snoc : ∀ {m : Msg} {p : Part}, NoAdj m = true → (isTx p = true → ∀ q, m.getLast? = some q → isTx q = false) → NoAdj (m ++ [p]) = true
  | [], p, _, _ => rfl
  | [q], p, _, h => by
    simp only [List.cons_append, List.nil_append, NoAdj, Bool.and_true]
    cases hp : isTx p with
    | false => simp
    | true => simp [h hp q rfl]
  | q :: r :: m, p, h1, h => by
    simp only [NoAdj, Bool.and_eq_true] at h1
    simp only [List.cons_append, NoAdj, Bool.and_eq_true]
    exact ⟨h1.1, noAdj_snoc (m := r :: m) h1.2 fun hp q' hq => h hp q' (by rw [List.getLast?_cons_cons]; exact hq)⟩
/-! ### as data -/
theorem isDats_all {l : List PV} (h : ∀ p ∈ l, isDat p = true) : isDats l = true := by
  induction l with
  | nil => simp [isDats]
  | cons x l ih => simp [isDats, h x List.mem_cons_self, ih fun p hp => h p (List.mem_cons_of_mem _ hp)]
theorem sameOks_all {l : List PV} (h : ∀ p ∈ l, sameOk p = true) : sameOks l = true := by
  induction l with
  | nil => simp [sameOks]
  | cons x l ih => simp [sameOks, h x List.mem_cons_self, ih fun p hp => h p (List.mem_cons_of_mem _ hp)]
theorem deps_all {l : List PV} {n : Nat} (h : ∀ p ∈ l, dep p ≤ n) : deps l ≤ n := by
  induction l with
  | nil => simp [deps]
  | cons x l ih =>
    have := h x List.mem_cons_self
    have := ih fun p hp => h p (List.mem_cons_of_mem _ hp)
    simp only [deps]
    omega
theorem unKey_same (k : K1) : sameOk (unKey k) = true := by cases k <;> rfl
theorem unKey_dep (k : K1) : dep (unKey k) = 0 := by cases k <;> rfl
mutual
theorem part_same : ∀ p : Part, sameOk (partV p) = true
  | .text t => by rw [partV]; rfl
  | .slot t => by rw [partV]; rfl
  | .mark => by rw [partV]; rfl
  | .fork b n cs => by
    rw [partV]
    simp [sameOk, sameOks, cases_same cs]
theorem parts_same : ∀ m : List Part, sameOks (partsV m) = true
  | [] => by rw [partsV]; rfl
  | p :: m => by rw [partsV]; simp [sameOks, part_same p, parts_same m]
theorem cases_same : ∀ m : List (K1 × List Part), sameOks (casesV m) = true
  | [] => by rw [casesV]; rfl
  | (k, m) :: cs => by rw [casesV]; simp [sameOks, sameOk, unKey_same, parts_same m, cases_same cs]
end
theorem msg_same (m : Msg) : sameOk (msgV m) = true := by
  unfold msgV
  rw [sameOk, ← partsV_map]
  exact parts_same m
theorem msg_dat (m : Msg) : isDat (msgV m) = true := same_dat _ (msg_same m)
theorem leaf_dep {P : List Nat → Prop} {c : Bool} {p : Part} (h : LeafP P c p) : dep (partV p) ≤ 1 := by
  cases p with
  | text t => simp [dep, deps]
  | slot t => simp [dep, deps]
  | mark => simp [dep, deps]
  | fork b n cs => exact h.elim
theorem msg_dep {P : List Nat → Prop} : ∀ {d : Nat} {c : Bool} {m : Msg}, MsgP P d c m → dep (msgV m) ≤ 4 * d + 2
  | 0, c, m, h => by
    unfold msgV
    rw [dep]
    have := deps_all (l := m.map partV) (n := 1) fun p hp => by
      obtain ⟨q, hq, rfl⟩ := List.mem_map.mp hp
      exact leaf_dep (h.2.2 q hq)
    omega
  | d + 1, c, m, h => by
    unfold msgV
    rw [dep]
    have := deps_all (l := m.map partV) (n := 4 * d + 5) fun p hp => by
      obtain ⟨q, hq, rfl⟩ := List.mem_map.mp hp
      rcases h.2.2 q hq with h1 | ⟨b, n, cs, rfl, _, _, _, h4⟩
      · have := leaf_dep h1; omega
      · rw [partV_fork]
        have h5 : deps (cs.map caseV) ≤ 4 * d + 3 := deps_all fun p hp => by
          obtain ⟨km, hk, rfl⟩ := List.mem_map.mp hp
          have := msg_dep (h4 km hk)
          unfold caseV
          simp only [dep, deps, unKey_dep]
          omega
        simp only [dep, deps]
        omega
    omega
end M
/-! Q1: drawn messages. -/
namespace M
open PySem L2
def wordOf : Part → List Nat
  | .text _ => wTx
  | .slot _ => wSl
  | .mark => wMk
  | .fork b _ _ => wFk b
@[simp] theorem ix0_part (p : Part) : ixP (partV p) (.int 0) = .ok (.str (wordOf p)) := by
  cases p <;> simp [wordOf] <;> rfl
@[simp] theorem ix1_text (t : List Nat) : ixP (partV (.text t)) (.int 1) = .ok (.str t) := by simp; rfl
@[simp] theorem ix1_slot (t : List Nat) : ixP (partV (.slot t)) (.int 1) = .ok (.str t) := by simp; rfl
@[simp] theorem ix1_fork (b : Bool) (n : List Nat) (cs : List Cse) : ixP (partV (.fork b n cs)) (.int 1) = .ok (.str n) := by simp; rfl
@[simp] theorem ix2_fork (b : Bool) (n : List Nat) (cs : List Cse) : ixP (partV (.fork b n cs)) (.int 2) = .ok (.tup (cs.map caseV)) := by simp; rfl
theorem word_tx (p : Part) : (wordOf p == wTx) = isTx p := by cases p <;> first | rfl | (rename_i b _ _; cases b <;> rfl)

/-! ### tools -/
def ixd {α : Type} : Nat → List α → List (Nat × α)
  | _, [] => []
  | k, x :: xs => (k, x) :: ixd (k + 1) xs
theorem ixd_snd {α : Type} : ∀ (xs : List α) (k : Nat), (ixd k xs).map (·.2) = xs
  | [], _ => rfl
  | x :: xs, k => by simp [ixd, ixd_snd xs]
theorem enum_ixd {α : Type} (g : α → PV) : ∀ (xs : List α) (k : Nat), enumFrom' k (xs.map g) = (ixd k xs).map fun p => .wt [.int (p.1 : Nat), g p.2]
  | [], _ => rfl
  | x :: xs, k => by
    rw [List.map_cons, enumFrom', enum_ixd g xs (k + 1)]
    rfl
theorem enumL_ixd {α : Type} (g : α → PV) (xs : List α) : enumL (xs.map g) = (ixd 0 xs).map fun p => .wt [.int (p.1 : Nat), g p.2] := enum_ixd g xs 0
theorem comp_exK {α β γ : Type} {f : PV → R (Option PV)} {e : α → PV} {pv : β → PV} {key : α → γ} {ky : β → γ} {Ok : β → Prop} : ∀ {xs : List α}, (∀ x ∈ xs, ∃ y, ky y = key x ∧ Ok y ∧ f (e x) = .ok (some (pv y))) → ∃ ys : List β, ys.map ky = xs.map key ∧ (∀ y ∈ ys, Ok y) ∧ compL f (xs.map e) = .ok (ys.map pv)
  | [], _ => ⟨[], rfl, by simp, rfl⟩
  | x :: xs, h => by
    obtain ⟨y, h0, h1, h2⟩ := h x List.mem_cons_self
    obtain ⟨ys, g1, g2, g3⟩ := comp_exK (xs := xs) fun z hz => h z (List.mem_cons_of_mem _ hz)
    refine ⟨y :: ys, by simp [g1, h0], fun z hz => ?_, ?_⟩
    · rcases List.mem_cons.mp hz with rfl | hz
      · exact h1
      · exact g2 z hz
    · simp only [compL, List.map_cons]
      rw [h2, g3]
      rfl
theorem strsOf_map' : ∀ ns : List (List Nat), strsOf (ns.map .str) = some ns
  | [] => rfl
  | n :: ns => by rw [List.map_cons, strsOf, strsOf_map' ns]; rfl
theorem ssetL_ints {ns : List Int} (h : ns.length ≤ 1000) (h3 : (once ns).length < 64) : ssetP (.lst (ns.map .int)) = .ok (.lst ((sortI (once ns)).map .int)) := by
  show sset1 (ns.map .int) = _
  unfold sset1 keysIn
  rw [if_pos (by simpa using h), intsOf_map]
  show (if _ then _ else _) = _
  rw [if_pos h3]
theorem keysIn_strs' (ls : List (List Nat)) (h : ls.length ≤ 1000) (h2 : ls ≠ []) : keysIn (ls.map .str) = some (.inr ls) := by
  unfold keysIn
  rw [if_pos (by simpa using h)]
  cases ls with
  | nil => exact absurd rfl h2
  | cons x l =>
    have h1 : intsOf ((x :: l).map PV.str) = none := rfl
    rw [h1, strsOf_map']
    rfl
theorem ssetL_strs {ls : List (List Nat)} (h : ls.length ≤ 1000) (h2 : ls ≠ []) (h3 : (once ls).length < 64) : ssetP (.lst (ls.map .str)) = .ok (.lst ((sortS (once ls)).map .str)) := by
  show sset1 (ls.map .str) = _
  unfold sset1
  rw [keysIn_strs' ls h h2]
  show (if _ then _ else _) = _
  rw [if_pos h3]
theorem pw_strict {α : Type} {r s : α → α → Prop} (hs : ∀ a b, r a b → a ≠ b → s a b) : ∀ {l : List α}, l.Pairwise r → l.Nodup → l.Pairwise s
  | [], _, _ => .nil
  | x :: l, h1, h2 => by
    obtain ⟨a1, a2⟩ := List.pairwise_cons.mp h1
    obtain ⟨b1, b2⟩ := List.nodup_cons.mp h2
    exact List.pairwise_cons.mpr ⟨fun y hy => hs x y (a1 y hy) fun e => b1 (e ▸ hy), pw_strict hs a2 b2⟩
theorem sortS_strict {l : List (List Nat)} (h : l.Nodup) : (sortS l).Pairwise fun a b => ltL a b = true :=
  pw_strict (fun a b h hn => by
    cases q : ltL a b with
    | true => rfl
    | false => exact absurd (leS_an a b h (by unfold leS; rw [q]; rfl)) hn) (isort_pw leS_tr leS_to l) (sortS_nodup h)
theorem leI_iff {a b : Int} : leI a b = true ↔ a ≤ b := by unfold leI; rw [decide_eq_true_eq]
theorem sortI_pw (l : List Int) : (sortI l).Pairwise (fun a b => leI a b = true) :=
  isort_pw (le := leI) (fun a b c h1 h2 => leI_iff.mpr (Int.le_trans (leI_iff.mp h1) (leI_iff.mp h2))) (fun a b => (Int.le_total a b).imp leI_iff.mpr leI_iff.mpr) l
theorem sortI_strict {l : List Int} (h : l.Nodup) : (sortI l).Pairwise (· < ·) :=
  pw_strict (fun a b h hn => by
    have := leI_iff.mp h
    show a < b
    omega) (sortI_pw l) (((isort_perm l).nodup_iff).mpr h)
theorem sortI_mem {x : Int} {l : List Int} : x ∈ sortI l ↔ x ∈ l := (isort_perm l).mem_iff

/-! ### texts and names -/
abbrev SpText (dn : Str → List PV → R PV) : Prop := ∀ c : Int, ∃ t, TxOk t ∧ dn "_law_text" [.int c] = .ok (.str t)
def txtL : List (List Nat) := [[97], [101, 105, 110], [123], [125], [35], [92], [97, 32, 35, 32, 98], [44, 32], [32, 123, 120, 125], [111]]
def sgnL : List Nat := [32, 33, 34, 35, 36, 38, 39, 40, 41, 42, 43, 44, 45, 46, 47, 48, 49, 50, 51, 52, 53, 54, 55, 56, 57, 58, 59, 60, 61, 62, 63, 64, 65, 66, 67, 68, 69, 70, 71, 72, 73, 74, 75, 76, 77, 78, 79, 80, 81, 82, 83, 84, 85, 86, 87, 88, 89, 90, 91, 92, 93, 94, 95, 96, 97, 98, 99, 100, 101, 102, 103, 104, 105, 106, 107, 108, 109, 110, 111, 112, 113, 114, 115, 116, 117, 118, 119, 120, 121, 122, 123, 124, 125, 126]
instance (t : List Nat) : Decidable (TxOk t) := decidable_of_iff (t ≠ [] ∧ (∀ c ∈ t, 32 ≤ c ∧ c ≤ 126) ∧ t.length ≤ 40) ⟨fun ⟨a, b, c⟩ => ⟨a, b, c⟩, fun ⟨a, b, c⟩ => ⟨a, b, c⟩⟩
instance (t : List Nat) : Decidable (NmeOk t) := decidable_of_iff (t ≠ [] ∧ (∀ c ∈ t, 97 ≤ c ∧ c ≤ 122) ∧ t.length ≤ 6 ∧ t ∈ nmU) ⟨fun ⟨a, b, c, d⟩ => ⟨a, b, c, d⟩, fun ⟨a, b, c, d⟩ => ⟨a, b, c, d⟩⟩
theorem txtL_ok : ∀ t ∈ txtL, TxOk t := by decide
theorem sgnL_ok : ∀ c ∈ sgnL, 32 ≤ c ∧ c ≤ 126 := by decide
theorem ix_strs {xs : List (List Nat)} {i : Int} {t : List Nat} (h : atI xs i = some t) : ixP (.tup (xs.map .str)) (.int i) = .ok (.str t) := ix_tup (by rw [atI_map, h]; rfl)
theorem joinL_ones : ∀ l : List Nat, TL.joinL [] (l.map fun c => [c]) = l
  | [] => rfl
  | [c] => rfl
  | c :: d :: l => by
    have := joinL_ones (d :: l)
    simp only [List.map_cons] at this ⊢
    rw [TL.joinL, this]
    rfl
theorem join_ones {l : List Nat} (h : l.length ≤ 1000000) : joinP [] (.lst (l.map fun c => .str [c])) = .ok (.str l) := by
  have e : (l.map fun c => PV.str [c]) = (l.map fun c => [c]).map .str := by rw [List.map_map]; rfl
  rw [e]
  show (match strsOf _ with
    | some ls => if (ls.map (fun x : List Nat => x.length)).sum + ls.length * 0 ≤ 16777216 then (R.ok (.str (TL.joinL [] ls)) : R PV) else .no
    | none => .no) = _
  rw [strsOf_map']
  show (if _ then _ else _) = _
  have : ((l.map fun c => [c]).map (fun x : List Nat => x.length)).sum = l.length := by
    rw [List.map_map]
    exact sum_ones l
  rw [if_pos (by rw [this]; omega), joinL_ones]
theorem b_text {dn : Str → List PV → R PV} {wf : Nat} (hM : SpMix dn) (c : Int) : ∃ t, TxOk t ∧ runB dn wf 4 b__law_text [.int c] = .ok (.str t) := by
  have hlen : sgnL.length = 94 := by decide
  by_cases h : c % 3 = 0
  · obtain ⟨t, h1, h2⟩ := atI_some (xs := txtL) (mixM_nn c 9941 10 (by decide)) (mixM_lt c 9941 10 (by decide))
    have e := ix_strs h1
    simp only [txtL, List.map_cons, List.map_nil] at e
    exact ⟨t, txtL_ok t h2, by simp [runB, b__law_text, mod_pos, h, hM, e]⟩
  · have m1 := mixM_nn c 9931 4 (by decide)
    have m2 := mixM_lt c 9931 4 (by decide)
    have hr : rngP 0 (1 + mixM c 9931 4) = .ok ((List.range (1 + mixM c 9931 4).toNat).map fun i => .int (i : Nat)) := rng0 (by omega) (by omega)
    obtain ⟨cs, c1, c2, c3⟩ := comp_ex (f := turnC [3] (Tg.nm 3) none ((E.ix (.v 1) (.call "_law_mix" 3 (.cons (.bin .Add (.v 0) (.bin .Mult (.c (.int 7)) (.v 3))) (.cons (.c (.int 9929)) (.cons (.pr .len (.cons (.v 1) .nil)) .nil))))).ev dn) [some (.int c), some (.str sgnL), some (.int (1 + mixM c 9931 4)), none])
      (e := fun i : Nat => PV.int (i : Nat)) (pv := fun c => PV.str [c]) (Ok := fun _ c => c ∈ sgnL) (xs := List.range (1 + mixM c 9931 4).toNat) (fun i _ => by
        obtain ⟨d, h1, h2⟩ := atI_some (xs := sgnL) (mixM_nn (c + 7 * i) 9929 94 (by decide)) (mixM_lt (c + 7 * i) 9929 94 (by decide))
        refine ⟨d, h2, ?_⟩
        simp [mul_l, hlen, hM, ix_str h1])
    rw [List.length_range] at c1
    refine ⟨cs, ⟨fun e => by rw [e] at c1; simp at c1; omega, fun d hd => ?_, by omega⟩, ?_⟩
    · obtain ⟨_, _, h⟩ := c2 d hd
      exact sgnL_ok d h
    · simp only [runB, b__law_text, entry_1, List.replicate]
      rw [step (ρ' := [some (.int c), some (.str sgnL), none, none]) (by simp [sgnL])]
      rw [step (ρ' := [some (.int c), some (.str sgnL), none, none]) (by simp [mod_pos, h])]
      rw [step (ρ' := [some (.int c), some (.str sgnL), some (.int (1 + mixM c 9931 4)), none]) (by simp [hM])]
      simp [hr, -List.map_map]
      rw [c3]
      simp [join_ones (show cs.length ≤ 1000000 by omega)]
def nameL : List (List Nat) := [[97], [110], [119, 104, 111], [102, 105, 108, 101], [122, 122, 122, 122, 122, 122]]
theorem nameL_ok : ∀ n ∈ nameL, NmeOk n := by decide
abbrev SpName (dn : Str → List PV → R PV) : Prop := ∀ c : Int, ∃ n, n ∈ nameL ∧ dn "_law_name" [.int c] = .ok (.str n)
theorem b_name {dn : Str → List PV → R PV} {wf : Nat} (hM : SpMix dn) (c : Int) : ∃ n, n ∈ nameL ∧ runB dn wf 1 b__law_name [.int c] = .ok (.str n) := by
  obtain ⟨t, h1, h2⟩ := atI_some (xs := nameL) (mixM_nn c 9923 5 (by decide)) (mixM_lt c 9923 5 (by decide))
  have e := ix_strs h1
  simp only [nameL, List.map_cons, List.map_nil] at e
  exact ⟨t, h2, by simp [runB, b__law_name, hM, e]⟩
end M
/-! Q2: drawn cases and messages. -/
namespace M
open PySem L2
abbrev SpMsgAt (dn : Str → List PV → R PV) (d : Nat) : Prop := ∀ (s : Int) (c : Bool), ∃ m, MsgOk d c m ∧ dn "_law_message" [.int s, .int (d : Nat), .bl c] = .ok (msgV m)
abbrev SpCasesAt (dn : Str → List PV → R PV) (d : Nat) : Prop := ∀ (s : Int) (b c : Bool), ∃ cs : List Cse, CkOk b (cs.map (·.1)) ∧ cs.length ≤ 8 ∧ (∀ km ∈ cs, MsgOk d (c || b) km.2) ∧ dn "_law_cases" [.int s, .str (wFk b), .int ((d : Int) + 1), .bl c] = .ok (.tup (cs.map caseV))
def ovL : List (List Nat) := [[102], [109], [115, 104, 101], [116, 104, 101, 121]]
theorem ovL_ok : ∀ n ∈ ovL, NmeOk n ∧ n ≠ othS := by decide
theorem wCo_ne : (wKi == wCo) = false := by decide
theorem unKey_inl (ns : List Int) : (ns.map Sum.inl : List K1).map unKey = ns.map .int := by rw [List.map_map]; rfl
theorem unKey_inr (ns : List (List Nat)) : (ns.map Sum.inr : List K1).map unKey = ns.map .str := by rw [List.map_map]; rfl
theorem addLst (a b : List PV) (h : a.length + b.length ≤ 1000000) : addP (.lst a) (.lst b) = .ok (.lst (a ++ b)) := add_lst a b (by omega)
theorem addS' (a b : List Nat) (h : a.length + b.length ≤ 10000000) : addP (.str a) (.str b) = .ok (.str (a ++ b)) := add_str a b (by omega)
theorem filter_sub {α β : Type} (f : α → β) (p : α → Bool) (l : List α) : ((l.filter p).map f).Sublist (l.map f) := List.Sublist.map f List.filter_sublist
/-- the end of the cases, from their keys -/
theorem cases_end {dn : Str → List PV → R PV} {wf : Nat} {d : Nat} (hG : SpMsgAt dn d) (s : Int) (b c : Bool) (w : PV) (ks : List K1) (hk : CkOk b (ks ++ [.inr othS])) (hl : ks.length ≤ 7) (o5 o6 o7 o8 o9 : Option PV) (hw : eqR w (.str wCo) = .ok (.bl b)) :
    ∃ cs : List Cse, CkOk b (cs.map (·.1)) ∧ cs.length ≤ 8 ∧ (∀ km ∈ cs, MsgOk d (c || b) km.2) ∧
      ((b__law_cases.from 2).ev dn wf [some (.int s), some w, some (.int ((d : Int) + 1)), some (.bl c), some (.lst (ks.map unKey)), o5, o6, o7, o8, o9] >>= endF) = .ok (.tup (cs.map caseV)) := by
  obtain ⟨cs, h1, h2, h3⟩ := comp_exK (f := turnC [7, 8] (Tg.tp [7, 8]) none ((E.tup (.cons (.v 8) (.cons (.call "_law_message" 3 (.cons (.bin .Add (.bin .Add (.v 0) (.bin .Mult (.c (.int 17)) (.v 7))) (.c (.int 5))) (.cons (.bin .Sub (.v 2) (.c (.int 1))) (.cons (.v 5) .nil)))) .nil))).ev dn) [some (.int s), some w, some (.int ((d : Int) + 1)), some (.bl c), some (.lst (ks.map unKey)), some (.bl (c || b)), o6, o7, o8, o9])
    (e := fun p : Nat × K1 => PV.wt [.int (p.1 : Nat), unKey p.2]) (pv := caseV) (key := fun p : Nat × K1 => p.2) (ky := fun km : Cse => km.1) (Ok := fun km => MsgOk d (c || b) km.2) (xs := ixd 0 (ks ++ [.inr othS])) (fun p _ => by
      obtain ⟨m, g1, g2⟩ := hG (s + 17 * p.1 + 5) (c || b)
      refine ⟨(p.2, m), rfl, g1, ?_⟩
      have e1 : ((d : Int) + 1) - 1 = (d : Nat) := by omega
      simp [bindT, setP, mul_l, g2, caseV])
  rw [ixd_snd] at h1
  refine ⟨cs, by rw [h1]; exact hk, ?_, h2, ?_⟩
  · have := congrArg List.length h1
    simp at this
    omega
  · simp only [b__law_cases, Ss.from]
    have ho : (E.or (.v 3) (.cmp .Eq (.v 1) (.c (.str [99, 111, 117, 110, 116])))).ev dn [some (.int s), some w, some (.int ((d : Int) + 1)), some (.bl c), some (.lst (ks.map unKey)), o5, o6, o7, o8, o9] = .ok (.bl (c || b)) := by
      have hw' : eqR w (.str [99, 111, 117, 110, 116]) = .ok (.bl b) := hw
      simp [hw']
    rw [step (ρ' := [some (.int s), some w, some (.int ((d : Int) + 1)), some (.bl c), some (.lst (ks.map unKey)), some (.bl (c || b)), o6, o7, o8, o9]) (by rw [evs_set, ho]; rfl)]
    have ea : addP (.lst (ks.map unKey)) (.lst [PV.str othS]) = .ok (.lst ((ks ++ [Sum.inr othS] : List K1).map unKey)) := by
      rw [addLst _ _ (by simp; omega), List.map_append]
      rfl
    have hlo : (List.map unKey ks).length = ks.length := by simp
    simp only [evb_cons, evs_ret, ev_pr, evs_cons, evs_nil, ev_lc, evi_enum, ev_bin, bin_add, ev_v, fVar_s, fVar_0, R.ok_bind, ev_lst, ev_c, List.length_cons, List.length_nil]
    rw [if_pos (by decide)]
    simp only [R.ok_bind]
    rw [show ([111, 116, 104, 101, 114] : List Nat) = othS from rfl, ea]
    simp only [R.ok_bind, asSeq]
    rw [enumL_ixd]
    simp only [evot_none]
    rw [h3]
    simp

theorem pw_take {α : Type} {r : α → α → Prop} {l : List α} (n : Nat) (h : l.Pairwise r) : (l.take n).Pairwise r := h.sublist (List.take_sublist n l)
/-- the categories that are drawn -/
def catD (s : Int) : List (List Nat) := ((ixd 0 catW).filter fun p => mixM (s + p.1) 9887 3 == 0).map (·.2)
theorem catD_sub (s : Int) : (catD s).Sublist catW := by
  have := filter_sub (·.2) (fun p : Nat × List Nat => mixM (s + p.1) 9887 3 == 0) (ixd 0 catW)
  rw [ixd_snd] at this
  exact this

/-- the keys of a count's cases -/
theorem ck_count (s : Int) (ns : List Int) (hr : ∀ n ∈ ns, 0 ≤ n ∧ n ≤ 999) : CkOk true ((sortI (once ns)).map .inl ++ (catD s).map .inr ++ [.inr othS]) := by
  show ∃ _ _, _
  refine ⟨sortI (once ns), catD s, by simp, sortI_strict (once_nodup ns), fun n hn => ?_, catD_sub s⟩
  rw [sortI_mem, once_mem] at hn
  exact hr n hn
theorem ck_kind (ls : List (List Nat)) (h : ∀ l ∈ ls, l ∈ ovL) : CkOk false (((sortS (once ls)).take 2).map .inr ++ [.inr othS]) := by
  show ∃ _, _
  refine ⟨(sortS (once ls)).take 2, by simp, pw_take 2 (sortS_strict (once_nodup ls)), fun l hl => ovL_ok l (h l ?_)⟩
  have := List.mem_of_mem_take hl
  rwa [sortS_mem, once_mem] at this
theorem unKey_ck (ns : List Int) (cs : List (List Nat)) : ((ns.map Sum.inl ++ cs.map Sum.inr : List K1)).map unKey = ns.map .int ++ cs.map .str := by
  rw [List.map_append, unKey_inl, unKey_inr]
/-- the step that adds categories -/
theorem cats_step {dn : Str → List PV → R PV} {wf : Nat} (hM : SpMix dn) (s : Int) (w dd cc : PV) (xs : List PV) (hx : xs.length ≤ 1000) (o5 o7 o8 o9 : Option PV) :
    (E.bin .Add (.v 4) (.lc [7, 9] (.tp [7, 9]) (.enum (.v 6)) (.some (.cmp .Eq (.call "_law_mix" 3 (.cons (.bin .Add (.v 0) (.v 7)) (.cons (.c (.int 9887)) (.cons (.c (.int 3)) .nil)))) (.c (.int 0)))) (.v 9))).ev dn [some (.int s), some w, some dd, some cc, some (.lst xs), o5, some (.tup (catW.map .str)), o7, o8, o9] = .ok (.lst (xs ++ (catD s).map .str)) := by
  have c1 : compL (turnC [7, 9] (Tg.tp [7, 9]) (some ((T.cmp .Eq (.call "_law_mix" 3 (.cons (.bin .Add (.v 0) (.v 7)) (.cons (.c (.int 9887)) (.cons (.c (.int 3)) .nil)))) (.c (.int 0))).ev dn)) ((E.v 9).ev dn) [some (.int s), some w, some dd, some cc, some (.lst xs), o5, some (.tup (catW.map .str)), o7, o8, o9]) ((ixd 0 catW).map fun p => .wt [.int (p.1 : Nat), .str p.2]) = .ok (((ixd 0 catW).filter fun p => mixM (s + p.1) 9887 3 == 0).map fun p => .str p.2) :=
    comp_filterS fun p _ => by
      by_cases h : mixM (s + p.1) 9887 3 = 0
      · simp [bindT, setP, hM, h]
      · simp [bindT, setP, hM, h]
  have hl : (catD s).length ≤ 5 := (catD_sub s).length_le
  simp only [ev_bin, bin_add, ev_v, fVar_s, fVar_0, R.ok_bind, ev_lc, evi_enum, asSeq, evot_some]
  rw [enumL_ixd, c1]
  simp only [R.nox_ok, R.ok_bind]
  rw [show (((ixd 0 catW).filter fun p => mixM (s + p.1) 9887 3 == 0).map fun p => PV.str p.2) = (catD s).map .str by unfold catD; rw [List.map_map]; rfl]
  exact addLst _ _ (by rw [List.length_map]; omega)
theorem b_cases {dn : Str → List PV → R PV} {wf : Nat} {d : Nat} (hM : SpMix dn) (hG : SpMsgAt dn d) (s : Int) (b c : Bool) : ∃ cs : List Cse, CkOk b (cs.map (·.1)) ∧ cs.length ≤ 8 ∧ (∀ km ∈ cs, MsgOk d (c || b) km.2) ∧ runB dn wf 10 b__law_cases [.int s, .str (wFk b), .int ((d : Int) + 1), .bl c] = .ok (.tup (cs.map caseV)) := by
  cases b with
  | true =>
    have m1 := mixM_nn s 9901 3 (by decide)
    have m2 := mixM_lt s 9901 3 (by decide)
    have hr : rngP 0 (mixM s 9901 3) = .ok ((List.range (mixM s 9901 3).toNat).map fun i => .int (i : Nat)) := rng0 (by omega) (by omega)
    obtain ⟨ns, hns⟩ : ∃ ns : List Int, ns = (List.range (mixM s 9901 3).toNat).map fun i => mixM (s + 3 * (i : Nat)) 9907 6 := ⟨_, rfl⟩
    have hl : ns.length ≤ 2 := by rw [hns]; simp; omega
    have hol := once_len ns
    have hd := (catD_sub s).length_le
    have hd : (catD s).length ≤ 5 := hd
    have hsl : (sortI (once ns)).length = (once ns).length := isort_len _
    have c1 : compL (turnC [7] (Tg.nm 7) none ((E.call "_law_mix" 3 (.cons (.bin .Add (.v 0) (.bin .Mult (.c (.int 3)) (.v 7))) (.cons (.c (.int 9907)) (.cons (.c (.int 6)) .nil)))).ev dn) [some (.int s), some (.str wCo), some (.int ((d : Int) + 1)), some (.bl c), some (.lst []), none, none, none, none, none]) ((List.range (mixM s 9901 3).toNat).map fun i => .int (i : Nat)) = .ok (ns.map .int) := by
      rw [hns, List.map_map]
      exact comp_mapS fun i _ => by simp [mul_l, hM]
    obtain ⟨cs, h1, h2, h3, h4⟩ := cases_end (wf := wf) hG s true c (.str wCo) ((sortI (once ns)).map .inl ++ (catD s).map .inr) (ck_count s ns fun n hn => by
      rw [hns] at hn
      obtain ⟨i, _, rfl⟩ := List.mem_map.mp hn
      have := mixM_nn (s + 3 * i) 9907 6 (by decide)
      have := mixM_lt (s + 3 * i) 9907 6 (by decide)
      omega) (by simp; omega) none (some (.tup (catW.map .str))) none none none rfl
    refine ⟨cs, h1, h2, h3, ?_⟩
    rw [unKey_ck] at h4
    simp only [b__law_cases, Ss.from] at h4
    simp only [runB, b__law_cases, entry_4, List.replicate, wFk, if_true]
    rw [step (ρ' := [some (.int s), some (.str wCo), some (.int ((d : Int) + 1)), some (.bl c), some (.lst []), none, none, none, none, none]) (by simp)]
    rw [step (ρ' := [some (.int s), some (.str wCo), some (.int ((d : Int) + 1)), some (.bl c), some (.lst ((sortI (once ns)).map .int ++ (catD s).map .str)), none, some (.tup (catW.map .str)), none, none, none]) (by
      rw [evs_cond]
      have et : (T.cmp .Eq (.v 1) (.c (.str [99, 111, 117, 110, 116]))).ev dn [some (.int s), some (.str wCo), some (.int ((d : Int) + 1)), some (.bl c), some (.lst []), none, none, none, none, none] = .ok true := by simp [wCo]
      rw [et]
      simp only [R.ok_bind, if_true]
      rw [step (ρ' := [some (.int s), some (.str wCo), some (.int ((d : Int) + 1)), some (.bl c), some (.lst ((sortI (once ns)).map .int)), none, none, none, none, none]) (by
        simp [hM, hr, -List.map_map]
        rw [c1]
        simp [ssetL_ints (show ns.length ≤ 1000 by omega) (show (once ns).length < 64 by omega)])]
      rw [step (ρ' := [some (.int s), some (.str wCo), some (.int ((d : Int) + 1)), some (.bl c), some (.lst ((sortI (once ns)).map .int)), none, some (.tup (catW.map .str)), none, none, none]) (by simp [catW])]
      rw [evb_cons, evs_set, cats_step (wf := wf) hM s _ _ _ _ (by simp; omega)]
      rfl)]
    exact h4
  | false =>
    have hr := rng0 (n := 3) (by omega) (by omega)
    obtain ⟨ls, hl1, hl2, c1⟩ := comp_ex (f := turnC [7] (Tg.nm 7) none ((E.ix (.tup (.cons (.c (.str [102])) (.cons (.c (.str [109])) (.cons (.c (.str [115, 104, 101])) (.cons (.c (.str [116, 104, 101, 121])) .nil))))) (.call "_law_mix" 3 (.cons (.bin .Add (.v 0) (.bin .Mult (.c (.int 3)) (.v 7))) (.cons (.c (.int 9883)) (.cons (.c (.int 4)) .nil))))).ev dn) [some (.int s), some (.str wKi), some (.int ((d : Int) + 1)), some (.bl c), some (.lst []), none, none, none, none, none])
      (e := fun i : Nat => PV.int (i : Nat)) (pv := PV.str) (Ok := fun _ l => l ∈ ovL) (xs := List.range 3) (fun i _ => by
        obtain ⟨t, h1, h2⟩ := atI_some (xs := ovL) (mixM_nn (s + 3 * i) 9883 4 (by decide)) (mixM_lt (s + 3 * i) 9883 4 (by decide))
        have e := ix_strs h1
        simp only [ovL, List.map_cons, List.map_nil] at e
        exact ⟨t, h2, by simp [mul_l, hM, e]⟩)
    rw [List.length_range] at hl1
    have hol := once_len ls
    obtain ⟨cs, h1, h2, h3, h4⟩ := cases_end (wf := wf) hG s false c (.str wKi) (((sortS (once ls)).take 2).map .inr) (ck_kind ls fun l hl => (hl2 l hl).elim fun _ z => z.2) (by simp; omega) none none none none none rfl
    refine ⟨cs, h1, h2, h3, ?_⟩
    rw [unKey_inr] at h4
    simp only [b__law_cases, Ss.from] at h4
    simp only [runB, b__law_cases, entry_4, List.replicate, wFk]
    rw [step (ρ' := [some (.int s), some (.str wKi), some (.int ((d : Int) + 1)), some (.bl c), some (.lst []), none, none, none, none, none]) (by simp)]
    rw [step (ρ' := [some (.int s), some (.str wKi), some (.int ((d : Int) + 1)), some (.bl c), some (.lst (((sortS (once ls)).take 2).map .str)), none, none, none, none, none]) (by
      rw [evs_cond]
      have et : (T.cmp .Eq (.v 1) (.c (.str [99, 111, 117, 110, 116]))).ev dn [some (.int s), some (.str wKi), some (.int ((d : Int) + 1)), some (.bl c), some (.lst []), none, none, none, none, none] = .ok false := by simp [wKi]
      rw [et]
      simp only [R.ok_bind, Bool.false_eq_true, if_false]
      simp [hr, -List.map_map]
      rw [c1]
      simp only [R.nox_ok, R.ok_bind]
      rw [ssetL_strs (show ls.length ≤ 1000 by omega) (by intro e; rw [e] at hl1; simp at hl1) (show (once ls).length < 64 by omega)]
      simp [cutL_to _ 2 (by decide), List.map_take])]
    exact h4

theorem last_part {m : Msg} {q : Part} (h : m.getLast? = some q) : ixP (.lst (m.map partV)) (.int (-1)) = .ok (partV q) := by
  refine ix_lst ?_
  have hne : m ≠ [] := by intro e; subst e; cases h
  rw [atI_neg1 (by simpa using hne), List.getLast?_map, h]
  rfl
theorem tx_word (q : Part) : (wordOf q == [116, 101, 120, 116]) = isTx q := word_tx q
/-- the test for a text -/
theorem msg_test {dn : Str → List PV → R PV} (w : Int) (m : Msg) (o0 o1 o2 o4 o5 o7 : Option PV) :
    (T.and (.cmp .Lt (.v 6) (.c (.int 2))) (.or (.not (.tru (.v 3))) (.cmp .NotEq (.ix (.ix (.v 3) (.neg (.c (.int 1)))) (.c (.int 0))) (.c (.str [116, 101, 120, 116]))))).ev dn [o0, o1, o2, some (.lst (m.map partV)), o4, o5, some (.int w), o7] =
      .ok (decide (w < 2) && (match m.getLast? with
        | none => true
        | some q => !isTx q)) := by
  cases h : m.getLast? with
  | none =>
    have : m = [] := by simpa using h
    subst this
    by_cases hw : w < 2 <;> simp [hw]
  | some q =>
    have hne : m ≠ [] := by intro e; subst e; cases h
    have he : (m.map partV).isEmpty = false := by cases m <;> first | rfl | exact absurd rfl hne
    by_cases hw : w < 2
    · simp [hw, last_part h, tx_word, hne]
    · simp [hw]
theorem b_message {dn : Str → List PV → R PV} {wf : Nat} (hM : SpMix dn) (hT : SpText dn) (hN : SpName dn) (d : Nat) (hC : ∀ e, d = e + 1 → SpCasesAt dn e) (s : Int) (c : Bool) : ∃ m, MsgOk d c m ∧ runB dn wf 8 b__law_message [.int s, .int (d : Nat), .bl c] = .ok (msgV m) := by
  have := big_ge
  have m1 := mixM_nn s 9871 4 (by decide)
  have m2 := mixM_lt s 9871 4 (by decide)
  have hr : rngP 0 (mixM s 9871 4) = .ok ((List.range (mixM s 9871 4).toNat).map fun i => .int (i : Nat)) := rng0 (by omega) (by omega)
  obtain ⟨ρ', e, m, p4, p5, p6, p7, rfl, h1, h2, h3⟩ := forT_pre' (tg := .nm 4) (body := ((b__law_message.at 1).blk).ev dn wf) (e := fun i : Nat => PV.int (i : Nat)) (xs := List.range (mixM s 9871 4).toNat) (ρ := [some (.int s), some (.int (d : Nat)), some (.bl c), some (.lst []), none, none, none, none])
    (fun pre ρ => ∃ m p4 p5 p6 p7, ρ = [some (.int s), some (.int (d : Nat)), some (.bl c), some (.lst (m.map partV)), p4, p5, p6, p7] ∧ m.length = pre.length ∧ NoAdj m = true ∧ ∀ p ∈ m, PartOk d c p)
    (fun pre i post ρ hp ⟨m, p4, p5, p6, p7, e, h1, h2, h3⟩ => by
      subst e
      have hl := congrArg List.length hp
      simp only [List.length_range, List.length_append, List.length_cons] at hl
      obtain ⟨g, hg⟩ : ∃ g : Int, g = s + 19 * i := ⟨_, rfl⟩
      obtain ⟨w, hw⟩ : ∃ w : Int, w = mixM g 9859 7 := ⟨_, rfl⟩
      have w1 : 0 ≤ w := by rw [hw]; exact mixM_nn g 9859 7 (by decide)
      have w2 : w < 7 := by rw [hw]; exact mixM_lt g 9859 7 (by decide)
      -- what is put behind
      have fin : ∀ (p : Part) (o7 : Option PV), PartOk d c p → (isTx p = true → ∀ q, m.getLast? = some q → isTx q = false) → ((((b__law_message.at 1).blk).from 2).ev dn wf [some (.int s), some (.int (d : Nat)), some (.bl c), some (.lst (m.map partV)), some (.int i), some (.int g), some (.int w), p7] = .ok (.nx [some (.int s), some (.int (d : Nat)), some (.bl c), some (.lst ((m ++ [p]).map partV)), some (.int i), some (.int g), some (.int w), o7])) →
          ∃ ρ2, (bindT (.nm 4) (.int (i : Nat)) [some (.int s), some (.int (d : Nat)), some (.bl c), some (.lst (m.map partV)), p4, p5, p6, p7] >>= ((b__law_message.at 1).blk).ev dn wf) = .ok (.nx ρ2) ∧ ∃ m' p4 p5 p6 p7, ρ2 = [some (.int s), some (.int (d : Nat)), some (.bl c), some (.lst (m'.map partV)), p4, p5, p6, p7] ∧ m'.length = (pre ++ [i]).length ∧ NoAdj m' = true ∧ ∀ p ∈ m', PartOk d c p := fun p o7 hpo hadj e => by
        refine ⟨_, ?_, m ++ [p], some (.int i), some (.int g), some (.int w), o7, rfl, by simp [h1], noAdj_snoc h2 hadj, fun q hq => ?_⟩
        · simp only [b__law_message, Ss.at, S.blk, Ss.from] at e ⊢
          simp only [bindT_nm, R.ok_bind, List.set]
          rw [step (ρ' := [some (.int s), some (.int (d : Nat)), some (.bl c), some (.lst (m.map partV)), some (.int i), some (.int g), p6, p7]) (by simp [mul_l, hg])]
          rw [step (ρ' := [some (.int s), some (.int (d : Nat)), some (.bl c), some (.lst (m.map partV)), some (.int i), some (.int g), some (.int w), p7]) (by simp [hM, hw])]
          exact e
        · rcases List.mem_append.mp hq with h | h
          · exact h3 q h
          · have : q = p := by simpa using h
            subst this
            exact hpo
      have hbig : m.length < M.big := by omega
      have leaf : ∀ p, LeafOk c p → PartOk d c p := fun p hp => by cases d with
        | zero => exact hp
        | succ d => exact .inl hp
      have t1 := msg_test (dn := dn) w m (some (.int s)) (some (.int (d : Nat))) (some (.bl c)) (some (.int i)) (some (.int g)) p7
      simp only [b__law_message, Ss.at, S.blk, Ss.from] at fin
      by_cases hA : (decide (w < 2) && (match m.getLast? with
        | none => true
        | some q => !isTx q)) = true
      · obtain ⟨t, g1, g2⟩ := hT g
        refine fin (.text t) p7 (leaf _ g1) (fun _ q hq => ?_) ?_
        · rw [hq] at hA
          simp only [Bool.and_eq_true, Bool.not_eq_true'] at hA
          exact hA.2
        · rw [evb_cons, evs_cond, t1, hA]
          simp [g2, hbig, wTx]
      · have hA : (decide (w < 2) && (match m.getLast? with
          | none => true
          | some q => !isTx q)) = false := by simpa using hA
        by_cases hB : w = 2 ∧ c = true
        · obtain ⟨rfl, rfl⟩ := hB
          refine fin .mark p7 (leaf _ rfl) (fun z => by cases z) ?_
          rw [evb_cons, evs_cond, t1, hA]
          simp [hbig, wMk]
        · have tB : (T.and (.cmp .Eq (.v 6) (.c (.int 2))) (.tru (.v 2))).ev dn [some (.int s), some (.int (d : Nat)), some (.bl c), some (.lst (m.map partV)), some (.int i), some (.int g), some (.int w), p7] = .ok false := by
            by_cases h2 : w = 2
            · have hc : c = false := by
                cases c with
                | false => rfl
                | true => exact absurd ⟨h2, rfl⟩ hB
              subst hc
              simp [h2]
            · simp [h2]
          by_cases hD : w < 5 ∨ d = 0
          · obtain ⟨n, g1, g2⟩ := hN g
            refine fin (.slot n) p7 (leaf _ (nameL_ok n g1)) (fun z => by cases z) ?_
            have tC : (T.or (.cmp .Lt (.v 6) (.c (.int 5))) (.cmp .Eq (.v 1) (.c (.int 0)))).ev dn [some (.int s), some (.int (d : Nat)), some (.bl c), some (.lst (m.map partV)), some (.int i), some (.int g), some (.int w), p7] = .ok true := by
              rcases hD with h | h
              · simp [h]
              · simp [h]
            rw [evb_cons, evs_cond, t1, hA]
            simp only [R.ok_bind, Bool.false_eq_true, if_false]
            rw [evb_cons, evs_cond, tB]
            simp only [R.ok_bind, Bool.false_eq_true, if_false]
            rw [evb_cons, evs_cond, tC]
            simp [g2, hbig, wSl]
          · have hw5 : ¬ w < 5 := fun z => hD (.inl z)
            obtain ⟨e, rfl⟩ : ∃ e, d = e + 1 := ⟨d - 1, by have : d ≠ 0 := fun z => hD (.inr z); omega⟩
            obtain ⟨n, g1, g2⟩ := hN g
            obtain ⟨b, hb⟩ : ∃ b : Bool, w = if b then 5 else 6 := by
              have : w = 5 ∨ w = 6 := by omega
              rcases this with h | h
              · exact ⟨true, h⟩
              · exact ⟨false, h⟩
            obtain ⟨cs, k1, k2, k3, k4⟩ := hC e rfl (g + 1) b c
            refine fin (.fork b n cs) (some (.str (wFk b))) (.inr ⟨b, n, cs, rfl, nameL_ok n g1, k1, k2, k3⟩) (fun z => by cases z) ?_
            have tC : (T.or (.cmp .Lt (.v 6) (.c (.int 5))) (.cmp .Eq (.v 1) (.c (.int 0)))).ev dn [some (.int s), some (.int ((e + 1 : Nat) : Int)), some (.bl c), some (.lst (m.map partV)), some (.int i), some (.int g), some (.int w), p7] = .ok false := by
              simp only [evt_or, evt_cmp, ev_v, fVar_s, fVar_0, ev_c, R.ok_bind, c_lt, ltR_int, asBl_bl, decide_eq_false hw5, Bool.false_eq_true, if_false, c_eq, eqR_int]
              rw [show (((e + 1 : Nat) : Int) == 0) = false by rw [beq_eq_false_iff_ne]; omega]
            rw [evb_cons, evs_cond, t1, hA]
            simp only [R.ok_bind, Bool.false_eq_true, if_false]
            rw [evb_cons, evs_cond, tB]
            simp only [R.ok_bind, Bool.false_eq_true, if_false]
            rw [evb_cons, evs_cond, tC]
            simp only [R.ok_bind, Bool.false_eq_true, if_false]
            have ix : ixP (.tup [.str wCo, .str wKi]) (.int (w - 5)) = .ok (.str (wFk b)) := by
              rw [hb]
              cases b <;> rfl
            rw [step (ρ' := [some (.int s), some (.int ((e + 1 : Nat) : Int)), some (.bl c), some (.lst (m.map partV)), some (.int i), some (.int g), some (.int w), some (.str (wFk b))]) (by
              simp only [wCo, wKi] at ix
              simp [ix])]
            simp [g2, k4, hbig]) ⟨[], none, none, none, none, rfl, rfl, rfl, by simp⟩
  rw [List.length_range] at h1
  refine ⟨m, msgOk_iff.mpr ⟨by omega, h2, h3⟩, ?_⟩
  simp only [b__law_message, Ss.at, S.blk] at e
  simp only [runB, b__law_message, entry_3, List.replicate]
  rw [step (ρ' := [some (.int s), some (.int (d : Nat)), some (.bl c), some (.lst []), none, none, none, none]) (by simp [isObjP])]
  rw [step (by simp [hM, hr]; exact e)]
  simp [msgV]
end M
/-! T0: what messages use. -/
namespace M
open PySem L2
variable {P : List Nat → Prop}
def useP : Part → Option Tx
  | .slot n => some [n, wSl]
  | .fork b n _ => some [n, wFk b]
  | _ => none
def innP : Part → List Msg
  | .fork _ _ cs => cs.map (·.2)
  | _ => []
def usesL : Nat → Msg → List Tx
  | 0, m => m.flatMap fun p => (useP p).toList ++ (innP p).flatMap fun _ => []
  | d + 1, m => m.flatMap fun p => (useP p).toList ++ (innP p).flatMap (usesL d)
def usesI : Nat → Msg → List Tx
  | 0, _ => []
  | d + 1, m => usesL d m
def partU (d : Nat) (p : Part) : List Tx := (useP p).toList ++ (innP p).flatMap (usesI d)
theorem usesL_eq (d : Nat) (m : Msg) : usesL d m = m.flatMap (partU d) := by cases d <;> rfl
theorem usesL_app (d : Nat) (a b : Msg) : usesL d (a ++ b) = usesL d a ++ usesL d b := by rw [usesL_eq, usesL_eq, usesL_eq, List.flatMap_append]
theorem usesL_one (d : Nat) (p : Part) : usesL d [p] = partU d p := by rw [usesL_eq]; simp
def usesS (d : Nat) (m : Msg) : List Tx := sortT (once (usesL d m))
def usesV (d : Nat) (m : Msg) : PV := .tup ((usesS d m).map tupS)
theorem fork_of {d : Nat} {c : Bool} {p : Part} (h : PartP P d c p) : ∀ m ∈ innP p, ∃ e c', d = e + 1 ∧ MsgP P e c' m := by
  intro m hm
  cases d with
  | zero =>
    cases p with
    | fork b n cs => exact (show False from h).elim
    | _ => cases hm
  | succ d =>
    rcases h with h | ⟨b, n, cs, rfl, _, _, _, h4⟩
    · cases p with
      | fork b n cs => exact (show False from h).elim
      | _ => cases hm
    · obtain ⟨km, hk, rfl⟩ := List.mem_map.mp hm
      exact ⟨d, _, rfl, h4 km hk⟩
theorem innP_len {d : Nat} {c : Bool} {p : Part} (h : PartP P d c p) : (innP p).length ≤ 8 := by
  cases p with
  | fork b n cs =>
    cases d with
    | zero => exact (show False from h).elim
    | succ d =>
      rcases h with h | ⟨b, n, cs', e, _, _, h3, _⟩
      · exact (show False from h).elim
      · cases e
        simpa [innP] using h3
  | _ => simp [innP]
theorem b_inner_of' {dn : Str → List PV → R PV} {wf : Nat} (p : Part) : runB dn wf 3 b_inner_of [partV p] = .ok (.lst ((innP p).map msgV)) := by
  cases p with
  | fork b n cs =>
    have i2 : ixP (.tup [.str (wFk b), .str n, .tup (cs.map caseV)]) (.int 2) = .ok (.tup (cs.map caseV)) := rfl
    simp [runB, b_inner_of, innP, i2]
    rw [comp_mapS (g := fun km : Cse => msgV km.2)]
    · simp [Function.comp_def]
    · intro km _
      simp [caseV, bindT, setP]
  | text t => simp [runB, b_inner_of, innP]
  | slot t => simp [runB, b_inner_of, innP]
  | mark => simp [runB, b_inner_of, innP]
abbrev SpInner (dn : Str → List PV → R PV) : Prop := ∀ p : Part, dn "inner_of" [partV p] = .ok (.lst ((innP p).map msgV))
abbrev SpUsesLAt (dn : Str → List PV → R PV) (d : Nat) : Prop := ∀ {P : List Nat → Prop} (c : Bool) (m : Msg), MsgP P d c m → dn "all_uses" [msgV m] = .ok (.lst ((usesL d m).map tupS))
/-! sizes -/
def usesN : Nat → Nat
  | 0 => 4
  | d + 1 => 4 * (1 + 8 * usesN d)
theorem flat_le {α β : Type} (f : α → List β) (n : Nat) : ∀ l : List α, (∀ x ∈ l, (f x).length ≤ n) → (l.flatMap f).length ≤ l.length * n
  | [], _ => by simp
  | x :: l, h => by
    have h1 := h x List.mem_cons_self
    have h2 := flat_le f n l fun y hy => h y (List.mem_cons_of_mem _ hy)
    simp only [List.flatMap_cons, List.length_append, List.length_cons, Nat.add_mul]
    omega
theorem useP_le (p : Part) : (useP p).toList.length ≤ 1 := by cases h : useP p <;> simp
theorem usesL_le : ∀ {d : Nat} {c : Bool} {m : Msg}, MsgP P d c m → (usesL d m).length ≤ usesN d
  | 0, c, m, h => by
    have := flat_le (partU 0) 1 m fun p _ => by
      have := useP_le p
      have e : (innP p).flatMap (usesI 0) = [] := by simp [usesI]
      unfold partU
      rw [e, List.append_nil]
      exact this
    have := h.len
    rw [usesL_eq]
    unfold usesN
    omega
  | d + 1, c, m, h => by
    have hp : ∀ p ∈ m, (partU (d + 1) p).length ≤ 1 + 8 * usesN d := fun p hp => by
      have h1 := useP_le p
      have h2 := flat_le (usesL d) (usesN d) (innP p) fun m' hm => by
        obtain ⟨e, c', e1, h3⟩ := fork_of (h.part p hp) m' hm
        cases e1
        exact usesL_le h3
      have h3 := Nat.mul_le_mul_right (usesN d) (innP_len (h.part p hp))
      show ((useP p).toList ++ (innP p).flatMap (usesL d)).length ≤ _
      rw [List.length_append]
      omega
    have h1 := flat_le _ _ m hp
    have h2 := Nat.mul_le_mul_right (1 + 8 * usesN d) h.len
    rw [usesL_eq]
    unfold usesN
    omega
theorem usesN_le : ∀ d, d ≤ 3 → usesN d ≤ 200000 := by decide
theorem usesN_mono : ∀ {d : Nat}, usesN d ≤ usesN (d + 1) := fun {d} => by
  show usesN d ≤ 4 * (1 + 8 * usesN d)
  omega
/-! the walk -/
@[simp high] theorem in3 (p : Part) : inB (.str (wordOf p)) (.tup [.str [115, 108, 111, 116], .str [99, 111, 117, 110, 116], .str [107, 105, 110, 100]]) = .ok (useP p).isSome := by
  cases p with
  | fork b n cs => cases b <;> rfl
  | _ => rfl
theorem use_ix {p : Part} {k : Tx} (h : useP p = some k) : ∃ n, k = [n, wordOf p] ∧ ixP (partV p) (.int 1) = .ok (.str n) := by
  cases p with
  | slot n => cases h; exact ⟨n, rfl, by rw [partV_slot]; rfl⟩
  | fork b n cs => cases h; exact ⟨n, rfl, by rw [partV_fork]; rfl⟩
  | _ => cases h
section
variable {dn : Str → List PV → R PV} {wf : Nat}
theorem all_uses_at {d : Nat} (hI : SpInner dn) (h3 : d ≤ 3) (hU : ∀ e, d = e + 1 → SpUsesLAt dn e) (c : Bool) (m : Msg) (hm : MsgP P d c m) : runB dn wf 4 b_all_uses [msgV m] = .ok (.lst ((usesL d m).map tupS)) := by
  have tot : usesN d ≤ 200000 := usesN_le d h3
  have hf : ∀ p ∈ m, ∀ m' ∈ innP p, dn "all_uses" [msgV m'] = .ok (.lst ((usesI d m').map tupS)) := fun p hp m' hm' => by
    obtain ⟨e, c', e1, h⟩ := fork_of (hm.part p hp) m' hm'
    subst e1
    exact hU e rfl c' m' h
  have hpre : ∀ (pre : List Part) (p : Part) (q : List Part), m = pre ++ p :: q → (usesL d pre).length + (partU d p).length ≤ usesN d := fun pre p q e => by
    have h1 := usesL_le hm
    rw [e, show pre ++ p :: q = pre ++ ([p] ++ q) by simp, usesL_app, usesL_app, usesL_one, List.length_append, List.length_append] at h1
    omega
  obtain ⟨ρ', e, o2, o3, rfl⟩ := forT_pre' (tg := .nm 2) (body := ((b_all_uses.at 1).blk).ev dn wf) (e := partV) (xs := m) (ρ := [some (msgV m), some (.lst []), none, none])
    (fun pre ρ => ∃ o2 o3, ρ = [some (msgV m), some (.lst ((usesL d pre).map tupS)), o2, o3])
    (fun pre p q ρ em ⟨o2, o3, er⟩ => by
      subst er
      have hp : p ∈ m := by rw [em]; simp
      have hb := hpre pre p q em
      have hlp : (partU d p).length = (useP p).toList.length + ((innP p).flatMap (usesI d)).length := by unfold partU; rw [List.length_append]
      -- the names of the part itself
      have s1 : S.ev dn wf (.cond (.cmp .In (.ix (.v 2) (.c (.int 0))) (.tup (.cons (.c (.str [115, 108, 111, 116])) (.cons (.c (.str [99, 111, 117, 110, 116])) (.cons (.c (.str [107, 105, 110, 100])) .nil))))) (.cons (.app 1 (.tup (.cons (.ix (.v 2) (.c (.int 1))) (.cons (.ix (.v 2) (.c (.int 0))) .nil)))) .nil) .nil) [some (msgV m), some (.lst ((usesL d pre).map tupS)), some (partV p), o3] =
          .ok (.nx [some (msgV m), some (.lst ((usesL d pre ++ (useP p).toList).map tupS)), some (partV p), o3]) := by
        have big1 : (usesL d pre).length < big := by
          unfold big
          omega
        cases hu : useP p with
        | none => simp [-inB_tup_str, -inB_tupS, in3, hu]
        | some k =>
          obtain ⟨n, rfl, i1⟩ := use_ix hu
          simp [-inB_tup_str, -inB_tupS, in3, hu, i1, big1, tupS]
      obtain ⟨ρ', e, o3, rfl⟩ := forT_pre' (tg := .nm 3) (body := (((b_all_uses.at 1).blk.at 1).blk).ev dn wf) (e := msgV) (xs := innP p) (ρ := [some (msgV m), some (.lst ((usesL d pre ++ (useP p).toList).map tupS)), some (partV p), o3])
        (fun pre2 ρ => ∃ o3, ρ = [some (msgV m), some (.lst ((usesL d pre ++ (useP p).toList ++ pre2.flatMap (usesI d)).map tupS)), some (partV p), o3])
        (fun pre2 m' q2 ρ em2 ⟨o3, er⟩ => by
          subst er
          have hm' : m' ∈ innP p := by rw [em2]; simp
          have hu := hf p hp m' hm'
          have hl : (usesL d pre).length + ((useP p).toList.length + (pre2.flatMap (usesI d)).length) + (usesI d m').length ≤ big := by
            rw [em2] at hlp
            simp only [List.flatMap_append, List.flatMap_cons, List.length_append] at hlp
            unfold big
            omega
          refine ⟨[some (msgV m), some (.lst ((usesL d pre ++ (useP p).toList ++ (pre2 ++ [m']).flatMap (usesI d)).map tupS)), some (partV p), some (msgV m')], ?_, some (msgV m'), rfl⟩
          simp only [b_all_uses, Ss.at, S.blk, bindT_nm, R.ok_bind, List.set]
          rw [step (ρ' := [some (msgV m), some (.lst ((usesL d pre ++ (useP p).toList ++ (pre2 ++ [m']).flatMap (usesI d)).map tupS)), some (partV p), some (msgV m')]) (by
            simp only [evs_ext, lstAt_s, lstAt_0, ev_call, evs_cons, evs_nil, ev_v, fVar_s, fVar_0, R.ok_bind, List.length_cons, List.length_nil, if_true, hu, asLst_lst, List.length_map, List.length_append, Nat.add_assoc] at hl ⊢
            rw [if_pos hl]
            simp)]
          rfl) ⟨o3, by simp⟩
      refine ⟨_, ?_, some (partV p), o3, rfl⟩
      simp only [b_all_uses, Ss.at, S.blk, bindT_nm, R.ok_bind, List.set] at e ⊢
      rw [step s1]
      rw [step (by
        simp only [evs_loop, evi_of, ev_call, evs_cons, evs_nil, ev_v, fVar_s, fVar_0, R.ok_bind, List.length_cons, List.length_nil, if_true, hI p, itemsP_lst]
        exact e)]
      simp [usesL_app, usesL_one, partU]) ⟨none, none, by rw [usesL_eq]; rfl⟩
  simp only [b_all_uses, Ss.at, S.blk] at e
  simp only [runB, b_all_uses, entry_1, List.replicate]
  rw [step (ρ' := [some (msgV m), some (.lst []), none, none]) (by simp [isObjP])]
  rw [step (by simp [msgV]; exact e)]
  simp
def useU : List Tx := nmU.flatMap fun n => [wSl, wCo, wKi].map fun w => [n, w]
theorem useU_len : useU.length < 64 := by decide
theorem useU_ne : ∀ k ∈ useU, k ≠ [] := by decide
theorem once_le {ks D : List Tx} (h : ∀ k ∈ ks, k ∈ D) : (once ks).length ≤ D.length := (once_nodup ks).length_le_of_subset fun k hk => h k (once_mem.mp hk)
theorem txsOf_map : ∀ {ks : List Tx}, (∀ k ∈ ks, k ≠ []) → txsOf (ks.map tupS) = some ks
  | [], _ => rfl
  | k :: ks, h => by
    cases k with
    | nil => exact absurd rfl (h _ List.mem_cons_self)
    | cons l ls =>
      show (match strsOf ((l :: ls).map PV.str) with
        | some (l :: ls) => (txsOf (ks.map tupS)).map ((l :: ls) :: ·)
        | _ => none) = _
      rw [strsOf_map', txsOf_map fun k hk => h k (List.mem_cons_of_mem _ hk)]
      rfl
theorem sset_tx {ks : List Tx} (h : ∀ k ∈ ks, k ≠ []) (h64 : (once ks).length < 64) : ssetP (.lst (ks.map tupS)) = .ok (.lst ((sortT (once ks)).map tupS)) := by
  show sset1 (ks.map tupS) = _
  have tx := txsOf_map h
  unfold sset1
  cases ks with
  | nil => rfl
  | cons k ks =>
    have e : keysIn ((k :: ks).map tupS) = none := by
      unfold keysIn
      split
      · rfl
      · rfl
    rw [e]
    dsimp only
    rw [tx]
    exact if_pos h64
abbrev SpUsesAt (dn : Str → List PV → R PV) (d : Nat) : Prop := ∀ {P : List Nat → Prop} (c : Bool) (m : Msg), MsgP P d c m → dn "uses" [msgV m] = .ok (usesV d m)
/-! how many there are -/
theorem usesL_ok : ∀ {d : Nat} {c : Bool} {m : Msg}, MsgP P d c m → ∀ k ∈ usesL d m, k ∈ useU := by
  have one : ∀ {d : Nat} {c : Bool} {p : Part} {k : Tx}, PartP P d c p → useP p = some k → k ∈ useU := fun {d c p k} h e => by
    cases p with
    | slot n =>
      cases e
      have h : NmeOk n := by
        cases d with
        | zero => exact h
        | succ d => exact h.elim id fun ⟨_, _, _, z, _⟩ => by cases z
      exact List.mem_flatMap.mpr ⟨n, h.u, by simp⟩
    | fork b n cs =>
      cases e
      cases d with
      | zero => exact (show False from h).elim
      | succ d =>
        rcases h with h | ⟨b', n', cs', e, h1, _⟩
        · exact (show False from h).elim
        · cases e
          exact List.mem_flatMap.mpr ⟨n, h1.u, by cases b <;> simp [wFk]⟩
    | _ => cases e
  intro d
  induction d with
  | zero =>
    intro c m h k hk
    rw [usesL_eq] at hk
    obtain ⟨p, hp, hk⟩ := List.mem_flatMap.mp hk
    unfold partU at hk
    rcases List.mem_append.mp hk with hk | hk
    · exact one (h.part p hp) (by simpa using hk)
    · obtain ⟨m', hm', hk⟩ := List.mem_flatMap.mp hk
      cases hk
  | succ d ih =>
    intro c m h k hk
    rw [usesL_eq] at hk
    obtain ⟨p, hp, hk⟩ := List.mem_flatMap.mp hk
    unfold partU at hk
    rcases List.mem_append.mp hk with hk | hk
    · exact one (h.part p hp) (by simpa using hk)
    · obtain ⟨m', hm', hk⟩ := List.mem_flatMap.mp hk
      obtain ⟨e, c', e1, h3⟩ := fork_of (h.part p hp) m' hm'
      cases e1
      exact ih h3 k hk
end
theorem usesL_few {d : Nat} {c : Bool} {m : Msg} (h : MsgP P d c m) : (once (usesL d m)).length < 64 := Nat.lt_of_le_of_lt (once_le (usesL_ok h)) useU_len
theorem b_uses' {dn : Str → List PV → R PV} {wf : Nat} {d : Nat} (hU : SpUsesLAt dn d) (c : Bool) (m : Msg) (hm : MsgP P d c m) : runB dn wf 1 b_uses [msgV m] = .ok (usesV d m) := by
  have h1 := sset_tx (fun k hk => useU_ne k (usesL_ok hm k hk)) (usesL_few hm)
  simp [runB, b_uses, hU c m hm, h1, usesV, usesS]
end M
/-! U3: is_message tells of messages that they are such. -/
namespace M
open PySem L2
def catO : List (List Nat) := catW ++ [othS]
def ltrs : List Nat := [97, 98, 99, 100, 101, 102, 103, 104, 105, 106, 107, 108, 109, 110, 111, 112, 113, 114, 115, 116, 117, 118, 119, 120, 121, 122]
theorem ltrs_az {c : Nat} (h : 97 ≤ c ∧ c ≤ 122) : ltrs.contains c = true := by
  have : ∀ c < 123, 97 ≤ c → ltrs.contains c = true := by decide +kernel
  exact this c (by omega) h.1
structure AzOk (n : List Nat) : Prop where
  ne : n ≠ []
  az : ∀ c ∈ n, 97 ≤ c ∧ c ≤ 122
  len : n.length ≤ 6
theorem NmeOk.azOk {n : List Nat} (h : NmeOk n) : AzOk n := ⟨h.ne, h.az, h.len⟩
theorem oth_az : AzOk othS := ⟨by decide, by decide, by decide⟩
theorem isT1 (l : List Nat) : isT (.str l) .str = some true := rfl
theorem isT2 (l : List Nat) : isT (.str l) .int = some false := rfl
theorem isT3 (l : Int) : isT (.int l) .int = some true := rfl
theorem isT4 (l : Int) : isT (.int l) .bool = some false := rfl
theorem isT5 (l : List PV) : isT (.tup l) .tuple = some true := rfl
abbrev SpIsName (dn : Str → List PV → R PV) : Prop := ∀ n : List Nat, AzOk n → dn "is_name" [.str n] = .ok (.bl true)
abbrev SpIsNum (dn : Str → List PV → R PV) : Prop := (∀ n : Int, 0 ≤ n → n ≤ 999 → dn "is_number" [.int n, .int 999] = .ok (.bl true)) ∧ ∀ l : List Nat, dn "is_number" [.str l, .int 999] = .ok (.bl false)
abbrev SpRises (dn : Str → List PV → R PV) : Prop := ∀ xs : List PV, xs.length ≤ 1000 → (∀ i p q, xs[i]? = some p → xs[i + 1]? = some q → ltR p q = .ok (.bl true)) → dn "rises" [.lst xs] = .ok (.bl true)
section
variable {dn : Str → List PV → R PV} {wf : Nat}
theorem b_is_name' (n : List Nat) (h : AzOk n) : runB dn wf 2 b_is_name [.str n] = .ok (.bl true) := by
  have c1 : compL (turnC [1] (Tg.nm 1) none ((E.cmp .In (.v 1) (.c (.str ltrs))).ev dn) [some (.str n), none]) (n.map fun c => .str [c]) = .ok (n.map fun c => .bl true) :=
    comp_mapS fun c hc => by
      have := ltrs_az (h.az c hc)
      simp only [turn_ev, bindT_nm, R.ok_bind, wipeP_cons, wipeP_nil, List.set, condR_none, if_true, ev_cmp, ev_v, ev_c, fVar_s, fVar_0, c_in, inB_sign, this]
  have l1 : 1 ≤ n.length := by
    have := h.ne
    cases n with
    | nil => exact absurd rfl this
    | cons => simp
  have l6 := h.len
  have a1 : allP [.lst (n.map fun _ => PV.bl true)] = .ok (.bl true) := by
    rw [all_map]
    simp
  simp only [runB, b_is_name, entry_1, List.replicate]
  simp only [ltrs] at c1
  simp [isT1, show (1 : Int) ≤ n.length by omega, show (n.length : Int) ≤ 6 by omega]
  rw [c1]
  simp [a1]
theorem b_is_number1 (n : Int) (h0 : 0 ≤ n) (h1 : n ≤ 999) : runB dn wf 2 b_is_number [.int n, .int 999] = .ok (.bl true) := by
  simp [runB, b_is_number, isT3, isT4, h0, h1]
theorem b_is_number2 (l : List Nat) : runB dn wf 2 b_is_number [.str l, .int 999] = .ok (.bl false) := by
  simp [runB, b_is_number, isT2]
theorem b_rises' (xs : List PV) (hl : xs.length ≤ 1000) (h : ∀ i p q, xs[i]? = some p → xs[i + 1]? = some q → ltR p q = .ok (.bl true)) : runB dn wf 2 b_rises [.lst xs] = .ok (.bl true) := by
  have c1 : compL (turnC [1] (Tg.nm 1) none ((E.cmp .Lt (.ix (.v 0) (.bin .Sub (.v 1) (.c (.int 1)))) (.ix (.v 0) (.v 1))).ev dn) [some (.lst xs), none]) ((List.range (xs.length - 1)).map fun i => .int (1 + (i : Nat))) = .ok ((List.range (xs.length - 1)).map fun _ => .bl true) :=
    comp_mapS fun i hi => by
      have hi := List.mem_range.mp hi
      obtain ⟨p, hp⟩ : ∃ p, xs[i]? = some p := ⟨_, List.getElem?_eq_getElem (by omega)⟩
      obtain ⟨q, hq⟩ : ∃ q, xs[i + 1]? = some q := ⟨_, List.getElem?_eq_getElem (by omega)⟩
      have i1 : ixP (.lst xs) (.int i) = .ok p := ix_lst (by rw [atI_nn (by omega)]; simpa using hp)
      have i2 : ixP (.lst xs) (.int (1 + i)) = .ok q := ix_lst (by
        rw [atI_nn (by omega), show (1 + (i : Int)).toNat = i + 1 by omega]
        exact hq)
      simp [show 1 + (i : Int) - 1 = i by omega, i1, i2, h i p q hp hq]
  have r1 : rngP 1 (xs.length : Int) = .ok ((List.range (xs.length - 1)).map fun i => .int (1 + (i : Nat))) := by
    unfold rngP
    rw [if_pos (by omega), show ((xs.length : Int) - 1).toNat = xs.length - 1 by omega]
  have a1 : allP [.lst ((List.range (xs.length - 1)).map fun _ => PV.bl true)] = .ok (.bl true) := by
    rw [all_map]
    simp
  simp only [runB, b_rises, entry_1, List.replicate]
  simp [r1]
  rw [c1]
  simp [a1]
end
/-! ### cases of a count -/
def subs {α : Type} : List α → List (List α)
  | [] => [[]]
  | x :: l => subs l ++ (subs l).map (x :: ·)
theorem mem_subs {α : Type} {c l : List α} (h : c.Sublist l) : c ∈ subs l := by
  induction h with
  | slnil => exact List.mem_cons_self
  | cons a _ ih => exact List.mem_append_left _ ih
  | cons_cons a _ ih => exact List.mem_append_right _ (List.mem_map_of_mem ih)
def catI (w : List Nat) : Int := match idxOf (.str w) (catO.map .str) with
  | some j => (j : Nat)
  | none => 0
def risI : List Int → Bool
  | a :: b :: l => decide (a < b) && risI (b :: l)
  | _ => true
theorem risI_at : ∀ {l : List Int}, risI l = true → ∀ i a b, l[i]? = some a → l[i + 1]? = some b → a < b
  | [], _, i, a, b, h, _ => by simp at h
  | [x], _, i, a, b, h, h2 => by simp at h2
  | x :: y :: l, h, i, a, b, h1, h2 => by
    simp only [risI, Bool.and_eq_true, decide_eq_true_eq] at h
    cases i with
    | zero =>
      simp at h1 h2
      subst h1
      subst h2
      exact h.1
    | succ i => exact risI_at h.2 i a b (by simpa using h1) (by simpa using h2)
theorem cats_all : ∀ cs ∈ subs catW, risI ((cs ++ [othS]).map catI) = true := by decide +kernel
theorem catI_ok : ∀ w ∈ catO, idxP (catO.map .str) (.str w) = .ok (.int (catI w)) := by
  have : ∀ w ∈ catO, (idxOf (.str w) (catO.map .str)).isSome = true := by decide +kernel
  intro w hw
  obtain ⟨j, hj⟩ := Option.isSome_iff_exists.mp (this w hw)
  unfold idxP catI
  rw [hj, if_pos]
  rw [Bool.and_eq_true, List.all_eq_true]
  refine ⟨rfl, fun x hx => ?_⟩
  obtain ⟨y, _, rfl⟩ := List.mem_map.mp hx
  rfl
section
variable {dn : Str → List PV → R PV} {wf : Nat}
theorem filt_inl (ns : List Int) (ws : List (List Nat)) : ((ns.map Sum.inl ++ ws.map Sum.inr : List K1).filter fun k => match k with
    | .inl _ => true
    | .inr _ => false) = ns.map Sum.inl := by
  rw [List.filter_append]
  have a : ((ns.map Sum.inl : List K1).filter fun k => match k with
    | .inl _ => true
    | .inr _ => false) = ns.map Sum.inl := by
    rw [List.filter_eq_self]
    intro k hk
    obtain ⟨i, _, rfl⟩ := List.mem_map.mp hk
    rfl
  have b : ((ws.map Sum.inr : List K1).filter fun k => match k with
    | .inl _ => true
    | .inr _ => false) = [] := by
    rw [List.filter_eq_nil_iff]
    intro k hk
    obtain ⟨i, _, rfl⟩ := List.mem_map.mp hk
    simp
  rw [a, b, List.append_nil]
theorem last1 {xs : List PV} {x : PV} : slP (.lst (xs ++ [x])) (some (-1)) none = .ok (.lst [x]) := by
  rw [sl_lst']
  congr 2
  unfold cutL HT.sIx
  simp
  rw [show (-1 + ((xs.length : Int) + 1)).toNat = xs.length by omega, List.drop_left]
  simp
theorem but1 {xs : List PV} {x : PV} : slP (.lst (xs ++ [x])) none (some (-1)) = .ok (.lst xs) := by
  rw [sl_lst']
  congr 2
  unfold cutL HT.sIx
  simp
  rw [show (-1 + ((xs.length : Int) + 1)).toNat = xs.length by omega]
  exact List.take_left
theorem b_are_counted' (hN : SpIsNum dn) (hR : SpRises dn) (ns : List Int) (cs : List (List Nat)) (h1 : ns.Pairwise (· < ·)) (h2 : ∀ n ∈ ns, 0 ≤ n ∧ n ≤ 999) (h3 : cs.Sublist catW) (hl : ns.length ≤ 100) : runB dn wf 5 b_are_counted [.lst (ns.map .int ++ (cs ++ [othS]).map .str)] = .ok (.bl true) := by
  have l5 : cs.length ≤ 5 := h3.length_le
  obtain ⟨ks, hk⟩ : ∃ ks : List K1, ks = ns.map Sum.inl ++ (cs ++ [othS]).map Sum.inr := ⟨_, rfl⟩
  have ek : (ns.map PV.int ++ (cs ++ [othS]).map PV.str) = ks.map unKey := by
    rw [hk]
    simp [unKey, Function.comp_def]
  have wc : ∀ w ∈ cs ++ [othS], w ∈ catO := fun w hw => by
    rcases List.mem_append.mp hw with h | h
    · exact List.mem_append_left _ (h3.subset h)
    · exact List.mem_append_right _ h
  have c1 : compL (turnC [3] (Tg.nm 3) (some ((T.tru (.call "is_number" 2 (.cons (.v 3) (.cons (.c (.int 999)) .nil)))).ev dn)) ((E.v 3).ev dn) [some (.lst (ks.map unKey)), none, none, none, none]) (ks.map unKey) = .ok ((ks.filter fun k => match k with
    | .inl _ => true
    | .inr _ => false).map unKey) :=
    comp_filterS fun k hm => by
      cases k with
      | inl i =>
        have := h2 i (by
          rw [hk] at hm
          rcases List.mem_append.mp hm with h | h
          · obtain ⟨j, hj, e⟩ := List.mem_map.mp h
            cases e
            exact hj
          · obtain ⟨j, hj, e⟩ := List.mem_map.mp h
            cases e)
        have e := hN.1 i this.1 this.2
        simp [unKey, e]
      | inr l =>
        have e := hN.2 l
        simp [unKey, e]
  rw [hk, filt_inl, ← hk] at c1
  have e1 : (ns.map Sum.inl : List K1).map unKey = ns.map PV.int := by rw [List.map_map]; rfl
  rw [e1] at c1
  have s1 : slP (.lst (ks.map unKey)) (some (ns.length : Int)) none = .ok (.lst ((cs ++ [othS]).map .str)) := by
    rw [sl_lst', cutL_from, ← ek]
    congr 2
    rw [show ns.length = (ns.map PV.int).length by rw [List.length_map], List.drop_left]
  have s2 : slP (.lst (ks.map unKey)) none (some (ns.length : Int)) = .ok (.lst (ns.map .int)) := by
    rw [sl_lst', cutL_to _ _ (by omega), ← ek]
    congr 2
    rw [show ((ns.length : Nat) : Int).toNat = (ns.map PV.int).length by rw [List.length_map]; omega]
    exact List.take_left
  have n1 : neR (.lst (ns.map .int)) (.lst (ns.map .int)) = .ok (.bl false) := neR_self (by
    show isDats _ = true
    exact isDats_all fun p hp => by
      obtain ⟨i, _, rfl⟩ := List.mem_map.mp hp
      rfl) (by
    show deps _ + 1 ≤ 64
    have := deps_all (l := ns.map PV.int) (n := 0) fun p hp => by
      obtain ⟨i, _, rfl⟩ := List.mem_map.mp hp
      exact Nat.le_refl _
    omega)
  have c2 : compL (turnC [4] (Tg.nm 4) none ((E.and (.isa (.v 4) .str) (.cmp .In (.v 4) (.c (.tup (catO.map .str))))).ev dn) [some (.lst (ks.map unKey)), some (.lst (ns.map .int)), some (.lst ((cs ++ [othS]).map .str)), none, none]) ((cs ++ [othS]).map .str) = .ok ((cs ++ [othS]).map fun _ => .bl true) :=
    comp_mapS fun w hw => by
      have := inB_tupS w catO
      have q : catO.contains w = true := List.contains_iff_mem.mpr (wc w hw)
      rw [q] at this
      simp only [turn_ev, bindT_nm, R.ok_bind, wipeP_cons, wipeP_nil, List.set, condR_none, if_true, ev_and, ev_isa, isP, ev_cmp, ev_v, ev_c, fVar_s, fVar_0, isT1, c_in, this]
      rfl
  have c3 : compL (turnC [4] (Tg.nm 4) none ((E.idx (.c (.tup (catO.map .str))) (.v 4)).ev dn) [some (.lst (ks.map unKey)), some (.lst (ns.map .int)), some (.lst ((cs ++ [othS]).map .str)), none, none]) ((cs ++ [othS]).map .str) = .ok (((cs ++ [othS]).map catI).map .int) := by
    rw [List.map_map]
    exact comp_mapS fun w hw => by
      have := catI_ok w (wc w hw)
      simp [asTupG, this]
  have r1 := hR (ns.map .int) (by simp; omega) fun i p q hp hq => by
    rw [List.getElem?_map] at hp hq
    obtain ⟨a, ha, rfl⟩ := Option.map_eq_some_iff.mp hp
    obtain ⟨b, hb, rfl⟩ := Option.map_eq_some_iff.mp hq
    obtain ⟨hi, ea⟩ := List.getElem?_eq_some_iff.mp ha
    obtain ⟨hj, eb⟩ := List.getElem?_eq_some_iff.mp hb
    have := List.pairwise_iff_getElem.mp h1 i (i + 1) hi hj (by omega)
    rw [ea, eb] at this
    rw [ltR_int, decide_eq_true this]
  have r2 := hR (((cs ++ [othS]).map catI).map .int) (by simp; omega) fun i p q hp hq => by
    rw [List.getElem?_map] at hp hq
    obtain ⟨a, ha, rfl⟩ := Option.map_eq_some_iff.mp hp
    obtain ⟨b, hb, rfl⟩ := Option.map_eq_some_iff.mp hq
    rw [ltR_int, decide_eq_true (risI_at (cats_all cs (mem_subs h3)) i a b ha hb)]
  have l1 : slP (.lst ((cs ++ [othS]).map .str)) (some (-1)) none = .ok (.lst [.str othS]) := by
    rw [List.map_append]
    exact last1
  have q1 : eqR (.lst [.str othS]) (.lst [.str othS]) = .ok (.bl true) := eqR_self rfl (by simp [dep, deps])
  have a2 : allP [.lst ((cs ++ [othS]).map fun _ => PV.bl true)] = .ok (.bl true) := by
    rw [all_map]
    simp
  rw [ek]
  generalize ks.map unKey = KS at c1 s1 s2 c2 c3 ⊢
  generalize (cs ++ [othS]).map PV.str = WS at s1 c2 c3 l1 ⊢
  simp only [runB, b_are_counted, entry_1, List.replicate]
  rw [step (ρ' := [some (.lst KS), some (.lst (ns.map .int)), none, none, none]) (by
    simp only [evs_set, ev_lc, evi_of, ev_v, fVar_s, fVar_0, R.ok_bind, itemsP_lst, evot_some]
    rw [c1]
    rfl)]
  rw [step (ρ' := [some (.lst KS), some (.lst (ns.map .int)), some (.lst WS), none, none]) (by simp [s1])]
  have al : (E.pr .all (.cons (.lc [4] (.nm 4) (.of (.v 2)) .none (.and (.isa (.v 4) .str) (.cmp .In (.v 4) (.c (.tup (catO.map .str)))))) .nil)).ev dn [some (.lst KS), some (.lst (ns.map .int)), some (.lst WS), none, none] = .ok (.bl true) := by
    simp only [ev_pr, evs_cons, evs_nil, ev_lc, evi_of, ev_v, fVar_s, fVar_0, R.ok_bind, itemsP_lst, evot_none]
    rw [c2]
    exact a2
  have il : (E.lc [4] (.nm 4) (.of (.v 2)) .none (.idx (.c (.tup (catO.map .str))) (.v 4))).ev dn [some (.lst KS), some (.lst (ns.map .int)), some (.lst WS), none, none] = .ok (.lst (((cs ++ [othS]).map catI).map .int)) := by
    simp only [ev_lc, evi_of, ev_v, fVar_s, fVar_0, R.ok_bind, itemsP_lst, evot_none]
    rw [c3]
    rfl
  have hc : catO.map PV.str = [(.str [122, 101, 114, 111]), (.str [111, 110, 101]), (.str [116, 119, 111]), (.str [102, 101, 119]), (.str [109, 97, 110, 121]), (.str [111, 116, 104, 101, 114])] := rfl
  rw [hc] at al il
  have ho : othS = [111, 116, 104, 101, 114] := rfl
  rw [ho] at l1 q1
  rw [step (ρ' := [some (.lst KS), some (.lst (ns.map .int)), some (.lst WS), none, none]) (by
    rw [evs_cond]
    have d : (T.or (.cmp .NotEq (.sl (.v 0) .none (.some (.pr .len (.cons (.v 1) .nil)))) (.v 1)) (.not (.tru (.pr .all (.cons (.lc [4] (.nm 4) (.of (.v 2)) .none (.and (.isa (.v 4) .str) (.cmp .In (.v 4) (.c (.tup [(.str [122, 101, 114, 111]), (.str [111, 110, 101]), (.str [116, 119, 111]), (.str [102, 101, 119]), (.str [109, 97, 110, 121]), (.str [111, 116, 104, 101, 114])]))))) .nil))))).ev dn [some (.lst KS), some (.lst (ns.map .int)), some (.lst WS), none, none] = .ok false := by
      have d1 : (T.cmp .NotEq (.sl (.v 0) .none (.some (.pr .len (.cons (.v 1) .nil)))) (.v 1)).ev dn [some (.lst KS), some (.lst (ns.map .int)), some (.lst WS), none, none] = .ok false := by simp [s2, n1]
      rw [evt_or, d1]
      simp only [R.ok_bind, Bool.false_eq_true, if_false]
      rw [evt_not, evt_tru, al]
      rfl
    rw [d]
    rfl)]
  have fin : (E.and (.call "rises" 1 (.cons (.v 1) .nil)) (.and (.call "rises" 1 (.cons (.lc [4] (.nm 4) (.of (.v 2)) .none (.idx (.c (.tup [(.str [122, 101, 114, 111]), (.str [111, 110, 101]), (.str [116, 119, 111]), (.str [102, 101, 119]), (.str [109, 97, 110, 121]), (.str [111, 116, 104, 101, 114])])) (.v 4))) .nil)) (.cmp .Eq (.sl (.v 2) (.some (.neg (.c (.int 1)))) .none) (.lst (.cons (.c (.str [111, 116, 104, 101, 114])) .nil))))).ev dn [some (.lst KS), some (.lst (ns.map .int)), some (.lst WS), none, none] = .ok (.bl true) := by
    have p1 : (E.call "rises" 1 (.cons (.v 1) .nil)).ev dn [some (.lst KS), some (.lst (ns.map .int)), some (.lst WS), none, none] = .ok (.bl true) := by simp [r1]
    have p2 : (E.call "rises" 1 (.cons (.lc [4] (.nm 4) (.of (.v 2)) .none (.idx (.c (.tup [(.str [122, 101, 114, 111]), (.str [111, 110, 101]), (.str [116, 119, 111]), (.str [102, 101, 119]), (.str [109, 97, 110, 121]), (.str [111, 116, 104, 101, 114])])) (.v 4))) .nil)).ev dn [some (.lst KS), some (.lst (ns.map .int)), some (.lst WS), none, none] = .ok (.bl true) := by
      simp only [ev_call, evs_cons, evs_nil, il, R.ok_bind, List.length_cons, List.length_nil, if_true, r2]
    have p3 : (E.cmp .Eq (.sl (.v 2) (.some (.neg (.c (.int 1)))) .none) (.lst (.cons (.c (.str [111, 116, 104, 101, 114])) .nil))).ev dn [some (.lst KS), some (.lst (ns.map .int)), some (.lst WS), none, none] = .ok (.bl true) := by simp [l1, q1]
    simp only [ev_and, p1, p2, p3, R.ok_bind, asBl_bl, if_true]
  simp only [evb_cons, evs_ret, fin, R.ok_bind]
  rfl
theorem b_are_kinds' (hI : SpIsName dn) (hR : SpRises dn) (ls : List (List Nat)) (h1 : ls.Pairwise fun a b => ltL a b = true) (h2 : ∀ l ∈ ls, NmeOk l ∧ l ≠ othS) (hl : ls.length ≤ 100) : runB dn wf 2 b_are_kinds [.lst ((ls ++ [othS]).map .str)] = .ok (.bl true) := by
  have c1 : compL (turnC [1] (Tg.nm 1) none ((E.call "is_name" 1 (.cons (.v 1) .nil)).ev dn) [some (.lst ((ls ++ [othS]).map .str)), none]) ((ls ++ [othS]).map .str) = .ok ((ls ++ [othS]).map fun _ => .bl true) :=
    comp_mapS fun l hl => by
      have e := hI l (by
        rcases List.mem_append.mp hl with h | h
        · exact (h2 l h).1.azOk
        · have : l = othS := by simpa using h
          rw [this]
          exact oth_az)
      simp [e]
  have a1 : allP [.lst ((ls ++ [othS]).map fun _ => PV.bl true)] = .ok (.bl true) := by
    rw [all_map]
    simp
  have l1 : slP (.lst ((ls ++ [othS]).map .str)) (some (-1)) none = .ok (.lst [.str othS]) := by
    rw [List.map_append]
    exact last1
  have l2 : slP (.lst ((ls ++ [othS]).map .str)) none (some (-1)) = .ok (.lst (ls.map .str)) := by
    rw [List.map_append]
    exact but1
  have q1 : neR (.lst [.str othS]) (.lst [.str othS]) = .ok (.bl false) := neR_self rfl (by simp [dep, deps])
  have r1 := hR (ls.map .str) (by simp; omega) fun i p q hp hq => by
    rw [List.getElem?_map] at hp hq
    obtain ⟨a, ha, rfl⟩ := Option.map_eq_some_iff.mp hp
    obtain ⟨b, hb, rfl⟩ := Option.map_eq_some_iff.mp hq
    obtain ⟨hi, ea⟩ := List.getElem?_eq_some_iff.mp ha
    obtain ⟨hj, eb⟩ := List.getElem?_eq_some_iff.mp hb
    have := List.pairwise_iff_getElem.mp h1 i (i + 1) hi hj (by omega)
    rw [ea, eb] at this
    rw [ltR_str, this]
  have ni : inB (.str othS) (.lst (ls.map .str)) = .ok false := by
    rw [inB_lstS]
    have : ls.contains othS = false := by
      rw [← Bool.not_eq_true, List.contains_iff_mem]
      exact fun h => (h2 _ h).2 rfl
    rw [this]
  have ho : othS = [111, 116, 104, 101, 114] := rfl
  generalize (ls ++ [othS]).map PV.str = WS at c1 l1 l2 ⊢
  rw [ho] at l1 q1 ni
  simp only [runB, b_are_kinds, entry_1, List.replicate]
  have al : (E.pr .all (.cons (.lc [1] (.nm 1) (.of (.v 0)) .none (.call "is_name" 1 (.cons (.v 1) .nil))) .nil)).ev dn [some (.lst WS), none] = .ok (.bl true) := by
    simp only [ev_pr, evs_cons, evs_nil, ev_lc, evi_of, ev_v, fVar_s, fVar_0, R.ok_bind, itemsP_lst, evot_none]
    rw [c1]
    exact a1
  rw [step (ρ' := [some (.lst WS), none]) (by
    rw [evs_cond, evt_or, evt_not, evt_tru, al]
    simp [l1, q1])]
  have p1 : (E.call "rises" 1 (.cons (.sl (.v 0) .none (.some (.neg (.c (.int 1))))) .nil)).ev dn [some (.lst WS), none] = .ok (.bl true) := by simp [l2, r1]
  have p2 : (E.cmp .NotIn (.c (.str [111, 116, 104, 101, 114])) (.sl (.v 0) .none (.some (.neg (.c (.int 1)))))).ev dn [some (.lst WS), none] = .ok (.bl true) := by
    simp [-inB_lstS, l2, ni]
  simp only [evb_cons, evs_ret, ev_and, p1, p2, R.ok_bind, asBl_bl, if_true]
  rfl
end
/-! ### messages -/
abbrev SpIsMsg (dn : Str → List PV → R PV) (P : List Nat → Prop) (d : Nat) : Prop := ∀ (c : Bool) (m : Msg), MsgP P d c m → dn "is_message_in" [msgV m, .int d, .bl c] = .ok (.bl true)
abbrev SpIsPart (dn : Str → List PV → R PV) (P : List Nat → Prop) (d : Nat) : Prop := ∀ (c : Bool) (p : Part), PartP P d c p → dn "is_part" [partV p, .int d, .bl c] = .ok (.bl true)
abbrev SpAreCases (dn : Str → List PV → R PV) (P : List Nat → Prop) (d : Nat) : Prop := ∀ (b c : Bool) (cs : List Cse), CkOk b (cs.map (·.1)) → cs.length ≤ 8 → (∀ km ∈ cs, MsgP P d (c || b) km.2) → dn "are_cases" [.str (wFk b), .tup (cs.map caseV), .int ((d : Int) + 1), .bl c] = .ok (.bl true)
abbrev SpCounted (dn : Str → List PV → R PV) : Prop := ∀ (ns : List Int) (cs : List (List Nat)), ns.Pairwise (· < ·) → (∀ n ∈ ns, 0 ≤ n ∧ n ≤ 999) → cs.Sublist catW → ns.length ≤ 100 → dn "are_counted" [.lst (ns.map .int ++ (cs ++ [othS]).map .str)] = .ok (.bl true)
abbrev SpKinds (dn : Str → List PV → R PV) : Prop := ∀ ls : List (List Nat), ls.Pairwise (fun a b => ltL a b = true) → (∀ l ∈ ls, NmeOk l ∧ l ≠ othS) → ls.length ≤ 100 → dn "are_kinds" [.lst ((ls ++ [othS]).map .str)] = .ok (.bl true)
section
variable {dn : Str → List PV → R PV} {wf : Nat} {P : List Nat → Prop}
theorem b_are_cases' {d : Nat} (hK : SpCounted dn) (hD : SpKinds dn) (hM : SpIsMsg dn P d) (b c : Bool) (cs : List Cse) (h1 : CkOk b (cs.map (·.1))) (h2 : cs.length ≤ 8) (h3 : ∀ km ∈ cs, MsgP P d (c || b) km.2) : runB dn wf 6 b_are_cases [.str (wFk b), .tup (cs.map caseV), .int ((d : Int) + 1), .bl c] = .ok (.bl true) := by
  have c1 : compL (turnC [5] (Tg.nm 5) none ((E.and (.isa (.v 5) .tuple) (.cmp .Eq (.pr .len (.cons (.v 5) .nil)) (.c (.int 2)))).ev dn) [some (.str (wFk b)), some (.tup (cs.map caseV)), some (.int ((d : Int) + 1)), some (.bl c), none, none]) (cs.map caseV) = .ok (cs.map fun _ => .bl true) :=
    comp_mapS fun km _ => by simp [caseV, isT5, isP]
  have a1 : allP [.lst (cs.map fun _ => PV.bl true)] = .ok (.bl true) := by
    rw [all_map]
    simp
  have c2 : compL (turnC [5] (Tg.nm 5) none ((E.ix (.v 5) (.c (.int 0))).ev dn) [some (.str (wFk b)), some (.tup (cs.map caseV)), some (.int ((d : Int) + 1)), some (.bl c), none, none]) (cs.map caseV) = .ok ((cs.map (·.1)).map unKey) := by
    rw [List.map_map]
    exact comp_mapS fun km _ => by
      have ix : ixP (caseV km) (.int 0) = .ok (unKey km.1) := rfl
      simp [ix]
  have c3 : compL (turnC [5] (Tg.nm 5) none ((E.call "is_message_in" 3 (.cons (.ix (.v 5) (.c (.int 1))) (.cons (.bin .Sub (.v 2) (.c (.int 1))) (.cons (.or (.v 3) (.cmp .Eq (.v 0) (.c (.str [99, 111, 117, 110, 116])))) .nil)))).ev dn) [some (.str (wFk b)), some (.tup (cs.map caseV)), some (.int ((d : Int) + 1)), some (.bl c), some (.lst ((cs.map (·.1)).map unKey)), none]) (cs.map caseV) = .ok (cs.map fun _ => .bl true) :=
    comp_mapS fun km hk => by
      have ix : ixP (caseV km) (.int 1) = .ok (msgV km.2) := rfl
      have e := hM _ _ (h3 km hk)
      have eo : (E.or (.v 3) (.cmp .Eq (.v 0) (.c (.str [99, 111, 117, 110, 116])))).ev dn [some (.str (wFk b)), some (.tup (cs.map caseV)), some (.int ((d : Int) + 1)), some (.bl c), some (.lst ((cs.map (·.1)).map unKey)), some (caseV km)] = .ok (.bl (c || b)) := by
        cases c <;> cases b <;> simp [wFk, wCo, wKi]
      simp only [turn_ev, bindT_nm, R.ok_bind, wipeP_cons, wipeP_nil, List.set, condR_none, if_true, ev_call, evs_cons, evs_nil, eo, ev_ix, ev_c, ev_v, fVar_s, fVar_0, ix, List.length_cons, List.length_nil]
      simp [e]
  have kk : (if b then dn "are_counted" [.lst ((cs.map (·.1)).map unKey)] else dn "are_kinds" [.lst ((cs.map (·.1)).map unKey)]) = .ok (.bl true) := by
    cases b with
    | true =>
      obtain ⟨ns, ws, e, g1, g2, g3⟩ := ckT h1
      have hl : ns.length ≤ 100 := by
        have := congrArg List.length e
        simp at this
        omega
      have := hK ns ws g1 g2 g3 hl
      rw [e, List.map_append, List.map_map, List.map_map]
      exact this
    | false =>
      obtain ⟨ls, e, g1, g2⟩ := ckF h1
      have hl : ls.length ≤ 100 := by
        have := congrArg List.length e
        simp at this
        omega
      have := hD ls g1 g2 hl
      rw [e, List.map_map]
      exact this
  generalize (cs.map (·.1)).map unKey = KS at c2 c3 kk
  simp only [runB, b_are_cases, entry_4, List.replicate]
  have al : (E.pr .all (.cons (.lc [5] (.nm 5) (.of (.v 1)) .none (.and (.isa (.v 5) .tuple) (.cmp .Eq (.pr .len (.cons (.v 5) .nil)) (.c (.int 2))))) .nil)).ev dn [some (.str (wFk b)), some (.tup (cs.map caseV)), some (.int ((d : Int) + 1)), some (.bl c), none, none] = .ok (.bl true) := by
    simp only [ev_pr, evs_cons, evs_nil, ev_lc, evi_of, ev_v, fVar_s, fVar_0, R.ok_bind, itemsP_tup, evot_none]
    rw [c1]
    exact a1
  rw [step (ρ' := [some (.str (wFk b)), some (.tup (cs.map caseV)), some (.int ((d : Int) + 1)), some (.bl c), none, none]) (by
    rw [evs_cond, evt_or, evt_not, evt_not, evt_tru, evt_tru, al]
    simp [isT5, isP])]
  rw [step (ρ' := [some (.str (wFk b)), some (.tup (cs.map caseV)), some (.int ((d : Int) + 1)), some (.bl c), some (.lst KS), none]) (by
    simp only [evs_set, ev_lc, evi_of, ev_v, fVar_s, fVar_0, R.ok_bind, itemsP_tup, evot_none]
    rw [c2]
    rfl)]
  rw [step (ρ' := [some (.str (wFk b)), some (.tup (cs.map caseV)), some (.int ((d : Int) + 1)), some (.bl c), some (.lst KS), none]) (by
    cases b with
    | true =>
      have kk : dn "are_counted" [.lst KS] = .ok (.bl true) := kk
      simp [wFk, wCo, kk]
    | false =>
      have kk : dn "are_kinds" [.lst KS] = .ok (.bl true) := kk
      simp [wFk, wKi, kk])]
  have fin : (E.pr .all (.cons (.lc [5] (.nm 5) (.of (.v 1)) .none (.call "is_message_in" 3 (.cons (.ix (.v 5) (.c (.int 1))) (.cons (.bin .Sub (.v 2) (.c (.int 1))) (.cons (.or (.v 3) (.cmp .Eq (.v 0) (.c (.str [99, 111, 117, 110, 116])))) .nil))))) .nil)).ev dn [some (.str (wFk b)), some (.tup (cs.map caseV)), some (.int ((d : Int) + 1)), some (.bl c), some (.lst KS), none] = .ok (.bl true) := by
    simp only [ev_pr, evs_cons, evs_nil, ev_lc, evi_of, ev_v, fVar_s, fVar_0, R.ok_bind, itemsP_tup, evot_none]
    rw [c3]
    exact a1
  simp only [evb_cons, evs_ret, fin, R.ok_bind]
  rfl
theorem b_is_part' {d : Nat} (hne : ∀ t, P t → t ≠ []) (hI : SpIsName dn) (hA : ∀ e, d = e + 1 → SpAreCases dn P e) (c : Bool) (p : Part) (h : PartP P d c p) : runB dn wf 4 b_is_part [partV p, .int d, .bl c] = .ok (.bl true) := by
  have leaf : LeafP P c p → runB dn wf 4 b_is_part [partV p, .int d, .bl c] = .ok (.bl true) := fun h => by
    cases p with
    | text t =>
      have ht : t ≠ [] := hne t h
      have i0 : ixP (.tup [.str wTx, .str t]) (.int 0) = .ok (.str wTx) := rfl
      have i1 : ixP (.tup [.str wTx, .str t]) (.int 1) = .ok (.str t) := rfl
      simp only [wTx] at i0 i1
      simp [runB, b_is_part, isT5, isT1, isP, i0, i1, wTx, ht]
    | slot n =>
      have e := hI n (NmeOk.azOk h)
      have i0 : ixP (.tup [.str wSl, .str n]) (.int 0) = .ok (.str wSl) := rfl
      have i1 : ixP (.tup [.str wSl, .str n]) (.int 1) = .ok (.str n) := rfl
      simp only [wSl] at i0 i1
      simp [runB, b_is_part, isT5, isT1, isP, i0, i1, wSl, e]
    | mark =>
      have h : c = true := h
      subst h
      have i0 : ixP (.tup [.str wMk]) (.int 0) = .ok (.str wMk) := rfl
      simp only [wMk] at i0
      simp [runB, b_is_part, isT5, isT1, isP, i0, wMk]
    | fork b n cs => exact h.elim
  cases d with
  | zero => exact leaf h
  | succ d =>
    rcases h with h | ⟨b, n, cs, rfl, h1, h2, h3, h4⟩
    · exact leaf h
    · have e := hI n h1.azOk
      have e2 := hA d rfl b c cs h2 h3 h4
      have i0 : ixP (.tup [.str (wFk b), .str n, .tup (cs.map caseV)]) (.int 0) = .ok (.str (wFk b)) := rfl
      have i1 : ixP (.tup [.str (wFk b), .str n, .tup (cs.map caseV)]) (.int 1) = .ok (.str n) := rfl
      have i2 : ixP (.tup [.str (wFk b), .str n, .tup (cs.map caseV)]) (.int 2) = .ok (.tup (cs.map caseV)) := rfl
      have hd : ¬ ((d : Int) + 1 = 0) := by omega
      cases b with
      | true =>
        simp only [wFk, wCo, if_true] at i0 i1 i2 e2
        simp [runB, b_is_part, isT5, isT1, isP, wFk, i0, i1, i2, wCo, e, hd, e2]
        rfl
      | false =>
        simp only [wFk, wKi, Bool.false_eq_true, if_false] at i0 i1 i2 e2
        simp [runB, b_is_part, isT5, isT1, isP, wFk, i0, i1, i2, wKi, e, hd, e2]
        rfl
theorem noAdj_at : ∀ {m : Msg}, NoAdj m = true → ∀ i p q, m[i]? = some p → m[i + 1]? = some q → (isTx p && isTx q) = false
  | [], _, i, p, q, h, _ => by simp at h
  | [x], _, i, p, q, h, h2 => by simp at h2
  | x :: y :: l, h, i, p, q, h1, h2 => by
    simp only [NoAdj, Bool.and_eq_true, Bool.not_eq_true'] at h
    cases i with
    | zero =>
      simp at h1 h2
      subst h1
      subst h2
      exact h.1
    | succ i => exact noAdj_at h.2 i p q (by simpa using h1) (by simpa using h2)
theorem word_ix (p : Part) : ixP (partV p) (.int 0) = .ok (.str (wordOf p)) := by
  cases p with
  | fork b n cs => rw [partV_fork]; cases b <;> rfl
  | text t => rw [partV_text]; rfl
  | slot t => rw [partV_slot]; rfl
  | mark => rw [partV_mark]; rfl
theorem b_is_message_in' {d : Nat} (hP : SpIsPart dn P d) (c : Bool) (m : Msg) (h : MsgP P d c m) : runB dn wf 5 b_is_message_in [msgV m, .int d, .bl c] = .ok (.bl true) := by
  have c1 : compL (turnC [4] (Tg.nm 4) none ((E.call "is_part" 3 (.cons (.v 4) (.cons (.v 1) (.cons (.v 2) .nil)))).ev dn) [some (msgV m), some (.int d), some (.bl c), none, none]) (m.map partV) = .ok (m.map fun _ => .bl true) :=
    comp_mapS fun p hp => by
      have e := hP c p (h.part p hp)
      simp [e]
  have a1 : allP [.lst (m.map fun _ => PV.bl true)] = .ok (.bl true) := by
    rw [all_map]
    simp
  have l4 := h.len
  have r1 : rngP 1 (m.length : Int) = .ok ((List.range (m.length - 1)).map fun i => .int (1 + (i : Nat))) := by
    unfold rngP
    rw [if_pos (by omega), show ((m.length : Int) - 1).toNat = m.length - 1 by omega]
  have c2 : compL (turnC [3] (Tg.nm 3) none ((E.and (.cmp .Eq (.ix (.ix (.v 0) (.bin .Sub (.v 3) (.c (.int 1)))) (.c (.int 0))) (.c (.str [116, 101, 120, 116]))) (.cmp .Eq (.ix (.ix (.v 0) (.v 3)) (.c (.int 0))) (.c (.str [116, 101, 120, 116])))).ev dn) [some (msgV m), some (.int d), some (.bl c), none, none]) ((List.range (m.length - 1)).map fun i => .int (1 + (i : Nat))) = .ok ((List.range (m.length - 1)).map fun _ => .bl false) :=
    comp_mapS fun i hi => by
      have hi := List.mem_range.mp hi
      obtain ⟨p, hp⟩ : ∃ p, m[i]? = some p := ⟨_, List.getElem?_eq_getElem (by omega)⟩
      obtain ⟨q, hq⟩ : ∃ q, m[i + 1]? = some q := ⟨_, List.getElem?_eq_getElem (by omega)⟩
      have i1 : ixP (msgV m) (.int i) = .ok (partV p) := ix_tup (by
        rw [atI_nn (by omega), List.getElem?_map, show (i : Int).toNat = i by omega, hp]
        rfl)
      have i2 : ixP (msgV m) (.int (1 + i)) = .ok (partV q) := ix_tup (by
        rw [atI_nn (by omega), List.getElem?_map, show (1 + (i : Int)).toNat = i + 1 by omega, hq]
        rfl)
      have w := noAdj_at h.adj i p q hp hq
      have w1 : eqR (.str (wordOf p)) (.str [116, 101, 120, 116]) = .ok (.bl (isTx p)) := by rw [← tx_word p, eqR_str]
      have w2 : eqR (.str (wordOf q)) (.str [116, 101, 120, 116]) = .ok (.bl (isTx q)) := by rw [← tx_word q, eqR_str]
      have x1 : (E.cmp .Eq (.ix (.ix (.v 0) (.bin .Sub (.v 3) (.c (.int 1)))) (.c (.int 0))) (.c (.str [116, 101, 120, 116]))).ev dn [some (msgV m), some (.int d), some (.bl c), some (.int (1 + (i : Nat))), none] = .ok (.bl (isTx p)) := by
        simp [show 1 + (i : Int) - 1 = i by omega, i1, word_ix, w1, -eqR_str]
      have x2 : (E.cmp .Eq (.ix (.ix (.v 0) (.v 3)) (.c (.int 0))) (.c (.str [116, 101, 120, 116]))).ev dn [some (msgV m), some (.int d), some (.bl c), some (.int (1 + (i : Nat))), none] = .ok (.bl (isTx q)) := by
        simp [i2, word_ix, w2, -eqR_str]
      simp only [turn_ev, bindT_nm, R.ok_bind, wipeP_cons, wipeP_nil, List.set, condR_none, if_true, ev_and, x1, x2, asBl_bl]
      cases hx : isTx p with
      | false => rfl
      | true =>
        rw [hx] at w
        have : isTx q = false := by simpa using w
        rw [this]
        rfl
  have a2 : anyP [.lst ((List.range (m.length - 1)).map fun _ => PV.bl false)] = .ok (.bl false) := by
    rw [any_map]
    simp
  have al : (E.pr .all (.cons (.lc [4] (.nm 4) (.of (.v 0)) .none (.call "is_part" 3 (.cons (.v 4) (.cons (.v 1) (.cons (.v 2) .nil))))) .nil)).ev dn [some (msgV m), some (.int d), some (.bl c), none, none] = .ok (.bl true) := by
    have im : itemsP (msgV m) = .ok (m.map partV) := rfl
    simp only [ev_pr, evs_cons, evs_nil, ev_lc, evi_of, ev_v, fVar_s, fVar_0, R.ok_bind, im, evot_none]
    rw [c1]
    exact a1
  have an : (E.pr .any (.cons (.lc [3] (.nm 3) (.rng2 (.c (.int 1)) (.pr .len (.cons (.v 0) .nil))) .none (.and (.cmp .Eq (.ix (.ix (.v 0) (.bin .Sub (.v 3) (.c (.int 1)))) (.c (.int 0))) (.c (.str [116, 101, 120, 116]))) (.cmp .Eq (.ix (.ix (.v 0) (.v 3)) (.c (.int 0))) (.c (.str [116, 101, 120, 116]))))) .nil)).ev dn [some (msgV m), some (.int d), some (.bl c), none, none] = .ok (.bl false) := by
    have ir : (I.rng2 (.c (.int 1)) (.pr .len (.cons (.v 0) .nil))).ev dn [some (msgV m), some (.int d), some (.bl c), none, none] = .ok ((List.range (m.length - 1)).map fun i => .int (1 + (i : Nat))) := by
      simp [msgV, r1]
    simp only [ev_pr, evs_cons, evs_nil, ev_lc, ir, R.ok_bind, evot_none]
    rw [c2]
    exact a2
  simp only [runB, b_is_message_in, entry_3, List.replicate]
  have it : isT (msgV m) .tuple = some true := rfl
  rw [step (ρ' := [some (msgV m), some (.int d), some (.bl c), none, none]) (by
    rw [evs_cond, evt_or, evt_not, evt_not, evt_tru, evt_tru, al]
    simp [it, isP])]
  simp only [evb_cons, evs_ret, ev_not, an, R.ok_bind, asBl_bl]
  rfl
end
end M
/-! U4: messages stretched. -/
namespace M
open PySem L2
def vow (c : Nat) : Bool := [97, 101, 105, 111, 117].contains c
def twice (c : Nat) : List Nat := if vow c then [c, c] else [c]
def strT (t : List Nat) : List Nat := 91 :: (t.flatMap twice ++ [93])
def strPart (f : Msg → Msg) : Part → Part
  | .text t => .text (strT t)
  | .fork b n cs => .fork b n (cs.map fun km => (km.1, f km.2))
  | p => p
def strL : Nat → Msg → Msg
  | 0, m => m.map (strPart id)
  | d + 1, m => m.map (strPart (strL d))
def strI : Nat → Msg → Msg
  | 0, m => m
  | d + 1, m => strL d m
theorem strL_eq (d : Nat) (m : Msg) : strL d m = m.map (strPart (strI d)) := by cases d <;> rfl
theorem str_tx (f : Msg → Msg) (p : Part) : isTx (strPart f p) = isTx p := by cases p <;> rfl
theorem str_use (f : Msg → Msg) (p : Part) : useP (strPart f p) = useP p := by cases p <;> rfl
theorem str_inn (f : Msg → Msg) (p : Part) : innP (strPart f p) = (innP p).map f := by
  cases p with
  | fork b n cs => simp [strPart, innP]
  | _ => rfl
theorem uses_str : ∀ (d : Nat) (m : Msg), usesL d (strL d m) = usesL d m := by
  intro d
  induction d with
  | zero =>
    intro m
    rw [strL_eq, usesL_eq, usesL_eq, List.flatMap_map]
    congr 1
    funext p
    unfold partU
    rw [str_use, str_inn]
    have z : ∀ l : List Msg, l.flatMap (usesI 0) = [] := fun l => by
      rw [List.flatMap_eq_nil_iff]
      exact fun _ _ => rfl
    rw [z, z]
  | succ d ih =>
    intro m
    rw [strL_eq, usesL_eq, usesL_eq, List.flatMap_map]
    congr 1
    funext p
    unfold partU
    rw [str_use, str_inn, List.flatMap_map]
    congr 2
    funext m'
    exact ih m'
def NeT (t : List Nat) : Prop := t ≠ []
theorem str_adj (f : Msg → Msg) : ∀ m : Msg, NoAdj (m.map (strPart f)) = NoAdj m
  | [] => rfl
  | [p] => rfl
  | p :: q :: m => by
    have := str_adj f (q :: m)
    simp only [List.map_cons] at this ⊢
    simp only [NoAdj, str_tx, this]
theorem str_ok : ∀ {d : Nat} {c : Bool} {m : Msg}, MsgOk d c m → MsgP NeT d c (strL d m) := by
  intro d
  induction d with
  | zero =>
    intro c m h
    refine ⟨by rw [strL_eq, List.length_map]; exact h.1, by rw [strL_eq, str_adj]; exact h.2.1, fun p hp => ?_⟩
    rw [strL_eq] at hp
    obtain ⟨q, hq, rfl⟩ := List.mem_map.mp hp
    have := h.2.2 q hq
    cases q with
    | text t => exact List.cons_ne_nil _ _
    | slot n => exact this
    | mark => exact this
    | fork b n cs => exact (show False from this).elim
  | succ d ih =>
    intro c m h
    refine ⟨by rw [strL_eq, List.length_map]; exact h.1, by rw [strL_eq, str_adj]; exact h.2.1, fun p hp => ?_⟩
    rw [strL_eq] at hp
    obtain ⟨q, hq, rfl⟩ := List.mem_map.mp hp
    rcases h.2.2 q hq with this | ⟨b, n, cs, rfl, h1, h2, h3, h4⟩
    · left
      cases q with
      | text t => exact List.cons_ne_nil _ _
      | slot n => exact this
      | mark => exact this
      | fork b n cs => exact (show False from this).elim
    · right
      refine ⟨b, n, cs.map fun km => (km.1, strL d km.2), rfl, h1, by rw [List.map_map]; exact h2, by rw [List.length_map]; exact h3, fun km hk => ?_⟩
      obtain ⟨km', hk', rfl⟩ := List.mem_map.mp hk
      exact ih (h4 km' hk')
/-! the code -/
theorem joinL_nil' : ∀ ls : List (List Nat), TL.joinL [] ls = ls.flatten
  | [] => rfl
  | [l] => by simp [TL.joinL]
  | l :: k :: ls => by
    have := joinL_nil' (k :: ls)
    rw [TL.joinL, this]
    simp
theorem join_nil {ls : List (List Nat)} (h : (ls.map (fun x : List Nat => x.length)).sum ≤ 16777216) : joinP [] (.lst (ls.map .str)) = .ok (.str ls.flatten) := by
  show (match strsOf _ with
    | some ls => if (ls.map (fun x : List Nat => x.length)).sum + ls.length * 0 ≤ 16777216 then (R.ok (.str (TL.joinL [] ls)) : R PV) else .no
    | none => .no) = _
  rw [strsOf_map']
  show (if _ then _ else _) = _
  rw [if_pos (by omega), joinL_nil']
theorem twice_len : ∀ t : List Nat, ((t.map twice).map (fun x : List Nat => x.length)).sum ≤ 2 * t.length
  | [] => by simp
  | c :: t => by
    have := twice_len t
    have h : (twice c).length ≤ 2 := by unfold twice; split <;> simp
    simp only [List.map_cons, List.sum_cons, List.length_cons]
    omega
abbrev SpStrT (dn : Str → List PV → R PV) : Prop := ∀ t : List Nat, t.length ≤ 1000 → dn "stretched_text" [.str t] = .ok (.str (strT t))
abbrev SpStr (f : Str) (dn : Str → List PV → R PV) (d : Nat) : Prop := ∀ (c : Bool) (m : Msg), MsgOk d c m → dn f [msgV m] = .ok (msgV (strL d m))
section
variable {dn : Str → List PV → R PV} {wf : Nat}
theorem b_stretched_text' (t : List Nat) (ht : t.length ≤ 1000) : runB dn wf 2 b_stretched_text [.str t] = .ok (.str (strT t)) := by
  have c1 : compL (turnC [1] (Tg.nm 1) none ((E.bin .Mult (.v 1) (.bin .Add (.c (.int 1)) (.pr .int (.cons (.cmp .In (.v 1) (.c (.str [97, 101, 105, 111, 117]))) .nil)))).ev dn) [some (.str t), none]) (t.map fun c => .str [c]) = .ok ((t.map twice).map .str) := by
    rw [List.map_map]
    exact comp_mapS fun c _ => by
      have i := inB_sign c [97, 101, 105, 111, 117]
      have i1 : intP [.bl true] = .ok (.int 1) := rfl
      have i0 : intP [.bl false] = .ok (.int 0) := rfl
      simp only [turn_ev, bindT_nm, R.ok_bind, wipeP_cons, wipeP_nil, List.set, condR_none, if_true, ev_bin, ev_pr, evs_cons, evs_nil, ev_cmp, ev_v, ev_c, fVar_s, fVar_0, c_in, i, Pr.ev]
      show _ = R.ok (some (PV.str (twice c)))
      unfold twice vow
      cases h : [97, 101, 105, 111, 117].contains c with
      | true => rfl
      | false => rfl
  have j := join_nil (ls := t.map twice) (Nat.le_trans (twice_len t) (by omega))
  simp only [runB, b_stretched_text, entry_1, List.replicate]
  have ej : (E.m1 .join (.c (.str [])) (.lc [1] (.nm 1) (.of (.v 0)) .none (.bin .Mult (.v 1) (.bin .Add (.c (.int 1)) (.pr .int (.cons (.cmp .In (.v 1) (.c (.str [97, 101, 105, 111, 117]))) .nil)))))).ev dn [some (.str t), none] = .ok (.str (t.map twice).flatten) := by
    have el : (E.lc [1] (.nm 1) (.of (.v 0)) .none (.bin .Mult (.v 1) (.bin .Add (.c (.int 1)) (.pr .int (.cons (.cmp .In (.v 1) (.c (.str [97, 101, 105, 111, 117]))) .nil))))).ev dn [some (.str t), none] = .ok (.lst ((t.map twice).map .str)) := by
      simp only [ev_lc, evi_of, ev_v, fVar_s, fVar_0, R.ok_bind, itemsP_str, evot_none]
      rw [c1]
      rfl
    simp only [ev_m1, ev_c, R.ok_bind, el]
    exact j
  have lf : (t.map twice).flatten.length ≤ 2000 := by
    rw [List.length_flatten]
    show ((t.map twice).map (fun x : List Nat => x.length)).sum ≤ 2000
    have := twice_len t
    omega
  have e1 : binP .Add (.str [91]) (.str (t.map twice).flatten) = .ok (.str ([91] ++ (t.map twice).flatten)) := add_str _ _ (by simp; simp at lf; omega)
  have e2 : binP .Add (.str ([91] ++ (t.map twice).flatten)) (.str [93]) = .ok (.str ([91] ++ (t.map twice).flatten ++ [93])) := add_str _ _ (by simp; simp at lf; omega)
  simp only [evb_cons, evs_ret, ev_bin, ej, ev_c, R.ok_bind, e1, e2]
  show R.ok (PV.str _) = _
  congr 2
abbrev stTab : List Str := ["is_name", "rises", "are_counted", "are_kinds", "is_message", "inner_of", "all_uses", "uses", "stretched_text", "stretched", "_law_text", "_law_name", "_law_stretched", "law"]
theorem b_with_inner_str {d : Nat} (hS : SpStr "stretched" dn d) (b c : Bool) (n : List Nat) (cs : List Cse) (h : ∀ km ∈ cs, MsgOk d (c || b) km.2) (hl : cs.length ≤ 8) : runB dn wf 4 b_with_inner_k08 [partV (.fork b n cs), .fn "stretched" []] = .ok (partV (strPart (strL d) (.fork b n cs))) := by
  have i2 : ixP (.tup [.str (wFk b), .str n, .tup (cs.map caseV)]) (.int 2) = .ok (.tup (cs.map caseV)) := rfl
  have c1 : compL (turnC [2, 3] (Tg.tp [2, 3]) none ((E.tup (.cons (.v 2) (.cons (.callv 1 1 stTab (.cons (.v 3) .nil)) .nil))).ev dn) [some (.tup [.str (wFk b), .str n, .tup (cs.map caseV)]), some (.fn "stretched" []), none, none]) (cs.map caseV) = .ok ((cs.map fun km => (km.1, strL d km.2)).map caseV) := by
    rw [List.map_map]
    exact comp_mapS fun km hk => by
      have e := hS _ _ (h km hk)
      have ft : fnOfP stTab (.fn "stretched" []) = .ok "stretched" := by
        show (if ("stretched" : Str) ∈ stTab then R.ok ("stretched" : Str) else R.no) = _
        rw [if_pos (by simp [stTab])]
      simp [caseV, bindT, setP, ft, e]
  have s2 : slP (.tup [.str (wFk b), .str n, .tup (cs.map caseV)]) none (some 2) = .ok (.tup [.str (wFk b), .str n]) := by
    rw [sl_tup', cutL_to _ _ (by decide)]
    rfl
  rw [partV_fork]
  show _ = R.ok (partV (.fork b n (cs.map fun km => (km.1, strL d km.2))))
  rw [partV_fork]
  simp only [runB, b_with_inner_k08, entry_2, List.replicate]
  have el : (E.lc [2, 3] (.tp [2, 3]) (.of (.ix (.v 0) (.c (.int 2)))) .none (.tup (.cons (.v 2) (.cons (.callv 1 1 stTab (.cons (.v 3) .nil)) .nil)))).ev dn [some (.tup [.str (wFk b), .str n, .tup (cs.map caseV)]), some (.fn "stretched" []), none, none] = .ok (.lst ((cs.map fun km => (km.1, strL d km.2)).map caseV)) := by
    simp only [ev_lc, evi_of, ev_ix, ev_c, ev_v, fVar_s, fVar_0, R.ok_bind, i2, itemsP_tup, evot_none]
    rw [c1]
    rfl
  generalize (cs.map fun km => (km.1, strL d km.2)).map caseV = CS at el ⊢
  have ad : addP (.tup [.str (wFk b), .str n]) (.tup [.tup CS]) = .ok (.tup [.str (wFk b), .str n, .tup CS]) := by
    rw [add_tup _ _ (by simp)]
    rfl
  simp only [evb_cons, evs_ret, ev_bin, ev_tup, evs_cons, evs_nil, ev_pr, el, R.ok_bind]
  simp [s2, ad]
abbrev SpWithStr (dn : Str → List PV → R PV) (e : Nat) : Prop := ∀ (b c : Bool) (n : List Nat) (cs : List Cse), (∀ km ∈ cs, MsgOk e (c || b) km.2) → cs.length ≤ 8 → dn "with_inner" [partV (.fork b n cs), .fn "stretched" []] = .ok (partV (strPart (strL e) (.fork b n cs)))
theorem b_stretched' {d : Nat} (hT : SpStrT dn) (hW : ∀ e, d = e + 1 → SpWithStr dn e) (c : Bool) (m : Msg) (hm : MsgOk d c m) : runB dn wf 3 b_stretched [msgV m] = .ok (msgV (strL d m)) := by
  have big := big_ge
  have l4 := hm.len
  obtain ⟨ρ', e, o2, rfl⟩ := forT_pre' (tg := .nm 2) (body := ((b_stretched.at 1).blk).ev dn wf) (e := partV) (xs := m) (ρ := [some (msgV m), some (.lst []), none])
    (fun pre ρ => ∃ o2, ρ = [some (msgV m), some (.lst ((pre.map (strPart (strI d))).map partV)), o2])
    (fun pre p q ρ em ⟨o2, er⟩ => by
      subst er
      have hp := hm.part p (by rw [em]; simp)
      have hb : ((pre.map (strPart (strI d))).map partV).length < M.big := by
        have := congrArg List.length em
        rw [List.length_append, List.length_cons] at this
        rw [List.length_map, List.length_map]
        omega
      have e1 : ((pre ++ [p]).map (strPart (strI d))).map partV = (pre.map (strPart (strI d))).map partV ++ [partV (strPart (strI d) p)] := by simp
      refine ⟨[some (msgV m), some (.lst (((pre ++ [p]).map (strPart (strI d))).map partV)), some (partV (strPart (strI d) p))], ?_, _, rfl⟩
      rw [e1]
      generalize (pre.map (strPart (strI d))).map partV = F at hb ⊢
      simp only [b_stretched, Ss.at, S.blk, bindT_nm, R.ok_bind, List.set]
      cases p with
      | text t =>
        have ht : TxOk t := by
          cases d with
          | zero => exact hp
          | succ d => exact hp.elim id fun ⟨_, _, _, z, _⟩ => by cases z
        have i0 : ixP (.tup [.str wTx, .str t]) (.int 0) = .ok (.str wTx) := rfl
        have i1 : ixP (.tup [.str wTx, .str t]) (.int 1) = .ok (.str t) := rfl
        have es := hT t (by have := ht.len; omega)
        simp only [wTx] at i0 i1
        simp [strPart, wTx, i0, i1, es, hb]
      | slot n =>
        have i0 : ixP (.tup [.str wSl, .str n]) (.int 0) = .ok (.str wSl) := rfl
        simp only [wSl] at i0
        simp [strPart, wSl, i0, hb]
      | mark =>
        have i0 : ixP (.tup [.str wMk]) (.int 0) = .ok (.str wMk) := rfl
        simp only [wMk] at i0
        simp [strPart, wMk, i0, hb]
      | fork b n cs =>
        cases d with
        | zero => exact (show False from hp).elim
        | succ d =>
          rcases hp with hp | ⟨b', n', cs', e, h1, h2, h3, h4⟩
          · exact (show False from hp).elim
          · cases e
            have ew := hW d rfl b c n cs h4 h3
            have i0 : ixP (partV (.fork b n cs)) (.int 0) = .ok (.str (wFk b)) := by rw [partV_fork]; rfl
            have ln : lenP [partV (.fork b n cs)] = .ok (.int 3) := by rw [partV_fork]; rfl
            have nt : eqR (.str (wFk b)) (.str [116, 101, 120, 116]) = .ok (.bl false) := by cases b <;> rfl
            show _ = R.ok (Fl.nx [_, some (.lst (F ++ [partV (strPart (strL d) (.fork b n cs))])), some (partV (strPart (strL d) (.fork b n cs)))])
            generalize partV (.fork b n cs) = PF at i0 ln ew ⊢
            generalize partV (strPart (strL d) (.fork b n cs)) = PG at ew ⊢
            rw [step (ρ' := [some (msgV m), some (.lst F), some PF]) (by simp [i0, nt, -eqR_str])]
            rw [step (ρ' := [some (msgV m), some (.lst F), some PG]) (by simp [Pr.ev, ln, ew])]
            simp [hb]) ⟨none, rfl⟩
  simp only [b_stretched, Ss.at, S.blk] at e
  simp only [runB, b_stretched, entry_1, List.replicate]
  rw [step (ρ' := [some (msgV m), some (.lst []), none]) (by simp [isObjP])]
  rw [step (by
    have im : itemsP (msgV m) = .ok (m.map partV) := rfl
    simp only [evs_loop, evi_of, ev_v, fVar_s, fVar_0, R.ok_bind, im]
    exact e)]
  rw [strL_eq]
  simp [msgV]
theorem vow_in (c : Nat) : inB (.str [c]) (.tup [.str [97], .str [101], .str [105], .str [111], .str [117]]) = .ok (vow c) := by
  have e := inB_tupS [c] [[97], [101], [105], [111], [117]]
  have e2 : ([[97], [101], [105], [111], [117]] : List (List Nat)).contains [c] = vow c := by
    unfold vow
    rw [Bool.eq_iff_iff]
    simp
  rw [e2] at e
  exact e
theorem b_lstretched {d : Nat} (hS : ∀ e, d = e + 1 → SpStr "_law_stretched" dn e) (c : Bool) (m : Msg) (hm : MsgOk d c m) : runB dn wf 7 b__law_stretched [msgV m] = .ok (msgV (strL d m)) := by
  have big := big_ge
  have l4 := hm.len
  obtain ⟨ρ', e, o2, o3, o4, o5, o6, rfl⟩ := forT_pre' (tg := .nm 2) (body := ((b__law_stretched.at 1).blk).ev dn wf) (e := partV) (xs := m) (ρ := [some (msgV m), some (.lst []), none, none, none, none, none])
    (fun pre ρ => ∃ o2 o3 o4 o5 o6, ρ = [some (msgV m), some (.lst ((pre.map (strPart (strI d))).map partV)), o2, o3, o4, o5, o6])
    (fun pre p q ρ em ⟨o2, o3, o4, o5, o6, er⟩ => by
      subst er
      have hp := hm.part p (by rw [em]; simp)
      have hb : ((pre.map (strPart (strI d))).map partV).length < M.big := by
        have := congrArg List.length em
        rw [List.length_append, List.length_cons] at this
        rw [List.length_map, List.length_map]
        omega
      have e1 : ((pre ++ [p]).map (strPart (strI d))).map partV = (pre.map (strPart (strI d))).map partV ++ [partV (strPart (strI d) p)] := by simp
      rw [e1]
      generalize (pre.map (strPart (strI d))).map partV = F at hb ⊢
      cases p with
      | text t =>
        have ht : TxOk t := by
          cases d with
          | zero => exact hp
          | succ d => exact hp.elim id fun ⟨_, _, _, z, _⟩ => by cases z
        have i0 : ixP (.tup [.str wTx, .str t]) (.int 0) = .ok (.str wTx) := rfl
        have i1 : ixP (.tup [.str wTx, .str t]) (.int 1) = .ok (.str t) := rfl
        simp only [wTx] at i0 i1
        have tl := ht.len
        obtain ⟨ρ', e, p4, rfl⟩ := forT_pre' (tg := .nm 4) (body := (((((b__law_stretched.at 1).blk).at 0).thn.at 1).blk).ev dn wf) (e := fun c : Nat => PV.str [c]) (xs := t) (ρ := [some (msgV m), some (.lst F), some (.tup [.str [116, 101, 120, 116], .str t]), some (.str [91]), o4, o5, o6])
          (fun pr ρ => ∃ p4, ρ = [some (msgV m), some (.lst F), some (.tup [.str [116, 101, 120, 116], .str t]), some (.str (91 :: pr.flatMap twice)), p4, o5, o6])
          (fun pr x po ρ hq ⟨p4, er⟩ => by
            subst er
            have hl := congrArg List.length hq
            rw [List.length_append, List.length_cons] at hl
            have l2 : (pr.flatMap twice).length ≤ 2 * pr.length := by
              rw [List.flatMap_def, List.length_flatten]
              exact twice_len pr
            have a1 : addP (.str (91 :: pr.flatMap twice)) (.str [x]) = .ok (.str (91 :: pr.flatMap twice ++ [x])) := add_str _ _ (by simp only [List.length_cons, List.length_nil]; omega)
            have a2 : addP (.str (91 :: pr.flatMap twice ++ [x])) (.str [x]) = .ok (.str (91 :: pr.flatMap twice ++ [x] ++ [x])) := add_str _ _ (by simp only [List.length_cons, List.length_append, List.length_nil]; omega)
            have ef : (pr ++ [x]).flatMap twice = pr.flatMap twice ++ twice x := by simp
            refine ⟨[some (msgV m), some (.lst F), some (.tup [.str [116, 101, 120, 116], .str t]), some (.str (91 :: (pr ++ [x]).flatMap twice)), some (.str [x]), o5, o6], ?_, _, rfl⟩
            rw [ef]
            generalize pr.flatMap twice = Y at a1 a2 ⊢
            simp only [b__law_stretched, Ss.at, S.blk, S.thn, bindT_nm, R.ok_bind, List.set]
            rw [step (ρ' := [some (msgV m), some (.lst F), some (.tup [.str [116, 101, 120, 116], .str t]), some (.str (91 :: Y ++ [x])), some (.str [x]), o5, o6]) (by simp only [evs_set, ev_bin, ev_v, fVar_s, fVar_0, R.ok_bind, bin_add, a1]; rfl)]
            have tv : (T.cmp .In (.v 4) (.tup (.cons (.c (.str [97])) (.cons (.c (.str [101])) (.cons (.c (.str [105])) (.cons (.c (.str [111])) (.cons (.c (.str [117])) .nil))))))).ev dn [some (msgV m), some (.lst F), some (.tup [.str [116, 101, 120, 116], .str t]), some (.str (91 :: Y ++ [x])), some (.str [x]), o5, o6] = .ok (vow x) := by
              simp [-inB_tup_str, -inB_tupS, vow_in]
            rw [evb_cons, evs_cond, tv]
            unfold twice
            cases hv : vow x with
            | true =>
              simp only [R.ok_bind, if_true]
              rw [step (ρ' := [some (msgV m), some (.lst F), some (.tup [.str [116, 101, 120, 116], .str t]), some (.str (91 :: Y ++ [x] ++ [x])), some (.str [x]), o5, o6]) (by simp only [evs_set, ev_bin, ev_v, fVar_s, fVar_0, R.ok_bind, bin_add, a2]; rfl)]
              simp
            | false => simp) ⟨o4, rfl⟩
        have l2 : (t.flatMap twice).length ≤ 2 * t.length := by
          rw [List.flatMap_def, List.length_flatten]
          exact twice_len t
        have a3 : addP (.str (91 :: t.flatMap twice)) (.str [93]) = .ok (.str (strT t)) := add_str _ _ (by simp only [List.length_cons, List.length_nil]; omega)
        refine ⟨[some (msgV m), some (.lst (F ++ [partV (strPart (strI d) (.text t))])), some (partV (strPart (strI d) (.text t))), some (.str (91 :: t.flatMap twice)), p4, o5, o6], ?_, _, _, _, _, _, rfl⟩
        have ep : partV (strPart (strI d) (.text t)) = .tup [.str [116, 101, 120, 116], .str (strT t)] := by simp [strPart, wTx]
        rw [ep]
        simp only [b__law_stretched, Ss.at, S.blk, S.thn, bindT_nm, R.ok_bind, List.set] at e ⊢
        rw [partV_text]
        simp only [wTx]
        rw [step (ρ' := [some (msgV m), some (.lst F), some (.tup [.str [116, 101, 120, 116], .str (strT t)]), some (.str (91 :: t.flatMap twice)), p4, o5, o6]) (by
          rw [evs_cond]
          have tt : (T.cmp .Eq (.ix (.v 2) (.c (.int 0))) (.c (.str [116, 101, 120, 116]))).ev dn [some (msgV m), some (.lst F), some (.tup [.str [116, 101, 120, 116], .str t]), o3, o4, o5, o6] = .ok true := by simp [i0]
          rw [tt]
          simp only [R.ok_bind, if_true]
          rw [step (ρ' := [some (msgV m), some (.lst F), some (.tup [.str [116, 101, 120, 116], .str t]), some (.str [91]), o4, o5, o6]) (by simp)]
          rw [step (by simp only [evs_loop, evi_of, ev_ix, ev_c, ev_v, fVar_s, fVar_0, R.ok_bind, i1, itemsP_str]; exact e)]
          simp [a3])]
        simp [hb]
      | slot n =>
        have i0 : ixP (.tup [.str wSl, .str n]) (.int 0) = .ok (.str wSl) := rfl
        simp only [wSl] at i0
        refine ⟨[some (msgV m), some (.lst (F ++ [partV (.slot n)])), some (partV (.slot n)), o3, o4, o5, o6], ?_, _, _, _, _, _, rfl⟩
        simp [b__law_stretched, Ss.at, S.blk, wSl, i0, hb]
      | mark =>
        have i0 : ixP (.tup [.str wMk]) (.int 0) = .ok (.str wMk) := rfl
        simp only [wMk] at i0
        refine ⟨[some (msgV m), some (.lst (F ++ [partV .mark])), some (partV .mark), o3, o4, o5, o6], ?_, _, _, _, _, _, rfl⟩
        simp [b__law_stretched, Ss.at, S.blk, wMk, i0, hb]
      | fork b n cs =>
        cases d with
        | zero => exact (show False from hp).elim
        | succ d =>
          rcases hp with hp | ⟨b', n', cs', e, h1, h2, h3, h4⟩
          · exact (show False from hp).elim
          · cases e
            have i0 : ixP (.tup [.str (wFk b), .str n, .tup (cs.map caseV)]) (.int 0) = .ok (.str (wFk b)) := rfl
            have i2 : ixP (.tup [.str (wFk b), .str n, .tup (cs.map caseV)]) (.int 2) = .ok (.tup (cs.map caseV)) := rfl
            have nt : eqR (.str (wFk b)) (.str [116, 101, 120, 116]) = .ok (.bl false) := by cases b <;> rfl
            have c1 : compL (turnC [5, 6] (Tg.tp [5, 6]) none ((E.tup (.cons (.v 5) (.cons (.call "_law_stretched" 1 (.cons (.v 6) .nil)) .nil))).ev dn) [some (msgV m), some (.lst F), some (.tup [.str (wFk b), .str n, .tup (cs.map caseV)]), o3, o4, o5, o6]) (cs.map caseV) = .ok ((cs.map fun km => (km.1, strL d km.2)).map caseV) := by
              rw [List.map_map]
              exact comp_mapS fun km hk => by
                have e := hS d rfl _ _ (h4 km hk)
                simp [caseV, bindT, setP, e]
            have s2 : slP (.tup [.str (wFk b), .str n, .tup (cs.map caseV)]) none (some 2) = .ok (.tup [.str (wFk b), .str n]) := by
              rw [sl_tup', cutL_to _ _ (by decide)]
              rfl
            have el : (E.lc [5, 6] (.tp [5, 6]) (.of (.ix (.v 2) (.c (.int 2)))) .none (.tup (.cons (.v 5) (.cons (.call "_law_stretched" 1 (.cons (.v 6) .nil)) .nil)))).ev dn [some (msgV m), some (.lst F), some (.tup [.str (wFk b), .str n, .tup (cs.map caseV)]), o3, o4, o5, o6] = .ok (.lst ((cs.map fun km => (km.1, strL d km.2)).map caseV)) := by
              simp only [ev_lc, evi_of, ev_ix, ev_c, ev_v, fVar_s, fVar_0, R.ok_bind, i2, itemsP_tup, evot_none]
              rw [c1]
              rfl
            have ep : partV (strPart (strI (d + 1)) (.fork b n cs)) = .tup [.str (wFk b), .str n, .tup ((cs.map fun km => (km.1, strL d km.2)).map caseV)] := by
              show partV (.fork b n (cs.map fun km => (km.1, strL d km.2))) = _
              rw [partV_fork]
            rw [ep]
            generalize (cs.map fun km => (km.1, strL d km.2)).map caseV = CS at el ⊢
            have ad : addP (.tup [.str (wFk b), .str n]) (.tup [.tup CS]) = .ok (.tup [.str (wFk b), .str n, .tup CS]) := by
              rw [add_tup _ _ (by simp)]
              rfl
            refine ⟨[some (msgV m), some (.lst (F ++ [.tup [.str (wFk b), .str n, .tup CS]])), some (.tup [.str (wFk b), .str n, .tup CS]), o3, o4, o5, o6], ?_, _, _, _, _, _, rfl⟩
            rw [partV_fork]
            simp only [b__law_stretched, Ss.at, S.blk, bindT_nm, R.ok_bind, List.set]
            rw [step (ρ' := [some (msgV m), some (.lst F), some (.tup [.str (wFk b), .str n, .tup (cs.map caseV)]), o3, o4, o5, o6]) (by simp [i0, nt, -eqR_str])]
            have tl : (T.cmp .Gt (.pr .len (.cons (.v 2) .nil)) (.c (.int 2))).ev dn [some (msgV m), some (.lst F), some (.tup [.str (wFk b), .str n, .tup (cs.map caseV)]), o3, o4, o5, o6] = .ok true := by simp
            have sb : (E.bin .Add (.sl (.v 2) .none (.some (.c (.int 2)))) (.tup (.cons (.pr .tuple (.cons (.lc [5, 6] (.tp [5, 6]) (.of (.ix (.v 2) (.c (.int 2)))) .none (.tup (.cons (.v 5) (.cons (.call "_law_stretched" 1 (.cons (.v 6) .nil)) .nil)))) .nil)) .nil))).ev dn [some (msgV m), some (.lst F), some (.tup [.str (wFk b), .str n, .tup (cs.map caseV)]), o3, o4, o5, o6] = .ok (.tup [.str (wFk b), .str n, .tup CS]) := by
              simp only [ev_bin, ev_tup, evs_cons, evs_nil, ev_pr, el, R.ok_bind]
              simp [s2, ad]
            rw [evb_cons, evs_cond, tl]
            simp only [R.ok_bind, if_true]
            rw [step (ρ' := [some (msgV m), some (.lst F), some (.tup [.str (wFk b), .str n, .tup CS]), o3, o4, o5, o6]) (by
              rw [evs_set, sb]
              rfl)]
            simp [hb]) ⟨none, none, none, none, none, rfl⟩
  simp only [b__law_stretched, Ss.at, S.blk] at e
  simp only [runB, b__law_stretched, entry_1, List.replicate]
  rw [step (ρ' := [some (msgV m), some (.lst []), none, none, none, none, none]) (by simp [isObjP])]
  rw [step (by
    have im : itemsP (msgV m) = .ok (m.map partV) := rfl
    simp only [evs_loop, evi_of, ev_v, fVar_s, fVar_0, R.ok_bind, im]
    exact e)]
  rw [strL_eq]
  simp [msgV]
end
end M
/-! K08: the law of stretched messages. -/
namespace M
open PySem L2
theorem usesV_plain (d : Nat) (m : Msg) : sameOk (usesV d m) = true ∧ dep (usesV d m) ≤ 2 := by
  have h1 : ∀ p ∈ (usesS d m).map tupS, sameOk p = true := fun p hp => by
    obtain ⟨k, _, rfl⟩ := List.mem_map.mp hp
    exact sameOks_all fun q hq => by
      obtain ⟨l, _, rfl⟩ := List.mem_map.mp hq
      rfl
  have h2 : ∀ p ∈ (usesS d m).map tupS, dep p ≤ 1 := fun p hp => by
    obtain ⟨k, _, rfl⟩ := List.mem_map.mp hp
    have := deps_all (l := k.map PV.str) (n := 0) fun q hq => by
      obtain ⟨l, _, rfl⟩ := List.mem_map.mp hq
      exact Nat.le_refl _
    unfold tupS
    rw [dep]
    omega
  refine ⟨sameOks_all h1, ?_⟩
  have := deps_all h2
  unfold usesV
  rw [dep]
  omega
def ab8 : List Nat := [65, 98, 101, 114, 32, 121, 111, 117]
theorem ab8_ok : MsgOk 3 false [.text ab8] := ⟨by decide, rfl, fun p hp => .inl (by
  have : p = .text ab8 := by simpa using hp
  subst this
  exact (show TxOk ab8 by decide))⟩
section
variable {dn : Str → List PV → R PV} {wf : Nat} (hC : SpCell dn) (hG : SpMsgAt dn 3) (hT : SpStr "stretched" dn 3) (hL : SpStr "_law_stretched" dn 3) (hM : ∀ m, MsgP NeT 3 false m → dn "is_message" [msgV m] = .ok (.bl true)) (hU : SpUsesAt dn 3) (hS : SameAt dn 14)
include hC hG hT hL hM hU hS
theorem law08 (ns : List Int) : runB dn wf 4 b_law_k08 [.scr ns] = .ok (.bl true) := by
  have r10 := rng0 (n := 10) (by omega) (by omega)
  obtain ⟨ρ', e1, o1, o2, o3, rfl⟩ := forN_all (i := 1) (body := ((b_law_k08.at 0).blk).ev dn wf) (xs := (List.range 10).map fun i => .int (i : Nat)) (ρ := [some (.scr ns), none, none, none])
    (fun ρ => ∃ o1 o2 o3, ρ = [some (.scr ns), o1, o2, o3])
    (fun x hx ρ ⟨o1, o2, o3, e⟩ => by
      subst e
      obtain ⟨k, hk, rfl⟩ := List.mem_map.mp hx
      have hk := List.mem_range.mp hk
      obtain ⟨s, hs⟩ : ∃ s : Int, s = cellM ns ((k : Int) % 9) + 31 * k := ⟨_, rfl⟩
      obtain ⟨m, hm, eg⟩ := hG s false
      have et := hT false m hm
      have el := hL false m hm
      have ho := str_ok hm
      have em := hM _ ho
      have eu1 := hU false m hm
      have eu2 := hU false _ ho
      have eu : usesV 3 (strL 3 m) = usesV 3 m := by unfold usesV usesS; rw [uses_str]
      rw [eu] at eu2
      have es := hS (msgV (strL 3 m)) (msg_same _) (msg_dep ho)
      have n0 := neR_self (same_dat _ (usesV_plain 3 m).1) (Nat.le_trans (usesV_plain 3 m).2 (by omega))
      refine ⟨[some (.scr ns), some (.int k), some (msgV m), some (msgV (strL 3 m))], ?_, _, _, _, rfl⟩
      simp only [b_law_k08, Ss.at, S.blk, List.set]
      rw [step (ρ' := [some (.scr ns), some (.int k), some (msgV m), o3]) (by
        simp at eg
        simp [mod_pos, mul_l, hC ns ((k : Int) % 9) (by omega), ← hs, eg])]
      rw [step (ρ' := [some (.scr ns), some (.int k), some (msgV m), some (msgV (strL 3 m))]) (by simp [et])]
      rw [step (ρ' := [some (.scr ns), some (.int k), some (msgV m), some (msgV (strL 3 m))]) (by simp [el, es])]
      simp [em, eu1, eu2, n0]) ⟨_, _, _, rfl⟩
  have ab := hT false [.text ab8] ab8_ok
  have ea : msgV [.text ab8] = .tup [.tup [.str [116, 101, 120, 116], .str [65, 98, 101, 114, 32, 121, 111, 117]]] := by simp [msgV, wTx, ab8]
  have eb : msgV (strL 3 [.text ab8]) = .tup [.tup [.str [116, 101, 120, 116], .str [91, 65, 98, 101, 101, 114, 32, 121, 111, 111, 117, 117, 93]]] := by
    have : strT ab8 = [91, 65, 98, 101, 101, 114, 32, 121, 111, 111, 117, 117, 93] := by decide
    rw [strL_eq]
    simp [msgV, wTx, strPart, this]
  rw [ea, eb] at ab
  have q1 : eqR (.tup [.tup [.str [116, 101, 120, 116], .str [91, 65, 98, 101, 101, 114, 32, 121, 111, 111, 117, 117, 93]]]) (.tup [.tup [.str [116, 101, 120, 116], .str [91, 65, 98, 101, 101, 114, 32, 121, 111, 111, 117, 117, 93]]]) = .ok (.bl true) := eqR_self rfl (by simp [dep, deps])
  simp only [b_law_k08, Ss.at, S.blk] at e1
  simp only [runB, b_law_k08, entry_1, List.replicate]
  rw [step (by simp [r10]; exact e1)]
  simp [ab, q1]
end
end M
/-! the text of law_k08_stretched, read -/
namespace M.LAW
open PySem PySem.Spec PyProof.Rows L2 M
def top (i : Nat) : Stmt := PySem.Challenge.pw_manytongues_k08_stretched.main.body.getD i (.Pass ⟨0, 0, 0, 0⟩)
def gfs0 : List (Str × Nat × Bool) := [("is_name", 1, false), ("is_number", 2, false), ("rises", 1, false), ("are_counted", 1, false), ("are_kinds", 1, false), ("are_cases", 4, false), ("is_part", 3, false), ("is_message_in", 3, false), ("is_message", 1, false), ("with_inner", 2, false), ("inner_of", 1, false), ("all_uses", 1, false), ("uses", 1, false), ("stretched_text", 1, false), ("stretched", 1, false), ("_law_cell", 2, false), ("_law_mix", 3, false), ("_law_same", 2, false), ("_law_text", 1, false), ("_law_name", 1, false), ("_law_cases", 4, false), ("_law_message", 3, false), ("_law_stretched", 1, false), ("law", 1, false)]
def Γ : Gam := ⟨[("CATEGORIES", (.tup [(.str [122, 101, 114, 111]), (.str [111, 110, 101]), (.str [116, 119, 111]), (.str [102, 101, 119]), (.str [109, 97, 110, 121]), (.str [111, 116, 104, 101, 114])])), ("LETTERS", (.str [97, 98, 99, 100, 101, 102, 103, 104, 105, 106, 107, 108, 109, 110, 111, 112, 113, 114, 115, 116, 117, 118, 119, 120, 121, 122])), ("DEEPEST", (.int 3))], gfs0, ["len", "range", "isinstance", "all", "any", "int", "str", "bool", "tuple", "set", "sorted", "enumerate", "zip"], [], [], []⟩
def d_is_name : Dd := ⟨"is_name", top 4, ["thing", "sign"], 1, false, [], [], M.b_is_name⟩
theorem k_is_name : DOk Γ d_is_name := ⟨by kernel_rfl, by kernel_rfl, by kernel_rfl, fun _ _ _ _ _ _ us hl => match us, hl with | [_], _ => rfl, by kernel_rfl⟩
def d_is_number : Dd := ⟨"is_number", top 5, ["thing", "most"], 2, false, [], [], M.b_is_number⟩
theorem k_is_number : DOk Γ d_is_number := ⟨by kernel_rfl, by kernel_rfl, by kernel_rfl, fun _ _ _ _ _ _ us hl => match us, hl with | [_, _], _ => rfl, by kernel_rfl⟩
def d_rises : Dd := ⟨"rises", top 6, ["some", "k"], 1, false, [], [], M.b_rises⟩
theorem k_rises : DOk Γ d_rises := ⟨by kernel_rfl, by kernel_rfl, by kernel_rfl, fun _ _ _ _ _ _ us hl => match us, hl with | [_], _ => rfl, by kernel_rfl⟩
def d_are_counted : Dd := ⟨"are_counted", top 7, ["keys", "numbers", "words", "key", "word"], 1, false, [], [], M.b_are_counted⟩
theorem k_are_counted : DOk Γ d_are_counted := ⟨by kernel_rfl, by kernel_rfl, by kernel_rfl, fun _ _ _ _ _ _ us hl => match us, hl with | [_], _ => rfl, by kernel_rfl⟩
def d_are_kinds : Dd := ⟨"are_kinds", top 8, ["keys", "key"], 1, false, [], [], M.b_are_kinds⟩
theorem k_are_kinds : DOk Γ d_are_kinds := ⟨by kernel_rfl, by kernel_rfl, by kernel_rfl, fun _ _ _ _ _ _ us hl => match us, hl with | [_], _ => rfl, by kernel_rfl⟩
def d_are_cases : Dd := ⟨"are_cases", top 9, ["word", "thing", "deep", "is_counted", "keys", "one"], 4, false, [], [], M.b_are_cases⟩
theorem k_are_cases : DOk Γ d_are_cases := ⟨by kernel_rfl, by kernel_rfl, by kernel_rfl, fun _ _ _ _ _ _ us hl => match us, hl with | [_, _, _, _], _ => rfl, by kernel_rfl⟩
def d_is_part : Dd := ⟨"is_part", top 10, ["thing", "deep", "is_counted", "word"], 3, false, [], [], M.b_is_part⟩
theorem k_is_part : DOk Γ d_is_part := ⟨by kernel_rfl, by kernel_rfl, by kernel_rfl, fun _ _ _ _ _ _ us hl => match us, hl with | [_, _, _], _ => rfl, by kernel_rfl⟩
def d_is_message_in : Dd := ⟨"is_message_in", top 11, ["thing", "deep", "is_counted", "k", "part"], 3, false, [], [], M.b_is_message_in⟩
theorem k_is_message_in : DOk Γ d_is_message_in := ⟨by kernel_rfl, by kernel_rfl, by kernel_rfl, fun _ _ _ _ _ _ us hl => match us, hl with | [_, _, _], _ => rfl, by kernel_rfl⟩
def d_is_message : Dd := ⟨"is_message", top 12, ["thing"], 1, false, [], [], M.b_is_message⟩
theorem k_is_message : DOk Γ d_is_message := ⟨by kernel_rfl, by kernel_rfl, by kernel_rfl, fun _ _ _ _ _ _ us hl => match us, hl with | [_], _ => rfl, by kernel_rfl⟩
def d_with_inner : Dd := ⟨"with_inner", top 13, ["part", "change", "key", "inner"], 2, false, [], [], M.b_with_inner_k08⟩
theorem k_with_inner : DOk Γ d_with_inner := ⟨by kernel_rfl, by kernel_rfl, by kernel_rfl, fun _ _ _ _ _ _ us hl => match us, hl with | [_, _], _ => rfl, by kernel_rfl⟩
def d_inner_of : Dd := ⟨"inner_of", top 14, ["part", "key", "inner"], 1, false, [], [], M.b_inner_of⟩
theorem k_inner_of : DOk Γ d_inner_of := ⟨by kernel_rfl, by kernel_rfl, by kernel_rfl, fun _ _ _ _ _ _ us hl => match us, hl with | [_], _ => rfl, by kernel_rfl⟩
def d_all_uses : Dd := ⟨"all_uses", top 15, ["message", "found", "part", "inner"], 1, false, [1], [], M.b_all_uses⟩
theorem k_all_uses : DOk Γ d_all_uses := ⟨by kernel_rfl, by kernel_rfl, by kernel_rfl, fun _ _ _ _ _ _ us hl => match us, hl with | [_], _ => rfl, by kernel_rfl⟩
def d_uses : Dd := ⟨"uses", top 16, ["message"], 1, false, [], [], M.b_uses⟩
theorem k_uses : DOk Γ d_uses := ⟨by kernel_rfl, by kernel_rfl, by kernel_rfl, fun _ _ _ _ _ _ us hl => match us, hl with | [_], _ => rfl, by kernel_rfl⟩
def d_stretched_text : Dd := ⟨"stretched_text", top 17, ["text", "sign"], 1, false, [], [], M.b_stretched_text⟩
theorem k_stretched_text : DOk Γ d_stretched_text := ⟨by kernel_rfl, by kernel_rfl, by kernel_rfl, fun _ _ _ _ _ _ us hl => match us, hl with | [_], _ => rfl, by kernel_rfl⟩
def d_stretched : Dd := ⟨"stretched", top 18, ["message", "found", "part"], 1, false, [1], [], M.b_stretched⟩
theorem k_stretched : DOk Γ d_stretched := ⟨by kernel_rfl, by kernel_rfl, by kernel_rfl, fun _ _ _ _ _ _ us hl => match us, hl with | [_], _ => rfl, by kernel_rfl⟩
def d__law_cell : Dd := ⟨"_law_cell", top 20, ["_law_script", "_law_k"], 2, false, [], [], M.b__law_cell⟩
theorem k__law_cell : DOk Γ d__law_cell := ⟨by kernel_rfl, by kernel_rfl, by kernel_rfl, fun _ _ _ _ _ _ us hl => match us, hl with | [_, _], _ => rfl, by kernel_rfl⟩
def d__law_mix : Dd := ⟨"_law_mix", top 21, ["_law_cell_here", "_law_prime", "_law_many", "_law_blend"], 3, false, [], [], M.b__law_mix⟩
theorem k__law_mix : DOk Γ d__law_mix := ⟨by kernel_rfl, by kernel_rfl, by kernel_rfl, fun _ _ _ _ _ _ us hl => match us, hl with | [_, _, _], _ => rfl, by kernel_rfl⟩
def d__law_same : Dd := ⟨"_law_same", top 22, ["_law_found", "_law_due", "_law_one", "_law_other"], 2, false, [], [], M.b__law_same⟩
theorem k__law_same : DOk Γ d__law_same := ⟨by kernel_rfl, by kernel_rfl, by kernel_rfl, fun _ _ _ _ _ _ us hl => match us, hl with | [_, _], _ => rfl, by kernel_rfl⟩
def d__law_text : Dd := ⟨"_law_text", top 23, ["_law_cell_here", "_law_signs", "_law_many", "_law_k"], 1, false, [], [], M.b__law_text⟩
theorem k__law_text : DOk Γ d__law_text := ⟨by kernel_rfl, by kernel_rfl, by kernel_rfl, fun _ _ _ _ _ _ us hl => match us, hl with | [_], _ => rfl, by kernel_rfl⟩
def d__law_name : Dd := ⟨"_law_name", top 24, ["_law_cell_here"], 1, false, [], [], M.b__law_name⟩
theorem k__law_name : DOk Γ d__law_name := ⟨by kernel_rfl, by kernel_rfl, by kernel_rfl, fun _ _ _ _ _ _ us hl => match us, hl with | [_], _ => rfl, by kernel_rfl⟩
def d__law_cases : Dd := ⟨"_law_cases", top 25, ["_law_cell_here", "_law_word", "_law_deep", "_law_counted", "_law_keys", "_law_inner", "_law_words", "_law_k", "_law_key", "_law_one"], 4, false, [], [], M.b__law_cases⟩
theorem k__law_cases : DOk Γ d__law_cases := ⟨by kernel_rfl, by kernel_rfl, by kernel_rfl, fun _ _ _ _ _ _ us hl => match us, hl with | [_, _, _, _], _ => rfl, by kernel_rfl⟩
def d__law_message : Dd := ⟨"_law_message", top 26, ["_law_cell_here", "_law_deep", "_law_counted", "_law_found", "_law_k", "_law_seed", "_law_way", "_law_word"], 3, false, [3], [], M.b__law_message⟩
theorem k__law_message : DOk Γ d__law_message := ⟨by kernel_rfl, by kernel_rfl, by kernel_rfl, fun _ _ _ _ _ _ us hl => match us, hl with | [_, _, _], _ => rfl, by kernel_rfl⟩
def d__law_stretched : Dd := ⟨"_law_stretched", top 27, ["_law_message_here", "_law_found", "_law_part", "_law_longer", "_law_sign", "_law_key", "_law_inner"], 1, false, [1], [], M.b__law_stretched⟩
theorem k__law_stretched : DOk Γ d__law_stretched := ⟨by kernel_rfl, by kernel_rfl, by kernel_rfl, fun _ _ _ _ _ _ us hl => match us, hl with | [_], _ => rfl, by kernel_rfl⟩
def d_law : Dd := ⟨"law", top 28, ["_law_script", "_law_k", "_law_message_here", "_law_told"], 1, false, [], [], M.b_law_k08⟩
theorem k_law : DOk Γ d_law := ⟨by kernel_rfl, by kernel_rfl, by kernel_rfl, fun _ _ _ _ _ _ us hl => match us, hl with | [_], _ => rfl, by kernel_rfl⟩
def ds0 : List Dd := [d_is_name, d_is_number, d_rises, d_are_counted, d_are_kinds, d_are_cases, d_is_part, d_is_message_in, d_is_message, d_with_inner, d_inner_of, d_all_uses, d_uses, d_stretched_text, d_stretched, d__law_cell, d__law_mix, d__law_same, d__law_text, d__law_name]
def ds1 : List Dd := [d__law_cases, d__law_message, d__law_stretched, d_law]
def ds : List Dd := ds0 ++ (ds1)
theorem fs_eq : Γ.fs = fsOf ds := by kernel_rfl
def ys : List Yd := []
theorem ys_eq : Γ.ys = ys.map (·.x) := by kernel_rfl
theorem ys_ok : ∀ y ∈ ys, YdOk y := by
  intro y h
  cases h
theorem all_k0 : ∀ d ∈ ds0, DOk Γ d := by
  intro d h
  simp only [ds0, List.mem_cons, List.mem_nil_iff, List.not_mem_nil, or_false] at h
  rcases h with rfl | rfl | rfl | rfl | rfl | rfl | rfl | rfl | rfl | rfl | rfl | rfl | rfl | rfl | rfl | rfl | rfl | rfl | rfl | rfl
  · exact k_is_name
  · exact k_is_number
  · exact k_rises
  · exact k_are_counted
  · exact k_are_kinds
  · exact k_are_cases
  · exact k_is_part
  · exact k_is_message_in
  · exact k_is_message
  · exact k_with_inner
  · exact k_inner_of
  · exact k_all_uses
  · exact k_uses
  · exact k_stretched_text
  · exact k_stretched
  · exact k__law_cell
  · exact k__law_mix
  · exact k__law_same
  · exact k__law_text
  · exact k__law_name
theorem all_k1 : ∀ d ∈ ds1, DOk Γ d := by
  intro d h
  simp only [ds1, List.mem_cons, List.mem_nil_iff, List.not_mem_nil, or_false] at h
  rcases h with rfl | rfl | rfl | rfl
  · exact k__law_cases
  · exact k__law_message
  · exact k__law_stretched
  · exact k_law
theorem all_k : ∀ d ∈ ds, DOk Γ d := fun d h => (List.mem_append.mp h).elim (all_k0 d) fun h => all_k1 d h
theorem mem_law : d_law ∈ ds := by
  simp [ds, ds1]
def nm0 : List Str := ["CATEGORIES", "LETTERS", "DEEPEST", "is_name", "is_number", "rises", "are_counted", "are_kinds", "are_cases", "is_part", "is_message_in", "is_message", "with_inner", "inner_of", "all_uses", "uses", "stretched_text", "stretched", "_law_cell", "_law_mix", "_law_same", "_law_text", "_law_name", "_law_cases", "_law_message", "_law_stretched"]
def nms : List Str := nm0
abbrev R0 : PySem.W.OpenRow := PySem.W.OpenLaw.row PySem.Challenge.rw_manytongues_k08_stretched
abbrev hk : PySem.W.Hook := hookM 4 Γ ds ys
def ob (s : PySem.W.SharedT) : He.AlD := obsMG 4 Γ ds ys (HandSHeadRun.getT s)
theorem ob_eq (s : PySem.W.SharedT) : ob s = hk.obs s.abs := obsMG_eq (HandSHeadRun.getT_eq s)
theorem run (w : World) : HandSHeadRun.RunEq R0 (PySem.W.view R0.prog [28]) hk ob 2000 nms w := by
  intro os
  kernel_rfl
def wf : Nat := 100000
def fuel : Nat := 50
theorem u_is_name (n : Nat) (ps : List PV) : den ds wf (n + 1) "is_name" ps = runB (den ds wf n) wf 2 M.b_is_name ps := by kernel_rfl
theorem u_is_number (n : Nat) (ps : List PV) : den ds wf (n + 1) "is_number" ps = runB (den ds wf n) wf 2 M.b_is_number ps := by kernel_rfl
theorem u_rises (n : Nat) (ps : List PV) : den ds wf (n + 1) "rises" ps = runB (den ds wf n) wf 2 M.b_rises ps := by kernel_rfl
theorem u_are_counted (n : Nat) (ps : List PV) : den ds wf (n + 1) "are_counted" ps = runB (den ds wf n) wf 5 M.b_are_counted ps := by kernel_rfl
theorem u_are_kinds (n : Nat) (ps : List PV) : den ds wf (n + 1) "are_kinds" ps = runB (den ds wf n) wf 2 M.b_are_kinds ps := by kernel_rfl
theorem u_are_cases (n : Nat) (ps : List PV) : den ds wf (n + 1) "are_cases" ps = runB (den ds wf n) wf 6 M.b_are_cases ps := by kernel_rfl
theorem u_is_part (n : Nat) (ps : List PV) : den ds wf (n + 1) "is_part" ps = runB (den ds wf n) wf 4 M.b_is_part ps := by kernel_rfl
theorem u_is_message_in (n : Nat) (ps : List PV) : den ds wf (n + 1) "is_message_in" ps = runB (den ds wf n) wf 5 M.b_is_message_in ps := by kernel_rfl
theorem u_is_message (n : Nat) (ps : List PV) : den ds wf (n + 1) "is_message" ps = runB (den ds wf n) wf 1 M.b_is_message ps := by kernel_rfl
theorem u_with_inner (n : Nat) (ps : List PV) : den ds wf (n + 1) "with_inner" ps = runB (den ds wf n) wf 4 M.b_with_inner_k08 ps := by kernel_rfl
theorem u_inner_of (n : Nat) (ps : List PV) : den ds wf (n + 1) "inner_of" ps = runB (den ds wf n) wf 3 M.b_inner_of ps := by kernel_rfl
theorem u_all_uses (n : Nat) (ps : List PV) : den ds wf (n + 1) "all_uses" ps = runB (den ds wf n) wf 4 M.b_all_uses ps := by kernel_rfl
theorem u_uses (n : Nat) (ps : List PV) : den ds wf (n + 1) "uses" ps = runB (den ds wf n) wf 1 M.b_uses ps := by kernel_rfl
theorem u_stretched_text (n : Nat) (ps : List PV) : den ds wf (n + 1) "stretched_text" ps = runB (den ds wf n) wf 2 M.b_stretched_text ps := by kernel_rfl
theorem u_stretched (n : Nat) (ps : List PV) : den ds wf (n + 1) "stretched" ps = runB (den ds wf n) wf 3 M.b_stretched ps := by kernel_rfl
theorem u__law_cell (n : Nat) (ps : List PV) : den ds wf (n + 1) "_law_cell" ps = runB (den ds wf n) wf 2 M.b__law_cell ps := by kernel_rfl
theorem u__law_mix (n : Nat) (ps : List PV) : den ds wf (n + 1) "_law_mix" ps = runB (den ds wf n) wf 4 M.b__law_mix ps := by kernel_rfl
theorem u__law_same (n : Nat) (ps : List PV) : den ds wf (n + 1) "_law_same" ps = runB (den ds wf n) wf 4 M.b__law_same ps := by kernel_rfl
theorem u__law_text (n : Nat) (ps : List PV) : den ds wf (n + 1) "_law_text" ps = runB (den ds wf n) wf 4 M.b__law_text ps := by kernel_rfl
theorem u__law_name (n : Nat) (ps : List PV) : den ds wf (n + 1) "_law_name" ps = runB (den ds wf n) wf 1 M.b__law_name ps := by kernel_rfl
theorem u__law_cases (n : Nat) (ps : List PV) : den ds wf (n + 1) "_law_cases" ps = runB (den ds wf n) wf 10 M.b__law_cases ps := by kernel_rfl
theorem u__law_message (n : Nat) (ps : List PV) : den ds wf (n + 1) "_law_message" ps = runB (den ds wf n) wf 8 M.b__law_message ps := by kernel_rfl
theorem u__law_stretched (n : Nat) (ps : List PV) : den ds wf (n + 1) "_law_stretched" ps = runB (den ds wf n) wf 7 M.b__law_stretched ps := by kernel_rfl
theorem u_law (n : Nat) (ps : List PV) : den ds wf (n + 1) "law" ps = runB (den ds wf n) wf 4 M.b_law_k08 ps := by kernel_rfl
end M.LAW
namespace M.LAW
open PySem M L2
theorem mix_ok (n : Nat) : SpMix (den ds wf (n + 1)) := fun c p m h1 h2 h3 => by rw [u__law_mix]; exact b_mix c p m h1 h2 h3
theorem cell_ok (n : Nat) : SpCell (den ds wf (n + 1)) := fun ns k h => by rw [u__law_cell]; exact b_cell ns k h
theorem text_ok (n : Nat) : SpText (den ds wf (n + 2)) := fun c => by simp only [u__law_text]; exact b_text (mix_ok n) c
theorem name_ok (n : Nat) : SpName (den ds wf (n + 2)) := fun c => by simp only [u__law_name]; exact b_name (mix_ok n) c
theorem msg_ok : ∀ (d n : Nat), SpMsgAt (den ds wf (n + 2 * d + 3)) d
  | 0, n => fun s c => by
    simp only [show n + 2 * 0 + 3 = (n + 2) + 1 by omega, u__law_message]
    exact b_message (mix_ok (n + 1)) (text_ok n) (name_ok n) 0 (fun e he => by omega) s c
  | d + 1, n => fun s c => by
    simp only [show n + 2 * (d + 1) + 3 = (n + 2 * d + 4) + 1 by omega, u__law_message]
    refine b_message (mix_ok (n + 2 * d + 3)) (text_ok (n + 2 * d + 2)) (name_ok (n + 2 * d + 2)) (d + 1) (fun e he => ?_) s c
    obtain rfl : e = d := by omega
    intro s b c
    simp only [show n + 2 * e + 4 = (n + 2 * e + 3) + 1 by omega, u__law_cases]
    exact b_cases (mix_ok (n + 2 * e + 2)) (msg_ok e n) s b c
theorem same_ok : ∀ n, SameAt (den ds wf (n + 1)) n
  | 0 => fun p h hd => by
    rw [u__law_same]
    exact b_same p h fun q _ h2 => absurd h2 (by omega)
  | n + 1 => fun p h hd => by
    rw [u__law_same]
    exact b_same p h fun q hq h2 => same_ok n q hq (by omega)
theorem same_le {n d : Nat} (h : d ≤ n) : SameAt (den ds wf (n + 1)) d := fun p hp hd => same_ok n p hp (Nat.le_trans hd h)
theorem inner_ok (n : Nat) : SpInner (den ds wf (n + 1)) := fun p => by rw [u_inner_of]; exact b_inner_of' p
theorem alluses_ok : ∀ (d n : Nat), d ≤ 3 → SpUsesLAt (den ds wf (n + d + 2)) d
  | 0, n, h => fun c m hm => by
    rw [show n + 0 + 2 = (n + 1) + 1 by omega, u_all_uses]
    exact all_uses_at (inner_ok n) h (fun e he => by omega) c m hm
  | d + 1, n, h => fun c m hm => by
    rw [show n + (d + 1) + 2 = (n + d + 2) + 1 by omega, u_all_uses]
    refine all_uses_at (inner_ok (n + d + 1)) h (fun e he => ?_) c m hm
    obtain rfl : e = d := by omega
    exact alluses_ok e n (by omega)
theorem uses_ok (d n : Nat) (h : d ≤ 3) : SpUsesAt (den ds wf (n + d + 3)) d := fun c m hm => by rw [u_uses]; exact b_uses' (alluses_ok d n h) c m hm
theorem isname_ok (n : Nat) : SpIsName (den ds wf (n + 1)) := fun t h => by rw [u_is_name]; exact b_is_name' t h
theorem isnum_ok (n : Nat) : SpIsNum (den ds wf (n + 1)) := ⟨fun i h0 h1 => by rw [u_is_number]; exact b_is_number1 i h0 h1, fun l => by rw [u_is_number]; exact b_is_number2 l⟩
theorem rises_ok (n : Nat) : SpRises (den ds wf (n + 1)) := fun xs h1 h2 => by rw [u_rises]; exact b_rises' xs h1 h2
theorem counted_ok (n : Nat) : SpCounted (den ds wf (n + 2)) := fun ns cs h1 h2 h3 hl => by rw [u_are_counted]; exact b_are_counted' (isnum_ok n) (rises_ok n) ns cs h1 h2 h3 hl
theorem kinds_ok (n : Nat) : SpKinds (den ds wf (n + 2)) := fun ls h1 h2 hl => by rw [u_are_kinds]; exact b_are_kinds' (isname_ok n) (rises_ok n) ls h1 h2 hl
theorem ismsg_ok (P : List Nat → Prop) (hne : ∀ t, P t → t ≠ []) : ∀ d n : Nat, SpIsMsg (den ds wf (n + 3 * d + 3)) P d
  | 0, n => fun c m hm => by
    rw [show n + 3 * 0 + 3 = (n + 2) + 1 by omega, u_is_message_in]
    refine b_is_message_in' (fun c p hp => ?_) c m hm
    rw [u_is_part]
    exact b_is_part' hne (isname_ok n) (fun e he => by omega) c p hp
  | d + 1, n => fun c m hm => by
    rw [show n + 3 * (d + 1) + 3 = (n + 3 * d + 5) + 1 by omega, u_is_message_in]
    refine b_is_message_in' (fun c p hp => ?_) c m hm
    rw [show n + 3 * d + 5 = (n + 3 * d + 4) + 1 by omega, u_is_part]
    refine b_is_part' hne (isname_ok (n + 3 * d + 3)) (fun e he => ?_) c p hp
    obtain rfl : e = d := by omega
    intro b c cs h1 h2 h3
    rw [show n + 3 * e + 4 = (n + 3 * e + 3) + 1 by omega, u_are_cases]
    exact b_are_cases' (counted_ok (n + 3 * e + 1)) (kinds_ok (n + 3 * e + 1)) (ismsg_ok P hne e n) b c cs h1 h2 h3
theorem ismessage_ok (n : Nat) : ∀ m, MsgP NeT 3 false m → den ds wf (n + 13) "is_message" [msgV m] = .ok (.bl true) := fun m h => by
  rw [u_is_message]
  have e := ismsg_ok NeT (fun _ h => h) 3 n false m h
  simp at e
  simp [runB, b_is_message, e]
theorem strT_ok (n : Nat) : SpStrT (den ds wf (n + 1)) := fun t h => by rw [u_stretched_text]; exact b_stretched_text' t h
theorem str_ok' : ∀ d n : Nat, SpStr "stretched" (den ds wf (n + 2 * d + 2)) d
  | 0, n => fun c m hm => by
    rw [show n + 2 * 0 + 2 = (n + 1) + 1 by omega, u_stretched]
    exact b_stretched' (strT_ok n) (fun e he => by omega) c m hm
  | d + 1, n => fun c m hm => by
    rw [show n + 2 * (d + 1) + 2 = (n + 2 * d + 3) + 1 by omega, u_stretched]
    refine b_stretched' (strT_ok (n + 2 * d + 2)) (fun e he => ?_) c m hm
    obtain rfl : e = d := by omega
    intro b c n' cs h hl
    rw [show n + 2 * e + 3 = (n + 2 * e + 2) + 1 by omega, u_with_inner]
    exact b_with_inner_str (str_ok' e n) b c n' cs h hl
theorem lstr_ok : ∀ d n : Nat, SpStr "_law_stretched" (den ds wf (n + d + 1)) d
  | 0, n => fun c m hm => by
    rw [show n + 0 + 1 = n + 1 by omega, u__law_stretched]
    exact b_lstretched (fun e he => by omega) c m hm
  | d + 1, n => fun c m hm => by
    rw [show n + (d + 1) + 1 = (n + d + 1) + 1 by omega, u__law_stretched]
    refine b_lstretched (fun e he => ?_) c m hm
    obtain rfl : e = d := by omega
    exact lstr_ok e n
theorem holds : ∀ ns : List Int, ns.length ≤ 63 → den ds wf fuel d_law.x [.scr ns] = .ok (.bl true) := fun ns _ => by
  show den ds wf (48 + 1 + 1) "law" _ = _
  rw [u_law]
  exact law08 (cell_ok 48) (msg_ok 3 40) (str_ok' 3 41) (lstr_ok 3 45) (ismessage_ok 36) (uses_ok 3 43 (by decide)) (same_le (by decide)) ns
end M.LAW
open PySem PySem.W PySem.Calls PyProof.Rows
theorem PySem.Challenge.cw_manytongues_k08_stretched_holds : PySem.Challenge.rw_manytongues_k08_stretched.Holds := by
  w_on; o_law
  refine HandSHeadRun.head_any (r := OpenLaw.row PySem.Challenge.rw_manytongues_k08_stretched) (q := view (OpenLaw.row PySem.Challenge.rw_manytongues_k08_stretched).prog [28]) (H := M.LAW.hk) (ob := M.LAW.ob) (M := 2000) (loose := M.LAW.nms) (d := HandSHeadRun.topDef (OpenLaw.row PySem.Challenge.rw_manytongues_k08_stretched).prog 28) (kwd := []) M.LAW.ob_eq
    (by kernel_rfl) (fun s => by kernel_rfl) M.LAW.run (by kernel_rfl) (by kernel_rfl) (by kernel_rfl) (by rfl) (by first | assumption | decide +kernel) (by decide +kernel) ⟨rfl, rfl, rfl, rfl, rfl, by decide +kernel⟩ ?hw ?hc
  case hw => w_witness2
  case hc =>
    refine L2.walk_ofE (l := PySem.Challenge.rw_manytongues_k08_stretched) (n := 63) (k := M.LAW.fuel + 2) (x := "_law_script") (CX := M.CXE (PySem.Challenge.rw_manytongues_k08_stretched).prog) rfl (by decide) (by kernel_rfl) ⟨rfl, by decide, by decide⟩ ?F M.cxe_no
    case F =>
      intro w mg fa h Y G hmg0
      obtain ⟨K, KX, c⟩ := Y
      have hmg : mg M.LAW.d_law.x = some (.ref fa) := by
        have e : (HandSHeadRun.topDef (OpenLaw.row PySem.Challenge.rw_manytongues_k08_stretched).prog 28).name = M.LAW.d_law.x := by kernel_rfl
        rw [← e]
        exact hmg0
      obtain ⟨fd, sp, hb, hs, hF⟩ := M.law_end (P := (PySem.Challenge.rw_manytongues_k08_stretched).prog) (w := w) (wf := M.LAW.wf) (n := M.LAW.fuel) KX G c M.LAW.fs_eq M.LAW.ys_eq M.LAW.ys_ok M.LAW.all_k (d := M.LAW.d_law) (x := "_law_script") M.LAW.mem_law (by kernel_rfl) (by kernel_rfl) (by kernel_rfl) (by kernel_rfl) M.LAW.holds hmg
      exact ⟨K, fd, sp, KX, hb, hs, hF⟩
