import PyProof.Rows.All
import Wide.All
import OpenK.AllK
import Wide.FinOn
import HandS.ForMost
import HandS.ForExc
import HandS.AnyAll
import HandS.TupAny
import HandS.TupMul
import HandS.TupLe
import HandS.Style
import HandS.Deep
import HandS.IsInst
import HandS.SortInts
import HandS.Conv
import HandS.ExcCtx
import HandS.HotCalls
import HandS.Defaults
import HandS.ExcIs
import HandS.GenOver
import PyProof.Rows.TupIter
import HandS.HeadWalk
import HandS.HeadHook4
import HandS.Head2
import HandS.Dict
import HandS.More
import HandS.Iter
import HandS.TupSets
import HandS.TupLen
import PySem.Challenge.RW_happenedfirst_k95_whole_paintings_and_ch
import HandS.Head0
import HandS.Head1
set_option Elab.async false
set_option linter.all false
set_option maxRecDepth 100000
set_option maxHeartbeats 4000000
/-! The data layer: a def as a plain function of data. -/
namespace DL
open PySem PySem.Spec PyProof.Rows L2

/-! ### data -/
/-- a value that a name holds: data, or the one list that defs hand on and change (the draws) -/
inductive DV where
  | d (x : PyData)
  | loc
  | scr (ns : List Int)
abbrev Sto := List PyData
/-- what a name holds: nothing known; a value that nobody changes; a list or dict of its own -/
inductive OX where
  | di (kvs : List (Int × PyData))
  | dt (kvs : List (List Int × PyData))
inductive Slot where
  | un
  | frz (v : DV)
  | own (x : PyData)
  | pin (w : V)
  | obj (l : Bool) (x : OX)
abbrev DEnv := List Slot
inductive Res (α : Type) where
  | ok (a : α) (st : Sto)
  | exc (c : Str) (st : Sto)
  | no
def Res.bind {α β : Type} (r : Res α) (k : α → Sto → Res β) : Res β :=
  match r with
  | .ok a st => k a st
  | .exc c st => .exc c st
  | .no => .no

/-! ### how data lies in the heap -/
abbrev FS := Addr → Prop
mutual
def Rep (K : PySem.W.Frag) (F : FS) (H : Hp) : PyData → V → Prop
  | .none, v => v = .non
  | .bool b, v => v = .bl b
  | .int i, v => v = .int i
  | .str x, v => v = .str x
  | .list ds, v => ∃ a xs, v = .ref a ∧ F a ∧ H a = some (.lst xs) ∧ Reps K F H ds xs
  | .tuple ds, v => ∃ a xs, v = .ref a ∧ H a = some (.tup xs) ∧ Reps K F H ds xs
  | .dict _, _ => False
def Reps (K : PySem.W.Frag) (F : FS) (H : Hp) : List PyData → List V → Prop
  | [], vs => vs = []
  | d :: ds, vs => ∃ v r, vs = v :: r ∧ Rep K F H d v ∧ Reps K F H ds r
end
/-- objects that never change -/
def Stable : HO → Prop
  | .tup _ => True
  | .frz _ _ => True
  | _ => False
def isTbl : HO → Prop
  | .tbl _ => True
  | _ => False
/-- what F names and what never changes is kept -/
def PK (F : FS) (H H' : Hp) : Prop := ∀ a o, H a = some o → (F a ∨ Stable o) → ¬ isTbl o → H' a = some o
theorem SqL.pk {K : PySem.W.Frag} {F : FS} {H H' : Hp} {a : Addr} {xs : List V} (k : PK F H H') (hf : F a) (h : SqL K H a xs) : SqL K H' a xs := by
  rcases h with (h | ⟨o, h⟩) | h
  · exact .inl (.inl (k a _ h (.inl hf) id))
  · exact .inl (.inr ⟨o, k a _ h (.inl hf) id⟩)
  · exact .inr h
theorem SqT.pk {K : PySem.W.Frag} {F : FS} {H H' : Hp} {a : Addr} {xs : List V} (k : PK F H H') (h : SqT K H a xs) : SqT K H' a xs := by
  rcases h with (h | ⟨o, h⟩) | h
  · exact .inl (.inl (k a _ h (.inr trivial) id))
  · exact .inl (.inr ⟨o, k a _ h (.inr trivial) id⟩)
  · exact .inr h
mutual
theorem Rep.pk {K : PySem.W.Frag} {F F' : FS} {H H' : Hp} (k : PK F H H') (hf : ∀ a, F a → F' a) : ∀ (d : PyData) (v : V), Rep K F H d v → Rep K F' H' d v
  | .none, v, h => by simpa [Rep] using h
  | .bool b, v, h => by simpa [Rep] using h
  | .int i, v, h => by simpa [Rep] using h
  | .str x, v, h => by simpa [Rep] using h
  | .list ds, v, h => by
    simp only [Rep] at h ⊢
    obtain ⟨a, xs, e, f, s, r⟩ := h
    exact ⟨a, xs, e, hf a f, k a _ s (.inl f) id, Reps.pk k hf ds xs r⟩
  | .tuple ds, v, h => by
    simp only [Rep] at h ⊢
    obtain ⟨a, xs, e, s, r⟩ := h
    exact ⟨a, xs, e, k a _ s (.inr trivial) id, Reps.pk k hf ds xs r⟩
  | .dict _, v, h => by simp [Rep] at h
theorem Reps.pk {K : PySem.W.Frag} {F F' : FS} {H H' : Hp} (k : PK F H H') (hf : ∀ a, F a → F' a) : ∀ (ds : List PyData) (vs : List V), Reps K F H ds vs → Reps K F' H' ds vs
  | [], vs, h => by simpa [Reps] using h
  | d :: ds, vs, h => by
    simp only [Reps] at h ⊢
    obtain ⟨v, r, e, h1, h2⟩ := h
    exact ⟨v, r, e, Rep.pk k hf d v h1, Reps.pk k hf ds r h2⟩
end
mutual
theorem Rep.dp {K : PySem.W.Frag} {F : FS} {H : Hp} : ∀ (d : PyData) (v : V), Rep K F H d v → Dp K H v d
  | .none, v, h => by simp only [Rep] at h; subst h; exact .non
  | .bool b, v, h => by simp only [Rep] at h; subst h; exact .bl b
  | .int i, v, h => by simp only [Rep] at h; subst h; exact .int i
  | .str x, v, h => by simp only [Rep] at h; subst h; exact .str x
  | .list ds, v, h => by
    simp only [Rep] at h
    obtain ⟨a, xs, rfl, f, s, r⟩ := h
    exact .lst (SqL.of s) (Reps.dp ds xs r)
  | .tuple ds, v, h => by
    simp only [Rep] at h
    obtain ⟨a, xs, rfl, s, r⟩ := h
    exact .tup (SqT.of s) (Reps.dp ds xs r)
  | .dict _, v, h => by simp [Rep] at h
theorem Reps.dp {K : PySem.W.Frag} {F : FS} {H : Hp} : ∀ (ds : List PyData) (vs : List V), Reps K F H ds vs → DpAll K H vs ds
  | [], vs, h => by simp only [Reps] at h; subst h; exact .nil
  | d :: ds, vs, h => by
    simp only [Reps] at h
    obtain ⟨v, r, rfl, h1, h2⟩ := h
    exact .cons (Rep.dp d v h1) (Reps.dp ds r h2)
end
section
variable {K : PySem.W.Frag} {F : FS} {H : Hp}
theorem Reps.length : ∀ {ds : List PyData} {vs : List V}, Reps K F H ds vs → vs.length = ds.length
  | [], vs, h => by simp only [Reps] at h; subst h; rfl
  | d :: ds, vs, h => by
    simp only [Reps] at h
    obtain ⟨v, r, rfl, _, h2⟩ := h
    simp [Reps.length h2]
theorem Reps.get : ∀ {ds : List PyData} {vs : List V} {i : Nat} {d : PyData}, Reps K F H ds vs → ds[i]? = some d → ∃ v, vs[i]? = some v ∧ Rep K F H d v
  | [], vs, i, d, h, e => by simp at e
  | d0 :: ds, vs, 0, d, h, e => by
    simp only [Reps] at h
    obtain ⟨v, r, rfl, h1, _⟩ := h
    simp at e
    subst e
    exact ⟨v, rfl, h1⟩
  | d0 :: ds, vs, i + 1, d, h, e => by
    simp only [Reps] at h
    obtain ⟨v, r, rfl, _, h2⟩ := h
    obtain ⟨w, e1, e2⟩ := Reps.get (i := i) h2 (by simpa using e)
    exact ⟨w, by simpa using e1, e2⟩
theorem Reps.get' : ∀ {ds : List PyData} {vs : List V} {i : Nat} {v : V}, Reps K F H ds vs → vs[i]? = some v → ∃ d, ds[i]? = some d ∧ Rep K F H d v := fun {ds vs i v} h e => by
  have hl := h.length
  obtain ⟨hi, e'⟩ := List.getElem?_eq_some_iff.mp e
  have hd : ds[i]? = some ds[i] := List.getElem?_eq_getElem (by omega)
  obtain ⟨w, e1, e2⟩ := h.get hd
  rw [e] at e1
  cases e1
  exact ⟨_, hd, e2⟩
theorem Reps.append : ∀ {ds es : List PyData} {vs ws : List V}, Reps K F H ds vs → Reps K F H es ws → Reps K F H (ds ++ es) (vs ++ ws)
  | [], es, vs, ws, h, g => by simp only [Reps] at h; subst h; exact g
  | d :: ds, es, vs, ws, h, g => by
    simp only [Reps] at h
    obtain ⟨v, r, rfl, h1, h2⟩ := h
    show Reps K F H (d :: (ds ++ es)) (v :: (r ++ ws))
    simp only [Reps]
    exact ⟨v, r ++ ws, rfl, h1, Reps.append h2 g⟩
theorem Reps.take : ∀ {ds : List PyData} {vs : List V} (n : Nat), Reps K F H ds vs → Reps K F H (ds.take n) (vs.take n)
  | ds, vs, 0, h => by simp [Reps]
  | [], vs, n + 1, h => by simp only [Reps] at h; subst h; simp [Reps]
  | d :: ds, vs, n + 1, h => by
    simp only [Reps] at h
    obtain ⟨v, r, rfl, h1, h2⟩ := h
    simp only [List.take_succ_cons, Reps]
    exact ⟨v, _, rfl, h1, Reps.take n h2⟩
theorem Reps.drop : ∀ {ds : List PyData} {vs : List V} (n : Nat), Reps K F H ds vs → Reps K F H (ds.drop n) (vs.drop n)
  | ds, vs, 0, h => by simpa using h
  | [], vs, n + 1, h => by simp only [Reps] at h; subst h; simp [Reps]
  | d :: ds, vs, n + 1, h => by
    simp only [Reps] at h
    obtain ⟨v, r, rfl, h1, h2⟩ := h
    simpa using Reps.drop n h2
theorem Reps.set : ∀ {ds : List PyData} {vs : List V} (n : Nat) {d : PyData} {v : V}, Reps K F H ds vs → Rep K F H d v → Reps K F H (ds.set n d) (vs.set n v)
  | [], vs, n, d, v, h, g => by simp only [Reps] at h; subst h; simp [Reps]
  | d0 :: ds, vs, 0, d, v, h, g => by
    simp only [Reps] at h
    obtain ⟨v0, r, rfl, h1, h2⟩ := h
    simp only [List.set_cons_zero, Reps]
    exact ⟨v, r, rfl, g, h2⟩
  | d0 :: ds, vs, n + 1, d, v, h, g => by
    simp only [Reps] at h
    obtain ⟨v0, r, rfl, h1, h2⟩ := h
    simp only [List.set_cons_succ, Reps]
    exact ⟨v0, _, rfl, h1, Reps.set n h2 g⟩
theorem Reps.ints {ds : List PyData} {vs : List V} (h : Reps K F H ds vs) (q : ∀ d ∈ ds, ∃ i, d = PyData.int i) : ∃ ns : List Int, ds = ns.map PyData.int ∧ vs = ns.map V.int := by
  induction ds generalizing vs with
  | nil => simp only [Reps] at h; subst h; exact ⟨[], rfl, rfl⟩
  | cons d ds ih =>
    simp only [Reps] at h
    obtain ⟨v, r, rfl, h1, h2⟩ := h
    obtain ⟨i, rfl⟩ := q d List.mem_cons_self
    simp only [Rep] at h1
    subst h1
    obtain ⟨ns, e1, e2⟩ := ih h2 (fun d hd => q d (List.mem_cons_of_mem _ hd))
    exact ⟨i :: ns, by rw [e1]; rfl, by rw [e2]; rfl⟩
end
end DL

set_option Elab.async false
set_option linter.all false
set_option maxRecDepth 100000
set_option maxHeartbeats 4000000
namespace DL
open PySem PySem.Spec PyProof.Rows L2

/-! ### the state: names, draws, frozen lists, tables -/
/-- what is fixed through a def's body: the heap and the frozen lists at its entry, the draws' address -/
structure Bs where
  H0 : Hp
  F0 : FS
  dr : Option Addr
def RepD (K : PySem.W.Frag) (B : Bs) (F : FS) (H : Hp) : DV → V → Prop
  | .d x, v => Rep K F H x v
  | .loc, v => ∃ a, B.dr = some a ∧ v = .ref a
  | .scr ns, v => ∃ a, v = .ref a ∧ ((F a ∧ Rd H a (.lst (ns.map V.int))) ∨ ∀ H', SqL K H' a (ns.map V.int))
/-- a list that may be one's own, with frozen items -/
def LstAt (K : PySem.W.Frag) (B : Bs) (F : FS) (H : Hp) (x : PyData) (a : Addr) : Prop :=
  B.dr ≠ some a ∧ match x with
  | .list ds => ∃ xs, H a = some (.lst xs) ∧ Reps K F H ds xs
  | _ => False
/-- keys and data beside keys and values -/
def Al {κ0 κ : Type} (kc : κ0 → κ) (K : PySem.W.Frag) (F : FS) (H : Hp) : List (κ0 × PyData) → List (κ × V) → Prop
  | [], ks => ks = []
  | p :: r, ks => ∃ v t, ks = (kc p.1, v) :: t ∧ Rep K F H p.2 v ∧ Al kc K F H r t
theorem Al.pk {κ0 κ : Type} {kc : κ0 → κ} {K : PySem.W.Frag} {F F' : FS} {H H' : Hp} (k : PK F H H') (hf : ∀ a, F a → F' a) : ∀ {kvs : List (κ0 × PyData)} {ks : List (κ × V)}, Al kc K F H kvs ks → Al kc K F' H' kvs ks
  | [], ks, h => h
  | p :: r, ks, h => by
    obtain ⟨v, t, rfl, h1, h2⟩ := h
    exact ⟨v, t, rfl, Rep.pk k hf _ _ h1, Al.pk k hf h2⟩
theorem Al.length {κ0 κ : Type} {kc : κ0 → κ} {K : PySem.W.Frag} {F : FS} {H : Hp} : ∀ {kvs : List (κ0 × PyData)} {ks : List (κ × V)}, Al kc K F H kvs ks → ks.length = kvs.length
  | [], ks, h => by have h : ks = [] := h; subst h; rfl
  | p :: r, ks, h => by
    obtain ⟨v, t, rfl, h1, h2⟩ := h
    simp [Al.length h2]
def kI (i : Int) : L2.Key := .inl i
def kT (ks : List Int) : List L2.Key := ks.map Sum.inl
def HOAt (l : Bool) (H : Hp) (a : Addr) (o : HO) : Prop := match l with
  | false => H a = some o
  | true => ∃ od, H a = some (.frz od o)
theorem HOAt.keep {l : Bool} {H H' : Hp} {a : Addr} {o : HO} (h : HOAt l H a o) (k : ∀ o, H a = some o → ¬ isTbl o → H' a = some o) (n : ¬ isTbl o) : HOAt l H' a o := by
  cases l with
  | false => exact k o h n
  | true =>
    obtain ⟨od, h⟩ := h
    exact ⟨od, k _ h (by simp [isTbl])⟩
/-- a dict of one's own; l: locked -/
def ObjAt (K : PySem.W.Frag) (F : FS) (H : Hp) (l : Bool) (x : OX) (a : Addr) : Prop := match x with
  | .di kvs => ∃ ks, HOAt l H a (.dK ks) ∧ Al kI K F H kvs ks
  | .dt kvs => ∃ ks, HOAt l H a (.dT ks) ∧ Al kT K F H kvs ks
theorem ObjAt.keep {K : PySem.W.Frag} {F F' : FS} {H H' : Hp} {l : Bool} {x : OX} {a : Addr} (h : ObjAt K F H l x a) (k : ∀ o, H a = some o → ¬ isTbl o → H' a = some o) (pk : PK F H H') (hf : ∀ a, F a → F' a) : ObjAt K F' H' l x a := by
  cases x with
  | di kvs =>
    obtain ⟨ks, h1, h2⟩ := h
    exact ⟨ks, h1.keep k (by simp [isTbl]), h2.pk pk hf⟩
  | dt kvs =>
    obtain ⟨ks, h1, h2⟩ := h
    exact ⟨ks, h1.keep k (by simp [isTbl]), h2.pk pk hf⟩
/-- a value as one reads it now: frozen, or a list of one's own -/
def View (K : PySem.W.Frag) (B : Bs) (F : FS) (H : Hp) (v : DV) (w : V) : Prop :=
  RepD K B F H v w ∨ ∃ a x, v = .d x ∧ w = .ref a ∧ LstAt K B F H x a
def RepM (m : Bool) (K : PySem.W.Frag) (B : Bs) (F : FS) (H : Hp) (v : DV) (w : V) : Prop :=
  match m with
  | true => RepD K B F H v w
  | false => View K B F H v w
structure Wd (K : PySem.W.Frag) (T : FS) (B : Bs) (F : FS) (H : Hp) (st : Sto) : Prop where
  live : ∀ a, F a → H a ≠ none
  fdr : ∀ a, F a → B.dr ≠ some a
  sto : ∀ a, B.dr = some a → ∃ xs, H a = some (.lst xs) ∧ Reps K F H st xs
  tabs : ∀ P, T P → GxR.TabG H P
structure Ext (B : Bs) (F F' : FS) (H H' : Hp) : Prop where
  keep : ∀ a o, H a = some o → ¬ isTbl o → B.dr ≠ some a → H' a = some o
  sub : ∀ a, F a → F' a
  new : ∀ a, F' a → F a ∨ H a = none
  draws : ∀ a, B.dr = some a → H a ≠ none → H' a ≠ none
  tbl : ∀ a ps, H a = some (.tbl ps) → B.dr ≠ some a → ∃ qs, H' a = some (.tbl qs)
def SlotAt (K : PySem.W.Frag) (B : Bs) (F : FS) (H : Hp) (s : Slot) (o : Option V) (fp : List Addr) : Prop :=
  match s with
  | .un => fp = []
  | .frz v => fp = [] ∧ ∃ w, o = some w ∧ RepD K B F H v w
  | .own x => ∃ a, fp = [a] ∧ o = some (.ref a) ∧ LstAt K B F H x a
  | .pin w => fp = [] ∧ o = some w
  | .obj l x => ∃ a, fp = [a] ∧ o = some (.ref a) ∧ B.dr ≠ some a ∧ ObjAt K F H l x a
structure SR (K : PySem.W.Frag) (T : FS) (B : Bs) (env : DEnv) (st : Sto) (σ : L2.St) (H : Hp) (F : FS) : Prop where
  wd : Wd K T B F H st
  base : ∀ a o, B.H0 a = some o → ¬ isTbl o → B.dr ≠ some a → H a = some o
  btbl : ∀ a ps, B.H0 a = some (.tbl ps) → B.dr ≠ some a → ∃ qs, H a = some (.tbl qs)
  fsub : ∀ a, B.F0 a → F a
  fnew : ∀ a, F a → B.F0 a ∨ B.H0 a = none
  len : σ.length = env.length
  slots : ∃ fp : Nat → List Addr, (∀ i s, env[i]? = some s → ∃ o, σ[i]? = some o ∧ SlotAt K B F H s o (fp i)) ∧
    (∀ i j a, a ∈ fp i → a ∈ fp j → i = j) ∧ (∀ i a, a ∈ fp i → ¬ F a ∧ B.dr ≠ some a ∧ B.H0 a = none ∧ H a ≠ none)

section
variable {K : PySem.W.Frag} {T : FS} {B : Bs} {F F' F1 F2 : FS} {H H' H1 H2 : Hp} {st st' : Sto} {env : DEnv} {σ : L2.St}
theorem Ext.refl : Ext B F F H H := ⟨fun _ _ h _ _ => h, fun _ h => h, fun _ h => .inl h, fun _ _ h => h, fun _ ps h _ => ⟨ps, h⟩⟩
theorem tbl_or (o : HO) : isTbl o ∨ ¬ isTbl o := by cases o <;> simp [isTbl]
theorem isTbl_eq {o : HO} (h : isTbl o) : ∃ ps, o = .tbl ps := by cases o <;> simp_all [isTbl]
theorem Ext.some (e : Ext B F F' H H') {a : Addr} (h : H a ≠ none) : H' a ≠ none := by
  cases q : H a with
  | none => exact absurd q h
  | some o =>
    by_cases hd : B.dr = Option.some a
    · exact e.draws a hd h
    · rcases tbl_or o with ht | ht
      · obtain ⟨ps, rfl⟩ := isTbl_eq ht
        obtain ⟨qs, e'⟩ := e.tbl a ps q hd
        rw [e']; simp
      · rw [e.keep a o q ht hd]; simp
theorem Ext.trans (a : Ext B F F1 H H1) (b : Ext B F1 F2 H1 H2) : Ext B F F2 H H2 where
  keep := fun c o h t d => b.keep c o (a.keep c o h t d) t d
  sub := fun c h => b.sub c (a.sub c h)
  new := fun c h => by
    rcases b.new c h with h | h
    · exact a.new c h
    · refine .inr ?_
      cases q : H c with
      | none => rfl
      | some o => exact absurd h (a.some (by rw [q]; simp))
  draws := fun c h q => b.draws c h (a.draws c h q)
  tbl := fun c ps h d => by
    obtain ⟨qs, h1⟩ := a.tbl c ps h d
    exact b.tbl c qs h1 d
theorem Wd.pk (w : Wd K T B F H st) (e : Ext B F F' H H') : PK F H H' := fun a o h fs nt => by
  refine e.keep a o h nt fun hd => ?_
  rcases fs with f | s
  · exact w.fdr a f hd
  · obtain ⟨xs, h', _⟩ := w.sto a hd
    rw [h] at h'
    cases h'
    exact s
theorem RepD.ext (w : Wd K T B F H st) (e : Ext B F F' H H') {v : DV} {x : V} (h : RepD K B F H v x) : RepD K B F' H' v x := by
  cases v with
  | d y => exact Rep.pk (w.pk e) e.sub y x h
  | loc => exact h
  | scr ns =>
    obtain ⟨a, rfl, h⟩ := h
    refine ⟨a, rfl, h.imp (fun ⟨f, r⟩ => ⟨e.sub a f, ?_⟩) id⟩
    rcases r with r | ⟨o, r⟩
    · exact .inl (w.pk e a _ r (.inl f) (by simp [isTbl]))
    · exact .inr ⟨o, w.pk e a _ r (.inl f) (by simp [isTbl])⟩
theorem LstAt.ext (w : Wd K T B F H st) (e : Ext B F F' H H') {x : PyData} {a : Addr} (h : LstAt K B F H x a) : LstAt K B F' H' x a := by
  obtain ⟨hd, h⟩ := h
  refine ⟨hd, ?_⟩
  cases x <;> first | exact h.elim | skip
  obtain ⟨xs, h1, h2⟩ := h
  exact ⟨xs, e.keep a _ h1 (by simp [isTbl]) hd, Reps.pk (w.pk e) e.sub _ _ h2⟩
theorem View.ext (w : Wd K T B F H st) (e : Ext B F F' H H') {v : DV} {x : V} (h : View K B F H v x) : View K B F' H' v x := by
  rcases h with h | ⟨a, x, rfl, rfl, h⟩
  · exact .inl (h.ext w e)
  · exact .inr ⟨a, x, rfl, rfl, h.ext w e⟩
theorem RepM.ext {m : Bool} (w : Wd K T B F H st) (e : Ext B F F' H H') {v : DV} {x : V} (h : RepM m K B F H v x) : RepM m K B F' H' v x := by
  cases m with
  | true => exact RepD.ext w e h
  | false => exact View.ext w e h
theorem RepM.of {m : Bool} {v : DV} {x : V} (h : RepD K B F H v x) : RepM m K B F H v x := by
  cases m with
  | true => exact h
  | false => exact .inl h
theorem RepM.view {m : Bool} {v : DV} {x : V} (h : RepM m K B F H v x) : View K B F H v x := by
  cases m with
  | true => exact .inl h
  | false => exact h
theorem SlotAt.ext (w : Wd K T B F H st) (e : Ext B F F' H H') {s : Slot} {o : Option V} {fp : List Addr} (h : SlotAt K B F H s o fp) : SlotAt K B F' H' s o fp := by
  cases s with
  | un => exact h
  | frz v =>
    obtain ⟨h0, x, h1, h2⟩ := h
    exact ⟨h0, x, h1, h2.ext w e⟩
  | own x =>
    obtain ⟨a, h0, h1, h2⟩ := h
    exact ⟨a, h0, h1, h2.ext w e⟩
  | pin w => exact h
  | obj l x =>
    obtain ⟨a, h0, h1, h2, h3⟩ := h
    exact ⟨a, h0, h1, h2, h3.keep (fun o q n => e.keep a o q n h2) (w.pk e) e.sub⟩
theorem SR.ext (r : SR K T B env st σ H F) (e : Ext B F F' H H') (w : Wd K T B F' H' st') : SR K T B env st' σ H' F' := by
  obtain ⟨fp, h1, h2, h3⟩ := r.slots
  refine ⟨w, fun a o h t d => e.keep a o (r.base a o h t d) t d, fun a ps h d => ?_, fun a h => e.sub a (r.fsub a h), fun a h => ?_, r.len, fp, fun i s h => ?_, h2, fun i a h => ?_⟩
  · obtain ⟨qs, h1⟩ := r.btbl a ps h d
    exact e.tbl a qs h1 d
  · rcases e.new a h with h | h
    · exact r.fnew a h
    · refine .inr ?_
      cases q : B.H0 a with
      | none => rfl
      | some o =>
        by_cases hd : B.dr = some a
        · exact absurd hd (w.fdr a (by assumption))
        · rcases tbl_or o with ht | ht
          · obtain ⟨ps, rfl⟩ := isTbl_eq ht
            obtain ⟨qs, z⟩ := r.btbl a ps q hd
            rw [h] at z; cases z
          · have z := r.base a o q ht hd
            rw [h] at z; cases z
  · obtain ⟨o, h4, h5⟩ := h1 i s h
    exact ⟨o, h4, h5.ext r.wd e⟩
  · obtain ⟨f1, f2, f3, f4⟩ := h3 i a h
    refine ⟨fun f => ?_, f2, f3, e.some f4⟩
    rcases e.new a f with f | f
    · exact f1 f
    · exact f4 f
/-- a new tracked object -/
theorem Ext.alloc {p : Addr} {o : HO} (h : H p = none) : Ext B F F H (upd H p o) := by
  refine ⟨fun a u e _ _ => by rw [upd_ne (ne_of_none e h)]; exact e, fun _ f => f, fun _ f => .inl f, fun a _ q => ?_, fun a ps e _ => ⟨ps, by rw [upd_ne (ne_of_none e h)]; exact e⟩⟩
  by_cases z : a = p
  · rw [z, upd_same]; simp
  · rw [upd_ne z]; exact q
theorem Wd.of_ext (w : Wd K T B F H st) (e : Ext B F F' H H') (hl : ∀ a, F' a → F a ∨ H' a ≠ none) (hd : ∀ a, F' a → F a ∨ B.dr ≠ some a) (hs : ∀ a, B.dr = some a → H' a = H a) (ht : ∀ P, T P → H' P = H P) : Wd K T B F' H' st where
  live := fun a f => (hl a f).elim (fun f => e.some (w.live a f)) id
  fdr := fun a f => (hd a f).elim (w.fdr a) id
  sto := fun a q => by
    obtain ⟨xs, h1, h2⟩ := w.sto a q
    exact ⟨xs, by rw [hs a q]; exact h1, Reps.pk (w.pk e) e.sub _ _ h2⟩
  tabs := fun P q => by
    obtain ⟨ps, h1, h2⟩ := w.tabs P q
    exact ⟨ps, by rw [ht P q]; exact h1, h2⟩
theorem Wd.dr_some (w : Wd K T B F H st) {a : Addr} (h : B.dr = some a) : H a ≠ none := by
  obtain ⟨xs, h1, _⟩ := w.sto a h
  rw [h1]; simp
theorem Wd.tab_some (w : Wd K T B F H st) {P : Addr} (h : T P) : H P ≠ none := by
  obtain ⟨ps, h1, _⟩ := w.tabs P h
  rw [h1]; simp
theorem Wd.alloc {p : Addr} {o : HO} (w : Wd K T B F H st) (h : H p = none) : Wd K T B F (upd H p o) st :=
  w.of_ext (Ext.alloc h) (fun a f => .inl f) (fun a f => .inl f) (fun a q => upd_ne fun z => w.dr_some q (by rw [z]; exact h)) (fun P q => upd_ne fun z => w.tab_some q (by rw [z]; exact h))
/-- a new object, its address frozen -/
def FS.add (F : FS) (p : Addr) : FS := fun a => F a ∨ a = p
theorem Ext.allocF {p : Addr} {o : HO} (h : H p = none) : Ext B F (F.add p) H (upd H p o) := by
  obtain ⟨k, _, _, d, t⟩ := Ext.alloc (B := B) (F := F) (o := o) h
  exact ⟨k, fun _ f => .inl f, fun a f => f.elim .inl (fun e => .inr (by rw [e]; exact h)), d, t⟩
theorem Wd.allocF {p : Addr} {o : HO} (w : Wd K T B F H st) (h : H p = none) : Wd K T B (F.add p) (upd H p o) st :=
  w.of_ext (Ext.allocF h) (fun a f => f.elim .inl (fun e => .inr (by rw [e, upd_same]; simp))) (fun a f => f.elim .inl (fun e => .inr (fun q => w.dr_some q (by rw [e]; exact h))))
    (fun a q => upd_ne fun z => w.dr_some q (by rw [z]; exact h)) (fun P q => upd_ne fun z => w.tab_some q (by rw [z]; exact h))
theorem Rep.ext (w : Wd K T B F H st) (e : Ext B F F' H H') {v : PyData} {x : V} (h : Rep K F H v x) : Rep K F' H' v x := Rep.pk (w.pk e) e.sub v x h
theorem Reps.ext (w : Wd K T B F H st) (e : Ext B F F' H H') {v : List PyData} {x : List V} (h : Reps K F H v x) : Reps K F' H' v x := Reps.pk (w.pk e) e.sub v x h
end

/-! ### the readings -/
/-- what a result asks of the states behind it -/
def Go {α : Type} (X : Cx) (T : FS) (W : WX) (σ : L2.St) (B : Bs) (F : FS) (H : Hp) (r : Res α) (G : α → Sto → Hp → FS → Prop) : Prop :=
  match r with
  | .ok d st' => ∀ H' F', Wd X.K T B F' H' st' → Ext B F F' H H' → G d st' H' F'
  | .exc c st' => ∀ C, X.mg c = some (.ref C) → ∀ H' F', Wd X.K T B F' H' st' → Ext B F F' H H' → W (.ref C) none σ H'
  | .no => False
section
variable {X : Cx} {T : FS} {W : WX} {σ : L2.St} {B : Bs} {F F1 : FS} {H H1 : Hp} {st : Sto}
theorem Go.ok {α : Type} {d : α} {G : α → Sto → Hp → FS → Prop} (h : ∀ H' F', Wd X.K T B F' H' st → Ext B F F' H H' → G d st H' F') : Go X T W σ B F H (.ok d st) G := h
theorem Go.mono {α : Type} {r : Res α} {G G' : α → Sto → Hp → FS → Prop} (h : Go X T W σ B F H r G) (i : ∀ d st' H' F', Wd X.K T B F' H' st' → Ext B F F' H H' → G d st' H' F' → G' d st' H' F') : Go X T W σ B F H r G' := by
  cases r with
  | no => exact h
  | exc c s => exact h
  | ok d s => exact fun H' F' w x => i d s H' F' w x (h H' F' w x)
theorem Go.ext {α : Type} {r : Res α} {G : α → Sto → Hp → FS → Prop} (h : Go X T W σ B F H r G) (x1 : Ext B F F1 H H1) : Go X T W σ B F1 H1 r G := by
  cases r with
  | no => exact h
  | exc c s => exact fun C hC H' F' w x => h C hC H' F' w (x1.trans x)
  | ok d s => exact fun H' F' w x => h H' F' w (x1.trans x)
theorem Go.bind {α β : Type} {r : Res α} {k : α → Sto → Res β} {G : β → Sto → Hp → FS → Prop} (h : Go X T W σ B F H (r.bind k) G) :
    Go X T W σ B F H r (fun d st1 H1 F1 => Go X T W σ B F1 H1 (k d st1) G) := by
  cases r with
  | no => exact h
  | exc c s => exact h
  | ok d s => exact fun H1 F1 w x1 => Go.ext (r := k d s) h x1
end
abbrev DF (α : Type) := DEnv → Sto → Res α
/-- a reading's end: what an expression's value must do -/
def tDE (X : Cx) (T : FS) (W : WX) (m : Bool) (f : DF DV) : TE := fun σ H Q => ∃ B env st F, SR X.K T B env st σ H F ∧
  Go X T W σ B F H (f env st) fun d _ H' F' => ∀ v, RepM m X.K B F' H' d v → Q v H'
structure DE (X : Cx) (T : FS) (W : WX) (m : Bool) (e : Expr) (f : DF DV) : Prop where
  pe : PE X e (tDE X T W m f)
def tDT (X : Cx) (T : FS) (W : WX) (f : DF Bool) : TT := fun σ H Q => ∃ B env st F, SR X.K T B env st σ H F ∧
  Go X T W σ B F H (f env st) fun b _ H' _ => Q b H'
structure DT (X : Cx) (T : FS) (W : WX) (e : Expr) (f : DF Bool) : Prop where
  pt : PT X e (tDT X T W f)
structure DPW (X : Cx) (T : FS) (W : WX) (e : Expr) (f : DF Bool) : Prop where
  pw : PW X e (tDT X T W f)
def RepMs (m : Bool) (K : PySem.W.Frag) (B : Bs) (F : FS) (H : Hp) : List DV → List V → Prop
  | [], vs => vs = []
  | d :: ds, vs => ∃ v r, vs = v :: r ∧ RepM m K B F H d v ∧ RepMs m K B F H ds r
def tDA (X : Cx) (T : FS) (W : WX) (m : Bool) (f : DF (List DV)) : TA := fun σ H Q => ∃ B env st F, SR X.K T B env st σ H F ∧
  Go X T W σ B F H (f env st) fun ds _ H' F' => ∀ vs, RepMs m X.K B F' H' ds vs → Q vs H'
structure DA (X : Cx) (T : FS) (W : WX) (m : Bool) (es : List Expr) (f : DF (List DV)) : Prop where
  pa : PA X es (tDA X T W m f)
theorem PE.imp {X : Cx} {e : Expr} {t t' : TE} (h : PE X e t) (i : ∀ σ H Q, t' σ H Q → t σ H Q) : PE X e t' := ⟨fun pins s σ H Q I w => h.run pins s σ H Q I (i σ H Q w)⟩
theorem PT.imp {X : Cx} {e : Expr} {t t' : TT} (h : PT X e t) (i : ∀ σ H Q, t' σ H Q → t σ H Q) : PT X e t' := ⟨fun pins s σ H Q I w => h.run pins s σ H Q I (i σ H Q w)⟩
theorem PW.imp {X : Cx} {e : Expr} {t t' : TT} (h : PW X e t) (i : ∀ σ H Q, t' σ H Q → t σ H Q) : PW X e t' := ⟨fun whole pins s σ H Q I w => h.run whole pins s σ H Q I (i σ H Q w)⟩
theorem PA.imp {X : Cx} {e : List Expr} {t t' : TA} (h : PA X e t) (i : ∀ σ H Q, t' σ H Q → t σ H Q) : PA X e t' := ⟨fun pos pins s σ H Q I w => h.run pos pins s σ H Q I (i σ H Q w)⟩
theorem PS.imp {X : Cx} {e : Stmt} {t t' : TS} (h : PS X e t) (i : ∀ D σ H, t' D σ H → t D σ H) : PS X e t' := ⟨fun pins s σ H D I w => h.run pins s σ H D I (i D σ H w)⟩
theorem PSs.imp {X : Cx} {e : List Stmt} {t t' : TS} (h : PSs X e t) (i : ∀ D σ H, t' D σ H → t D σ H) : PSs X e t' := ⟨fun pins s σ H D I w => h.run pins s σ H D I (i D σ H w)⟩
theorem RepMs.length {m : Bool} {K : PySem.W.Frag} {B : Bs} {F : FS} {H : Hp} : ∀ {ds : List DV} {vs : List V}, RepMs m K B F H ds vs → vs.length = ds.length
  | [], vs, h => by simp only [RepMs] at h; subst h; rfl
  | d :: ds, vs, h => by
    obtain ⟨v, r, rfl, _, h2⟩ := h
    simp [RepMs.length h2]

/-! ### operations by values -/
/-- a state that has grown: what an operation may leave -/
structure Grow (B : Bs) (F F' : FS) (H H' : Hp) : Prop where
  ext : Ext B F F' H H'
  live : ∀ a, F' a → F a ∨ H' a ≠ none
  fdr : ∀ a, F' a → F a ∨ H a = none
  kept : ∀ a, H a ≠ none → H' a = H a
theorem Grow.refl {B : Bs} {F : FS} {H : Hp} : Grow B F F H H := ⟨.refl, fun _ h => .inl h, fun _ h => .inl h, fun _ _ => rfl⟩
theorem Grow.alloc {B : Bs} {F : FS} {H : Hp} {p : Addr} {o : HO} (h : H p = none) : Grow B F F H (upd H p o) :=
  ⟨Ext.alloc h, fun _ h => .inl h, fun _ h => .inl h, fun a q => upd_ne fun z => q (by rw [z]; exact h)⟩
theorem Grow.allocF {B : Bs} {F : FS} {H : Hp} {p : Addr} {o : HO} (h : H p = none) : Grow B F (F.add p) H (upd H p o) :=
  ⟨Ext.allocF h, fun a f => f.elim .inl (fun e => .inr (by rw [e, upd_same]; simp)), fun a f => f.elim .inl (fun e => .inr (by rw [e]; exact h)), fun a q => upd_ne fun z => q (by rw [z]; exact h)⟩
theorem Grow.wd {K : PySem.W.Frag} {T : FS} {B : Bs} {F F' : FS} {H H' : Hp} {st : Sto} (g : Grow B F F' H H') (w : Wd K T B F H st) : Wd K T B F' H' st :=
  w.of_ext g.ext g.live (fun a f => (g.fdr a f).elim .inl fun n => .inr fun q => w.dr_some q n) (fun a q => g.kept a (w.dr_some q)) (fun P q => g.kept P (w.tab_some q))
/-- a list that is new, not frozen -/
def NewL (K : PySem.W.Frag) (F' : FS) (H H' : Hp) (d : DV) (v : V) : Prop := ∃ p ds xs, d = .d (.list ds) ∧ v = .ref p ∧ H p = none ∧ ¬ F' p ∧ H' p = some (.lst xs) ∧ Reps K F' H' ds xs
def isLst : DV → Bool
  | .d (.list _) => true
  | _ => false
/-- what an operation gives: n: where it is a list, a new one -/
def RepR (n : Bool) (K : PySem.W.Frag) (B : Bs) (F' : FS) (H H' : Hp) (d : DV) (v : V) : Prop := if (n && isLst d) = true then NewL K F' H H' d v else RepD K B F' H' d v
/-- an operation on two values, as a function of data -/
def Op2 (n : Bool) (K : PySem.W.Frag) (r : R2) (h : DV → DV → Option DV) : Prop := ∀ (T : FS) (B : Bs) (F : FS) (H : Hp) (st : Sto) (x y : V) (a b d : DV) (Q : VK), Wd K T B F H st → View K B F H a x → View K B F H b y → h a b = some d →
  (∀ v H' F', Grow B F F' H H' → RepR n K B F' H H' d v → Q v H') → r x y H Q
def Op1 (n : Bool) (K : PySem.W.Frag) (r : V → Hp → VK → Prop) (h : DV → Option DV) : Prop := ∀ (T : FS) (B : Bs) (F : FS) (H : Hp) (st : Sto) (x : V) (a d : DV) (Q : VK), Wd K T B F H st → View K B F H a x → h a = some d →
  (∀ v H' F', Grow B F F' H H' → RepR n K B F' H H' d v → Q v H') → r x H Q
/-- a call of a built-in with data -/
def OpN (n : Bool) (K : PySem.W.Frag) (r : List V → Hp → VK → Prop) (h : List DV → Option DV) : Prop := ∀ (T : FS) (B : Bs) (F : FS) (H : Hp) (st : Sto) (xs : List V) (as : List DV) (d : DV) (Q : VK), Wd K T B F H st → RepMs false K B F H as xs → h as = some d →
  (∀ v H' F', Grow B F F' H H' → RepR n K B F' H H' d v → Q v H') → r xs H Q
/-- a method of a built-in that changes nothing -/
def OpM (n : Bool) (K : PySem.W.Frag) (r : V → List V → Hp → VK → Prop) (h : DV → List DV → Option DV) : Prop := ∀ (T : FS) (B : Bs) (F : FS) (H : Hp) (st : Sto) (x : V) (xs : List V) (a : DV) (as : List DV) (d : DV) (Q : VK), Wd K T B F H st → View K B F H a x → RepMs false K B F H as xs → h a as = some d →
  (∀ v H' F', Grow B F F' H H' → RepR n K B F' H H' d v → Q v H') → r x xs H Q
def lift (o : Option DV) (st : Sto) : Res DV := match o with
  | some d => .ok d st
  | none => .no
/-! ### the functions of expressions -/
def fC (x : PyData) : DF DV := fun _ st => .ok (.d x) st
def fName (i : Nat) : DF DV := fun env st => match env[i]? with
  | some (.frz v) => .ok v st
  | _ => .no
def fNameB (i : Nat) : DF DV := fun env st => match env[i]? with
  | some (.frz v) => .ok v st
  | some (.own x) => .ok (.d x) st
  | _ => .no
def fOp2 (h : DV → DV → Option DV) (f g : DF DV) : DF DV := fun env st => (f env st).bind fun a st1 => (g env st1).bind fun b st2 => lift (h a b) st2
def fOp1 (h : DV → Option DV) (f : DF DV) : DF DV := fun env st => (f env st).bind fun a st1 => lift (h a) st1
def fNil : DF (List DV) := fun _ st => .ok [] st
def fCons (f : DF DV) (g : DF (List DV)) : DF (List DV) := fun env st => (f env st).bind fun a st1 => (g env st1).bind fun as st2 => .ok (a :: as) st2
def fOpN (h : List DV → Option DV) (f : DF (List DV)) : DF DV := fun env st => (f env st).bind fun as st1 => lift (h as) st1
def fOpM (h : DV → List DV → Option DV) (f : DF DV) (g : DF (List DV)) : DF DV := fun env st => (f env st).bind fun a st1 => (g env st1).bind fun as st2 => lift (h a as) st2

section
variable {X : Cx} {T : FS} {W : WX} {m m1 m2 : Bool} {e a b : Expr} {f g : DF DV} {pos : Pos}
theorem Go.lift {σ : L2.St} {B : Bs} {F : FS} {H : Hp} {st : Sto} {o : Option DV} {G : DV → Sto → Hp → FS → Prop} (h : Go X T W σ B F H (lift o st) G) :
    ∃ d, o = some d ∧ ∀ H' F', Wd X.K T B F' H' st → Ext B F F' H H' → G d st H' F' := by
  cases o with
  | none => exact h.elim
  | some d => exact ⟨d, rfl, h⟩
theorem de_of {t : TE} (h : PE X e t) (i : ∀ σ H Q B env st F, SR X.K T B env st σ H F → Go X T W σ B F H (f env st) (fun d _ H' F' => ∀ v, RepM m X.K B F' H' d v → Q v H') → t σ H Q) : DE X T W m e f :=
  ⟨PE.imp h fun σ H Q ⟨B, env, st, F, sr, q⟩ => i σ H Q B env st F sr q⟩
/-- the reading of a part, then what follows -/
theorem tDE.go {β : Type} {k : DV → Sto → Res β} {σ : L2.St} {H : Hp} {Q : VK} {B : Bs} {env : DEnv} {st : Sto} {F : FS} {G : β → Sto → Hp → FS → Prop} (sr : SR X.K T B env st σ H F)
    (h : Go X T W σ B F H ((f env st).bind k) G)
    (q : ∀ d st1 v H1 F1, SR X.K T B env st1 σ H1 F1 → Ext B F F1 H H1 → RepM m X.K B F1 H1 d v → Go X T W σ B F1 H1 (k d st1) G → Q v H1) : tDE X T W m f σ H Q :=
  ⟨B, env, st, F, sr, Go.mono (Go.bind h) fun d st1 H1 F1 w1 x1 g v r => q d st1 v H1 F1 (sr.ext x1 w1) x1 r g⟩
theorem tDA.go {β : Type} {f : DF (List DV)} {k : List DV → Sto → Res β} {σ : L2.St} {H : Hp} {Q : List V → Hp → Prop} {B : Bs} {env : DEnv} {st : Sto} {F : FS} {G : β → Sto → Hp → FS → Prop} (sr : SR X.K T B env st σ H F)
    (h : Go X T W σ B F H ((f env st).bind k) G)
    (q : ∀ d st1 v H1 F1, SR X.K T B env st1 σ H1 F1 → Ext B F F1 H H1 → RepMs m X.K B F1 H1 d v → Go X T W σ B F1 H1 (k d st1) G → Q v H1) : tDA X T W m f σ H Q :=
  ⟨B, env, st, F, sr, Go.mono (Go.bind h) fun d st1 H1 F1 w1 x1 g v r => q d st1 v H1 F1 (sr.ext x1 w1) x1 r g⟩
theorem Wd.frz {K : PySem.W.Frag} {B : Bs} {F : FS} {H : Hp} {st : Sto} {p : Addr} (w : Wd K T B F H st) (h1 : H p ≠ none) (h2 : B.dr ≠ some p) : Wd K T B (F.add p) H st where
  live := fun a f => f.elim (w.live a) fun e => by rw [e]; exact h1
  fdr := fun a f => f.elim (w.fdr a) fun e => by rw [e]; exact h2
  sto := fun a q => by
    obtain ⟨xs, h1, h2⟩ := w.sto a q
    exact ⟨xs, h1, Reps.pk (fun _ _ h _ _ => h) (fun _ f => .inl f) _ _ h2⟩
  tabs := w.tabs
theorem Ext.frz {B : Bs} {F F' : FS} {H H' : Hp} {p : Addr} (e : Ext B F F' H H') (h : H p = none) : Ext B F (F'.add p) H H' :=
  ⟨e.keep, fun a f => .inl (e.sub a f), fun a f => f.elim (e.new a) fun q => .inr (by rw [q]; exact h), e.draws, e.tbl⟩
/-- a new list, frozen -/
theorem NewL.frz {K : PySem.W.Frag} {B : Bs} {F F' : FS} {H H' : Hp} {st st' : Sto} {d : DV} {v : V} (w : Wd K T B F H st) (w' : Wd K T B F' H' st') (e : Ext B F F' H H') (h : NewL K F' H H' d v) :
    ∃ F2, Wd K T B F2 H' st' ∧ Ext B F F2 H H' ∧ RepD K B F2 H' d v := by
  obtain ⟨p, ds, xs, rfl, rfl, hn, _, h1, h2⟩ := h
  refine ⟨F'.add p, w'.frz (by rw [h1]; simp) (fun q => w.dr_some q hn), e.frz hn, ?_⟩
  simp only [RepD, Rep]
  exact ⟨p, xs, rfl, .inr rfl, h1, Reps.pk (fun _ _ h _ _ => h) (fun _ f => .inl f) _ _ h2⟩
theorem Grow.end {n : Bool} {σ : L2.St} {B : Bs} {F F' : FS} {H H' : Hp} {st1 : Sto} {env : DEnv} {d : DV} {v : V} {Q : VK} (sr : SR X.K T B env st1 σ H F) (g : Grow B F F' H H') (r : RepR n X.K B F' H H' d v)
    (q : ∀ H' F', Wd X.K T B F' H' st1 → Ext B F F' H H' → ∀ v, RepM m X.K B F' H' d v → Q v H') : Q v H' := by
  unfold RepR at r
  split at r
  · obtain ⟨F2, w2, e2, r2⟩ := r.frz sr.wd (g.wd sr.wd) g.ext
    exact q H' F2 w2 e2 v (RepM.of r2)
  · exact q H' F' (g.wd sr.wd) g.ext v (RepM.of r)

theorem de_view (h : DE X T W true e f) : DE X T W false e f := by
  refine de_of h.pe fun σ H Q B env st F sr q => ⟨B, env, st, F, sr, Go.mono q fun d st1 H1 F1 w1 x1 g v r => g v (.inl r)⟩
theorem de_int {i : Int} {j : Nat} : DE X T W m (.Constant (.int i) j pos) (fC (.int i)) :=
  de_of pe_int fun σ H Q B env st F sr q => q H F sr.wd .refl (.int i) (RepM.of (by simp [RepD, Rep]))
theorem de_bl {i : Bool} {j : Nat} : DE X T W m (.Constant (.bool i) j pos) (fC (.bool i)) :=
  de_of pe_bl fun σ H Q B env st F sr q => q H F sr.wd .refl (.bl i) (RepM.of (by simp [RepD, Rep]))
theorem de_non {j : Nat} : DE X T W m (.Constant .none j pos) (fC .none) :=
  de_of pe_non fun σ H Q B env st F sr q => q H F sr.wd .refl .non (RepM.of (by simp [RepD, Rep]))
theorem de_str {x : Str} {j : Nat} : DE X T W m (.Constant (.str x) j pos) (fC (.str x)) :=
  de_of pe_str fun σ H Q B env st F sr q => q H F sr.wd .refl (.str x) (RepM.of (by simp [RepD, Rep]))
theorem de_name {i : Nat} (h : PE X e (tVar i)) : DE X T W m e (fName i) := by
  refine de_of h fun σ H Q B env st F sr q => ?_
  obtain ⟨fp, s1, _⟩ := sr.slots
  unfold fName at q
  split at q
  · rename_i v hv
    obtain ⟨o, h1, h2⟩ := s1 i _ hv
    obtain ⟨_, w, rfl, h3⟩ := h2
    exact ⟨w, h1, q H F sr.wd .refl w (RepM.of h3)⟩
  · exact q.elim
theorem de_nameB {i : Nat} (h : PE X e (tVar i)) : DE X T W false e (fNameB i) := by
  refine de_of h fun σ H Q B env st F sr q => ?_
  obtain ⟨fp, s1, _⟩ := sr.slots
  unfold fNameB at q
  split at q
  · rename_i v hv
    obtain ⟨o, h1, h2⟩ := s1 i _ hv
    obtain ⟨_, w, rfl, h3⟩ := h2
    exact ⟨w, h1, q H F sr.wd .refl w (.inl h3)⟩
  · rename_i x hx
    obtain ⟨o, h1, h2⟩ := s1 i _ hx
    obtain ⟨a, _, rfl, h3⟩ := h2
    exact ⟨.ref a, h1, q H F sr.wd .refl (.ref a) (.inr ⟨a, x, rfl, rfl, h3⟩)⟩
  · exact q.elim
theorem de_op2 {n : Bool} {r : R2} {h : DV → DV → Option DV} (pe : PE X e (tOp r (tDE X T W m1 f) (tDE X T W m2 g))) (hop : Op2 n X.K r h) : DE X T W m e (fOp2 h f g) := by
  refine de_of pe fun σ H Q B env st F sr q => ?_
  refine tDE.go sr q fun d1 st1 v1 H1 F1 sr1 x1 r1 q1 => ?_
  refine tDE.go sr1 q1 fun d2 st2 v2 H2 F2 sr2 x2 r2 q2 => ?_
  obtain ⟨d, e, q3⟩ := Go.lift q2
  exact hop T B F2 H2 st2 v1 v2 d1 d2 d Q sr2.wd (RepM.view (r1.ext sr1.wd x2)) (RepM.view r2) e fun v H' F' g r => g.end sr2 r q3
theorem de_op1 {n : Bool} {r : V → Hp → VK → Prop} {h : DV → Option DV} (pe : PE X e (tUn r (tDE X T W m1 f))) (hop : Op1 n X.K r h) : DE X T W m e (fOp1 h f) := by
  refine de_of pe fun σ H Q B env st F sr q => ?_
  refine tDE.go sr q fun d1 st1 v1 H1 F1 sr1 x1 r1 q1 => ?_
  obtain ⟨d, e, q3⟩ := Go.lift q1
  exact hop T B F1 H1 st1 v1 d1 d Q sr1.wd (RepM.view r1) e fun v H' F' g r => g.end sr1 r q3
theorem RepMs.ext {m : Bool} {K : PySem.W.Frag} {T : FS} {B : Bs} {F F' : FS} {H H' : Hp} {st : Sto} (w : Wd K T B F H st) (e : Ext B F F' H H') : ∀ {ds : List DV} {vs : List V}, RepMs m K B F H ds vs → RepMs m K B F' H' ds vs
  | [], vs, h => h
  | d :: ds, vs, h => by
    obtain ⟨v, r, e1, h1, h2⟩ := h
    exact ⟨v, r, e1, h1.ext w e, RepMs.ext w e h2⟩
theorem RepMs.view {m : Bool} {K : PySem.W.Frag} {B : Bs} {F : FS} {H : Hp} : ∀ {ds : List DV} {vs : List V}, RepMs m K B F H ds vs → RepMs false K B F H ds vs
  | [], vs, h => h
  | d :: ds, vs, h => by
    obtain ⟨v, r, e1, h1, h2⟩ := h
    exact ⟨v, r, e1, h1.view, h2.view⟩
theorem da_nil : DA X T W m [] fNil :=
  ⟨PA.imp pa_nil fun σ H Q ⟨B, env, st, F, sr, q⟩ => q H F sr.wd .refl [] rfl⟩
theorem da_cons {es : List Expr} {gs : DF (List DV)} (h : DE X T W m e f) (hs : DA X T W m es gs) (he : starEach (e :: es) X.env = (false, eval e X.env) :: starEach es X.env := by rfl) : DA X T W m (e :: es) (fCons f gs) := by
  refine ⟨PA.imp (pa_cons h.pe hs.pa he) fun σ H Q ⟨B, env, st, F, sr, q⟩ => ?_⟩
  refine tDE.go sr q fun d1 st1 v1 H1 F1 sr1 x1 r1 q1 => ?_
  refine tDA.go sr1 q1 fun d2 st2 v2 H2 F2 sr2 x2 r2 q2 => ?_
  exact q2 H2 F2 sr2.wd .refl (v1 :: v2) ⟨v1, v2, rfl, r1.ext sr1.wd x2, r2⟩

/-! ### new lists -/
def tDO (X : Cx) (T : FS) (W : WX) (f : DF DV) : TE := fun σ H Q => ∃ B env st F, SR X.K T B env st σ H F ∧
  Go X T W σ B F H (f env st) fun d _ H' F' => ∀ v, NewL X.K F' H H' d v → Q v H'
structure DO (X : Cx) (T : FS) (W : WX) (e : Expr) (f : DF DV) : Prop where
  pe : PE X e (tDO X T W f)
def lstOnly (d : DV) (st : Sto) : Res DV := if isLst d = true then .ok d st else .no
def fLst (f : DF DV) : DF DV := fun env st => (f env st).bind lstOnly
theorem de_new (h : DO X T W e f) : DE X T W m e f := by
  refine de_of h.pe fun σ H Q B env st F sr q => ⟨B, env, st, F, sr, ?_⟩
  cases hf : f env st with
  | no => rw [hf] at q; exact q
  | exc c s => rw [hf] at q; exact q
  | ok d s =>
    rw [hf] at q
    intro H' F' w' x' v r
    obtain ⟨F2, w2, e2, r2⟩ := r.frz sr.wd w' x'
    exact q H' F2 w2 e2 v (RepM.of r2)
theorem NewL.back {K : PySem.W.Frag} {B : Bs} {F F1 F' : FS} {H H1 H' : Hp} {d : DV} {v : V} (e : Ext B F F1 H H1) (h : NewL K F' H1 H' d v) : NewL K F' H H' d v := by
  obtain ⟨p, ds, xs, e1, e2, hn, h1, h2, h3⟩ := h
  refine ⟨p, ds, xs, e1, e2, ?_, h1, h2, h3⟩
  cases q : H p with
  | none => rfl
  | some o => exact absurd hn (e.some (by rw [q]; simp))
theorem Go.lst {σ : L2.St} {B : Bs} {F : FS} {H : Hp} {d : DV} {st : Sto} {G : DV → Sto → Hp → FS → Prop} (h : Go X T W σ B F H (lstOnly d st) G) : isLst d = true ∧ ∀ H' F', Wd X.K T B F' H' st → Ext B F F' H H' → G d st H' F' := by
  unfold lstOnly at h
  split at h
  · rename_i hl
    exact ⟨hl, h⟩
  · exact h.elim
theorem Res.bind_bind {α β γ : Type} (r : Res α) (k : α → Sto → Res β) (l : β → Sto → Res γ) : (r.bind k).bind l = r.bind fun a s => (k a s).bind l := by
  cases r <;> rfl
theorem do_op2 {r : R2} {h : DV → DV → Option DV} (pe : PE X e (tOp r (tDE X T W m1 f) (tDE X T W m2 g))) (hop : Op2 true X.K r h) : DO X T W e (fLst (fOp2 h f g)) := by
  refine ⟨PE.imp pe fun σ H Q ⟨B, env, st, F, sr, q⟩ => ?_⟩
  unfold fLst fOp2 at q
  rw [Res.bind_bind] at q
  refine tDE.go sr q fun d1 st1 v1 H1 F1 sr1 x1 r1 q1 => ?_
  rw [Res.bind_bind] at q1
  refine tDE.go sr1 q1 fun d2 st2 v2 H2 F2 sr2 x2 r2 q2 => ?_
  obtain ⟨d, e, q3⟩ := Go.lift (o := h d1 d2) (G := fun d s H' F' => isLst d = true ∧ ∀ v, NewL X.K F' H H' d v → Q v H') (st := st2) (X := X) (T := T) (W := W) (σ := σ) (B := B) (F := F2) (H := H2) (by
    cases hd : h d1 d2 with
    | none => rw [hd] at q2; exact q2
    | some d =>
      rw [hd] at q2
      obtain ⟨hl, q4⟩ := Go.lst q2
      exact fun H' F' w' x' => ⟨hl, q4 H' F' w' x'⟩)
  have hl := (q3 H2 F2 sr2.wd .refl).1
  refine hop T B F2 H2 st2 v1 v2 d1 d2 d Q sr2.wd (RepM.view (r1.ext sr1.wd x2)) (RepM.view r2) e fun v H' F' g r => ?_
  unfold RepR at r
  rw [hl] at r
  exact (q3 H' F' (g.wd sr2.wd) g.ext).2 v ((NewL.back x2 r).back x1)
end
end DL

set_option Elab.async false
set_option linter.all false
set_option maxRecDepth 100000
set_option maxHeartbeats 4000000
namespace DL
open PySem PySem.Spec PyProof.Rows L2

theorem OpR.or {X : Cx} {f : Value → Value → Sem Value} {r r' : R2} (a : OpR X f r) (b : OpR X f r') : OpR X f (fun x y H Q => r x y H Q ∨ r' x y H Q) :=
  fun pins s σ H x y v u Q I rx ry h => h.elim (a pins s σ H x y v u Q I rx ry) (b pins s σ H x y v u Q I rx ry)
theorem CallR.or {X : Cx} {f : Value} {r r' : List V → Hp → VK → Prop} (a : CallR X f r) (b : CallR X f r') : CallR X f (fun xs H Q => r xs H Q ∨ r' xs H Q) :=
  fun pins s σ H xs us Q I rx h => h.elim (a pins s σ H xs us Q I rx) (b pins s σ H xs us Q I rx)

/-! ### views -/
section
variable {K : PySem.W.Frag} {B : Bs} {F : FS} {H : Hp} {x : V}
theorem View.int {i : Int} (h : View K B F H (.d (.int i)) x) : x = .int i := by
  rcases h with h | ⟨a, y, e, rfl, h⟩
  · simpa [RepD, Rep] using h
  · cases e
    exact h.2.elim
theorem View.bool {i : Bool} (h : View K B F H (.d (.bool i)) x) : x = .bl i := by
  rcases h with h | ⟨a, y, e, rfl, h⟩
  · simpa [RepD, Rep] using h
  · cases e
    exact h.2.elim
theorem View.str {i : Str} (h : View K B F H (.d (.str i)) x) : x = .str i := by
  rcases h with h | ⟨a, y, e, rfl, h⟩
  · simpa [RepD, Rep] using h
  · cases e
    exact h.2.elim
theorem View.none (h : View K B F H (.d .none) x) : x = .non := by
  rcases h with h | ⟨a, y, e, rfl, h⟩
  · simpa [RepD, Rep] using h
  · cases e
    exact h.2.elim
theorem View.tuple {ds : List PyData} (h : View K B F H (.d (.tuple ds)) x) : ∃ a xs, x = .ref a ∧ H a = some (.tup xs) ∧ Reps K F H ds xs := by
  rcases h with h | ⟨a, y, e, rfl, h⟩
  · simpa [RepD, Rep] using h
  · cases e
    exact h.2.elim
theorem View.list {ds : List PyData} (h : View K B F H (.d (.list ds)) x) : ∃ a xs, x = .ref a ∧ H a = some (.lst xs) ∧ Reps K F H ds xs := by
  rcases h with h | ⟨a, y, e, rfl, h⟩
  · simp only [RepD, Rep] at h
    obtain ⟨a, xs, e, _, h1, h2⟩ := h
    exact ⟨a, xs, e, h1, h2⟩
  · cases e
    obtain ⟨_, xs, h1, h2⟩ := h
    exact ⟨a, xs, rfl, h1, h2⟩
theorem View.dict {ds : List (PyData × PyData)} (h : View K B F H (.d (.dict ds)) x) : False := by
  rcases h with h | ⟨a, y, e, rfl, h⟩
  · simp [RepD, Rep] at h
  · cases e
    exact h.2.elim
theorem View.dp {d : PyData} (h : View K B F H (.d d) x) : Dp K H x d := by
  cases d with
  | none => rw [h.none]; exact .non
  | bool b => rw [h.bool]; exact .bl b
  | int b => rw [h.int]; exact .int b
  | str b => rw [h.str]; exact .str b
  | list ds =>
    obtain ⟨a, xs, rfl, h1, h2⟩ := h.list
    exact .lst (SqL.of h1) (Reps.dp _ _ h2)
  | tuple ds =>
    obtain ⟨a, xs, rfl, h1, h2⟩ := h.tuple
    exact .tup (SqT.of h1) (Reps.dp _ _ h2)
  | dict ds => exact h.dict.elim
theorem repR_of {n : Bool} {F' : FS} {H' : Hp} {d : DV} {v : V} (hl : isLst d = false) (h : RepD K B F' H' d v) : RepR n K B F' H H' d v := by
  unfold RepR
  rw [hl, Bool.and_false, if_neg Bool.false_ne_true]
  exact h
theorem repR_new {n : Bool} {ds : List PyData} {p : Addr} {xs : List V} (w : ∀ a, F a → H a ≠ Option.none) (hp : H p = Option.none) (h : Reps K F (upd H p (.lst xs)) ds xs) (hn : n = true := by rfl) :
    RepR n K B F H (upd H p (.lst xs)) (.d (.list ds)) (.ref p) := by
  subst hn
  exact ⟨p, ds, xs, rfl, rfl, hp, fun f => w p f hp, upd_same, h⟩
theorem Reps.grow {T : FS} {F' : FS} {H' : Hp} {st : Sto} {ds : List PyData} {xs : List V} (w : Wd K T B F H st) (g : Grow B F F' H H') (h : Reps K F H ds xs) : Reps K F' H' ds xs := Reps.ext w g.ext h
theorem rep_tup {ds : List PyData} {p : Addr} {xs : List V} {F' : FS} (h : Reps K F' (upd H p (.tup xs)) ds xs) : RepD K B F' (upd H p (.tup xs)) (.d (.tuple ds)) (.ref p) := by
  simp only [RepD, Rep]
  exact ⟨p, xs, rfl, upd_same, h⟩
theorem rep_tup0 {ds : List PyData} {p : Addr} {xs : List V} {F' : FS} (s : H p = some (.tup xs)) (h : Reps K F' H ds xs) : RepD K B F' H (.d (.tuple ds)) (.ref p) := by
  simp only [RepD, Rep]
  exact ⟨p, xs, rfl, s, h⟩
end

/-! ### + -/
def b2n (b : Bool) : Int := if b = true then 1 else 0
def hAdd : DV → DV → Option DV
  | .d (.int i), .d (.int j) => some (.d (.int (i + j)))
  | .d (.tuple a), .d (.tuple b) => if a.length + b.length ≤ sizeLine then some (.d (.tuple (a ++ b))) else none
  | .d (.list a), .d (.list b) => if a.length + b.length ≤ sizeLine then some (.d (.list (a ++ b))) else none
  | _, _ => none
def rAdd (K : PySem.W.Frag) : R2 := fun x y H Q => rI0 (fun i j => .int (i + j)) x y H Q ∨ (rCatA K x y H Q ∨ rCat x y H Q)
theorem op_hadd {X : Cx} : OpR X (binaryOp .Add) (rAdd X.K) := OpR.or op_add (OpR.or op_catA op_cat)
theorem hadd_ok {n : Bool} {K : PySem.W.Frag} (hn : n = true := by rfl) : Op2 n K (rAdd K) hAdd := by
  intro T B F H st x y a b d Q w vx vy e q
  unfold hAdd at e
  split at e
  · cases e
    have e1 := vx.int; have e2 := vy.int
    subst e1; subst e2
    exact .inl ⟨_, _, rfl, rfl, q _ H F .refl (repR_of rfl (by simp [RepD, Rep]))⟩
  · split at e
    · rename_i hz
      cases e
      obtain ⟨a, xs, rfl, s1, r1⟩ := vx.tuple
      obtain ⟨b, ys, rfl, s2, r2⟩ := vy.tuple
      refine .inr (.inl ⟨a, b, xs, ys, rfl, rfl, SqT.of s1, SqT.of s2, by rw [r1.length, r2.length]; exact hz, fun h0 => ?_, fun h0 h1 => ?_, fun h0 h1 p hp => ?_⟩)
      · refine q _ H F .refl (repR_of rfl (rep_tup0 s2 ?_))
        have : xs = [] := h0
        subst this
        have z := r1.length
        have z2 := List.eq_nil_of_length_eq_zero (show _ = 0 from z.symm)
        rw [z2]; exact r2
      · refine q _ H F .refl (repR_of rfl (rep_tup0 s1 ?_))
        have : ys = [] := h1
        subst this
        have z := r2.length
        have z2 := List.eq_nil_of_length_eq_zero (show _ = 0 from z.symm)
        rw [z2, List.append_nil]; exact r1
      · exact q _ _ F (.alloc hp) (repR_of rfl (rep_tup ((r1.append r2).grow w (.alloc hp))))
    · cases e
  · split at e
    · rename_i hz
      cases e
      obtain ⟨a, xs, rfl, s1, r1⟩ := vx.list
      obtain ⟨b, ys, rfl, s2, r2⟩ := vy.list
      exact .inr (.inr ⟨a, b, xs, ys, rfl, rfl, s1, s2, by rw [r1.length, r2.length]; exact hz, fun p hp => q _ _ F (.alloc hp) (repR_new w.live hp ((r1.append r2).grow w (.alloc hp)) hn)⟩)
    · cases e
  · cases e

/-! ### - * // % ** >> ^ -/
def hInt (c : Int → Int → Bool) (g : Int → Int → Int) : DV → DV → Option DV
  | .d (.int i), .d (.int j) => if c i j = true then some (.d (.int (g i j))) else none
  | _, _ => none
theorem hint_ok {n : Bool} {K : PySem.W.Frag} {C : Int → Int → Prop} {c : Int → Int → Bool} {g : Int → Int → Int} (h : ∀ i j, c i j = true → C i j) : Op2 n K (rI C fun i j => .int (g i j)) (hInt c g) := by
  intro T B F H st x y a b d Q w vx vy e q
  unfold hInt at e
  split at e
  · split at e
    · rename_i hc
      cases e
      have e1 := vx.int; have e2 := vy.int
      subst e1; subst e2
      exact ⟨_, _, rfl, rfl, h _ _ hc, q _ H F .refl (repR_of rfl (by simp [RepD, Rep]))⟩
    · cases e
  · cases e
theorem hint0_ok {n : Bool} {K : PySem.W.Frag} {g : Int → Int → Int} : Op2 n K (rI0 fun i j => .int (g i j)) (hInt (fun _ _ => true) g) := by
  intro T B F H st x y a b d Q w vx vy e q
  obtain ⟨i, j, e1, e2, _, q⟩ := hint_ok (n := n) (C := fun _ _ => True) (fun _ _ _ => trivial) T B F H st x y a b d Q w vx vy e q
  exact ⟨i, j, e1, e2, q⟩
def hSub : DV → DV → Option DV := hInt (fun _ _ => true) fun i j => i - j
def cMul (i j : Int) : Bool := (decide (-(2 ^ 64) < i) && decide (i < 2 ^ 64)) || (decide (-(2 ^ 64) < j) && decide (j < 2 ^ 64))
theorem cMul_ok {i j : Int} (h : cMul i j = true) : CMul i j := by
  unfold cMul at h
  simp only [Bool.or_eq_true, Bool.and_eq_true, decide_eq_true_eq] at h
  exact h
def hMod : DV → DV → Option DV := hInt (fun _ j => decide (j ≠ 0)) fun i j => i.fmod j
def hFdiv : DV → DV → Option DV := hInt (fun _ j => decide (j ≠ 0 ∧ j.natAbs < 1073741824)) fun i j => i.fdiv j
def hPow : DV → DV → Option DV := hInt (fun i j => decide (0 ≤ j ∧ j ≤ 1000000 ∧ i.natAbs < 2 ^ 64)) fun i j => i ^ j.toNat
def hShr : DV → DV → Option DV := hInt (fun _ j => decide (0 ≤ j)) fun i j => i / 2 ^ j.toNat
def hXor : DV → DV → Option DV := hInt (fun _ _ => true) Builtin.bitXor
/-- ints; a list or a tuple times an int -/
def hMul : DV → DV → Option DV
  | .d (.int i), .d (.int j) => if cMul i j = true then some (.d (.int (i * j))) else none
  | .d (.list a), .d (.int k) => if -(2 ^ 63) ≤ k ∧ k < 2 ^ 63 ∧ a.length * k.toNat ≤ sizeLine then some (.d (.list (List.replicate k.toNat a).flatten)) else none
  | .d (.tuple a), .d (.int k) => if a ≠ [] ∧ 1 ≤ k ∧ k ≤ 2000 ∧ a.length ≤ 500 then some (.d (.tuple (List.replicate k.toNat a).flatten)) else none
  | _, _ => none
theorem Reps.flat {K : PySem.W.Frag} {F : FS} {H : Hp} {ds : List PyData} {xs : List V} (r : Reps K F H ds xs) : ∀ k : Nat, Reps K F H (List.replicate k ds).flatten (List.replicate k xs).flatten
  | 0 => by simp [Reps]
  | k + 1 => by
    rw [List.replicate_succ, List.replicate_succ, List.flatten_cons, List.flatten_cons]
    exact r.append (Reps.flat r k)

/-- a tuple times an int that is 1 or more -/
theorem tuple_mul1 (l : Addr) (items : Array Value) (n : Nat) (dd : Option Addr) (sl : Array (Option Value)) (u : Tok) :
    Meets (Builtin.«tuple.__mul__» ⟨[.ref l, .int 1 u], []⟩) (fun _ R s => s.heap.get? l = some { cls := .type "tuple", dict := dd, data := .seq items n, slots := sl } ∧
      R (.ok (.ret (Value.ref l))) s) :=
  .of_wp fun prog w A R s h => by
    obtain ⟨hp, g, d, tk, os⟩ := s
    obtain ⟨hl, h⟩ := h
    have f1 := AutoSeq1.idx_int
    have c0 : (decide ((1 : Int) < -(2 ^ 63)) || decide ((1 : Int) ≥ 2 ^ 63)) = false := by decide
    have c1 : (items.isEmpty || (1 : Int) == 1) = true := by simp
    wp_walk using wpAny_loadPart' hl
    repeat (first
      | (refine wpAny_ite_false (decide_eq_false (by rw [c0]; exact Bool.false_ne_true)) ?_; wp_walk using wpAny_loadPart' hl)
      | (refine wpAny_ite_true (decide_eq_true c1) ?_; wp_walk using wpAny_loadPart' hl))
    exact ⟨_, rfl, h⟩
def rRepA (K : PySem.W.Frag) : R2 := fun x y H Q => ∃ l k xs, x = .ref l ∧ y = .int k ∧ SqT K H l xs ∧ xs ≠ [] ∧ 1 ≤ k ∧ k ≤ 2000 ∧ xs.length ≤ 500 ∧ (k = 1 → Q (.ref l) H) ∧ (2 ≤ k → ∀ p, H p = none → Q (.ref p) (upd H p (.tup (List.replicate k.toNat xs).flatten)))
theorem op_repA {X : Cx} : OpR X (binaryOp .Mult) (rRepA X.K) := by
  intro pins s σ H x y v u Q inv rx ry hw
  obtain ⟨l, n, ws, rfl, rfl, tup, ne, n1, n2, w500, qOne, qMany⟩ := hw
  cases rx
  obtain ⟨tok, rfl⟩ := ry
  obtain ⟨us, rel, ⟨⟨oc, od, oda, osl⟩, hob, ecls, cnt, edat⟩, _⟩ := inv.tuple tup
  simp only at ecls edat
  subst ecls edat
  have lens : us.length = ws.length := rel.length.symm
  by_cases one : n = 1
  · subst one
    exact wpAny_binaryOp_repeat_ref (T := "tuple") (U := "int") (by decide) ⟨_, hob, rfl⟩ (fun z => typeIs_int z 1 tok) noFill_tuple_mul F.fills_int_mul F.slot_int_rmul repeat_tuple F.slot_int_index.lookup
      (call_meets F.slot_int_rmul (typeIs_int s 1 tok) F.entry_int_rmul (F.args_int_rmul_2 _ _) (int_rmul_tuple 1 tok l us.toArray cnt od osl)
        ⟨hob, rfl, ⟨_, hob, rfl⟩, call_meets F.slot_tuple_mul ⟨_, hob, rfl⟩ F.entry_tuple_mul (F.args_tuple_mul_2 _ _) (tuple_mul1 l us.toArray cnt od osl tok) ⟨hob, ⟨.ref l, H, inv, rfl, qOne rfl⟩⟩⟩)
  · have some_ : us.toArray.isEmpty = false := by
      cases us with
      | cons c d => rfl
      | nil => exact absurd (List.eq_nil_of_length_eq_zero lens.symm) ne
    have big : ws.length * n.toNat ≤ 500 * 2000 := Nat.mul_le_mul w500 (by omega)
    have szs : us.toArray.size = ws.length := by rw [List.size_toArray, lens]
    have prod : ((us.toArray.size : Nat) : Int) * n = ((ws.length * n.toNat : Nat) : Int) := by
      rw [szs, Int.natCast_mul, show ((n.toNat : Nat) : Int) = n by omega]
    have whole : (List.replicate n.toNat us).flatten.length = n.toNat * ws.length := by rw [PyProof.Rows.lm_len_rep_flat, lens]
    have room : n.toNat * ws.length ≤ sizeLine := by rw [sizeLine_eq, Nat.mul_comm]; omega
    have d0 : (decide (n < -(2 ^ 63)) || decide (n ≥ 2 ^ 63)) = false := by simp; omega
    have d1 : (us.toArray.isEmpty || n == 1) = false := by rw [some_]; simpa using one
    have d2 : (decide (n ≤ 0) || us.toArray.isEmpty) = false := by rw [some_]; simp; omega
    have d4 : Builtin.Tuple.tupleTooMany (((us.toArray.size : Nat) : Int) * n) = false := by
      rw [prod]
      unfold Builtin.Tuple.tupleTooMany
      rw [sizeLine_eq]
      refine decide_eq_false fun z => ?_
      omega
    refine wpAny_binaryOp_repeat_ref (T := "tuple") (U := "int") (by decide) ⟨_, hob, rfl⟩ (fun z => typeIs_int z n tok) noFill_tuple_mul F.fills_int_mul F.slot_int_rmul repeat_tuple F.slot_int_index.lookup
      (call_meets F.slot_int_rmul (typeIs_int s n tok) F.entry_int_rmul (F.args_int_rmul_2 _ _) (int_rmul_tuple n tok l us.toArray cnt od osl)
        ⟨hob, rfl, ⟨_, hob, rfl⟩, call_meets F.slot_tuple_mul ⟨_, hob, rfl⟩ F.entry_tuple_mul (F.args_tuple_mul_2 _ _) (tuple_mulW l us.toArray cnt od osl n tok d0 d1 d2 (by rw [prod]; omega) d4 (by rw [size_rep, List.size_toArray, whole]; exact room)) ⟨hob, ?_⟩⟩)
    rw [size_rep]
    have room2 : (List.replicate n.toNat ws).flatten.length ≤ sizeLine := by rw [PyProof.Rows.lm_len_rep_flat]; exact room
    exact ⟨.ref s.heap.objs.size, _, inv.laid (t' := s.toks) (o := .tup (List.replicate n.toNat ws).flatten) (fun b z q => Heap.get?_push_of_some _ q) (Nat.le_refl _) ⟨room2, _, rel.rep n.toNat, IsTup.new _ _⟩, rfl, qMany (by omega) _ (inv.hok.fresh (Nat.le_refl _))⟩
def rMulA (K : PySem.W.Frag) : R2 := fun x y H Q => rI CMul (fun i j => .int (i * j)) x y H Q ∨ (rRep x y H Q ∨ rRepA K x y H Q)
theorem op_hmul {X : Cx} : OpR X (binaryOp .Mult) (rMulA X.K) := OpR.or op_mul (OpR.or op_rep op_repA)
theorem hmul_ok {n : Bool} {K : PySem.W.Frag} (hn : n = true := by rfl) : Op2 n K (rMulA K) hMul := by
  intro T B F H st x y a b d Q w vx vy e q
  unfold hMul at e
  split at e
  · split at e
    · rename_i hc
      cases e
      have e1 := vx.int; have e2 := vy.int
      subst e1; subst e2
      exact .inl ⟨_, _, rfl, rfl, cMul_ok hc, q _ H F .refl (repR_of rfl (by simp [RepD, Rep]))⟩
    · cases e
  · split at e
    · rename_i hz
      cases e
      obtain ⟨a, xs, rfl, s1, r1⟩ := vx.list
      have e2 := vy.int
      subst e2
      exact .inr (.inl ⟨a, _, xs, rfl, rfl, s1, hz.1, hz.2.1, by rw [r1.length]; exact hz.2.2, fun p hp => q _ _ F (.alloc hp) (repR_new w.live hp ((r1.flat _).grow w (.alloc hp)) hn)⟩)
    · cases e
  · split at e
    · rename_i hz
      cases e
      obtain ⟨a, xs, rfl, s1, r1⟩ := vx.tuple
      have e2 := vy.int
      subst e2
      refine .inr (.inr ⟨a, _, xs, rfl, rfl, SqT.of s1, fun h0 => hz.1 ?_, hz.2.1, hz.2.2.1, by rw [r1.length]; exact hz.2.2.2, fun k1 => ?_, fun _ p hp => q _ _ F (.alloc hp) (repR_of rfl (rep_tup ((r1.flat _).grow w (.alloc hp))))⟩)
      rotate_left
      · subst k1
        refine q _ H F .refl (repR_of rfl ?_)
        have e : ∀ l : List PyData, (List.replicate (Int.toNat 1) l).flatten = l := fun l => List.append_nil l
        rw [e]
        exact rep_tup0 s1 r1
      have z := r1.length
      rw [h0] at z
      exact List.eq_nil_of_length_eq_zero z.symm
    · cases e
  · cases e

/-! ### comparisons -/
def vBool (b : Bool) : Option DV := some (.d (.bool b))
def hCmp (p : Int → Int → Bool) : DV → DV → Option DV
  | .d (.int i), .d (.int j) => vBool (p i j)
  | _, _ => none
theorem hcmp_ok {n : Bool} {K : PySem.W.Frag} {g : Int → Int → Bool} : Op2 n K (rI0 fun i j => .bl (g i j)) (hCmp g) := by
  intro T B F H st x y a b d Q w vx vy e q
  unfold hCmp at e
  split at e
  · cases e
    have e1 := vx.int; have e2 := vy.int
    subst e1; subst e2
    exact ⟨_, _, rfl, rfl, q _ H F .refl (repR_of rfl (by simp [RepD, Rep]))⟩
  · cases e
def asInts : List PyData → Option (List Int)
  | [] => some []
  | .int i :: r => (asInts r).map (i :: ·)
  | _ => none
theorem asInts_some : ∀ {ds : List PyData} {ns : List Int}, asInts ds = some ns → ds = ns.map PyData.int
  | [], ns, h => by simp [asInts] at h; subst h; rfl
  | d :: r, ns, h => by
    cases d <;> simp only [asInts] at h <;> try (cases h; done)
    cases e : asInts r with
    | none => rw [e] at h; cases h
    | some ms =>
      rw [e] at h
      cases h
      rw [asInts_some e]
      rfl
@[simp] theorem asInts_map (ns : List Int) : asInts (ns.map PyData.int) = some ns := by
  induction ns with
  | nil => rfl
  | cons n r ih => simp [asInts, ih]
theorem Reps.ofInts {K : PySem.W.Frag} {F : FS} {H : Hp} : ∀ {ns : List Int} {xs : List V}, Reps K F H (ns.map PyData.int) xs → xs = ns.map V.int
  | [], xs, h => by simpa [Reps] using h
  | n :: r, xs, h => by
    simp only [List.map_cons, Reps, Rep] at h
    obtain ⟨v, t, rfl, rfl, h2⟩ := h
    rw [Reps.ofInts h2]
    rfl
theorem Reps.mkInts {K : PySem.W.Frag} {F : FS} {H : Hp} : ∀ (ns : List Int), Reps K F H (ns.map PyData.int) (ns.map V.int)
  | [] => by simp [Reps]
  | n :: r => by
    simp only [List.map_cons, Reps, Rep]
    exact ⟨_, _, rfl, rfl, Reps.mkInts r⟩
/-- < of ints, of tuples of ints -/
def hLt : DV → DV → Option DV
  | .d (.int i), .d (.int j) => vBool (decide (i < j))
  | .d (.tuple a), .d (.tuple b) => match asInts a, asInts b with
    | some ns, some ms => vBool (HT.lexLt ns ms)
    | _, _ => none
  | _, _ => none
def rLtA (K : PySem.W.Frag) : R2 := fun x y H Q => rI0 (fun i j => .bl (decide (i < j))) x y H Q ∨ rLtT K x y H Q
theorem op_hlt {X : Cx} {k : Nat} (hr : Room k X.A) : OpR X (compareOp .Lt) (rLtA X.K) := OpR.or op_lt (op_ltT hr.units0)
theorem hlt_ok {n : Bool} {K : PySem.W.Frag} : Op2 n K (rLtA K) hLt := by
  intro T B F H st x y a b d Q w vx vy e q
  unfold hLt at e
  split at e
  · cases e
    have e1 := vx.int; have e2 := vy.int
    subst e1; subst e2
    exact .inl ⟨_, _, rfl, rfl, q _ H F .refl (repR_of rfl (by simp [RepD, Rep]))⟩
  · split at e
    · rename_i ns ms h1 h2
      cases e
      obtain ⟨a, xs, rfl, s1, r1⟩ := vx.tuple
      obtain ⟨b, ys, rfl, s2, r2⟩ := vy.tuple
      rw [asInts_some h1] at r1
      rw [asInts_some h2] at r2
      have e1 := r1.ofInts; have e2 := r2.ofInts
      subst e1; subst e2
      exact .inr ⟨a, b, ns, ms, rfl, rfl, SqT.of s1, SqT.of s2, q _ H F .refl (repR_of rfl (by simp [RepD, Rep]))⟩
    · cases e
  · cases e
/-- ==, !=, at any depth -/
def hEq : DV → DV → Option DV
  | .d a, .d b => if (SeqAt.shaped a && SeqAt.shaped b) = true then vBool (PyData.eqv a b) else none
  | _, _ => none
def hNe : DV → DV → Option DV
  | .d a, .d b => if (SeqAt.shaped a && SeqAt.shaped b) = true then vBool (!PyData.eqv a b) else none
  | _, _ => none
theorem heq_ok {n : Bool} {K : PySem.W.Frag} : Op2 n K (rEqD K) hEq := by
  intro T B F H st x y a b d Q w vx vy e q
  unfold hEq at e
  split at e
  · split at e
    · rename_i hs
      rw [Bool.and_eq_true] at hs
      cases e
      exact ⟨_, _, vx.dp, vy.dp, hs.1, hs.2, q _ H F .refl (repR_of rfl (by simp [RepD, Rep]))⟩
    · cases e
  · cases e
theorem hne_ok {n : Bool} {K : PySem.W.Frag} : Op2 n K (rNeD K) hNe := by
  intro T B F H st x y a b d Q w vx vy e q
  unfold hNe at e
  split at e
  · split at e
    · rename_i hs
      rw [Bool.and_eq_true] at hs
      cases e
      exact ⟨_, _, vx.dp, vy.dp, hs.1, hs.2, q _ H F .refl (repR_of rfl (by simp [RepD, Rep]))⟩
    · cases e
  · cases e
/-- is, is not: of None, of truth values -/
def isNoneD : PyData → Bool
  | .none => true
  | _ => false
def hIs : DV → DV → Option DV
  | .d (.bool a), .d (.bool b) => vBool (decide (a = b))
  | .d a, .d .none => vBool (isNoneD a)
  | _, _ => none
def hIsNot : DV → DV → Option DV
  | .d (.bool a), .d (.bool b) => vBool (!decide (a = b))
  | .d a, .d .none => vBool (!isNoneD a)
  | _, _ => none
def rIsA : R2 := fun x y H Q => rIsB x y H Q ∨ (y = .non ∧ Q (.bl (decide (x = .non))) H)
def rIsNA : R2 := fun x y H Q => rNotB x y H Q ∨ (y = .non ∧ Q (.bl (!decide (x = .non))) H)
theorem op_his {X : Cx} : OpR X (compareOp .Is) rIsA := OpR.or op_isBl op_isN
theorem op_hisN {X : Cx} : OpR X (compareOp .IsNot) rIsNA := OpR.or op_notBl op_notN
theorem View.non_iff {K : PySem.W.Frag} {B : Bs} {F : FS} {H : Hp} {x : V} {a : PyData} (h : View K B F H (.d a) x) : decide (x = .non) = isNoneD a := by
  cases a with
  | none => rw [h.none]; rfl
  | bool b => rw [h.bool]; rfl
  | int b => rw [h.int]; rfl
  | str b => rw [h.str]; rfl
  | list ds => obtain ⟨a, xs, rfl, _⟩ := h.list; rfl
  | tuple ds => obtain ⟨a, xs, rfl, _⟩ := h.tuple; rfl
  | dict ds => exact h.dict.elim
theorem his_ok {n : Bool} {K : PySem.W.Frag} : Op2 n K rIsA hIs := by
  intro T B F H st x y a b d Q w vx vy e q
  unfold hIs at e
  split at e
  · cases e
    have e1 := vx.bool; have e2 := vy.bool
    subst e1; subst e2
    exact .inl ⟨_, _, rfl, rfl, q _ H F .refl (repR_of rfl (by simp [RepD, Rep]))⟩
  · cases e
    refine .inr ⟨vy.none, ?_⟩
    rw [vx.non_iff]
    exact q _ H F .refl (repR_of rfl (by simp [RepD, Rep]))
  · cases e
theorem hisN_ok {n : Bool} {K : PySem.W.Frag} : Op2 n K rIsNA hIsNot := by
  intro T B F H st x y a b d Q w vx vy e q
  unfold hIsNot at e
  split at e
  · cases e
    have e1 := vx.bool; have e2 := vy.bool
    subst e1; subst e2
    exact .inl ⟨_, _, rfl, rfl, q _ H F .refl (repR_of rfl (by simp [RepD, Rep]))⟩
  · cases e
    refine .inr ⟨vy.none, ?_⟩
    rw [vx.non_iff]
    exact q _ H F .refl (repR_of rfl (by simp [RepD, Rep]))
  · cases e
/-- in: of a list, deep; of a tuple of flat items -/
def flatD : PyData → Bool
  | .none => true
  | .bool _ => true
  | .int _ => true
  | .str _ => true
  | _ => false
def hIn : DV → DV → Option DV
  | .d a, .d (.list ds) => if (SeqAt.shaped a && SeqAt.shaped (.list ds)) = true then vBool (ds.any fun z => PyData.eqv z a) else none
  | .d a, .d (.tuple ds) => if (flatD a && ds.all flatD) = true then vBool (ds.any fun z => PyData.eqv z a) else none
  | _, _ => none
def hNotIn : DV → DV → Option DV
  | .d a, .d (.list ds) => if (SeqAt.shaped a && SeqAt.shaped (.list ds)) = true then vBool (!ds.any fun z => PyData.eqv z a) else none
  | .d a, .d (.tuple ds) => if (flatD a && ds.all flatD) = true then vBool (!ds.any fun z => PyData.eqv z a) else none
  | _, _ => none
def rInA (K : PySem.W.Frag) : R2 := fun x y H Q => rInD K x y H Q ∨ L2.rIn K false x y H Q
def rNotInA (K : PySem.W.Frag) : R2 := fun x y H Q => rNotInD K x y H Q ∨ L2.rIn K true x y H Q
theorem op_hin {X : Cx} {k : Nat} (hr : Room k X.A) : OpR X (compareOp .In) (rInA X.K) := OpR.or (op_inD (by have := hr.un; omega)) op_in_seq
theorem op_hnotin {X : Cx} {k : Nat} (hr : Room k X.A) : OpR X (compareOp .NotIn) (rNotInA X.K) := OpR.or (op_notInD (by have := hr.un; omega)) op_notIn_seq
theorem View.flat {K : PySem.W.Frag} {B : Bs} {F : FS} {H : Hp} {x : V} {a : PyData} (h : View K B F H (.d a) x) (q : flatD a = true) : Rep K F H a x := by
  cases a <;> simp [flatD] at q <;> (rcases h with h | ⟨b, y, e, rfl, h⟩ <;> first | exact h | (cases e; exact h.2.elim))
theorem flat_rep {K : PySem.W.Frag} {F : FS} {H : Hp} {x : V} {a : PyData} (h : Rep K F H a x) (q : flatD a = true) : flatV x = true := by
  cases a <;> simp [flatD] at q <;> (simp only [Rep] at h; subst h; rfl)
theorem flat_eqv {K : PySem.W.Frag} {F : FS} {H : Hp} {x y : V} {a b : PyData} (h : Rep K F H a x) (q : flatD a = true) (h' : Rep K F H b y) (q' : flatD b = true) : eqV x y = PyData.eqv a b := by
  cases a <;> simp [flatD] at q <;> (simp only [Rep] at h; subst h) <;> (cases b <;> simp [flatD] at q' <;> (simp only [Rep] at h'; subst h'; simp [eqV, PyData.eqv]))
theorem Reps.flat_all {K : PySem.W.Frag} {F : FS} {H : Hp} : ∀ {ds : List PyData} {xs : List V}, Reps K F H ds xs → ds.all flatD = true → xs.all flatV = true
  | [], xs, h, q => by simp only [Reps] at h; subst h; rfl
  | d :: ds, xs, h, q => by
    simp only [Reps] at h
    obtain ⟨v, r, rfl, h1, h2⟩ := h
    simp only [List.all_cons, Bool.and_eq_true] at q ⊢
    exact ⟨flat_rep h1 q.1, Reps.flat_all h2 q.2⟩
theorem Reps.flat_in {K : PySem.W.Frag} {F : FS} {H : Hp} {x : V} {a : PyData} (hx : Rep K F H a x) (qx : flatD a = true) : ∀ {ds : List PyData} {xs : List V}, Reps K F H ds xs → ds.all flatD = true → inV x xs = ds.any fun z => PyData.eqv z a
  | [], xs, h, q => by simp only [Reps] at h; subst h; rfl
  | d :: ds, xs, h, q => by
    simp only [Reps] at h
    obtain ⟨v, r, rfl, h1, h2⟩ := h
    simp only [List.all_cons, Bool.and_eq_true] at q
    have ih := Reps.flat_in hx qx h2 q.2
    unfold inV at ih ⊢
    rw [List.any_cons, List.any_cons, ih, flat_eqv h1 q.1 hx qx]
theorem hin_ok {n : Bool} {K : PySem.W.Frag} : Op2 n K (rInA K) hIn := by
  intro T B F H st x y a b d Q w vx vy e q
  unfold hIn at e
  split at e
  · split at e
    · rename_i hs
      rw [Bool.and_eq_true] at hs
      cases e
      exact .inl ⟨_, _, vx.dp, vy.dp, hs.1, hs.2, q _ H F .refl (repR_of rfl (by simp [RepD, Rep]))⟩
    · cases e
  · split at e
    · rename_i hs
      rw [Bool.and_eq_true] at hs
      cases e
      obtain ⟨b, ys, rfl, s2, r2⟩ := vy.tuple
      have hx := vx.flat hs.1
      refine .inr ⟨b, ys, rfl, .inr (SqT.of s2), flat_rep hx hs.1, r2.flat_all hs.2, ?_⟩
      rw [if_neg Bool.false_ne_true, r2.flat_in hx hs.1 hs.2]
      exact q _ H F .refl (repR_of rfl (by simp [RepD, Rep]))
    · cases e
  · cases e
theorem hnotin_ok {n : Bool} {K : PySem.W.Frag} : Op2 n K (rNotInA K) hNotIn := by
  intro T B F H st x y a b d Q w vx vy e q
  unfold hNotIn at e
  split at e
  · split at e
    · rename_i hs
      rw [Bool.and_eq_true] at hs
      cases e
      exact .inl ⟨_, _, vx.dp, vy.dp, hs.1, hs.2, q _ H F .refl (repR_of rfl (by simp [RepD, Rep]))⟩
    · cases e
  · split at e
    · rename_i hs
      rw [Bool.and_eq_true] at hs
      cases e
      obtain ⟨b, ys, rfl, s2, r2⟩ := vy.tuple
      have hx := vx.flat hs.1
      refine .inr ⟨b, ys, rfl, .inr (SqT.of s2), flat_rep hx hs.1, r2.flat_all hs.2, ?_⟩
      rw [if_pos rfl, r2.flat_in hx hs.1 hs.2]
      exact q _ H F .refl (repR_of rfl (by simp [RepD, Rep]))
    · cases e
  · cases e

/-! ### items, slices -/
def hIx : DV → DV → Option DV
  | .d (.list ds), .d (.int i) => (atI ds i).map DV.d
  | .d (.tuple ds), .d (.int i) => (atI ds i).map DV.d
  | .scr ns, .d (.int i) => (atI ns i).map fun n => DV.d (.int n)
  | _, _ => none
theorem Reps.atI {K : PySem.W.Frag} {F : FS} {H : Hp} {ds : List PyData} {xs : List V} {i : Int} {d : PyData} (h : Reps K F H ds xs) (e : L2.atI ds i = some d) : ∃ v, L2.atI xs i = some v ∧ Rep K F H d v := by
  unfold L2.atI at e ⊢
  rw [h.length]
  cases q : ixN ds.length i with
  | none => rw [q] at e; cases e
  | some j =>
    rw [q] at e
    exact h.get e
theorem View.scr {K : PySem.W.Frag} {B : Bs} {F : FS} {H : Hp} {x : V} {ns : List Int} (h : View K B F H (.scr ns) x) : ∃ a, x = .ref a ∧ SqL K H a (ns.map V.int) := by
  rcases h with h | ⟨a, y, e, rfl, h⟩
  · obtain ⟨a, rfl, h⟩ := h
    exact ⟨a, rfl, h.elim (fun h => .inl h.2) (fun h => h H)⟩
  · cases e
theorem hix_ok {n : Bool} {K : PySem.W.Frag} (hn : n = false := by rfl) : Op2 n K (L2.rIx K) hIx := by
  subst hn
  intro T B F H st x y a b d Q w vx vy e q
  unfold hIx at e
  split at e
  · obtain ⟨a, xs, rfl, s1, r1⟩ := vx.list
    have e2 := vy.int
    subst e2
    rename_i ds i
    cases hd : L2.atI ds i with
    | none => rw [hd] at e; cases e
    | some d0 =>
      rw [hd] at e
      cases e
      obtain ⟨v, e3, r3⟩ := r1.atI hd
      exact .inl ⟨a, xs, _, v, rfl, rfl, SqL.of s1, e3, q v H F .refl r3⟩
  · obtain ⟨a, xs, rfl, s1, r1⟩ := vx.tuple
    have e2 := vy.int
    subst e2
    rename_i ds i
    cases hd : L2.atI ds i with
    | none => rw [hd] at e; cases e
    | some d0 =>
      rw [hd] at e
      cases e
      obtain ⟨v, e3, r3⟩ := r1.atI hd
      exact .inr (.inl ⟨a, xs, _, v, rfl, rfl, SqT.of s1, e3, q v H F .refl r3⟩)
  · obtain ⟨a, rfl, s1⟩ := vx.scr
    have e2 := vy.int
    subst e2
    rename_i ns i
    cases hd : L2.atI ns i with
    | none => rw [hd] at e; cases e
    | some d0 =>
      rw [hd] at e
      cases e
      refine .inl ⟨a, _, _, .int d0, rfl, rfl, s1, ?_, q _ H F .refl (by simp [RepR, RepD, Rep])⟩
      unfold L2.atI at hd ⊢
      rw [List.length_map]
      cases hj : ixN ns.length i with
      | none => rw [hj] at hd; cases hd
      | some j =>
        rw [hj] at hd
        show (ns.map V.int)[j]? = _
        rw [List.getElem?_map, show ns[j]? = some d0 from hd]
        rfl
  · cases e
def cutD {α : Type} (xs : List α) (lo hi : Option Int) : List α := (xs.drop (HT.sIx xs.length 0 lo)).take (HT.sIx xs.length xs.length hi - HT.sIx xs.length 0 lo)
theorem Reps.cut {K : PySem.W.Frag} {F : FS} {H : Hp} {ds : List PyData} {xs : List V} (lo hi : Option Int) (h : Reps K F H ds xs) : Reps K F H (cutD ds lo hi) (cutV xs lo hi) := by
  unfold cutD cutV
  rw [h.length]
  exact (h.drop _).take _
/-- a slice by values -/
def OpS (n : Bool) (K : PySem.W.Frag) (r : V → Option Int → Option Int → Hp → VK → Prop) (h : DV → Option Int → Option Int → Option DV) : Prop := ∀ (T : FS) (B : Bs) (F : FS) (H : Hp) (st : Sto) (x : V) (lo hi : Option Int) (a d : DV) (Q : VK), Wd K T B F H st → View K B F H a x → h a lo hi = some d →
  (∀ v H' F', Grow B F F' H H' → RepR n K B F' H H' d v → Q v H') → r x lo hi H Q
def hSl : DV → Option Int → Option Int → Option DV
  | .d (.list ds), lo, hi => some (.d (.list (cutD ds lo hi)))
  | .d (.tuple ds), lo, hi => some (.d (.tuple (cutD ds lo hi)))
  | .scr ns, lo, hi => some (.d (.list ((cutD ns lo hi).map PyData.int)))
  | _, _, _ => none
def rSlX (K : PySem.W.Frag) : V → Option Int → Option Int → Hp → VK → Prop := fun x lo hi H Q => rSlL K x lo hi H Q ∨ rSlA K x lo hi H Q
theorem sl_hsl {X : Cx} : SlR X (rSlX X.K) := fun pins s σ H x v vl vu lo hi sl Q I rx hs pl pu h => h.elim (sl_list pins s σ H x v vl vu lo hi sl Q I rx hs pl pu) (sl_tupA pins s σ H x v vl vu lo hi sl Q I rx hs pl pu)
theorem cut_map {α β : Type} (f : α → β) (xs : List α) (lo hi : Option Int) : cutD (xs.map f) lo hi = (cutD xs lo hi).map f := by
  unfold cutD
  rw [List.length_map, List.map_take, List.map_drop]
theorem cut_whole {α : Type} (xs : List α) (lo hi : Option Int) (h : HT.sIx xs.length 0 lo = 0 ∧ HT.sIx xs.length xs.length hi = xs.length) : cutD xs lo hi = xs := by
  unfold cutD
  rw [h.1, h.2]
  simp
theorem scr_cut {K : PySem.W.Frag} {F : FS} {H : Hp} (ns : List Int) (lo hi : Option Int) : Reps K F H ((cutD ns lo hi).map PyData.int) (cutV (ns.map V.int) lo hi) := by
  have e2 : cutV (ns.map V.int) lo hi = (cutD ns lo hi).map V.int := cut_map V.int ns lo hi
  rw [e2]
  exact Reps.mkInts _
theorem hsl_ok {n : Bool} {K : PySem.W.Frag} (hn : n = true := by rfl) : OpS n K (rSlX K) hSl := by
  intro T B F H st x lo hi a d Q w vx e q
  unfold hSl at e
  split at e
  · cases e
    obtain ⟨a, xs, rfl, s1, r1⟩ := vx.list
    exact .inl ⟨a, xs, rfl, SqL.of s1, fun p hp => q _ _ F (.alloc hp) (repR_new w.live hp ((r1.cut lo hi).grow w (.alloc hp)) hn)⟩
  · cases e
    obtain ⟨a, xs, rfl, s1, r1⟩ := vx.tuple
    refine .inr ⟨a, xs, rfl, SqT.of s1, fun hw => ?_, fun _ p hp => q _ _ F (.alloc hp) (repR_of rfl (rep_tup ((r1.cut lo hi).grow w (.alloc hp))))⟩
    rw [r1.length] at hw
    refine q _ H F .refl (repR_of rfl (rep_tup0 s1 ?_))
    rw [cut_whole _ _ _ hw]
    exact r1
  · cases e
    obtain ⟨a, rfl, s1⟩ := vx.scr
    exact .inl ⟨a, _, rfl, s1, fun p hp => q _ _ F (.alloc hp) (repR_new w.live hp (scr_cut _ _ _) hn)⟩
  · cases e

/-! ### built-ins -/
section
variable {K : PySem.W.Frag} {B : Bs} {F : FS} {H : Hp}
theorem args1 {a : DV} {xs : List V} (h : RepMs false K B F H [a] xs) : ∃ x, xs = [x] ∧ View K B F H a x := by
  obtain ⟨v, r, rfl, h1, h2⟩ := h
  cases h2
  exact ⟨v, rfl, h1⟩
theorem args2 {a b : DV} {xs : List V} (h : RepMs false K B F H [a, b] xs) : ∃ x y, xs = [x, y] ∧ View K B F H a x ∧ View K B F H b y := by
  obtain ⟨v, r, rfl, h1, h2⟩ := h
  obtain ⟨y, rfl, h3⟩ := args1 h2
  exact ⟨v, y, rfl, h1, h3⟩
end
def hLen : List DV → Option DV
  | [.d (.list ds)] => some (.d (.int ds.length))
  | [.d (.tuple ds)] => some (.d (.int ds.length))
  | [.scr ns] => some (.d (.int ns.length))
  | _ => none
def rLenA (K : PySem.W.Frag) : List V → Hp → VK → Prop := fun xs H Q => ∃ p ys, xs = [.ref p] ∧ (SqL K H p ys ∨ SqT K H p ys) ∧ Q (.int ys.length) H
theorem hlen_ok {n : Bool} {K : PySem.W.Frag} : OpN n K (rLenA K) hLen := by
  intro T B F H st xs as d Q w vx e q
  unfold hLen at e
  split at e
  · cases e
    obtain ⟨x, rfl, v⟩ := args1 vx
    obtain ⟨a, ys, rfl, s1, r1⟩ := v.list
    refine ⟨a, ys, rfl, .inl (SqL.of s1), ?_⟩
    rw [r1.length]
    exact q _ H F .refl (repR_of rfl (by simp [RepD, Rep]))
  · cases e
    obtain ⟨x, rfl, v⟩ := args1 vx
    obtain ⟨a, ys, rfl, s1, r1⟩ := v.tuple
    refine ⟨a, ys, rfl, .inr (SqT.of s1), ?_⟩
    rw [r1.length]
    exact q _ H F .refl (repR_of rfl (by simp [RepD, Rep]))
  · cases e
    obtain ⟨x, rfl, v⟩ := args1 vx
    obtain ⟨a, rfl, s1⟩ := v.scr
    refine ⟨a, _, rfl, .inl s1, ?_⟩
    rw [List.length_map]
    exact q _ H F .refl (repR_of rfl (by simp [RepD, Rep]))
  · cases e
def hAbs : List DV → Option DV
  | [.d (.int i)] => some (.d (.int (if i < 0 then -i else i)))
  | _ => none
theorem habs_ok {n : Bool} {K : PySem.W.Frag} : OpN n K (fun xs H Q => ∃ i, xs = [.int i] ∧ Q (.int (if i < 0 then -i else i)) H) hAbs := by
  intro T B F H st xs as d Q w vx e q
  unfold hAbs at e
  split at e
  · cases e
    obtain ⟨x, rfl, v⟩ := args1 vx
    have e1 := v.int
    subst e1
    exact ⟨_, rfl, q _ H F .refl (repR_of rfl (by simp [RepD, Rep]))⟩
  · cases e
def hIntOf : List DV → Option DV
  | [.d (.int i)] => some (.d (.int i))
  | [.d (.bool b)] => some (.d (.int (if b then 1 else 0)))
  | _ => none
theorem hintof_ok {n : Bool} {K : PySem.W.Frag} : OpN n K (fun xs H Q => (∃ i, xs = [.int i] ∧ Q (.int i) H) ∨ ∃ k, xs = [.bl k] ∧ Q (.int (if k then 1 else 0)) H) hIntOf := by
  intro T B F H st xs as d Q w vx e q
  unfold hIntOf at e
  split at e
  · cases e
    obtain ⟨x, rfl, v⟩ := args1 vx
    have e1 := v.int
    subst e1
    exact .inl ⟨_, rfl, q _ H F .refl (repR_of rfl (by simp [RepD, Rep]))⟩
  · cases e
    obtain ⟨x, rfl, v⟩ := args1 vx
    have e1 := v.bool
    subst e1
    exact .inr ⟨_, rfl, q _ H F .refl (repR_of rfl (by simp [RepD, Rep]))⟩
  · cases e
def hTuple : List DV → Option DV
  | [.d (.list ds)] => some (.d (.tuple ds))
  | [.d (.tuple ds)] => some (.d (.tuple ds))
  | _ => none
theorem htuple_ok {n : Bool} {K : PySem.W.Frag} : OpN n K (fun xs H Q => ∃ p ys, xs = [.ref p] ∧ ((SqL K H p ys ∧ ∀ l, H l = none → Q (.ref l) (upd H l (.tup ys))) ∨ (SqT K H p ys ∧ Q (.ref p) H))) hTuple := by
  intro T B F H st xs as d Q w vx e q
  unfold hTuple at e
  split at e
  · cases e
    obtain ⟨x, rfl, v⟩ := args1 vx
    obtain ⟨a, ys, rfl, s1, r1⟩ := v.list
    exact ⟨a, ys, rfl, .inl ⟨SqL.of s1, fun p hp => q _ _ F (.alloc hp) (repR_of rfl (rep_tup (r1.grow w (.alloc hp))))⟩⟩
  · cases e
    obtain ⟨x, rfl, v⟩ := args1 vx
    obtain ⟨a, ys, rfl, s1, r1⟩ := v.tuple
    exact ⟨a, ys, rfl, .inr ⟨SqT.of s1, q _ H F .refl (repR_of rfl (rep_tup0 s1 r1))⟩⟩
  · cases e
def hList : List DV → Option DV
  | [.d (.list ds)] => some (.d (.list ds))
  | [.d (.tuple ds)] => some (.d (.list ds))
  | _ => none
theorem hlist_ok {n : Bool} {K : PySem.W.Frag} (hn : n = true := by rfl) : OpN n K (fun xs H Q => ∃ p ys, xs = [.ref p] ∧ (SqL K H p ys ∨ SqT K H p ys) ∧ ∀ l, H l = none → Q (.ref l) (upd H l (.lst ys))) hList := by
  intro T B F H st xs as d Q w vx e q
  unfold hList at e
  split at e
  · cases e
    obtain ⟨x, rfl, v⟩ := args1 vx
    obtain ⟨a, ys, rfl, s1, r1⟩ := v.list
    exact ⟨a, ys, rfl, .inl (SqL.of s1), fun p hp => q _ _ F (.alloc hp) (repR_new w.live hp (r1.grow w (.alloc hp)) hn)⟩
  · cases e
    obtain ⟨x, rfl, v⟩ := args1 vx
    obtain ⟨a, ys, rfl, s1, r1⟩ := v.tuple
    exact ⟨a, ys, rfl, .inr (SqT.of s1), fun p hp => q _ _ F (.alloc hp) (repR_new w.live hp (r1.grow w (.alloc hp)) hn)⟩
  · cases e
def maxI : List Int → Int
  | [] => 0
  | [a] => a
  | a :: b :: r => max a (maxI (b :: r))
def minI : List Int → Int
  | [] => 0
  | [a] => a
  | a :: b :: r => min a (minI (b :: r))
theorem maxI_spec : ∀ (l : List Int), l ≠ [] → maxI l ∈ l ∧ ∀ y ∈ l, y ≤ maxI l
  | [a], _ => by simp [maxI]
  | a :: b :: r, _ => by
    obtain ⟨h1, h2⟩ := maxI_spec (b :: r) (by simp)
    simp only [maxI]
    rcases Int.le_total a (maxI (b :: r)) with h | h
    · rw [Int.max_eq_right h]
      exact ⟨List.mem_cons_of_mem _ h1, fun y hy => (List.mem_cons.mp hy).elim (fun e => by rw [e]; exact h) (h2 y)⟩
    · rw [Int.max_eq_left h]
      exact ⟨List.mem_cons_self, fun y hy => (List.mem_cons.mp hy).elim (fun e => by rw [e]; exact Int.le_refl _) (fun q => Int.le_trans (h2 y q) h)⟩
theorem minI_spec : ∀ (l : List Int), l ≠ [] → minI l ∈ l ∧ ∀ y ∈ l, minI l ≤ y
  | [a], _ => by simp [minI]
  | a :: b :: r, _ => by
    obtain ⟨h1, h2⟩ := minI_spec (b :: r) (by simp)
    simp only [minI]
    rcases Int.le_total a (minI (b :: r)) with h | h
    · rw [Int.min_eq_left h]
      exact ⟨List.mem_cons_self, fun y hy => (List.mem_cons.mp hy).elim (fun e => by rw [e]; exact Int.le_refl _) (fun q => Int.le_trans h (h2 y q))⟩
    · rw [Int.min_eq_right h]
      exact ⟨List.mem_cons_of_mem _ h1, fun y hy => (List.mem_cons.mp hy).elim (fun e => by rw [e]; exact h) (h2 y)⟩
def hMax : List DV → Option DV
  | [.d (.list ds)] => match asInts ds with
    | some ns => if ns = [] then none else some (.d (.int (maxI ns)))
    | none => none
  | [.d (.int i), .d (.int j)] => some (.d (.int (if j > i then j else i)))
  | _ => none
def hMin : List DV → Option DV
  | [.d (.list ds)] => match asInts ds with
    | some ns => if ns = [] then none else some (.d (.int (minI ns)))
    | none => none
  | [.d (.int i), .d (.int j)] => some (.d (.int (if j < i then j else i)))
  | _ => none
def rMaxA (K : PySem.W.Frag) : List V → Hp → VK → Prop := fun xs H Q => rMax K xs H Q ∨ (∃ i j, xs = [.int i, .int j] ∧ Q (.int (if j > i then j else i)) H)
def rMinA (K : PySem.W.Frag) : List V → Hp → VK → Prop := fun xs H Q => rMin K xs H Q ∨ (∃ i j, xs = [.int i, .int j] ∧ Q (.int (if j < i then j else i)) H)
theorem cr_hmax {X : Cx} (hc : X.calm = true) : CallR X (.builtin "max") (rMaxA X.K) := CallR.or (cr_max hc) (call_max2 hc)
theorem cr_hmin {X : Cx} (hc : X.calm = true) : CallR X (.builtin "min") (rMinA X.K) := CallR.or (cr_min hc) (call_min2 hc)
theorem hmax_ok {n : Bool} {K : PySem.W.Frag} : OpN n K (rMaxA K) hMax := by
  intro T B F H st xs as d Q w vx e q
  unfold hMax at e
  split at e
  · split at e
    · rename_i ns hns
      split at e
      · cases e
      · rename_i hne
        cases e
        obtain ⟨x, rfl, v⟩ := args1 vx
        obtain ⟨a, ys, rfl, s1, r1⟩ := v.list
        rw [asInts_some hns] at r1
        have e1 := r1.ofInts
        subst e1
        refine .inl ⟨a, ns, rfl, SqL.of s1, List.length_pos_iff.mpr hne, fun m h1 h2 => ?_⟩
        obtain ⟨h3, h4⟩ := maxI_spec ns hne
        have em : m = maxI ns := Int.le_antisymm (h4 m h1) (h2 _ h3)
        rw [em]
        exact q _ H F .refl (repR_of rfl (by simp [RepD, Rep]))
    · cases e
  · cases e
    obtain ⟨x, y, rfl, v1, v2⟩ := args2 vx
    have e1 := v1.int; have e2 := v2.int
    subst e1; subst e2
    exact .inr ⟨_, _, rfl, q _ H F .refl (repR_of rfl (by simp [RepD, Rep]))⟩
  · cases e
theorem hmin_ok {n : Bool} {K : PySem.W.Frag} : OpN n K (rMinA K) hMin := by
  intro T B F H st xs as d Q w vx e q
  unfold hMin at e
  split at e
  · split at e
    · rename_i ns hns
      split at e
      · cases e
      · rename_i hne
        cases e
        obtain ⟨x, rfl, v⟩ := args1 vx
        obtain ⟨a, ys, rfl, s1, r1⟩ := v.list
        rw [asInts_some hns] at r1
        have e1 := r1.ofInts
        subst e1
        refine .inl ⟨a, ns, rfl, SqL.of s1, List.length_pos_iff.mpr hne, fun m h1 h2 => ?_⟩
        obtain ⟨h3, h4⟩ := minI_spec ns hne
        have em : m = minI ns := Int.le_antisymm (h2 _ h3) (h4 m h1)
        rw [em]
        exact q _ H F .refl (repR_of rfl (by simp [RepD, Rep]))
    · cases e
  · cases e
    obtain ⟨x, y, rfl, v1, v2⟩ := args2 vx
    have e1 := v1.int; have e2 := v2.int
    subst e1; subst e2
    exact .inr ⟨_, _, rfl, q _ H F .refl (repR_of rfl (by simp [RepD, Rep]))⟩
  · cases e
/-- isinstance(x, T), T a built-in class -/
def tyD : PyData → String
  | .none => "NoneType"
  | .bool _ => "bool"
  | .int _ => "int"
  | .str _ => "str"
  | .list _ => "list"
  | .tuple _ => "tuple"
  | .dict _ => "dict"
def hIsi (t : String) : DV → Option DV
  | .d a => (kitB (tyD a) t).map fun b => .d (.bool b)
  | _ => none
def rIsi1 (K : PySem.W.Frag) (t : String) : V → Hp → VK → Prop := fun x H Q => rIsi K [x, .ty t] H Q
theorem View.ty {K : PySem.W.Frag} {B : Bs} {F : FS} {H : Hp} {x : V} {a : PyData} (h : View K B F H (.d a) x) : TyX K H x (.type (tyD a)) := by
  refine .base ?_
  cases a with
  | none => rw [h.none]; exact .non
  | bool b => rw [h.bool]; exact .bl b
  | int b => rw [h.int]; exact .int b
  | str b => rw [h.str]; exact .str b
  | list ds => obtain ⟨a, xs, rfl, h1, _⟩ := h.list; exact .lst h1
  | tuple ds => obtain ⟨a, xs, rfl, h1, _⟩ := h.tuple; exact .tup h1
  | dict ds => exact h.dict.elim
theorem hisi_ok {n : Bool} {K : PySem.W.Frag} {t : String} : Op1 n K (rIsi1 K t) (hIsi t) := by
  intro T B F H st x a d Q w vx e q
  unfold hIsi at e
  split at e
  · rename_i a
    cases hk : kitB (tyD a) t with
    | none => rw [hk] at e; cases e
    | some b =>
      rw [hk] at e
      cases e
      exact ⟨x, .ty t, _, _, b, rfl, .ty t, vx.ty, kit_ty hk, q _ H F .refl (repR_of rfl (by simp [RepD, Rep]))⟩
  · cases e
/-- sorted(xs), whole numbers -/
def sortI (l : List Int) : List Int := l.mergeSort (fun a b => decide (a ≤ b))
theorem sorted_eq {l l' : List Int} (h1 : l'.Perm l) (h2 : l'.Pairwise (· ≤ ·)) : l' = sortI l := by
  unfold sortI
  have p : (l.mergeSort fun a b => decide (a ≤ b)).Perm l := List.mergeSort_perm _ _
  have s : (l.mergeSort fun a b => decide (a ≤ b)).Pairwise (fun a b => decide (a ≤ b) = true) := List.pairwise_mergeSort (fun a b c h1 h2 => by simp at *; omega) (fun a b => by simp; omega) l
  have s' : (l.mergeSort fun a b => decide (a ≤ b)).Pairwise (· ≤ ·) := s.imp (fun h => of_decide_eq_true h)
  exact (h1.trans p.symm).eq_of_pairwise (fun a b _ _ h1 h2 => Int.le_antisymm h1 h2) h2 s'
def hSorted : List DV → Option DV
  | [.d (.list ds)] => (asInts ds).map fun ns => .d (.list ((sortI ns).map PyData.int))
  | _ => none
theorem hsorted_ok {n : Bool} {K : PySem.W.Frag} (hn : n = true := by rfl) : OpN n K (rSortedI K) hSorted := by
  intro T B F H st xs as d Q w vx e q
  unfold hSorted at e
  split at e
  · rename_i ds
    cases hns : asInts ds with
    | none => rw [hns] at e; cases e
    | some ns =>
      rw [hns] at e
      cases e
      obtain ⟨x, rfl, v⟩ := args1 vx
      obtain ⟨a, ys, rfl, s1, r1⟩ := v.list
      rw [asInts_some hns] at r1
      have e1 := r1.ofInts
      subst e1
      refine ⟨a, ns, rfl, SqL.of s1, fun ns' p hp hs hn' => ?_⟩
      rw [sorted_eq hp hs]
      exact q _ _ F (.alloc hn') (repR_new w.live hn' (Reps.mkInts _) hn)
  · cases e
theorem bind_some2 {α β : Type} {o : Option α} {k : α → Option β} {b : β} (h : o.bind k = some b) : ∃ a, o = some a ∧ k a = some b := by
  cases o with
  | none => cases h
  | some a => exact ⟨a, rfl, h⟩
end DL

set_option Elab.async false
set_option linter.all false
set_option maxRecDepth 100000
set_option maxHeartbeats 4000000
namespace DL
open PySem PySem.Spec PyProof.Rows L2
section
variable {X : Cx} {T : FS} {W : WX} {m m1 m2 m3 : Bool} {e a b c : Expr} {f g h : DF DV} {pos : Pos}

/-! ### operators -/
theorem de_bin {op : Operator} {r : R2} {h : DV → DV → Option DV} {n : Bool} (ho : OpR X (binaryOp op) r) (hop : Op2 n X.K r h) (ha : DE X T W false a f) (hb : DE X T W false b g) : DE X T W m (.BinOp a op b pos) (fOp2 h f g) := de_op2 (pe_op ho ha.pe hb.pe) hop
theorem do_bin {op : Operator} {r : R2} {h : DV → DV → Option DV} (ho : OpR X (binaryOp op) r) (hop : Op2 true X.K r h) (ha : DE X T W false a f) (hb : DE X T W false b g) : DO X T W (.BinOp a op b pos) (fLst (fOp2 h f g)) := do_op2 (pe_op ho ha.pe hb.pe) hop
theorem de_cmp {op : CmpOp} {r : R2} {h : DV → DV → Option DV} {n : Bool} (ho : OpR X (compareOp op) r) (hop : Op2 n X.K r h) (ha : DE X T W false a f) (hb : DE X T W false b g) (hm : behindInMarks op b = false) : DE X T W m (.Compare a [op] [b] pos) (fOp2 h f g) := de_op2 (pe_cmpR ho ha.pe hb.pe hm) hop
theorem de_ix (ha : DE X T W false a f) (hb : DE X T W false b g) (hs : PlainIx b) : DE X T W m (.Subscript a b pos) (fOp2 hIx f g) := de_op2 (pe_ix ix_seq ha.pe hb.pe hs) hix_ok
def hNeg : DV → Option DV
  | .d (.int i) => some (.d (.int (-i)))
  | _ => none
theorem hneg_ok {K : PySem.W.Frag} : Op1 false K (rU fun i => .int (-i)) hNeg := by
  intro T B F H st x a d Q w vx e q
  unfold hNeg at e
  split at e
  · cases e
    have e1 := vx.int
    subst e1
    exact ⟨_, rfl, q _ H F .refl (repR_of rfl (by simp [RepD, Rep]))⟩
  · cases e
theorem de_neg (ha : DE X T W false a f) : DE X T W m (.UnaryOp .USub a pos) (fOp1 hNeg f) := de_op1 (pe_un un_neg ha.pe) hneg_ok
/-! ### truth values -/
def toB (d : DV) (st : Sto) : Res Bool := match d with
  | .d (.bool b) => .ok b st
  | _ => .no
def fB (f : DF DV) : DF Bool := fun env st => (f env st).bind toB
def ofB (b : Bool) (st : Sto) : Res DV := .ok (.d (.bool b)) st
theorem Go.toB {σ : L2.St} {B : Bs} {F : FS} {H : Hp} {st : Sto} {d : DV} {G : Bool → Sto → Hp → FS → Prop} (h : Go X T W σ B F H (toB d st) G) : ∃ b, d = .d (.bool b) ∧ ∀ H' F', Wd X.K T B F' H' st → Ext B F F' H H' → G b st H' F' := by
  unfold DL.toB at h
  split at h
  · exact ⟨_, rfl, h⟩
  · exact h.elim
theorem tB_of {σ : L2.St} {H : Hp} {Q : Bool → Hp → Prop} (q : tDT X T W (fB f) σ H Q) : tB (tDE X T W m f) σ H Q := by
  obtain ⟨B, env, st, F, sr, q⟩ := q
  refine tDE.go sr q fun d st1 v H1 F1 sr1 x1 r1 q1 => ?_
  obtain ⟨b, rfl, q2⟩ := q1.toB
  have e := (RepM.view r1).bool
  subst e
  exact ⟨b, rfl, q2 H1 F1 sr1.wd .refl⟩
theorem dt_val (h : DE X T W false e f) (he : ∀ whole, isTrue e X.env whole = (do let v ← whole; standAt e.pos; holding [v] (truthy v)) := by intro _; rfl) : DT X T W e (fB f) :=
  ⟨PT.imp (pt_val h.pe he) fun σ H Q q => tB_of q⟩
theorem dt_cmp {op : CmpOp} {r : R2} {h : DV → DV → Option DV} {n : Bool} (ho : OpR X (compareOp op) r) (hop : Op2 n X.K r h) (ha : DE X T W false a f) (hb : DE X T W false b g) (hm : behindInMarks op b = false) : DT X T W (.Compare a [op] [b] pos) (fB (fOp2 h f g)) := by
  refine ⟨PT.imp (pt_cmpR ho ha.pe hb.pe hm) fun σ H Q q => ?_⟩
  have q' := tB_of (m := false) q
  have e : DE X T W false (.Compare a [op] [b] pos) (fOp2 h f g) := de_cmp ho hop ha hb hm
  obtain ⟨B, env, st, F, sr, q⟩ := q
  unfold fB fOp2 at q
  rw [Res.bind_bind] at q
  refine tDE.go sr q fun d1 st1 v1 H1 F1 sr1 x1 r1 q1 => ?_
  rw [Res.bind_bind] at q1
  refine tDE.go sr1 q1 fun d2 st2 v2 H2 F2 sr2 x2 r2 q2 => ?_
  cases hd : h d1 d2 with
  | none => rw [hd] at q2; exact q2.elim
  | some d =>
    rw [hd] at q2
    have q2 : Go X T W σ B F2 H2 (toB d st2) _ := q2
    obtain ⟨b, rfl, q3⟩ := q2.toB
    refine hop T B F2 H2 st2 v1 v2 d1 d2 _ _ sr2.wd (RepM.view (r1.ext sr1.wd x2)) (RepM.view r2) hd fun v H' F' g r => ?_
    have r' : RepD X.K B F' H' (.d (.bool b)) v := by simpa [RepR, isLst] using r
    simp only [RepD, Rep] at r'
    exact ⟨b, r', q3 H' F' (g.wd sr2.wd) g.ext⟩
variable {tf tg : DF Bool}
def fAnd (f g : DF Bool) : DF Bool := fun env st => (f env st).bind fun b st1 => if b = true then g env st1 else .ok false st1
def fOr (f g : DF Bool) : DF Bool := fun env st => (f env st).bind fun b st1 => if b = true then .ok true st1 else g env st1
def fNot (f : DF Bool) : DF Bool := fun env st => (f env st).bind fun b st1 => .ok (!b) st1
theorem tDT.go {β : Type} {k : Bool → Sto → Res β} {σ : L2.St} {H : Hp} {Q : Bool → Hp → Prop} {B : Bs} {env : DEnv} {st : Sto} {F : FS} {G : β → Sto → Hp → FS → Prop} (sr : SR X.K T B env st σ H F)
    (h : Go X T W σ B F H ((tf env st).bind k) G)
    (q : ∀ d st1 H1 F1, SR X.K T B env st1 σ H1 F1 → Ext B F F1 H H1 → Go X T W σ B F1 H1 (k d st1) G → Q d H1) : tDT X T W tf σ H Q :=
  ⟨B, env, st, F, sr, Go.mono (Go.bind h) fun d st1 H1 F1 w1 x1 g => q d st1 H1 F1 (sr.ext x1 w1) x1 g⟩
theorem dw_and1 (h : DT X T W a tf) : DPW X T W (.BoolOp .And [a] pos) tf := ⟨pw_and1 h.pt⟩
theorem dw_or1 (h : DT X T W a tf) : DPW X T W (.BoolOp .Or [a] pos) tf := ⟨pw_or1 h.pt⟩
theorem dw_and {rest : List Expr} (h : DT X T W a tf) (h2 : DPW X T W (.BoolOp .And (b :: rest) pos) tg) : DPW X T W (.BoolOp .And (a :: b :: rest) pos) (fAnd tf tg) := by
  refine ⟨PW.imp (pw_and h.pt h2.pw) fun σ H Q ⟨B, env, st, F, sr, q⟩ => ?_⟩
  refine tDT.go sr q fun d st1 H1 F1 sr1 x1 q1 => ?_
  cases d with
  | true => exact ⟨B, env, st1, F1, sr1, by simpa using q1⟩
  | false =>
    rw [if_neg Bool.false_ne_true] at q1 ⊢
    exact q1 H1 F1 sr1.wd .refl
theorem dw_or {rest : List Expr} (h : DT X T W a tf) (h2 : DPW X T W (.BoolOp .Or (b :: rest) pos) tg) : DPW X T W (.BoolOp .Or (a :: b :: rest) pos) (fOr tf tg) := by
  refine ⟨PW.imp (pw_or h.pt h2.pw) fun σ H Q ⟨B, env, st, F, sr, q⟩ => ?_⟩
  refine tDT.go sr q fun d st1 H1 F1 sr1 x1 q1 => ?_
  cases d with
  | false => exact ⟨B, env, st1, F1, sr1, by simpa using q1⟩
  | true =>
    rw [if_pos rfl] at q1 ⊢
    exact q1 H1 F1 sr1.wd .refl
theorem dt_pw (h : DPW X T W e tf) : DT X T W e tf := ⟨h.pw.pt⟩
theorem dt_not (h : DT X T W a tf) : DT X T W (.UnaryOp .Not a pos) (fNot tf) := by
  refine ⟨PT.imp (pt_not h.pt) fun σ H Q ⟨B, env, st, F, sr, q⟩ => ?_⟩
  exact tDT.go sr q fun d st1 H1 F1 sr1 x1 q1 => q1 H1 F1 sr1.wd .refl
/-! as values -/
def fOfB (f : DF Bool) : DF DV := fun env st => (f env st).bind ofB
def fAndV (f g : DF DV) : DF DV := fun env st => (f env st).bind fun d st1 => (toB d st1).bind fun b st2 => if b = true then g env st2 else .ok (.d (.bool false)) st2
def fOrV (f g : DF DV) : DF DV := fun env st => (f env st).bind fun d st1 => (toB d st1).bind fun b st2 => if b = true then .ok (.d (.bool true)) st2 else g env st2
def fNotV (f : DF DV) : DF DV := fun env st => (f env st).bind fun d st1 => (toB d st1).bind fun b st2 => .ok (.d (.bool (!b))) st2
theorem Go.toBb {σ : L2.St} {B : Bs} {F : FS} {H : Hp} {st : Sto} {d : DV} {β : Type} {k : Bool → Sto → Res β} {G : β → Sto → Hp → FS → Prop} (h : Go X T W σ B F H ((DL.toB d st).bind k) G) : ∃ b, d = .d (.bool b) ∧ Go X T W σ B F H (k b st) G := by
  unfold DL.toB at h
  split at h
  · exact ⟨_, rfl, h⟩
  · exact h.elim
theorem de_one {op : BoolOp} (h : DE X T W m a f) : DE X T W m (.BoolOp op [a] pos) f := ⟨pe_one h.pe⟩
theorem de_and {rest : List Expr} (ha : DE X T W false a f) (hb : DE X T W m (.BoolOp .And (b :: rest) pos) g) : DE X T W m (.BoolOp .And (a :: b :: rest) pos) (fAndV f g) := by
  refine de_of (pe_and ha.pe hb.pe) fun σ H Q B env st F sr q => ?_
  refine tDE.go sr q fun d st1 v H1 F1 sr1 x1 r1 q1 => ?_
  obtain ⟨c, rfl, q2⟩ := q1.toBb
  have e := (RepM.view r1).bool
  subst e
  refine ⟨c, rfl, ?_⟩
  cases c with
  | true =>
    rw [if_pos rfl] at q2 ⊢
    exact ⟨B, env, st1, F1, sr1, q2⟩
  | false =>
    rw [if_neg Bool.false_ne_true] at q2 ⊢
    exact q2 H1 F1 sr1.wd .refl (.bl false) (RepM.of (by simp [RepD, Rep]))
theorem de_or {rest : List Expr} (ha : DE X T W false a f) (hb : DE X T W m (.BoolOp .Or (b :: rest) pos) g) : DE X T W m (.BoolOp .Or (a :: b :: rest) pos) (fOrV f g) := by
  refine de_of (pe_or ha.pe hb.pe) fun σ H Q B env st F sr q => ?_
  refine tDE.go sr q fun d st1 v H1 F1 sr1 x1 r1 q1 => ?_
  obtain ⟨c, rfl, q2⟩ := q1.toBb
  have e := (RepM.view r1).bool
  subst e
  refine ⟨c, rfl, ?_⟩
  cases c with
  | false =>
    rw [if_neg Bool.false_ne_true] at q2 ⊢
    exact ⟨B, env, st1, F1, sr1, q2⟩
  | true =>
    rw [if_pos rfl] at q2 ⊢
    exact q2 H1 F1 sr1.wd .refl (.bl true) (RepM.of (by simp [RepD, Rep]))
theorem de_not (ha : DE X T W false a f) : DE X T W m (.UnaryOp .Not a pos) (fNotV f) := by
  refine de_of (pe_not ha.pe) fun σ H Q B env st F sr q => ?_
  refine tDE.go sr q fun d st1 v H1 F1 sr1 x1 r1 q1 => ?_
  obtain ⟨c, rfl, q2⟩ := q1.toBb
  have e := (RepM.view r1).bool
  subst e
  exact ⟨c, rfl, q2 H1 F1 sr1.wd .refl (.bl (!c)) (RepM.of (by simp [RepD, Rep]))⟩
def fIfE (t : DF Bool) (f g : DF DV) : DF DV := fun env st => (t env st).bind fun b st1 => if b = true then f env st1 else g env st1
theorem de_ifE (hc : DT X T W c tf) (ha : DE X T W m a f) (hb : DE X T W m b g) : DE X T W m (.IfExp c a b pos) (fIfE tf f g) := by
  refine de_of (pe_ifExp hc.pt ha.pe hb.pe) fun σ H Q B env st F sr q => ?_
  refine tDT.go sr q fun d st1 H1 F1 sr1 x1 q1 => ?_
  cases d with
  | true =>
    rw [if_pos rfl] at q1 ⊢
    exact ⟨B, env, st1, F1, sr1, q1⟩
  | false =>
    rw [if_neg Bool.false_ne_true] at q1 ⊢
    exact ⟨B, env, st1, F1, sr1, q1⟩
theorem Go.newBack {σ : L2.St} {B : Bs} {F F1 : FS} {H H1 : Hp} {r : Res DV} {Q : VK} (x1 : Ext B F F1 H H1) (q : Go X T W σ B F1 H1 r fun d _ H' F' => ∀ v, NewL X.K F' H H' d v → Q v H') :
    Go X T W σ B F1 H1 r fun d _ H' F' => ∀ v, NewL X.K F' H1 H' d v → Q v H' := Go.mono q fun d st' H' F' w x q v r => q v (r.back x1)
theorem do_ifE (hc : DT X T W c tf) (ha : DO X T W a f) (hb : DO X T W b g) : DO X T W (.IfExp c a b pos) (fIfE tf f g) := by
  refine ⟨PE.imp (pe_ifExp hc.pt ha.pe hb.pe) fun σ H Q ⟨B, env, st, F, sr, q⟩ => ?_⟩
  refine tDT.go sr q fun d st1 H1 F1 sr1 x1 q1 => ?_
  cases d with
  | true =>
    rw [if_pos rfl] at q1 ⊢
    exact ⟨B, env, st1, F1, sr1, q1.newBack x1⟩
  | false =>
    rw [if_neg Bool.false_ne_true] at q1 ⊢
    exact ⟨B, env, st1, F1, sr1, q1.newBack x1⟩
/-! ### chains -/
def fChain (h h' : DV → DV → Option DV) (f g k : DF DV) : DF DV := fun env st => (f env st).bind fun a st1 => (g env st1).bind fun b st2 => (lift (h a b) st2).bind fun d st3 => (toB d st3).bind fun t st4 =>
  if t = true then (k env st4).bind fun c st5 => lift (h' b c) st5 else .ok (.d (.bool false)) st4
theorem Go.liftb {σ : L2.St} {B : Bs} {F : FS} {H : Hp} {st : Sto} {o : Option DV} {β : Type} {k : DV → Sto → Res β} {G : β → Sto → Hp → FS → Prop} (h : Go X T W σ B F H ((DL.lift o st).bind k) G) : ∃ d, o = some d ∧ Go X T W σ B F H (k d st) G := by
  cases o with
  | none => exact h.elim
  | some d => exact ⟨d, rfl, h⟩
theorem chain_go {op op' : CmpOp} {r r' : R2} {h h' : DV → DV → Option DV} {k : DF DV} (hop : Op2 false X.K r h) (hop' : Op2 false X.K r' h') {σ : L2.St} {H : Hp} {Q : VK} {B : Bs} {env : DEnv} {st : Sto} {F : FS} (sr : SR X.K T B env st σ H F)
    (q : Go X T W σ B F H (fChain h h' f g k env st) fun d _ H' F' => ∀ v, RepM m X.K B F' H' d v → Q v H') : tChain r r' (tDE X T W false f) (tDE X T W false g) (tDE X T W false k) σ H Q := by
  refine tDE.go sr q fun d1 st1 v1 H1 F1 sr1 x1 r1 q1 => ?_
  refine tDE.go sr1 q1 fun d2 st2 v2 H2 F2 sr2 x2 r2 q2 => ?_
  obtain ⟨d, hd, q3⟩ := q2.liftb
  obtain ⟨t, rfl, q4⟩ := q3.toBb
  refine hop T B F2 H2 st2 v1 v2 d1 d2 _ _ sr2.wd (RepM.view (r1.ext sr1.wd x2)) (RepM.view r2) hd fun v H3 F3 g3 r3 => ?_
  have r' : RepD X.K B F3 H3 (.d (.bool t)) v := by simpa [RepR, isLst] using r3
  simp only [RepD, Rep] at r'
  have w3 := g3.wd sr2.wd
  have sr3 := sr2.ext g3.ext w3
  refine ⟨t, r', ?_⟩
  cases t with
  | false =>
    rw [if_neg Bool.false_ne_true] at q4 ⊢
    exact q4 H3 F3 w3 g3.ext (.bl false) (RepM.of (by simp [RepD, Rep]))
  | true =>
    rw [if_pos rfl] at q4 ⊢
    refine tDE.go sr3 (q4.ext g3.ext) fun d3 st4 v3 H4 F4 sr4 x4 r4 q5 => ?_
    obtain ⟨dd, hdd, q6⟩ := Go.lift q5
    exact hop' T B F4 H4 st4 v2 v3 d2 d3 dd Q sr4.wd (RepM.view ((r2.ext sr2.wd g3.ext).ext w3 x4)) (RepM.view r4) hdd fun v H' F' g r => g.end sr4 r q6
theorem de_chain {op op' : CmpOp} {r r' : R2} {h h' : DV → DV → Option DV} {k : DF DV} (ho : OpR X (compareOp op) r) (ho' : OpR X (compareOp op') r') (hop : Op2 false X.K r h) (hop' : Op2 false X.K r' h') (ha : DE X T W false a f) (hb : DE X T W false b g) (hc : DE X T W false c k)
    (hm : lastMarks [op, op'] [b, c] = false := by with_unfolding_all rfl) : DE X T W m (.Compare a [op, op'] [b, c] pos) (fChain h h' f g k) :=
  de_of (pe_chain ho ho' ha.pe hb.pe hc.pe hm) fun σ H Q B env st F sr q => chain_go (op := op) (op' := op') hop hop' sr q
theorem dt_chain {op op' : CmpOp} {r r' : R2} {h h' : DV → DV → Option DV} {k : DF DV} (ho : OpR X (compareOp op) r) (ho' : OpR X (compareOp op') r') (hop : Op2 false X.K r h) (hop' : Op2 false X.K r' h') (ha : DE X T W false a f) (hb : DE X T W false b g) (hc : DE X T W false c k)
    (hm : lastMarks [op, op'] [b, c] = false := by with_unfolding_all rfl) : DT X T W (.Compare a [op, op'] [b, c] pos) (fB (fChain h h' f g k)) := by
  refine ⟨PT.imp (pt_chain ho ho' ha.pe hb.pe hc.pe hm) fun σ H Q ⟨B, env, st, F, sr, q⟩ => ?_⟩
  refine chain_go (m := false) (op := op) (op' := op') hop hop' sr ?_
  refine Go.mono (Go.bind q) fun d st1 H1 F1 w1 x1 q1 v r1 => ?_
  obtain ⟨b, rfl, q2⟩ := q1.toB
  exact ⟨b, (RepM.view r1).bool, q2 H1 F1 w1 .refl⟩
/-! ### slices -/
def tDP (X : Cx) (T : FS) (W : WX) (f : DF (Option Int)) : TO := fun σ H Q => ∃ B env st F, SR X.K T B env st σ H F ∧ Go X T W σ B F H (f env st) fun o _ H' _ => Q o H'
structure DP (X : Cx) (T : FS) (W : WX) (e : Option Expr) (f : DF (Option Int)) : Prop where
  po : PO X e (tDP X T W f)
theorem PO.imp {e : Option Expr} {t t' : TO} (h : PO X e t) (i : ∀ σ H Q, t' σ H Q → t σ H Q) : PO X e t' := ⟨fun pins s σ H Q I w => h.run pins s σ H Q I (i σ H Q w)⟩
def fNoP : DF (Option Int) := fun _ st => .ok none st
def toI (d : DV) (st : Sto) : Res (Option Int) := match d with
  | .d (.int i) => .ok (some i) st
  | _ => .no
def fSomeP (f : DF DV) : DF (Option Int) := fun env st => (f env st).bind toI
theorem dp_none : DP X T W none fNoP := ⟨PO.imp po_none fun σ H Q ⟨B, env, st, F, sr, q⟩ => q H F sr.wd .refl⟩
theorem dp_some (h : DE X T W false e f) : DP X T W (some e) (fSomeP f) := by
  refine ⟨PO.imp (po_some h.pe) fun σ H Q ⟨B, env, st, F, sr, q⟩ => ?_⟩
  refine tDE.go sr q fun d st1 v H1 F1 sr1 x1 r1 q1 => ?_
  unfold DL.toI at q1
  split at q1
  · have e := (RepM.view r1).int
    exact ⟨_, e, q1 H1 F1 sr1.wd .refl⟩
  · exact q1.elim
def fSl (f : DF DV) (l u : DF (Option Int)) : DF DV := fun env st => (f env st).bind fun a st1 => (l env st1).bind fun lo st2 => (u env st2).bind fun hi st3 => lift (hSl a lo hi) st3
theorem tDP.go {lf : DF (Option Int)} {β : Type} {k : Option Int → Sto → Res β} {σ : L2.St} {H : Hp} {Q : Option Int → Hp → Prop} {B : Bs} {env : DEnv} {st : Sto} {F : FS} {G : β → Sto → Hp → FS → Prop} (sr : SR X.K T B env st σ H F)
    (h : Go X T W σ B F H ((lf env st).bind k) G)
    (q : ∀ d st1 H1 F1, SR X.K T B env st1 σ H1 F1 → Ext B F F1 H H1 → Go X T W σ B F1 H1 (k d st1) G → Q d H1) : tDP X T W lf σ H Q :=
  ⟨B, env, st, F, sr, Go.mono (Go.bind h) fun d st1 H1 F1 w1 x1 g => q d st1 H1 F1 (sr.ext x1 w1) x1 g⟩
theorem de_slice {lo hi : Option Expr} {lf uf : DF (Option Int)} {p2 : Pos} (ha : DE X T W false a f) (hl : DP X T W lo lf) (hu : DP X T W hi uf) : DE X T W m (.Subscript a (.Slice lo hi none p2) pos) (fSl f lf uf) := by
  refine de_of (pe_slice sl_hsl ha.pe hl.po hu.po) fun σ H Q B env st F sr q => ?_
  refine tDE.go sr q fun d1 st1 v1 H1 F1 sr1 x1 r1 q1 => ?_
  refine tDP.go sr1 q1 fun l st2 H2 F2 sr2 x2 q2 => ?_
  refine tDP.go sr2 q2 fun u st3 H3 F3 sr3 x3 q3 => ?_
  obtain ⟨d, hd, q4⟩ := Go.lift q3
  exact hsl_ok (n := true) rfl T B F3 H3 st3 v1 l u d1 d Q sr3.wd (RepM.view ((r1.ext sr1.wd x2).ext sr2.wd x3)) hd fun v H' F' g r => g.end sr3 r q4
theorem Go.liftl {σ : L2.St} {B : Bs} {F : FS} {H : Hp} {st : Sto} {o : Option DV} {G : DV → Sto → Hp → FS → Prop} (h : Go X T W σ B F H ((DL.lift o st).bind lstOnly) G) : ∃ d, o = some d ∧ isLst d = true ∧ ∀ H' F', Wd X.K T B F' H' st → Ext B F F' H H' → G d st H' F' := by
  obtain ⟨d, e, q⟩ := h.liftb
  obtain ⟨e2, q⟩ := q.lst
  exact ⟨d, e, e2, q⟩
theorem repR_newL {K : PySem.W.Frag} {B : Bs} {F' : FS} {H H' : Hp} {d : DV} {v : V} (hl : isLst d = true) (r : RepR true K B F' H H' d v) : NewL K F' H H' d v := by
  unfold RepR at r
  rw [hl] at r
  exact r
theorem do_slice {lo hi : Option Expr} {lf uf : DF (Option Int)} {p2 : Pos} (ha : DE X T W false a f) (hl : DP X T W lo lf) (hu : DP X T W hi uf) : DO X T W (.Subscript a (.Slice lo hi none p2) pos) (fLst (fSl f lf uf)) := by
  refine ⟨PE.imp (pe_slice sl_hsl ha.pe hl.po hu.po) fun σ H Q ⟨B, env, st, F, sr, q⟩ => ?_⟩
  unfold fLst fSl at q
  rw [Res.bind_bind] at q
  refine tDE.go sr q fun d1 st1 v1 H1 F1 sr1 x1 r1 q1 => ?_
  rw [Res.bind_bind] at q1
  refine tDP.go sr1 q1 fun l st2 H2 F2 sr2 x2 q2 => ?_
  rw [Res.bind_bind] at q2
  refine tDP.go sr2 q2 fun u st3 H3 F3 sr3 x3 q3 => ?_
  obtain ⟨d, hd, hl, q4⟩ := Go.liftl q3
  exact hsl_ok (n := true) rfl T B F3 H3 st3 v1 l u d1 d Q sr3.wd (RepM.view ((r1.ext sr1.wd x2).ext sr2.wd x3)) hd fun v H' F' g r => q4 H' F' (g.wd sr3.wd) g.ext v ((((repR_newL hl r).back x3).back x2).back x1)
/-! ### built-ins by name -/
variable {es : List Expr} {fs : DF (List DV)}
theorem de_call {r : List V → Hp → VK → Prop} {h : List DV → Option DV} {n : Bool} (pe : PE X e (tCB r (tDA X T W false fs))) (hop : OpN n X.K r h) : DE X T W m e (fOpN h fs) := by
  refine de_of pe fun σ H Q B env st F sr q => ?_
  refine tDA.go sr q fun ds st1 vs H1 F1 sr1 x1 r1 q1 => ?_
  obtain ⟨d, hd, q2⟩ := Go.lift q1
  exact hop T B F1 H1 st1 vs ds d Q sr1.wd r1.view hd fun v H' F' g r => g.end sr1 r q2
theorem do_call {r : List V → Hp → VK → Prop} {h : List DV → Option DV} (pe : PE X e (tCB r (tDA X T W false fs))) (hop : OpN true X.K r h) : DO X T W e (fLst (fOpN h fs)) := by
  refine ⟨PE.imp pe fun σ H Q ⟨B, env, st, F, sr, q⟩ => ?_⟩
  unfold fLst fOpN at q
  rw [Res.bind_bind] at q
  refine tDA.go sr q fun ds st1 vs H1 F1 sr1 x1 r1 q1 => ?_
  obtain ⟨d, hd, hl, q2⟩ := Go.liftl q1
  exact hop T B F1 H1 st1 vs ds d Q sr1.wd r1.view hd fun v H' F' g r => q2 H' F' (g.wd sr1.wd) g.ext v ((repR_newL hl r).back x1)
/-- isinstance(x, T) -/
theorem de_isi {x : Expr} {t : String} {p : Pos} (hg : Gl X "isinstance") (hm : X.mg "isinstance" = none) (hT : PE X b (tC (.ty t))) (ha : DE X T W false x f)
    (he : starEach [x, b] X.env = (false, eval x X.env) :: starEach [b] X.env := by rfl) (he2 : starEach [b] X.env = (false, eval b X.env) :: starEach [] X.env := by rfl) (hpl : (backTo pos (starEach [b] X.env)).any (·.1) = false := by rfl) :
    DE X T W m (.Call (.Name "isinstance" p) [x, b] [] pos) (fOp1 (hIsi t) f) := by
  refine de_of (pe_callB call_isi hg hm (by decide +kernel) (pa_cons ha.pe (pa_cons hT pa_nil he2) he) (by decide) (by decide) he hpl) fun σ H Q B env st F sr q => ?_
  refine tDE.go sr q fun d1 st1 v1 H1 F1 sr1 x1 r1 q1 => ?_
  obtain ⟨d, hd, q2⟩ := Go.lift q1
  exact hisi_ok (n := false) T B F1 H1 st1 v1 d1 d Q sr1.wd (RepM.view r1) hd fun v H' F' g r => g.end sr1 r q2
/-! ### displays -/
def allD : List DV → Option (List PyData)
  | [] => some []
  | .d x :: r => (allD r).map (x :: ·)
  | _ => none
theorem RepMs.reps {K : PySem.W.Frag} {B : Bs} {F : FS} {H : Hp} : ∀ {ds : List DV} {vs : List V} {xs : List PyData}, RepMs true K B F H ds vs → allD ds = some xs → Reps K F H xs vs
  | [], vs, xs, h, e => by
    simp [allD] at e
    subst e
    have h : vs = [] := h
    subst h
    simp [Reps]
  | d :: ds, vs, xs, h, e => by
    obtain ⟨v, r, rfl, h1, h2⟩ := h
    cases d with
    | d x =>
      simp only [allD] at e
      cases hr : allD ds with
      | none => rw [hr] at e; cases e
      | some ys =>
        rw [hr] at e
        cases e
        simp only [Reps]
        exact ⟨v, r, rfl, h1, RepMs.reps h2 hr⟩
    | loc => simp [allD] at e
    | scr ns => simp [allD] at e
def hTup (ds : List DV) : Option DV := (allD ds).bind fun xs => if xs.length ≤ sizeLine then some (.d (.tuple xs)) else none
def hLst (ds : List DV) : Option DV := (allD ds).bind fun xs => if xs.length ≤ sizeLine then some (.d (.list xs)) else none
theorem de_tup {k : Nat} (h : DA X T W true es fs) : DE X T W m (.Tuple es k pos) (fOpN hTup fs) := by
  refine de_of (pe_tup h.pa) fun σ H Q B env st F sr q => ?_
  refine tDA.go sr q fun ds st1 vs H1 F1 sr1 x1 r1 q1 => ?_
  obtain ⟨d, hd, q2⟩ := Go.lift q1
  obtain ⟨xs, h1, h2⟩ := bind_some2 hd
  split at h2
  · rename_i hz
    cases h2
    have rs := r1.reps h1
    refine ⟨by rw [rs.length]; exact hz, fun p hp => ?_⟩
    exact (Grow.alloc hp).end (n := false) sr1 (repR_of rfl (rep_tup (rs.grow sr1.wd (.alloc hp)))) q2
  · cases h2
theorem do_lst (h : DA X T W true es fs) : DO X T W (.List es pos) (fOpN hLst fs) := by
  refine ⟨PE.imp (pe_lst h.pa) fun σ H Q ⟨B, env, st, F, sr, q⟩ => ?_⟩
  refine tDA.go sr q fun ds st1 vs H1 F1 sr1 x1 r1 q1 => ?_
  obtain ⟨d, hd, q2⟩ := Go.lift q1
  obtain ⟨xs, h1, h2⟩ := bind_some2 hd
  split at h2
  · rename_i hz
    cases h2
    have rs := r1.reps h1
    refine ⟨by rw [rs.length]; exact hz, fun p hp => ?_⟩
    have n := repR_newL rfl (repR_new (n := true) (B := B) sr1.wd.live hp (rs.grow sr1.wd (.alloc hp)))
    exact q2 _ F1 (sr1.wd.alloc hp) (Ext.alloc hp) _ (n.back x1)
  · cases h2
/-! ### the draws -/
def fLocIx (f g : DF DV) : DF DV := fun env st => (f env st).bind fun a st1 => (g env st1).bind fun b st2 => match a, b with
  | .loc, .d (.int i) => lift ((atI st2 i).map DV.d) st2
  | _, _ => .no
theorem de_locIx (ha : DE X T W true a f) (hb : DE X T W false b g) (hs : PlainIx b) : DE X T W m (.Subscript a b pos) (fLocIx f g) := by
  refine de_of (pe_ix ix_seq ha.pe hb.pe hs) fun σ H Q B env st F sr q => ?_
  refine tDE.go sr q fun d1 st1 v1 H1 F1 sr1 x1 r1 q1 => ?_
  refine tDE.go sr1 q1 fun d2 st2 v2 H2 F2 sr2 x2 r2 q2 => ?_
  split at q2
  · obtain ⟨d, hd, q3⟩ := Go.lift q2
    rename_i i
    cases ha : L2.atI st2 i with
    | none => rw [ha] at hd; cases hd
    | some x =>
      rw [ha] at hd
      cases hd
      obtain ⟨p, hp, rfl⟩ := r1
      obtain ⟨xs, h1, h2⟩ := sr2.wd.sto p hp
      have e := (RepM.view r2).int
      subst e
      obtain ⟨v, h3, h4⟩ := h2.atI ha
      exact .inl ⟨p, xs, _, v, rfl, rfl, SqL.of h1, h3, q3 H2 F2 sr2.wd .refl v (RepM.of h4)⟩
  · exact q2.elim
end
end DL

set_option Elab.async false
set_option linter.all false
set_option maxRecDepth 100000
set_option maxHeartbeats 4000000
namespace DL
open PySem PySem.Spec PyProof.Rows L2

/-! ### another record of what is fixed, the same draws -/
section
variable {K : PySem.W.Frag} {T : FS} {B B' : Bs} {F F' : FS} {H H' : Hp} {st : Sto}
theorem Wd.re (w : Wd K T B F H st) (e : B'.dr = B.dr) : Wd K T B' F H st := ⟨w.live, fun a f => by rw [e]; exact w.fdr a f, fun a q => w.sto a (by rw [← e]; exact q), w.tabs⟩
theorem Ext.re (x : Ext B F F' H H') (e : B'.dr = B.dr) : Ext B' F F' H H' :=
  ⟨fun a o h t d => x.keep a o h t (by rw [← e]; exact d), x.sub, x.new, fun a d => x.draws a (by rw [← e]; exact d), fun a ps h d => x.tbl a ps h (by rw [← e]; exact d)⟩
theorem RepD.re {d : DV} {v : V} (r : RepD K B F H d v) (e : B'.dr = B.dr) : RepD K B' F H d v := by
  cases d with
  | d x => exact r
  | loc => obtain ⟨a, h1, h2⟩ := r; exact ⟨a, by rw [e]; exact h1, h2⟩
  | scr ns => exact r
theorem RepMs.re : ∀ {ds : List DV} {vs : List V}, RepMs true K B F H ds vs → B'.dr = B.dr → RepMs true K B' F H ds vs
  | [], vs, h, e => h
  | d :: ds, vs, h, e => by
    obtain ⟨v, r, e1, h1, h2⟩ := h
    exact ⟨v, r, e1, RepD.re h1 e, RepMs.re h2 e⟩
end

/-! ### a def's promise -/
def GoF (mg : Str → Option Value) (K : PySem.W.Frag) (T : FS) (nw : Bool) (B : Bs) (F : FS) (H : Hp) (r : Res DV) (Q : VK) (E : XK) : Prop :=
  match r with
  | .ok d st' => ∀ v H' F', Wd K T B F' H' st' → Ext B F F' H H' → (if nw = true then NewL K F' H H' d v else RepD K B F' H' d v) → Q v H'
  | .exc c st' => ∀ C, mg c = some (.ref C) → ∀ H' F', Wd K T B F' H' st' → Ext B F F' H H' → E (.ref C) none H'
  | .no => False
/-- called with the data ds it does what g says; n: it hands back a new list -/
def spOf (mg : Str → Option Value) (K : PySem.W.Frag) (T : FS) (nw : Bool) (n : Nat) (g : List DV → Sto → Res DV) : Sp := fun vs H Q E => ∃ B F ds st, ds.length = n ∧ Wd K T B F H st ∧ RepMs true K B F H ds vs ∧ GoF mg K T nw B F H (g ds st) Q E
section
variable {X : Cx} {T : FS} {W : WX} {m m1 m2 : Bool} {e a b c : Expr} {f g h : DF DV} {pos : Pos} {es : List Expr} {fs : DF (List DV)}
def fOwn (n : Nat) (g : List DV → Sto → Res DV) (fs : DF (List DV)) : DF DV := fun env st => (fs env st).bind fun ds st1 => if ds.length = n then g ds st1 else .no
theorem own_go {n : Nat} {g : List DV → Sto → Res DV} {nw : Bool} {σ : L2.St} {H : Hp} {Q : VK} {G : DV → Sto → Hp → FS → Prop} {B : Bs} {env : DEnv} {st : Sto} {F : FS} (sr : SR X.K T B env st σ H F) (q : Go X T W σ B F H (fOwn n g fs env st) G)
    (i : ∀ d st' v H1 F1 H' F', Ext B F F1 H H1 → Wd X.K T B F' H' st' → Ext B F1 F' H1 H' → (if nw = true then NewL X.K F' H1 H' d v else RepD X.K B F' H' d v) → G d st' H' F' → Q v H') :
    tCallS (spOf X.mg X.K T nw n g) (WE W) (tDA X T W true fs) σ H Q := by
  refine tDA.go sr q fun ds st1 vs H1 F1 sr1 x1 r1 q1 => ?_
  split at q1
  · rename_i hn
    refine ⟨B, F1, ds, st1, hn, sr1.wd, r1, ?_⟩
    cases hg : g ds st1 with
    | no => rw [hg] at q1; exact q1
    | exc c s => rw [hg] at q1; exact fun C hC H' F' w x => q1 C hC H' F' w x
    | ok d s =>
      rw [hg] at q1
      exact fun v H' F' w x r => i d s v H1 F1 H' F' x1 w x r (q1 H' F' w x)
  · exact q1.elim
theorem de_own {n : Nat} {g : List DV → Sto → Res DV} (pe : PE X e (tCallS (spOf X.mg X.K T false n g) (WE W) (tDA X T W true fs))) : DE X T W m e (fOwn n g fs) :=
  de_of pe fun σ H Q B env st F sr q => own_go (nw := false) sr q fun d st' v H1 F1 H' F' x1 w x r q => q v (RepM.of r)
theorem do_own {n : Nat} {g : List DV → Sto → Res DV} (pe : PE X e (tCallS (spOf X.mg X.K T true n g) (WE W) (tDA X T W true fs))) : DO X T W e (fOwn n g fs) :=
  ⟨PE.imp pe fun σ H Q ⟨B, env, st, F, sr, q⟩ => own_go (nw := true) sr q fun d st' v H1 F1 H' F' x1 w x r q => q v (NewL.back x1 (by simpa using r))⟩
end

/-! ### statements -/
inductive SRes where
  | nx (env : DEnv) (st : Sto)
  | bk (env : DEnv) (st : Sto)
  | ct (env : DEnv) (st : Sto)
  | rt (d : DV) (st : Sto)
  | exc (c : Str) (st : Sto)
  | no
abbrev SF := DEnv → Sto → SRes
def SRes.andThen (r : SRes) (k : SF) : SRes := match r with
  | .nx env st => k env st
  | r => r
def Res.thn {α : Type} (r : Res α) (k : α → Sto → SRes) : SRes := match r with
  | .ok a st => k a st
  | .exc c st => .exc c st
  | .no => .no
/-- what a def hands back -/
structure FinR (K : PySem.W.Frag) (T : FS) (B : Bs) (st : Sto) (H : Hp) (F : FS) : Prop where
  wd : Wd K T B F H st
  base : ∀ a o, B.H0 a = some o → ¬ isTbl o → B.dr ≠ some a → H a = some o
  btbl : ∀ a ps, B.H0 a = some (.tbl ps) → B.dr ≠ some a → ∃ qs, H a = some (.tbl qs)
  fsub : ∀ a, B.F0 a → F a
  fnew : ∀ a, F a → B.F0 a ∨ B.H0 a = none
theorem SR.fin {K : PySem.W.Frag} {T : FS} {B : Bs} {env : DEnv} {st : Sto} {σ : L2.St} {H : Hp} {F : FS} (s : SR K T B env st σ H F) : FinR K T B st H F := ⟨s.wd, s.base, s.btbl, s.fsub, s.fnew⟩
structure SExt (F F' : FS) (H H' : Hp) : Prop where
  sub : ∀ a, F a → F' a
  pk : PK F H H'
theorem SExt.refl {F : FS} {H : Hp} : SExt F F H H := ⟨fun _ f => f, fun _ _ h _ _ => h⟩
theorem SExt.trans {F F1 F2 : FS} {H H1 H2 : Hp} (a : SExt F F1 H H1) (b : SExt F1 F2 H1 H2) : SExt F F2 H H2 :=
  ⟨fun c f => b.sub c (a.sub c f), fun c o h q t => b.pk c o (a.pk c o h q t) (q.imp (a.sub c) id) t⟩
theorem SExt.of {K : PySem.W.Frag} {T : FS} {B : Bs} {F F' : FS} {H H' : Hp} {st : Sto} (w : Wd K T B F H st) (e : Ext B F F' H H') : SExt F F' H H' := ⟨e.sub, w.pk e⟩
def GoS (X : Cx) (T : FS) (W : WX) (nw : Bool) (D : Ends) (B : Bs) (F : FS) (H : Hp) (r : SRes) : Prop :=
  match r with
  | .nx env st => ∀ σ' H' F', SR X.K T B env st σ' H' F' → SExt F F' H H' → D.nx σ' H'
  | .bk env st => ∀ σ' H' F', SR X.K T B env st σ' H' F' → SExt F F' H H' → D.bk σ' H'
  | .ct env st => ∀ σ' H' F', SR X.K T B env st σ' H' F' → SExt F F' H H' → D.ct σ' H'
  | .rt d st => ∀ v H' F', FinR X.K T B st H' F' → (if nw = true then NewL X.K F' B.H0 H' d v else RepD X.K B F' H' d v) → D.rt v H'
  | .exc c st => ∀ C, X.mg c = some (.ref C) → ∀ σ' H' F', FinR X.K T B st H' F' → W (.ref C) none σ' H'
  | .no => False
def tDS (X : Cx) (T : FS) (W : WX) (nw : Bool) (g : SF) : TS := fun D σ H => ∃ B env st F, SR X.K T B env st σ H F ∧ GoS X T W nw D B F H (g env st)
structure DS (X : Cx) (T : FS) (W : WX) (nw : Bool) (s : Stmt) (g : SF) : Prop where
  ps : PS X s (tDS X T W nw g)
structure DSs (X : Cx) (T : FS) (W : WX) (nw : Bool) (s : List Stmt) (g : SF) : Prop where
  ps : PSs X s (tDS X T W nw g)
section
variable {X : Cx} {T : FS} {W : WX} {nw : Bool} {D D' : Ends} {B : Bs} {F F' F1 : FS} {H H' H1 : Hp} {σ : L2.St} {st : Sto} {env : DEnv}
theorem GoS.ext {r : SRes} (h : GoS X T W nw D B F H r) (x : SExt F F1 H H1) : GoS X T W nw D B F1 H1 r := by
  cases r with
  | nx env st => exact fun σ' H' F' s e => h σ' H' F' s (x.trans e)
  | bk env st => exact fun σ' H' F' s e => h σ' H' F' s (x.trans e)
  | ct env st => exact fun σ' H' F' s e => h σ' H' F' s (x.trans e)
  | rt d st => exact h
  | exc c st => exact h
  | no => exact h
/-- an expression's result, then a statement's -/
theorem GoS.thn {α : Type} {r : Res α} {k : α → Sto → SRes} (h : GoS X T W nw D B F H (r.thn k)) (sr : SR X.K T B env st σ H F) :
    Go X T W σ B F H r (fun d st1 H1 F1 => GoS X T W nw D B F1 H1 (k d st1)) := by
  cases r with
  | no => exact h
  | exc c s =>
    refine fun C hC H' F' w x => ?_
    exact h C hC σ H' F' (sr.ext x w).fin
  | ok d s => exact fun H1 F1 w x => GoS.ext h (SExt.of sr.wd x)
def gSeq (g k : SF) : SF := fun env st => (g env st).andThen k
def gNop : SF := fun env st => .nx env st
theorem dss_nil : DSs X T W nw [] gNop := ⟨PSs.imp pss_nil fun D σ H ⟨B, env, st, F, sr, q⟩ => q σ H F sr .refl⟩
theorem dss_one {s : Stmt} {g : SF} (h : DS X T W nw s g) : DSs X T W nw [s] g := ⟨pss_one h.ps⟩
theorem dss_cons {s : Stmt} {rest : List Stmt} {g k : SF} (h : DS X T W nw s g) (h2 : DSs X T W nw rest k) : DSs X T W nw (s :: rest) (gSeq g k) := by
  refine ⟨PSs.imp (pss_cons h.ps h2.ps) fun D σ H ⟨B, env, st, F, sr, q⟩ => ⟨B, env, st, F, sr, ?_⟩⟩
  unfold gSeq at q
  cases hg : g env st with
  | nx env1 st1 =>
    rw [hg] at q
    exact fun σ' H' F' s x => ⟨B, env1, st1, F', s, GoS.ext q x⟩
  | bk env1 st1 => rw [hg] at q; exact q
  | ct env1 st1 => rw [hg] at q; exact q
  | rt d st1 => rw [hg] at q; exact q
  | exc c s => rw [hg] at q; exact q
  | no => rw [hg] at q; exact q
/-- a slot set -/
theorem SR.set {K : PySem.W.Frag} (sr : SR K T B env st σ H F) {i : Nat} {s : Slot} {o : Option V} {fp : List Addr} (hs : SlotAt K B F H s o fp)
    (hf : ∀ a ∈ fp, ¬ F a ∧ B.dr ≠ some a ∧ B.H0 a = none ∧ H a ≠ none) (hn : ∀ fps : Nat → List Addr, (∀ i s, env[i]? = some s → ∃ o, σ[i]? = some o ∧ SlotAt K B F H s o (fps i)) → (∀ i a, a ∈ fps i → ¬ F a ∧ B.dr ≠ some a ∧ B.H0 a = none ∧ H a ≠ none) → ∀ j a, j ≠ i → j < env.length → a ∈ fps j → a ∉ fp) :
    SR K T B (env.set i s) st (σ.set i o) H F := by
  obtain ⟨fps, h1, h2, h3⟩ := sr.slots
  refine ⟨sr.wd, sr.base, sr.btbl, sr.fsub, sr.fnew, by rw [List.length_set, List.length_set]; exact sr.len, fun k => if k = i then fp else if k < env.length then fps k else [], fun k s' h => ?_, fun k l a hk hl => ?_, fun k a hk => ?_⟩
  · by_cases hki : k = i
    · subst hki
      have hlt : k < env.length := by
        have := (List.getElem?_eq_some_iff.mp h).1
        rwa [List.length_set] at this
      rw [List.getElem?_set_self hlt] at h
      cases h
      refine ⟨o, List.getElem?_set_self (by rw [sr.len]; exact hlt), ?_⟩
      show SlotAt K B F H s o (if k = k then fp else _)
      rw [if_pos rfl]
      exact hs
    · rw [List.getElem?_set_ne (Ne.symm hki)] at h
      obtain ⟨o', h4, h5⟩ := h1 k s' h
      refine ⟨o', by rw [List.getElem?_set_ne (Ne.symm hki)]; exact h4, ?_⟩
      show SlotAt K B F H s' o' (if k = i then fp else if k < env.length then fps k else [])
      rw [if_neg hki, if_pos (List.getElem?_eq_some_iff.mp h).1]
      exact h5
  · have key : ∀ (k : Nat) (a : Addr), a ∈ (if k = i then fp else if k < env.length then fps k else []) → (k = i ∧ a ∈ fp) ∨ (k ≠ i ∧ k < env.length ∧ a ∈ fps k) := fun k a h => by
      by_cases hk : k = i
      · rw [if_pos hk] at h
        exact .inl ⟨hk, h⟩
      · rw [if_neg hk] at h
        by_cases hl : k < env.length
        · rw [if_pos hl] at h
          exact .inr ⟨hk, hl, h⟩
        · rw [if_neg hl] at h
          exact absurd h (by simp)
    rcases key k a hk with ⟨e1, m1⟩ | ⟨e1, l1, m1⟩ <;> rcases key l a hl with ⟨e2, m2⟩ | ⟨e2, l2, m2⟩
    · rw [e1, e2]
    · exact absurd m1 (hn fps h1 h3 l a e2 l2 m2)
    · exact absurd m2 (hn fps h1 h3 k a e1 l1 m1)
    · exact h2 k l a m1 m2
  · have hk : a ∈ (if k = i then fp else if k < env.length then fps k else []) := hk
    by_cases hki : k = i
    · rw [if_pos hki] at hk
      exact hf a hk
    · rw [if_neg hki] at hk
      by_cases hl : k < env.length
      · rw [if_pos hl] at hk
        exact h3 k a hk
      · rw [if_neg hl] at hk
        exact absurd hk (by simp)
theorem SR.setF {K : PySem.W.Frag} (sr : SR K T B env st σ H F) {i : Nat} {d : DV} {v : V} (h : RepD K B F H d v) : SR K T B (env.set i (.frz d)) st (σ.set i (some v)) H F :=
  sr.set (fp := []) ⟨rfl, v, rfl, h⟩ (fun a h => absurd h (by simp)) (fun _ _ _ _ _ _ _ _ h => absurd h (by simp))
def gSet (i : Nat) (f : DF DV) : SF := fun env st => (f env st).thn fun d st1 => .nx (env.set i (.frz d)) st1
def toOwn (d : DV) : Option Slot := match d with
  | .d (.list ds) => some (.own (.list ds))
  | _ => none
def gOwn (i : Nat) (f : DF DV) : SF := fun env st => (f env st).thn fun d st1 => match d with
  | .d (.list ds) => .nx (env.set i (.own (.list ds))) st1
  | _ => .no
variable {e : Expr} {f : DF DV} {m : Bool} {pos : Pos}
theorem ds_set {s : Stmt} {i : Nat} (pe : PS X s (tAsg (tDE X T W true f) (gName i))) : DS X T W nw s (gSet i f) := by
  refine ⟨PS.imp pe fun D σ H ⟨B, env, st, F, sr, q⟩ => ⟨B, env, st, F, sr, ?_⟩⟩
  refine Go.mono (GoS.thn q sr) fun d st1 H1 F1 w1 x1 q1 v r1 => ?_
  exact q1 (σ.set i (some v)) H1 F1 ((sr.ext x1 w1).setF r1) .refl
theorem ds_own {s : Stmt} {i : Nat} (pe : PS X s (tAsg (tDO X T W f) (gName i))) : DS X T W nw s (gOwn i f) := by
  refine ⟨PS.imp pe fun D σ H ⟨B, env, st, F, sr, q⟩ => ⟨B, env, st, F, sr, ?_⟩⟩
  refine Go.mono (GoS.thn q sr) fun d st1 H1 F1 w1 x1 q1 v r1 => ?_
  obtain ⟨p, ds, xs, rfl, rfl, hn, hf, h1, h2⟩ := id r1
  have sr1 := sr.ext x1 w1
  refine q1 (σ.set i (some (.ref p))) H1 F1 ?_ .refl
  -- the same, the draws as they are behind
  obtain ⟨fps, k1, k2, k3⟩ := sr.slots
  have hd : B.dr ≠ some p := fun q => by
    obtain ⟨xs, z, _⟩ := sr.wd.sto p q
    rw [hn] at z
    cases z
  have h0 : B.H0 p = none := by
    cases q : B.H0 p with
    | none => rfl
    | some o =>
      rcases tbl_or o with t | t
      · obtain ⟨ps, rfl⟩ := isTbl_eq t
        obtain ⟨qs, z⟩ := sr.btbl p ps q hd
        rw [hn] at z; cases z
      · have z := sr.base p o q t hd
        rw [hn] at z; cases z
  refine sr1.set (fp := [p]) ⟨p, rfl, rfl, hd, xs, h1, h2⟩ (fun a ha => ?_) (fun gps g1 g3 j a hj hjl ha hm => ?_)
  · rw [List.mem_singleton.mp ha]
    exact ⟨hf, hd, h0, by rw [h1]; simp⟩
  · have ea := List.mem_singleton.mp hm
    subst ea
    obtain ⟨s, hs⟩ : ∃ s, env[j]? = some s := ⟨env[j], List.getElem?_eq_getElem hjl⟩
    obtain ⟨o, e2, e3⟩ := g1 j s hs
    obtain ⟨o', e2', e3'⟩ := k1 j s hs
    rw [e2] at e2'
    cases e2'
    have : a ∈ fps j := by
      cases s with
      | un => rw [show gps j = [] from e3] at ha; simp at ha
      | frz v => rw [show gps j = [] from e3.1] at ha; simp at ha
      | pin w => rw [show gps j = [] from e3.1] at ha; simp at ha
      | obj l y =>
        obtain ⟨b, b1, b2, _⟩ := e3
        obtain ⟨c, c1, c2, _⟩ := e3'
        rw [b2] at c2
        cases c2
        rw [b1] at ha
        rw [c1]
        exact ha
      | own y =>
        obtain ⟨b, b1, b2, _⟩ := e3
        obtain ⟨c, c1, c2, _⟩ := e3'
        rw [b2] at c2
        cases c2
        rw [b1] at ha
        rw [c1]
        exact ha
    exact (k3 j a this).2.2.2 hn
/-- a list of one's own, changed -/
theorem SR.mut (sr : SR X.K T B env st σ H F) {i : Nat} {x : PyData} (hi : env[i]? = some (.own x)) {a : Addr} (ha : σ[i]? = some (some (.ref a))) {ds : List PyData} {ys : List V} (r : Reps X.K F H ds ys) (hm : ∃ xs, H a = some (.lst xs)) :
    SR X.K T B (env.set i (.own (.list ds))) st σ (upd H a (.lst ys)) F ∧ SExt F F H (upd H a (.lst ys)) := by
  obtain ⟨fps, h1, h2, h3⟩ := sr.slots
  obtain ⟨xs, hx⟩ := hm
  obtain ⟨o, e1, e2⟩ := h1 i _ hi
  rw [ha] at e1
  cases e1
  obtain ⟨b, b1, b2, b3⟩ := e2
  cases b2
  have hmem : a ∈ fps i := by rw [b1]; simp
  obtain ⟨nF, nd, n0, _⟩ := h3 i a hmem
  have pk : PK F H (upd H a (.lst ys)) := fun c o h q t => by
    refine Eq.trans (upd_ne fun z => ?_) h
    subst z
    rcases q with q | q
    · exact nF q
    · rw [hx] at h; cases h; exact q
  have at_ : ∀ c, c ≠ a → upd H a (.lst ys) c = H c := fun c h => upd_ne h
  refine ⟨⟨⟨fun c f => ?_, sr.wd.fdr, fun c q => ?_, fun P q => ?_⟩, fun c o h t d => ?_, fun c ps h d => ?_, sr.fsub, sr.fnew, by rw [List.length_set]; exact sr.len, fps, fun k s h => ?_, h2, fun k c hc => ?_⟩, ⟨fun _ f => f, pk⟩⟩
  · by_cases z : c = a
    · rw [z, upd_same]; simp
    · rw [at_ c z]; exact sr.wd.live c f
  · obtain ⟨zs, z1, z2⟩ := sr.wd.sto c q
    have z : c ≠ a := fun z => nd (by rw [← z]; exact q)
    exact ⟨zs, by rw [at_ c z]; exact z1, Reps.pk pk (fun _ f => f) _ _ z2⟩
  · obtain ⟨ps, z1, z2⟩ := sr.wd.tabs P q
    refine ⟨ps, ?_, z2⟩
    rw [at_ P fun z => by rw [z, hx] at z1; cases z1]
    exact z1
  · rw [at_ c fun z => by rw [z, n0] at h; cases h]
    exact sr.base c o h t d
  · rw [at_ c fun z => by rw [z, n0] at h; cases h]
    exact sr.btbl c ps h d
  · by_cases hk : k = i
    · subst hk
      have hlt : k < env.length := (List.getElem?_eq_some_iff.mp hi).1
      rw [List.getElem?_set_self hlt] at h
      cases h
      refine ⟨some (.ref a), ha, a, b1, rfl, nd, ys, upd_same, Reps.pk pk (fun _ f => f) _ _ r⟩
    · rw [List.getElem?_set_ne (Ne.symm hk)] at h
      obtain ⟨o', e4, e5⟩ := h1 k s h
      refine ⟨o', e4, ?_⟩
      cases s with
      | un => exact e5
      | pin w => exact e5
      | obj l y =>
        obtain ⟨c, f1, f2, f4, f3⟩ := e5
        have z : c ≠ a := fun z => hk (h2 k i a (by rw [f1, z]; simp) hmem)
        exact ⟨c, f1, f2, f4, f3.keep (fun o q _ => by rw [at_ c z]; exact q) pk fun _ f => f⟩
      | frz v =>
        obtain ⟨f1, w, f2, f3⟩ := e5
        refine ⟨f1, w, f2, ?_⟩
        cases v with
        | d y => exact Rep.pk pk (fun _ f => f) y w f3
        | loc => exact f3
        | scr ns =>
          obtain ⟨c, rfl, f3⟩ := f3
          refine ⟨c, rfl, f3.imp (fun ⟨f, rd⟩ => ⟨f, ?_⟩) id⟩
          rcases rd with rd | ⟨oo, rd⟩
          · exact .inl (pk c _ rd (.inl f) (by simp [isTbl]))
          · exact .inr ⟨oo, pk c _ rd (.inl f) (by simp [isTbl])⟩
      | own y =>
        obtain ⟨c, f1, f2, f4, f3⟩ := e5
        refine ⟨c, f1, f2, f4, ?_⟩
        cases y <;> first | exact f3.elim | skip
        obtain ⟨zs, z1, z2⟩ := f3
        have z : c ≠ a := fun z => hk (h2 k i a (by rw [f1, z]; simp) hmem)
        exact ⟨zs, by rw [at_ c z]; exact z1, Reps.pk pk (fun _ f => f) _ _ z2⟩
  · obtain ⟨z1, z2, z3, z4⟩ := h3 k c hc
    refine ⟨z1, z2, z3, ?_⟩
    by_cases z : c = a
    · rw [z, upd_same]; simp
    · rw [at_ c z]; exact z4
def dat1 : DV → Option PyData
  | .d x => some x
  | _ => none
/-- xs.append(e) -/
def gAppend (i : Nat) (f : DF DV) : SF := fun env st => match env[i]? with
  | some (.own (.list ds)) => (f env st).thn fun d st1 => match d with
    | .d x => if ds.length < sizeLine then .nx (env.set i (.own (.list (ds ++ [x])))) st1 else .no
    | _ => .no
  | _ => .no
theorem SR.ownAt (sr : SR X.K T B env st σ H F) {i : Nat} {ds : List PyData} (hi : env[i]? = some (.own (.list ds))) : ∃ a xs, σ[i]? = some (some (.ref a)) ∧ H a = some (.lst xs) ∧ Reps X.K F H ds xs ∧ B.dr ≠ some a := by
  obtain ⟨fps, h1, h2, h3⟩ := sr.slots
  obtain ⟨o, e1, a, b1, rfl, nd, xs, e3, e4⟩ := h1 i _ hi
  exact ⟨a, xs, e1, e3, e4, nd⟩
theorem ds_append {s : Stmt} {i : Nat} (ps : PS X s (tDrop (tBM X.K "list" rAppend (tVar i) (tCons (tDE X T W true f) tNil)))) : DS X T W nw s (gAppend i f) := by
  refine ⟨PS.imp ps fun D σ H ⟨B, env, st, F, sr, q⟩ => ?_⟩
  unfold gAppend at q
  split at q
  · rename_i ds hi
    obtain ⟨a, xs, ha, hH, hr, hd⟩ := sr.ownAt hi
    refine ⟨.ref a, ha, .inl ⟨rfl, xs, SqL.of hH⟩, B, env, st, F, sr, ?_⟩
    refine Go.mono (GoS.thn q sr) fun d st1 H1 F1 w1 x1 q1 v r1 => ?_
    split at q1
    · split at q1
      · rename_i hz
        have sr1 := sr.ext x1 w1
        have hH1 : H1 a = some (.lst xs) := x1.keep a _ hH (by simp [isTbl]) hd
        refine ⟨a, xs, v, rfl, rfl, hH1, by rw [hr.length]; exact hz, ?_⟩
        obtain ⟨s2, e2⟩ := sr1.mut hi ha ((hr.ext sr.wd x1).append (Reps_one r1)) ⟨xs, hH1⟩
        exact q1 σ _ F1 s2 e2
      · exact q1.elim
    · exact q1.elim
  · exact q.elim
where
  Reps_one {X : Cx} {B : Bs} {F : FS} {H : Hp} {x : PyData} {v : V} (r : RepM true X.K B F H (.d x) v) : Reps X.K F H [x] [v] := by
    simp only [Reps]
    exact ⟨v, [], rfl, r, rfl⟩
end
end DL

set_option Elab.async false
set_option linter.all false
set_option maxRecDepth 100000
set_option maxHeartbeats 4000000
namespace DL
open PySem PySem.Spec PyProof.Rows L2
section
variable {X : Cx} {T : FS} {W : WX} {nw m m1 m2 : Bool} {pos : Pos} {e a b c : Expr} {f g : DF DV} {tf : DF Bool} {s : Stmt}
/-! ### if, return, raise, an expression alone -/
def gIf (t : DF Bool) (g k : SF) : SF := fun env st => (t env st).thn fun b st1 => if b = true then g env st1 else k env st1
theorem ds_if {p q : List Stmt} {g k : SF} (hc : DT X T W c tf) (hp : DSs X T W nw p g) (hq : DSs X T W nw q k) : DS X T W nw (.If c p q pos) (gIf tf g k) := by
  refine ⟨PS.imp (ps_if hc.pt hp.ps hq.ps) fun D σ H ⟨B, env, st, F, sr, q⟩ => ⟨B, env, st, F, sr, ?_⟩⟩
  refine Go.mono (GoS.thn q sr) fun b st1 H1 F1 w1 x1 q1 => ?_
  cases b with
  | true =>
    rw [if_pos rfl] at q1 ⊢
    exact ⟨B, env, st1, F1, sr.ext x1 w1, q1⟩
  | false =>
    rw [if_neg Bool.false_ne_true] at q1 ⊢
    exact ⟨B, env, st1, F1, sr.ext x1 w1, q1⟩
def gRet (f : DF DV) : SF := fun env st => (f env st).thn fun d st1 => .rt d st1
theorem ds_ret (h : DE X T W true e f) : DS X T W false (.Return (some e) pos) (gRet f) := by
  refine ⟨PS.imp (ps_ret h.pe) fun D σ H ⟨B, env, st, F, sr, q⟩ => ⟨B, env, st, F, sr, ?_⟩⟩
  refine Go.mono (GoS.thn q sr) fun d st1 H1 F1 w1 x1 q1 v r1 => ?_
  exact q1 v H1 F1 (sr.ext x1 w1).fin r1
theorem FinR.none {K : PySem.W.Frag} {B : Bs} {st : Sto} {H : Hp} {F : FS} (w : FinR K T B st H F) {p : Addr} (h : H p = none) : B.H0 p = none := by
  cases q : B.H0 p with
  | none => rfl
  | some o =>
    by_cases hd : B.dr = some p
    · exact absurd h (w.wd.dr_some hd)
    · rcases tbl_or o with t | t
      · obtain ⟨ps, rfl⟩ := isTbl_eq t
        obtain ⟨qs, z⟩ := w.btbl p ps q hd
        rw [h] at z; cases z
      · have z := w.base p o q t hd
        rw [h] at z; cases z
theorem ds_retNew (h : DO X T W e f) : DS X T W true (.Return (some e) pos) (gRet f) := by
  refine ⟨PS.imp (ps_ret h.pe) fun D σ H ⟨B, env, st, F, sr, q⟩ => ⟨B, env, st, F, sr, ?_⟩⟩
  refine Go.mono (GoS.thn q sr) fun d st1 H1 F1 w1 x1 q1 v r1 => ?_
  obtain ⟨p, ds, xs, e1, e2, hn, r⟩ := r1
  exact q1 v H1 F1 (sr.ext x1 w1).fin ⟨p, ds, xs, e1, e2, sr.fin.none hn, r⟩
def gRetOwn (i : Nat) : SF := fun env st => match env[i]? with
  | some (.own (.list ds)) => .rt (.d (.list ds)) st
  | _ => .no
theorem ds_retOwn {i : Nat} (h : PE X e (tVar i)) : DS X T W true (.Return (some e) pos) (gRetOwn i) := by
  refine ⟨PS.imp (ps_ret h) fun D σ H ⟨B, env, st, F, sr, q⟩ => ?_⟩
  unfold gRetOwn at q
  split at q
  · rename_i ds hi
    obtain ⟨fps, h1, h2, h3⟩ := sr.slots
    obtain ⟨o, e1, a, b1, rfl, nd, xs, e3, e4⟩ := h1 i _ hi
    obtain ⟨nF, _, n0, _⟩ := h3 i a (by rw [b1]; simp)
    exact ⟨.ref a, e1, q (.ref a) H F sr.fin ⟨a, ds, xs, rfl, rfl, n0, nF, e3, e4⟩⟩
  · exact q.elim
def gRaise (x : Str) : SF := fun _ st => .exc x st
theorem ds_raise {C : Addr} {x : Str} (hx : X.mg x = some (.ref C)) (ps : PS X s (fun _ σ H => W (.ref C) none σ H)) : DS X T W nw s (gRaise x) :=
  ⟨PS.imp ps fun D σ H ⟨B, env, st, F, sr, q⟩ => q C hx σ H F sr.fin⟩
def gExpr (f : DF DV) : SF := fun env st => (f env st).thn fun _ st1 => .nx env st1
theorem ds_expr (h : DE X T W m e f) (hs : swapsWith e none pos.line X.env = pure false := by rfl) : DS X T W nw (.Expr e pos) (gExpr f) := by
  refine ⟨PS.imp (ps_expr h.pe hs) fun D σ H ⟨B, env, st, F, sr, q⟩ => ⟨B, env, st, F, sr, ?_⟩⟩
  refine Go.mono (GoS.thn q sr) fun d st1 H1 F1 w1 x1 q1 v r1 => ?_
  exact q1 σ H1 F1 (sr.ext x1 w1) .refl
theorem ds_pass : DS X T W nw (.Pass pos) gNop := ⟨PS.imp ps_pass fun D σ H ⟨B, env, st, F, sr, q⟩ => q σ H F sr .refl⟩
def gBreak : SF := fun env st => .bk env st
def gCont : SF := fun env st => .ct env st
theorem ds_break : DS X T W nw (.Break pos) gBreak := ⟨PS.imp ps_break fun D σ H ⟨B, env, st, F, sr, q⟩ => q σ H F sr .refl⟩
theorem ds_cont : DS X T W nw (.Continue pos) gCont := ⟨PS.imp ps_continue fun D σ H ⟨B, env, st, F, sr, q⟩ => q σ H F sr .refl⟩
theorem dss_pass {ss : List Stmt} {k : SF} (h : DSs X T W nw ss k) : DSs X T W nw ss k := h
/-! ### freezing a list of one's own (nothing is done) -/
theorem LstAt.list {K : PySem.W.Frag} {B : Bs} {F : FS} {H : Hp} {x : PyData} {a : Addr} (h : LstAt K B F H x a) : ∃ ds xs, x = .list ds ∧ H a = some (.lst xs) ∧ Reps K F H ds xs := by
  obtain ⟨_, h⟩ := h
  cases x <;> first | exact h.elim | skip
  obtain ⟨xs, z1, z2⟩ := h
  exact ⟨_, xs, rfl, z1, z2⟩
theorem SR.frzAt {K : PySem.W.Frag} {B : Bs} {F : FS} {H : Hp} {σ : L2.St} {st : Sto} {env : DEnv} (sr : SR K T B env st σ H F) {i : Nat} {x : PyData} (hi : env[i]? = some (.own x)) : ∃ F', SR K T B (env.set i (.frz (.d x))) st σ H F' ∧ SExt F F' H H := by
  obtain ⟨fps, h1, h2, h3⟩ := sr.slots
  obtain ⟨o, e1, a, b1, rfl, nd, hx⟩ := h1 i _ hi
  have hmem : a ∈ fps i := by rw [b1]; simp
  obtain ⟨nF, _, n0, nH⟩ := h3 i a hmem
  have sub : ∀ c, F c → (F.add a) c := fun c f => .inl f
  have pk : PK F H H := fun _ _ h _ _ => h
  refine ⟨F.add a, ⟨sr.wd.frz nH nd, sr.base, sr.btbl, fun c f => .inl (sr.fsub c f), fun c f => f.elim (sr.fnew c) (fun e => .inr (by rw [e]; exact n0)), by rw [List.length_set]; exact sr.len, fun k => if k = i then [] else fps k, fun k s h => ?_, fun k l c hk hl => ?_, fun k c hc => ?_⟩, ⟨sub, pk⟩⟩
  · by_cases hk : k = i
    · subst hk
      have hlt : k < env.length := (List.getElem?_eq_some_iff.mp hi).1
      rw [List.getElem?_set_self hlt] at h
      cases h
      refine ⟨some (.ref a), e1, by show (if k = k then [] else fps k) = []; rw [if_pos rfl], .ref a, rfl, ?_⟩
      obtain ⟨ds, xs, rfl, z1, z2⟩ := LstAt.list ⟨nd, hx⟩
      simp only [RepD, Rep]
      exact ⟨a, xs, rfl, .inr rfl, z1, Reps.pk pk sub _ _ z2⟩
    · rw [List.getElem?_set_ne (Ne.symm hk)] at h
      obtain ⟨o', e4, e5⟩ := h1 k s h
      refine ⟨o', e4, ?_⟩
      show SlotAt K B (F.add a) H s o' (if k = i then [] else fps k)
      rw [if_neg hk]
      cases s with
      | un => exact e5
      | pin w => exact e5
      | obj l y =>
        obtain ⟨c, f1, f2, f4, f3⟩ := e5
        exact ⟨c, f1, f2, f4, f3.keep (fun o q _ => q) pk sub⟩
      | frz v =>
        obtain ⟨f1, w, f2, f3⟩ := e5
        refine ⟨f1, w, f2, ?_⟩
        cases v with
        | d y => exact Rep.pk pk sub y w f3
        | loc => exact f3
        | scr ns =>
          obtain ⟨c, rfl, f3⟩ := f3
          exact ⟨c, rfl, f3.imp (fun ⟨f, rd⟩ => ⟨.inl f, rd⟩) id⟩
      | own y =>
        obtain ⟨c, f1, f2, f4, f3⟩ := e5
        refine ⟨c, f1, f2, f4, ?_⟩
        cases y <;> first | exact f3.elim | skip
        obtain ⟨zs, z1, z2⟩ := f3
        exact ⟨zs, z1, Reps.pk pk sub _ _ z2⟩
  · have key : ∀ (k : Nat) (c : Addr), c ∈ (if k = i then [] else fps k) → k ≠ i ∧ c ∈ fps k := fun k c h => by
      by_cases hk : k = i
      · rw [if_pos hk] at h; simp at h
      · rw [if_neg hk] at h; exact ⟨hk, h⟩
    exact h2 k l c (key k c hk).2 (key l c hl).2
  · have hc : c ∈ (if k = i then [] else fps k) := hc
    by_cases hk : k = i
    · rw [if_pos hk] at hc; simp at hc
    · rw [if_neg hk] at hc
      obtain ⟨z1, z2, z3, z4⟩ := h3 k c hc
      refine ⟨fun f => f.elim z1 (fun e => hk (h2 k i c hc (by rw [e]; exact hmem))), z2, z3, z4⟩
def gFrz (i : Nat) (k : SF) : SF := fun env st => match env[i]? with
  | some (.own x) => k (env.set i (.frz (.d x))) st
  | _ => k env st
theorem dss_frz {i : Nat} {ss : List Stmt} {k : SF} (h : DSs X T W nw ss k) : DSs X T W nw ss (gFrz i k) := by
  refine ⟨PSs.imp h.ps fun D σ H ⟨B, env, st, F, sr, q⟩ => ?_⟩
  unfold gFrz at q
  split at q
  · rename_i x hi
    obtain ⟨F', s2, x2⟩ := sr.frzAt hi
    exact ⟨B, _, st, F', s2, GoS.ext q x2⟩
  · exact ⟨B, env, st, F, sr, q⟩
/-! ### targets -/
abbrev AF := PyData → DEnv → Option DEnv
def AsgOk (K : PySem.W.Frag) (T : FS) (t : TG) (asg : AF) : Prop := ∀ (B : Bs) (env env1 : DEnv) (st : Sto) (σ : L2.St) (H : Hp) (F : FS) (d : PyData) (v : V) (Q : L2.St → Hp → Prop), SR K T B env st σ H F → Rep K F H d v → asg d env = some env1 →
    (∀ σ', SR K T B env1 st σ' H F → Q σ' H) → t v σ H Q
def AsgsOk (K : PySem.W.Frag) (T : FS) (t : TGs) (asg : List PyData → DEnv → Option DEnv) : Prop := ∀ (B : Bs) (env env1 : DEnv) (st : Sto) (σ : L2.St) (H : Hp) (F : FS) (d : List PyData) (v : List V) (Q : L2.St → Hp → Prop), SR K T B env st σ H F → Reps K F H d v → asg d env = some env1 →
    (∀ σ', SR K T B env1 st σ' H F → Q σ' H) → t v σ H Q
structure DG (X : Cx) (T : FS) (tg : Expr) (t : TG) (asg : AF) : Prop where
  pg : PG X tg t
  ok : AsgOk X.K T t asg
structure DGs (X : Cx) (T : FS) (tg : List Expr) (t : TGs) (asg : List PyData → DEnv → Option DEnv) : Prop where
  pg : PGs X tg t
  ok : AsgsOk X.K T t asg
def aName (i : Nat) : AF := fun d env => some (env.set i (.frz (.d d)))
theorem asg_name {K : PySem.W.Frag} {i : Nat} : AsgOk K T (gName i) (aName i) := fun B env env1 st σ H F d v Q sr r e q => by
  cases e
  exact q _ (sr.setF r)
theorem dg_name {tg : Expr} {i : Nat} (h : PG X tg (gName i)) : DG X T tg (gName i) (aName i) := by
  refine ⟨h, fun B env env1 st σ H F d v Q sr r e q => ?_⟩
  cases e
  exact q _ (sr.setF r)
def aNil : List PyData → DEnv → Option DEnv := fun ds env => match ds with
  | [] => some env
  | _ => none
def aCons (a : AF) (r : List PyData → DEnv → Option DEnv) : List PyData → DEnv → Option DEnv := fun ds env => match ds with
  | d :: ds => (a d env).bind fun env1 => r ds env1
  | [] => none
theorem asgs_nil {K : PySem.W.Frag} : AsgsOk K T gNil aNil := fun B env env1 st σ H F d v Q sr r e q => by
  cases d with
  | nil =>
    cases e
    exact ⟨r, q _ sr⟩
  | cons d ds => cases e
theorem asgs_cons {K : PySem.W.Frag} {t : TG} {u : TGs} {a : AF} {r : List PyData → DEnv → Option DEnv} (h : AsgOk K T t a) (h2 : AsgsOk K T u r) : AsgsOk K T (gCons t u) (aCons a r) := fun B env env1 st σ H F d v Q sr rr e q => by
  cases d with
  | nil => cases e
  | cons d ds =>
    simp only [Reps] at rr
    obtain ⟨w, vs, rfl, q1, q2⟩ := rr
    obtain ⟨env2, e1, e2⟩ := bind_some2 e
    exact ⟨w, vs, rfl, h B env env2 st σ H F d w _ sr q1 e1 fun σ' s' => h2 B env2 env1 st σ' H F ds vs Q s' q2 e2 q⟩
theorem dgs_nil : DGs X T [] gNil aNil := by
  refine ⟨pgs_nil, fun B env env1 st σ H F d v Q sr r e q => ?_⟩
  cases d with
  | nil =>
    cases e
    exact ⟨r, q _ sr⟩
  | cons d ds => cases e
theorem dgs_cons {tg : Expr} {tgs : List Expr} {t : TG} {u : TGs} {a : AF} {r : List PyData → DEnv → Option DEnv} (h : DG X T tg t a) (h2 : DGs X T tgs u r) (hs : (assignEach (tg :: tgs) X.env).map (·.2) = assign tg X.env :: (assignEach tgs X.env).map (·.2) := by rfl) : DGs X T (tg :: tgs) (gCons t u) (aCons a r) := by
  refine ⟨pgs_cons h.pg h2.pg hs, fun B env env1 st σ H F d v Q sr rr e q => ?_⟩
  cases d with
  | nil => cases e
  | cons d ds =>
    simp only [Reps] at rr
    obtain ⟨w, vs, rfl, q1, q2⟩ := rr
    obtain ⟨env2, e1, e2⟩ := bind_some2 e
    exact ⟨w, vs, rfl, h.ok B env env2 st σ H F d w _ sr q1 e1 fun σ' s' => h2.ok B env2 env1 st σ' H F ds vs Q s' q2 e2 q⟩
def aTup (n : Nat) (r : List PyData → DEnv → Option DEnv) : AF := fun d env => match d with
  | .tuple ds => if ds.length = n then r ds env else none
  | _ => none
theorem asg_tup {K : PySem.W.Frag} {u : TGs} {r : List PyData → DEnv → Option DEnv} {n : Nat} (h : AsgsOk K T u r) : AsgOk K T (gTup K n u) (aTup n r) := fun B env env1 st σ H F d v Q sr rr e q => by
  unfold aTup at e
  split at e
  · split at e
    · rename_i ds hl
      simp only [Rep] at rr
      obtain ⟨a, xs, rfl, h1, h2⟩ := rr
      exact ⟨a, xs, rfl, SqT.of h1, by rw [h2.length]; exact hl, h B env env1 st σ H F ds xs Q sr h2 e q⟩
    · cases e
  · cases e
theorem dg_tup {tgs : List Expr} {u : TGs} {r : List PyData → DEnv → Option DEnv} {k n : Nat} {p : Pos} (hc : X.calm = true) (h : DGs X T tgs u r) (hn : (assignEach tgs X.env).length = n := by rfl) (hst : (assignEach tgs X.env).findIdx? (·.1) = none := by rfl) : DG X T (.Tuple tgs k p) (gTup X.K n u) (aTup n r) := by
  refine ⟨pg_tup hc h.pg hn hst, fun B env env1 st σ H F d v Q sr rr e q => ?_⟩
  unfold aTup at e
  split at e
  · split at e
    · rename_i ds hl
      simp only [Rep] at rr
      obtain ⟨a, xs, rfl, h1, h2⟩ := rr
      exact ⟨a, xs, rfl, SqT.of h1, by rw [h2.length]; exact hl, h.ok B env env1 st σ H F ds xs Q sr h2 e q⟩
    · cases e
  · cases e
/-- target = value, any target -/
def gAsg (f : DF DV) (a : AF) : SF := fun env st => (f env st).thn fun d st1 => match d with
  | .d x => match a x env with
    | some env1 => .nx env1 st1
    | none => .no
  | _ => .no
theorem ds_asg {tg : Expr} {t : TG} {a : AF} (he : DE X T W true e f) (hg : DG X T tg t a) (hs : swapsWithSole [tg] e pos.line X.env = pure false := by rfl) (hw : swappedStores [tg] e X.env = pure none := by rfl)
    (h1 : (assignEach [tg] X.env).map (·.2) = [assign tg X.env] := by rfl) : DS X T W nw (.Assign [tg] e pos) (gAsg f a) := by
  refine ⟨PS.imp (ps_asg he.pe hg.pg hs hw h1) fun D σ H ⟨B, env, st, F, sr, q⟩ => ⟨B, env, st, F, sr, ?_⟩⟩
  refine Go.mono (GoS.thn q sr) fun d st1 H1 F1 w1 x1 q1 v r1 => ?_
  split at q1
  · split at q1
    · rename_i env1 ha
      exact hg.ok B env env1 st1 σ H1 F1 _ v _ (sr.ext x1 w1) r1 ha fun σ' s' => q1 σ' H1 F1 s' .refl
    · exact q1.elim
  · exact q1.elim
/-- x, y = a, b, stored from the right, no tuple made -/
def gPar (i j : Nat) (fs : DF (List DV)) : SF := fun env st => (fs env st).thn fun ds st1 => match ds with
  | [d1, d2] => .nx ((env.set i (.frz d1)).set j (.frz d2)) st1
  | _ => .no
theorem ds_par {i j : Nat} {fs : DF (List DV)} (ps : PS X s (tPar i j (tDA X T W true fs))) : DS X T W nw s (gPar i j fs) := by
  refine ⟨PS.imp ps fun D σ H ⟨B, env, st, F, sr, q⟩ => ⟨B, env, st, F, sr, ?_⟩⟩
  refine Go.mono (GoS.thn q sr) fun d st1 H1 F1 w1 x1 q1 vs r1 => ?_
  split at q1
  · obtain ⟨v, r, rfl, h1, w, r', rfl, h2, h3⟩ := r1
    cases h3
    exact ⟨v, w, rfl, q1 _ H1 F1 (((sr.ext x1 w1).setF h1).setF h2) .refl⟩
  · exact q1.elim
/-! ### the draws -/
/-- x, y, z = draws -/
def gUnpackLoc (f : DF DV) (n : Nat) (r : List PyData → DEnv → Option DEnv) : SF := fun env st => (f env st).thn fun d st1 => match d with
  | .loc => if st1.length = n then (match r st1 env with
    | some env1 => .nx env1 st1
    | none => .no) else .no
  | _ => .no
theorem ds_unpackLoc {tgs : List Expr} {u : TGs} {r : List PyData → DEnv → Option DEnv} {k n : Nat} {p : Pos} (hc : X.calm = true) (he : DE X T W true e f) (h : DGs X T tgs u r) (hn : (assignEach tgs X.env).length = n := by rfl) (hst : (assignEach tgs X.env).findIdx? (·.1) = none := by rfl)
    (hs : swapsWithSole [.Tuple tgs k p] e pos.line X.env = pure false := by rfl) (hw : swappedStores [.Tuple tgs k p] e X.env = pure none := by rfl)
    (h1 : (assignEach [.Tuple tgs k p] X.env).map (·.2) = [assign (.Tuple tgs k p) X.env] := by rfl) : DS X T W nw (.Assign [.Tuple tgs k p] e pos) (gUnpackLoc f n r) := by
  refine ⟨PS.imp (ps_asg he.pe (pg_lst hc h.pg hn hst) hs hw h1) fun D σ H ⟨B, env, st, F, sr, q⟩ => ⟨B, env, st, F, sr, ?_⟩⟩
  refine Go.mono (GoS.thn q sr) fun d st1 H1 F1 w1 x1 q1 v rr => ?_
  split at q1
  · split at q1
    · rename_i hl
      split at q1
      · rename_i env1 ha
        obtain ⟨a, hd, rfl⟩ := rr
        obtain ⟨xs, z1, z2⟩ := w1.sto a hd
        exact ⟨a, xs, rfl, SqL.of z1, by rw [z2.length]; exact hl, h.ok B env env1 st1 σ H1 F1 st1 xs _ (sr.ext x1 w1) z2 ha fun σ' s' => q1 σ' H1 F1 s' .refl⟩
      · exact q1.elim
    · exact q1.elim
  · exact q1.elim
theorem SR.stoSet {K : PySem.W.Frag} {B : Bs} {F : FS} {H : Hp} {σ : L2.St} {st : Sto} {env : DEnv} (sr : SR K T B env st σ H F) {a : Addr} (hd : B.dr = some a) {st' : Sto} {ys : List V} (r : Reps K F H st' ys) : SR K T B env st' σ (upd H a (.lst ys)) F ∧ SExt F F H (upd H a (.lst ys)) := by
  obtain ⟨xs, hx, _⟩ := sr.wd.sto a hd
  have nF : ¬ F a := fun f => sr.wd.fdr a f hd
  have at_ : ∀ c, c ≠ a → upd H a (.lst ys) c = H c := fun c h => upd_ne h
  have pk : PK F H (upd H a (.lst ys)) := fun c o h q t => by
    refine Eq.trans (upd_ne fun z => ?_) h
    subst z
    rcases q with q | q
    · exact nF q
    · rw [hx] at h; cases h; exact q
  have ex : Ext B F F H (upd H a (.lst ys)) := by
    refine ⟨fun c o h t d => by rw [at_ c fun z => d (by rw [z]; exact hd)]; exact h, fun _ f => f, fun _ f => .inl f, fun c d h => ?_, fun c ps h d => ⟨ps, by rw [at_ c fun z => d (by rw [z]; exact hd)]; exact h⟩⟩
    have : c = a := by rw [hd] at d; exact (Option.some.inj d).symm
    rw [this, upd_same]; simp
  refine ⟨sr.ext ex ⟨fun c f => ?_, sr.wd.fdr, fun c q => ?_, fun P q => ?_⟩, ⟨fun _ f => f, pk⟩⟩
  · rw [at_ c fun z => nF (by rw [← z]; exact f)]
    exact sr.wd.live c f
  · have : c = a := by rw [hd] at q; exact (Option.some.inj q).symm
    subst this
    exact ⟨ys, upd_same, Reps.pk pk (fun _ f => f) _ _ r⟩
  · obtain ⟨ps, z1, z2⟩ := sr.wd.tabs P q
    refine ⟨ps, ?_, z2⟩
    rw [at_ P fun z => by rw [z, hx] at z1; cases z1]
    exact z1
/-- draws[k] = e, k written -/
def gStoreLoc (i k : Nat) (f : DF DV) : SF := fun env st => (f env st).thn fun d st1 => match env[i]?, d with
  | some (.frz .loc), .d x => if k < st1.length then .nx env (st1.set k x) else .no
  | _, _ => .no
theorem ixN_nat {n k : Nat} (h : k < n) : ixN n (k : Int) = some k := by
  unfold ixN
  rw [if_pos (by omega), if_pos (by omega)]
  rfl
theorem ds_storeLoc {i k : Nat} (ps : PS X s (tAsg (tDE X T W true f) (gSub (tVar i) (tC (.int (k : Int))) rSetL))) : DS X T W nw s (gStoreLoc i k f) := by
  refine ⟨PS.imp ps fun D σ H ⟨B, env, st, F, sr, q⟩ => ⟨B, env, st, F, sr, ?_⟩⟩
  refine Go.mono (GoS.thn q sr) fun d st1 H1 F1 w1 x1 q1 v rr => ?_
  split at q1
  · rename_i x hi
    split at q1
    · rename_i hk
      have sr1 := sr.ext x1 w1
      obtain ⟨fps, h1, _⟩ := sr1.slots
      obtain ⟨o, e1, _, w, rfl, a, hd, rfl⟩ := h1 i _ hi
      obtain ⟨xs, z1, z2⟩ := w1.sto a hd
      obtain ⟨s2, e2⟩ := sr1.stoSet hd (z2.set k rr)
      exact ⟨.ref a, e1, a, xs, (k : Int), k, rfl, rfl, z1, ixN_nat (by rw [z2.length]; exact hk), q1 σ _ F1 s2 e2⟩
    · exact q1.elim
  · exact q1.elim
end
end DL

set_option Elab.async false
set_option linter.all false
set_option maxRecDepth 100000
set_option maxHeartbeats 4000000
namespace DL
open PySem PySem.Spec PyProof.Rows L2
/-! ### what is walked -/
/-- the iterator J gives these items, as long as what it leans on stands: m: what is frozen (true), all that stood (false) -/
def ItOk (m : Bool) (K : PySem.W.Frag) (T : FS) (B : Bs) (F : FS) (H : Hp) (J : It) (items : List PyData) : Prop := ∀ st' H2 F2, Wd K T B F2 H2 st' → (if m = true then SExt F F2 H H2 else Ext B F F2 H H2) → ∀ i : Nat,
  (∀ d, items[i]? = some d → J.go i H2 ∧ ∀ x H3, J.yld i H2 x H3 → ∃ F3, Grow B F2 F3 H2 H3 ∧ Rep K F3 H3 d x) ∧ (items[i]? = none → J.stop i H2)
def tDI (X : Cx) (T : FS) (W : WX) (m : Bool) (f : DF (List PyData)) : TI := fun σ H R => ∃ B env st F, SR X.K T B env st σ H F ∧
  Go X T W σ B F H (f env st) fun items _ H' F' => ∀ J, ItOk m X.K T B F' H' J items → R J H'
structure DI (X : Cx) (T : FS) (W : WX) (m : Bool) (tg iter : Expr) (f : DF (List PyData)) : Prop where
  pi : PI X tg iter (tDI X T W m f)
theorem PI.imp {X : Cx} {tg iter : Expr} {t t' : TI} (h : PI X tg iter t) (i : ∀ σ H R, t' σ H R → t σ H R) : PI X tg iter t' := ⟨fun pins s σ H R I w => h.run pins s σ H R I (i σ H R w)⟩
section
variable {X : Cx} {T : FS} {W : WX} {nw m m1 m2 : Bool} {pos : Pos} {e a b c tg : Expr} {f g : DF DV} {tf : DF Bool} {s : Stmt}
def toL (d : DV) (st : Sto) : Res (List PyData) := match d with
  | .d (.list ds) => .ok ds st
  | _ => .no
def toT (d : DV) (st : Sto) : Res (List PyData) := match d with
  | .d (.tuple ds) => .ok ds st
  | _ => .no
def toScr (d : DV) (st : Sto) : Res (List PyData) := match d with
  | .scr ns => .ok (ns.map PyData.int) st
  | _ => .no
def fItL (f : DF DV) : DF (List PyData) := fun env st => (f env st).bind toL
def fItT (f : DF DV) : DF (List PyData) := fun env st => (f env st).bind toT
def fItScr (f : DF DV) : DF (List PyData) := fun env st => (f env st).bind toScr
theorem itl_ok {K : PySem.W.Frag} {B : Bs} {F : FS} {H : Hp} {st : Sto} {p : Addr} {xs : List V} {ds : List PyData} (w : Wd K T B F H st) (hH : H p = some (.lst xs)) (r : Reps K F H ds xs) (hf : m = true → F p) (hd : B.dr ≠ some p) : ItOk m K T B F H (Itl K p) ds := by
  intro st' H2 F2 w2 x i
  have h2 : H2 p = some (.lst xs) ∧ Reps K F2 H2 ds xs := by
    cases m with
    | true =>
      rw [if_pos rfl] at x
      exact ⟨x.pk p _ hH (.inl (hf rfl)) (by simp [isTbl]), Reps.pk x.pk x.sub _ _ r⟩
    | false =>
      rw [if_neg Bool.false_ne_true] at x
      exact ⟨x.keep p _ hH (by simp [isTbl]) hd, r.ext w x⟩
  refine ⟨fun d hi => ?_, fun hi => ?_⟩
  · obtain ⟨v, e1, e2⟩ := h2.2.get hi
    refine ⟨⟨xs, v, SqL.of h2.1, e1⟩, fun x H3 y => ?_⟩
    obtain ⟨rfl, y⟩ := y
    have e3 := y xs (SqL.of h2.1)
    rw [e1] at e3
    cases e3
    exact ⟨F2, .refl, e2⟩
  · refine ⟨xs, SqL.of h2.1, ?_⟩
    rw [h2.2.length]
    exact List.getElem?_eq_none_iff.mp hi
theorem itt_ok {K : PySem.W.Frag} {B : Bs} {F : FS} {H : Hp} {st : Sto} {p : Addr} {xs : List V} {ds : List PyData} (w : Wd K T B F H st) (hH : H p = some (.tup xs)) (r : Reps K F H ds xs) : ItOk m K T B F H (Itt K p) ds := by
  intro st' H2 F2 w2 x i
  have h2 : H2 p = some (.tup xs) ∧ Reps K F2 H2 ds xs := by
    cases m with
    | true =>
      rw [if_pos rfl] at x
      exact ⟨x.pk p _ hH (.inr trivial) (by simp [isTbl]), Reps.pk x.pk x.sub _ _ r⟩
    | false =>
      rw [if_neg Bool.false_ne_true] at x
      exact ⟨w.pk x p _ hH (.inr trivial) (by simp [isTbl]), r.ext w x⟩
  refine ⟨fun d hi => ?_, fun hi => ?_⟩
  · obtain ⟨v, e1, e2⟩ := h2.2.get hi
    refine ⟨⟨xs, v, SqT.of h2.1, e1⟩, fun x H3 y => ?_⟩
    obtain ⟨rfl, y⟩ := y
    have e3 := y xs (SqT.of h2.1)
    rw [e1] at e3
    cases e3
    exact ⟨F2, .refl, e2⟩
  · refine ⟨xs, SqT.of h2.1, ?_⟩
    rw [h2.2.length]
    exact List.getElem?_eq_none_iff.mp hi
theorem RepM.listAt {K : PySem.W.Frag} {B : Bs} {F : FS} {H : Hp} {st : Sto} (w : Wd K T B F H st) {ds : List PyData} {x : V} (h : RepM m K B F H (.d (.list ds)) x) : ∃ a xs, x = .ref a ∧ H a = some (.lst xs) ∧ Reps K F H ds xs ∧ (m = true → F a) ∧ B.dr ≠ some a := by
  cases m with
  | true =>
    simp only [RepM, RepD, Rep] at h
    obtain ⟨a, xs, rfl, f, h1, h2⟩ := h
    exact ⟨a, xs, rfl, h1, h2, fun _ => f, w.fdr a f⟩
  | false =>
    rcases h with h | ⟨a, y, e, rfl, nd, h⟩
    · simp only [RepD, Rep] at h
      obtain ⟨a, xs, rfl, f, h1, h2⟩ := h
      exact ⟨a, xs, rfl, h1, h2, fun _ => f, w.fdr a f⟩
    · cases e
      obtain ⟨xs, h1, h2⟩ := h
      exact ⟨a, xs, rfl, h1, h2, (fun q => Bool.noConfusion q), nd⟩
theorem di_list (h : DE X T W m e f) : DI X T W m tg e (fItL f) := by
  refine ⟨PI.imp (pi_list h.pe) fun σ H R ⟨B, env, st, F, sr, q⟩ => ?_⟩
  refine tDE.go sr q fun d st1 v H1 F1 sr1 x1 r1 q1 => ?_
  unfold toL at q1
  split at q1
  · obtain ⟨p, xs, rfl, h1, h2, h3, h4⟩ := r1.listAt sr1.wd
    exact ⟨p, rfl, ⟨xs, SqL.of h1⟩, q1 H1 F1 sr1.wd .refl _ (itl_ok sr1.wd h1 h2 h3 h4)⟩
  · exact q1.elim
theorem di_tup (h : DE X T W false e f) : DI X T W m tg e (fItT f) := by
  refine ⟨PI.imp (pi_tup h.pe) fun σ H R ⟨B, env, st, F, sr, q⟩ => ?_⟩
  refine tDE.go sr q fun d st1 v H1 F1 sr1 x1 r1 q1 => ?_
  unfold toT at q1
  split at q1
  · obtain ⟨p, xs, rfl, h1, h2⟩ := (RepM.view r1).tuple
    exact ⟨p, rfl, ⟨xs, SqT.of h1⟩, q1 H1 F1 sr1.wd .refl _ (itt_ok sr1.wd h1 h2)⟩
  · exact q1.elim
def rngL (lo : Int) (n : Nat) : List PyData := List.map (fun (i : Nat) => PyData.int (lo + Int.ofNat i)) (List.range n)
theorem rngL_get {lo : Int} {n i : Nat} : (rngL lo n)[i]? = if i < n then some (PyData.int (lo + Int.ofNat i)) else none := by
  unfold rngL
  by_cases h : i < n
  · rw [List.getElem?_map, List.getElem?_range h, if_pos h]
    rfl
  · rw [List.getElem?_map, List.getElem?_eq_none (by rw [List.length_range]; omega), if_neg h]
    rfl
theorem itr_ok {K : PySem.W.Frag} {B : Bs} {F : FS} {H : Hp} {lo : Int} {n : Nat} : ItOk m K T B F H (Itr lo n) (rngL lo n) := by
  intro st' H2 F2 w2 x i
  rw [rngL_get]
  refine ⟨fun d hi => ?_, fun hi => ?_⟩
  · split at hi
    · rename_i hlt
      cases hi
      refine ⟨hlt, fun x H3 y => ?_⟩
      obtain ⟨rfl, rfl⟩ := y
      exact ⟨F2, .refl, by simp [Rep]⟩
    · cases hi
  · split at hi
    · cases hi
    · rename_i hlt
      exact Nat.not_lt.mp hlt
def hRng1 (ds : List DV) (st : Sto) : Res (List PyData) := match ds with
  | [.d (.int j)] => if -(2 ^ 62) ≤ j ∧ j < 2 ^ 62 then .ok (rngL 0 j.toNat) st else .no
  | _ => .no
def hRng2 (ds : List DV) (st : Sto) : Res (List PyData) := match ds with
  | [.d (.int i), .d (.int j)] => if -(2 ^ 62) ≤ i ∧ i < 2 ^ 62 ∧ -(2 ^ 62) ≤ j ∧ j < 2 ^ 62 then .ok (rngL i (j - i).toNat) st else .no
  | _ => .no
def fRng1 (fs : DF (List DV)) : DF (List PyData) := fun env st => (fs env st).bind hRng1
def fRng2 (fs : DF (List DV)) : DF (List PyData) := fun env st => (fs env st).bind hRng2
theorem di_rng1 {fs : DF (List DV)} {p : Pos} (hg : Gl X "range") (hm : X.mg "range" = none) (h : DA X T W false [a] fs) (hs : starEach [a] X.env = [(false, eval a X.env)] := by rfl) : DI X T W m tg (.Call (.Name "range" p) [a] [] pos) (fRng1 fs) := by
  refine ⟨PI.imp (pi_range1 hg hm h.pa hs) fun σ H R ⟨B, env, st, F, sr, q⟩ => ?_⟩
  refine ⟨B, env, st, F, sr, ?_⟩
  unfold fRng1 at q
  refine Go.mono (Go.bind q) fun ds st1 H1 F1 w1 x1 q1 vs r1 => ?_
  unfold hRng1 at q1
  split at q1
  · split at q1
    · rename_i hc
      obtain ⟨v, rfl, h1⟩ := args1 (r1.view)
      have e1 := h1.int
      subst e1
      exact ⟨_, rfl, hc.1, hc.2, q1 H1 F1 w1 .refl _ itr_ok⟩
    · exact q1.elim
  · exact q1.elim
theorem di_rng2 {fs : DF (List DV)} {p : Pos} (hg : Gl X "range") (hm : X.mg "range" = none) (h : DA X T W false [a, b] fs) (hs : starEach [a, b] X.env = [(false, eval a X.env), (false, eval b X.env)] := by rfl) (hs2 : starEach [b] X.env = [(false, eval b X.env)] := by rfl) : DI X T W m tg (.Call (.Name "range" p) [a, b] [] pos) (fRng2 fs) := by
  refine ⟨PI.imp (pi_range2 hg hm h.pa hs hs2) fun σ H R ⟨B, env, st, F, sr, q⟩ => ?_⟩
  refine ⟨B, env, st, F, sr, ?_⟩
  unfold fRng2 at q
  refine Go.mono (Go.bind q) fun ds st1 H1 F1 w1 x1 q1 vs r1 => ?_
  unfold hRng2 at q1
  split at q1
  · split at q1
    · rename_i hc
      obtain ⟨v, y, rfl, h1, h2⟩ := args2 (r1.view)
      have e1 := h1.int
      subst e1
      have e2 := h2.int
      subst e2
      exact ⟨_, _, rfl, hc, q1 H1 F1 w1 .refl _ itr_ok⟩
    · exact q1.elim
  · exact q1.elim

/-! ### for -/
def forG (a : AF) (body : SF) : List PyData → SF
  | [] => fun env st => .nx env st
  | d :: ds => fun env st => match a d env with
    | none => .no
    | some env1 => match body env1 st with
      | .nx e s => forG a body ds e s
      | .ct e s => forG a body ds e s
      | .bk e s => .nx e s
      | r => r
def gFor (src : DF (List PyData)) (a : AF) (body : SF) : SF := fun env st => (src env st).thn fun items st1 => forG a body items env st1
theorem ds_for {iter : Expr} {body : List Stmt} {t : TG} {src : DF (List PyData)} {asg : AF} {g : SF} (hp : PassesOwn (model X.prog X.w) X.A X.env X.xe) (hc : X.calm = true) (hi : DI X T W true tg iter src) (hg : DG X T tg t asg) (hb : DSs X T W nw body g)
    (hs : ∀ x, foldedSetIterable iter X.env x = pure x := by intro _; rfl) : DS X T W nw (.For tg iter body [] pos) (gFor src asg g) := by
  refine ⟨PS.imp (ps_for hp hc hi.pi hg.pg hb.ps hs) fun D σ H ⟨B, env, st, F, sr, q⟩ => ⟨B, env, st, F, sr, ?_⟩⟩
  refine Go.mono (GoS.thn q sr) fun items st1 H1 F1 w1 x1 q1 J hJ => ?_
  refine ⟨fun i m σ' H' => m = items.length - i ∧ ∃ env' st' F', SR X.K T B env' st' σ' H' F' ∧ SExt F1 F' H1 H' ∧ GoS X T W nw D B F' H' (forG asg g (items.drop i) env' st'), ⟨_, rfl, env, st1, F1, sr.ext x1 w1, .refl, by simpa using q1⟩, ?_⟩
  rintro i m σ' H' ⟨rfl, env', st', F', sr', ex', q'⟩
  have ij := hJ st' H' F' sr'.wd (by rw [if_pos rfl]; exact ex') i
  cases hd : items[i]? with
  | none =>
    have hl : items.length ≤ i := List.getElem?_eq_none_iff.mp hd
    rw [List.drop_of_length_le hl] at q'
    exact .inl ⟨ij.2 hd, q' σ' H' F' sr' .refl⟩
  | some d =>
    obtain ⟨hl, ed⟩ := List.getElem?_eq_some_iff.mp hd
    have edr : items.drop i = d :: items.drop (i + 1) := by rw [List.drop_eq_getElem_cons hl, ed]
    rw [edr] at q'
    unfold forG at q'
    obtain ⟨go, yl⟩ := ij.1 d hd
    refine .inr ⟨go, fun σ2 H2 => ∃ env2 st2 F2, SR X.K T B env2 st2 σ2 H2 F2 ∧ SExt F1 F2 H1 H2 ∧ GoS X T W nw D B F2 H2 (forG asg g (items.drop (i + 1)) env2 st2), ?_, fun x H3 y => ?_⟩
    · rintro σ2 H2 ⟨env2, st2, F2, h⟩
      exact ⟨items.length - (i + 1), by omega, rfl, env2, st2, F2, h⟩
    · obtain ⟨F3, gr, rp⟩ := yl x H3 y
      have sr3 := sr'.ext gr.ext (gr.wd sr'.wd)
      have ex3 := SExt.of sr'.wd gr.ext
      cases ha : asg d env' with
      | none => rw [ha] at q'; exact q'.elim
      | some env1 =>
        rw [ha] at q'
        refine hg.ok B env' env1 st' σ' H3 F3 d x _ sr3 rp ha fun σ4 sr4 => ⟨B, env1, st', F3, sr4, ?_⟩
        have q' : GoS X T W nw D B F' H' (match g env1 st' with
          | .nx e s => forG asg g (items.drop (i + 1)) e s
          | .ct e s => forG asg g (items.drop (i + 1)) e s
          | .bk e s => .nx e s
          | r => r) := q'
        have q' := GoS.ext q' ex3
        cases hb : g env1 st' with
        | nx e s =>
          rw [hb] at q'
          exact fun σ5 H5 F5 s5 x5 => ⟨e, s, F5, s5, (ex'.trans ex3).trans x5, GoS.ext q' x5⟩
        | ct e s =>
          rw [hb] at q'
          exact fun σ5 H5 F5 s5 x5 => ⟨e, s, F5, s5, (ex'.trans ex3).trans x5, GoS.ext q' x5⟩
        | bk e s => rw [hb] at q'; exact q'
        | rt d s => rw [hb] at q'; exact q'
        | exc c s => rw [hb] at q'; exact q'
        | no => rw [hb] at q'; exact q'
/-! ### while -/
def whileG (c : DF Bool) (body : SF) : Nat → SF
  | 0 => fun _ _ => .no
  | n + 1 => fun env st => (c env st).thn fun b st1 => if b = true then (match body env st1 with
      | .nx e s => whileG c body n e s
      | .ct e s => whileG c body n e s
      | .bk e s => .nx e s
      | r => r) else .nx env st1
theorem ds_while {body : List Stmt} {g : SF} {test : Expr} (n : Nat) (hp : PassesOwn (model X.prog X.w) X.A X.env X.xe) (hc : DT X T W test tf) (hb : DSs X T W nw body g) : DS X T W nw (.While test body [] pos) (whileG tf g n) := by
  refine ⟨PS.imp (ps_while hp hc.pt hb.ps) fun D σ H ⟨B, env, st, F, sr, q⟩ => ?_⟩
  refine ⟨fun m σ' H' => ∃ env' st' F', SR X.K T B env' st' σ' H' F' ∧ SExt F F' H H' ∧ GoS X T W nw D B F' H' (whileG tf g m env' st'), ⟨n, env, st, F, sr, .refl, q⟩, ?_⟩
  rintro m σ' H' ⟨env', st', F', sr', ex', q'⟩
  cases m with
  | zero => exact q'.elim
  | succ m =>
    unfold whileG at q'
    refine ⟨B, env', st', F', sr', ?_⟩
    refine Go.mono (GoS.thn q' sr') fun b st1 H1 F1 w1 x1 q1 => ?_
    have sr1 := sr'.ext x1 w1
    have ex1 := SExt.of sr'.wd x1
    cases b with
    | false =>
      show (if false = true then _ else D.nx σ' H1)
      rw [if_neg Bool.false_ne_true] at q1 ⊢
      exact q1 σ' H1 F1 sr1 .refl
    | true =>
      show (if true = true then _ else D.nx σ' H1)
      rw [if_pos rfl] at q1 ⊢
      refine ⟨fun σ2 H2 => ∃ env2 st2 F2, SR X.K T B env2 st2 σ2 H2 F2 ∧ SExt F F2 H H2 ∧ GoS X T W nw D B F2 H2 (whileG tf g m env2 st2), fun σ2 H2 h => ⟨m, Nat.lt_succ_self m, h⟩, B, env', st1, F1, sr1, ?_⟩
      cases hb : g env' st1 with
      | nx e s =>
        rw [hb] at q1
        exact fun σ5 H5 F5 s5 x5 => ⟨e, s, F5, s5, (ex'.trans ex1).trans x5, GoS.ext q1 x5⟩
      | ct e s =>
        rw [hb] at q1
        exact fun σ5 H5 F5 s5 x5 => ⟨e, s, F5, s5, (ex'.trans ex1).trans x5, GoS.ext q1 x5⟩
      | bk e s => rw [hb] at q1; exact q1
      | rt d s => rw [hb] at q1; exact q1
      | exc c s => rw [hb] at q1; exact q1
      | no => rw [hb] at q1; exact q1
/-! ### list comprehensions -/
def wipeE (env : DEnv) : List Nat → DEnv
  | [] => env
  | v :: vs => (wipeE env vs).set v .un
theorem SR.wipe {K : PySem.W.Frag} {B : Bs} {F : FS} {H : Hp} {σ : L2.St} {st : Sto} {env : DEnv} (sr : SR K T B env st σ H F) : ∀ vs : List Nat, SR K T B (wipeE env vs) st (L2.wipe σ vs) H F
  | [] => sr
  | v :: vs => by
    have h := SR.wipe sr vs
    obtain ⟨fps, h1, h2, h3⟩ := h.slots
    refine ⟨h.wd, h.base, h.btbl, h.fsub, h.fnew, by unfold wipeE L2.wipe; rw [List.length_set, List.length_set]; exact h.len, fun k => if k = v then [] else fps k, fun k s hk => ?_, fun k l a hk hl => ?_, fun k a hk => ?_⟩
    · by_cases hv : k = v
      · subst hv
        unfold wipeE at hk
        have hlt : k < (wipeE env vs).length := by
          have := (List.getElem?_eq_some_iff.mp hk).1
          rwa [List.length_set] at this
        rw [List.getElem?_set_self hlt] at hk
        cases hk
        refine ⟨none, by unfold L2.wipe; exact List.getElem?_set_self (by rw [h.len]; exact hlt), ?_⟩
        show (if k = k then [] else fps k) = []
        rw [if_pos rfl]
      · unfold wipeE at hk
        rw [List.getElem?_set_ne (Ne.symm hv)] at hk
        obtain ⟨o, h4, h5⟩ := h1 k s hk
        refine ⟨o, by unfold L2.wipe; rw [List.getElem?_set_ne (Ne.symm hv)]; exact h4, ?_⟩
        show SlotAt K B F H s o (if k = v then [] else fps k)
        rw [if_neg hv]
        exact h5
    · have key : ∀ (k : Nat) (c : Addr), c ∈ (if k = v then [] else fps k) → c ∈ fps k := fun k c h => by
        by_cases hk : k = v
        · rw [if_pos hk] at h; simp at h
        · rw [if_neg hk] at h; exact h
      exact h2 k l a (key k a hk) (key l a hl)
    · have hk : a ∈ (if k = v then [] else fps k) := hk
      by_cases hv : k = v
      · rw [if_pos hv] at hk; simp at hk
      · rw [if_neg hv] at hk
        exact h3 k a hk
abbrev W0 : WX := fun _ _ _ _ => False
/-- the tests of a clause -/
structure DTs (X : Cx) (T : FS) (W : WX) (ifs : List Expr) (f : DF Bool) : Prop where
  pt : PTs X ifs (tDT X T W f)
def fYes : DF Bool := fun _ st => .ok true st
theorem PTs.imp {ifs : List Expr} {t t' : TT} (h : PTs X ifs t) (i : ∀ σ H Q, t' σ H Q → t σ H Q) : PTs X ifs t' := ⟨fun pins s σ H Q I w => h.run pins s σ H Q I (i σ H Q w)⟩
theorem dts_nil : DTs X T W [] fYes := ⟨PTs.imp pts_nil fun σ H Q ⟨B, env, st, F, sr, q⟩ => q H F sr.wd .refl⟩
theorem dts_one {c : Expr} (h : DT X T W c tf) : DTs X T W [c] tf := ⟨pts_one h.pt⟩
def lcG (a : AF) (t : DF Bool) (f : DF DV) (env : DEnv) : List PyData → List PyData → Sto → Res DV
  | [], acc, st => .ok (.d (.list acc)) st
  | d :: ds, acc, st => match a d env with
    | none => .no
    | some env1 => match t env1 st with
      | .ok b st1 => if b = true then (match f env1 st1 with
          | .ok v st2 => match v with
            | .d x => if acc.length < sizeLine then lcG a t f env ds (acc ++ [x]) st2 else .no
            | _ => .no
          | _ => .no) else lcG a t f env ds acc st1
      | _ => .no
def fLc (src : DF (List PyData)) (a : AF) (t : DF Bool) (f : DF DV) (vs : List Nat) : DF DV := fun env st => (src env st).bind fun items st1 => lcG a t f (wipeE env vs) items [] st1
theorem wipe_get (σ : L2.St) (vs : List Nat) (k : Nat) : (wipe σ vs)[k]? = if k ∈ vs then (if k < σ.length then some none else none) else σ[k]? := by
  induction vs with
  | nil => simp [L2.wipe]
  | cons v vs ih =>
    unfold L2.wipe
    by_cases hk : v = k
    · subst hk
      rw [if_pos List.mem_cons_self]
      by_cases hl : v < σ.length
      · rw [if_pos hl, List.getElem?_set_self (by rw [wipe_length]; exact hl)]
      · rw [if_neg hl, List.getElem?_eq_none (by rw [List.length_set, wipe_length]; omega)]
    · rw [List.getElem?_set_ne hk, ih]
      have e : (k ∈ v :: vs) ↔ k ∈ vs := by simp [Ne.symm hk]
      by_cases hm : k ∈ vs
      · rw [if_pos hm, if_pos (e.mpr hm)]
      · rw [if_neg hm, if_neg (fun h => hm (e.mp h))]
theorem wipe_set {σ : L2.St} {vs : List Nat} {i : Nat} {o : Option V} (h : i ∈ vs) : wipe (σ.set i o) vs = wipe σ vs := by
  apply List.ext_getElem?
  intro k
  rw [wipe_get, wipe_get, List.length_set]
  by_cases hm : k ∈ vs
  · rw [if_pos hm, if_pos hm]
  · rw [if_neg hm, if_neg hm, List.getElem?_set_ne (fun e => hm (by rw [← e]; exact h))]
theorem wipe_wipe (σ : L2.St) (vs : List Nat) : wipe (wipe σ vs) vs = wipe σ vs := by
  apply List.ext_getElem?
  intro k
  rw [wipe_get (wipe σ vs)]
  by_cases hm : k ∈ vs
  · rw [if_pos hm, wipe_length, wipe_get, if_pos hm]
  · rw [if_neg hm]
/-- the target writes the comprehension's own names alone -/
def Inner (t : TG) (vs : List Nat) : Prop := ∀ v σ ω H Q, wipe σ vs = ω → t v σ H Q → t v σ H (fun σ' H' => wipe σ' vs = ω ∧ Q σ' H')
def Inners (t : TGs) (vs : List Nat) : Prop := ∀ v σ ω H Q, wipe σ vs = ω → t v σ H Q → t v σ H (fun σ' H' => wipe σ' vs = ω ∧ Q σ' H')
theorem inner_name {i : Nat} {vs : List Nat} (h : i ∈ vs) : Inner (gName i) vs := fun v σ ω H Q e q => ⟨(wipe_set h).trans e, q⟩
theorem inners_nil {vs : List Nat} : Inners gNil vs := fun v σ ω H Q e q => ⟨q.1, e, q.2⟩
theorem inners_cons {i : Nat} {u : TGs} {vs : List Nat} (h : i ∈ vs) (h2 : Inners u vs) : Inners (gCons (gName i) u) vs := fun v σ ω H Q e ⟨w, r, e1, q⟩ => ⟨w, r, e1, h2 r _ ω H Q ((wipe_set h).trans e) q⟩
theorem inner_tup {K : PySem.W.Frag} {n : Nat} {u : TGs} {vs : List Nat} (h : Inners u vs) : Inner (gTup K n u) vs := fun v σ ω H Q e ⟨a, xs, e1, s, l, q⟩ => ⟨a, xs, e1, s, l, h xs σ ω H Q e q⟩
theorem SR.updFree {K : PySem.W.Frag} {B : Bs} {F : FS} {H : Hp} {σ : L2.St} {st : Sto} {env : DEnv} (sr : SR K T B env st σ H F) {p : Addr} {xs ys : List V} (hp : H p = some (.lst xs)) (nF : ¬ F p) (nd : B.dr ≠ some p) (n0 : B.H0 p = none)
    (no : ∀ (i : Nat) (x : PyData) (a : Addr), env[i]? = some (Slot.own x) → σ[i]? = some (some (V.ref a)) → a ≠ p) (no2 : ∀ (i : Nat) (l : Bool) (x : OX) (a : Addr), env[i]? = some (Slot.obj l x) → σ[i]? = some (some (V.ref a)) → a ≠ p) : SR K T B env st σ (upd H p (.lst ys)) F ∧ PK F H (upd H p (.lst ys)) := by
  have at_ : ∀ c, c ≠ p → upd H p (.lst ys) c = H c := fun c h => upd_ne h
  have pk : PK F H (upd H p (.lst ys)) := fun c o h q t => by
    refine Eq.trans (upd_ne fun z => ?_) h
    subst z
    rcases q with q | q
    · exact nF q
    · rw [hp] at h; cases h; exact q
  obtain ⟨fps, h1, h2, h3⟩ := sr.slots
  have npt : ∀ c o, H c = some o → isTbl o → c ≠ p := fun c o h t z => by rw [z, hp] at h; cases h; exact t
  refine ⟨⟨⟨fun c f => ?_, sr.wd.fdr, fun c q => ?_, fun P q => ?_⟩, fun c o h t d => ?_, fun c ps h d => ?_, sr.fsub, sr.fnew, sr.len, fps, fun k s h => ?_, h2, fun k c hc => ?_⟩, pk⟩
  · rw [at_ c fun z => nF (by rw [← z]; exact f)]; exact sr.wd.live c f
  · obtain ⟨zs, z1, z2⟩ := sr.wd.sto c q
    exact ⟨zs, by rw [at_ c fun z => nd (by rw [← z]; exact q)]; exact z1, Reps.pk pk (fun _ f => f) _ _ z2⟩
  · obtain ⟨ps, z1, z2⟩ := sr.wd.tabs P q
    exact ⟨ps, by rw [at_ P (npt P _ z1 trivial)]; exact z1, z2⟩
  · rw [at_ c fun z => by rw [z, n0] at h; cases h]; exact sr.base c o h t d
  · rw [at_ c fun z => by rw [z, n0] at h; cases h]; exact sr.btbl c ps h d
  · obtain ⟨o', e4, e5⟩ := h1 k s h
    refine ⟨o', e4, ?_⟩
    cases s with
    | un => exact e5
    | pin w => exact e5
    | obj l y =>
      obtain ⟨c, f1, f2, f4, f3⟩ := e5
      subst f2
      exact ⟨c, f1, rfl, f4, f3.keep (fun o q _ => by rw [at_ c (no2 k _ _ c h e4)]; exact q) pk fun _ f => f⟩
    | frz v =>
      obtain ⟨f1, w, f2, f3⟩ := e5
      refine ⟨f1, w, f2, ?_⟩
      cases v with
      | d y => exact Rep.pk pk (fun _ f => f) y w f3
      | loc => exact f3
      | scr ns =>
        obtain ⟨c, rfl, f3⟩ := f3
        refine ⟨c, rfl, f3.imp (fun ⟨f, rd⟩ => ⟨f, ?_⟩) id⟩
        rcases rd with rd | ⟨oo, rd⟩
        · exact .inl (pk c _ rd (.inl f) (by simp [isTbl]))
        · exact .inr ⟨oo, pk c _ rd (.inl f) (by simp [isTbl])⟩
    | own y =>
      obtain ⟨c, f1, f2, f3⟩ := e5
      obtain ⟨ds, zs, rfl, z1, z2⟩ := LstAt.list f3
      subst f2
      exact ⟨c, f1, rfl, f3.1, zs, by rw [at_ c (no k _ c h e4)]; exact z1, Reps.pk pk (fun _ f => f) _ _ z2⟩
  · obtain ⟨z1, z2, z3, z4⟩ := h3 k c hc
    refine ⟨z1, z2, z3, ?_⟩
    by_cases z : c = p
    · rw [z, upd_same]; simp
    · rw [at_ c z]; exact z4
theorem Ext.updNew {B : Bs} {F F' : FS} {H H' : Hp} {p : Addr} {o : HO} (e : Ext B F F' H H') (h : H p = none) : Ext B F F' H (upd H' p o) := by
  have at_ : ∀ c, H c ≠ none → upd H' p o c = H' c := fun c q => upd_ne fun z => q (by rw [z]; exact h)
  refine ⟨fun c u q t d => by rw [at_ c (by rw [q]; simp)]; exact e.keep c u q t d, e.sub, e.new, fun c d q => by rw [at_ c q]; exact e.draws c d q, fun c ps q d => ?_⟩
  rw [at_ c (by rw [q]; simp)]
  exact e.tbl c ps q d
theorem SR.ownLive {K : PySem.W.Frag} {B : Bs} {F : FS} {H : Hp} {σ : L2.St} {st : Sto} {env : DEnv} (sr : SR K T B env st σ H F) {i : Nat} {x : PyData} {a : Addr} (h : env[i]? = some (.own x)) (h2 : σ[i]? = some (some (.ref a))) : H a ≠ none := by
  obtain ⟨fps, h1, _, h3⟩ := sr.slots
  obtain ⟨o, e1, b, b1, b2, _⟩ := h1 i _ h
  rw [h2] at e1
  cases e1
  cases b2
  exact (h3 i a (by rw [b1]; simp)).2.2.2
theorem SR.objLive {K : PySem.W.Frag} {B : Bs} {F : FS} {H : Hp} {σ : L2.St} {st : Sto} {env : DEnv} (sr : SR K T B env st σ H F) {i : Nat} {l : Bool} {x : OX} {a : Addr} (h : env[i]? = some (.obj l x)) (h2 : σ[i]? = some (some (.ref a))) : H a ≠ none := by
  obtain ⟨fps, h1, _, h3⟩ := sr.slots
  obtain ⟨o, e1, b, b1, b2, _⟩ := h1 i _ h
  rw [h2] at e1
  cases e1
  cases b2
  exact (h3 i a (by rw [b1]; simp)).2.2.2
/-- what the comprehension asks, by its parts -/
theorem lc_go {src : DF (List PyData)} {t : TG} {asg : AF} {vs : List Nat} (hg : AsgOk X.K T t asg) (hin : Inner t vs) {σ : L2.St} {H : Hp} {Q : VK} {B : Bs} {env : DEnv} {st : Sto} {F : FS} (sr : SR X.K T B env st σ H F)
    (q : Go X T W σ B F H (fLc src asg tf f vs env st) fun d _ H' F' => ∀ v, NewL X.K F' H H' d v → Q v H') : tLc (tDI X T W false src) t (tDT X T W0 tf) (tDE X T W0 true f) vs σ H Q := by
  refine ⟨B, env, st, F, sr, ?_⟩
  refine Go.mono (Go.bind q) fun items st1 H1 F1 w1 x1 q1 J hJ D hD => ?_
  have sr1 := (sr.ext x1 w1).wipe vs
  have nd : B.dr ≠ some D := fun z => w1.dr_some z hD
  have n0 : B.H0 D = none := sr1.fin.none hD
  have nH : H D = none := by
    cases z : H D with
    | none => rfl
    | some o => exact absurd hD (x1.some (by rw [z]; simp))
  have nF : ¬ F1 D := fun f => w1.live D f hD
  have no : ∀ (i : Nat) (x : PyData) (a : Addr), (wipeE env vs)[i]? = some (Slot.own x) → (wipe σ vs)[i]? = some (some (V.ref a)) → a ≠ D := fun i x a h h2 z => sr1.ownLive h h2 (by rw [z]; exact hD)
  have no2 : ∀ (i : Nat) (l : Bool) (x : OX) (a : Addr), (wipeE env vs)[i]? = some (Slot.obj l x) → (wipe σ vs)[i]? = some (some (V.ref a)) → a ≠ D := fun i l x a h h2 z => sr1.objLive h h2 (by rw [z]; exact hD)
  refine ⟨fun i m H' => m = items.length - i ∧ ∃ acc accV st' F', SR X.K T B (wipeE env vs) st' (wipe σ vs) H' F' ∧ Ext B F1 F' H1 H' ∧ H' D = some (.lst accV) ∧ Reps X.K F' H' acc accV ∧ ¬ F' D ∧
    Go X T W σ B F1 H1 (lcG asg tf f (wipeE env vs) (items.drop i) acc st') (fun d _ H'' F'' => ∀ v, NewL X.K F'' H H'' d v → Q v H''), ⟨_, rfl, [], [], st1, F1, sr1.ext (Ext.alloc hD) (w1.alloc hD), Ext.alloc hD, upd_same, by simp [Reps], nF, by
      rw [List.drop_zero]
      exact q1⟩, ?_⟩
  rintro i m H' ⟨rfl, acc, accV, st', F', sr', ex', hD', hR', nF', q'⟩
  have ij := hJ st' H' F' sr'.wd (by rw [if_neg Bool.false_ne_true]; exact ex') i
  cases hd : items[i]? with
  | none =>
    have hl : items.length ≤ i := List.getElem?_eq_none_iff.mp hd
    rw [List.drop_of_length_le hl] at q'
    exact .inl ⟨ij.2 hd, q' H' F' sr'.wd ex' _ ⟨D, acc, accV, rfl, rfl, nH, nF', hD', hR'⟩⟩
  | some d =>
    obtain ⟨hl, ed⟩ := List.getElem?_eq_some_iff.mp hd
    have edr : items.drop i = d :: items.drop (i + 1) := by rw [List.drop_eq_getElem_cons hl, ed]
    rw [edr] at q'
    unfold lcG at q'
    obtain ⟨go, yl⟩ := ij.1 d hd
    refine .inr ⟨go, fun H2 => ∃ acc accV st' F', SR X.K T B (wipeE env vs) st' (wipe σ vs) H2 F' ∧ Ext B F1 F' H1 H2 ∧ H2 D = some (.lst accV) ∧ Reps X.K F' H2 acc accV ∧ ¬ F' D ∧
      Go X T W σ B F1 H1 (lcG asg tf f (wipeE env vs) (items.drop (i + 1)) acc st') (fun d _ H'' F'' => ∀ v, NewL X.K F'' H H'' d v → Q v H''), ?_, fun x H3 y => ?_⟩
    · rintro H2 ⟨acc, accV, st2, F2, h⟩
      exact ⟨items.length - (i + 1), by omega, rfl, acc, accV, st2, F2, h⟩
    · obtain ⟨F3, gr, rp⟩ := yl x H3 y
      have w3 := gr.wd sr'.wd
      have sr3 := sr'.ext gr.ext w3
      have ex3 := ex'.trans gr.ext
      have nF3 : ∀ {F4 : FS} {H4 H5 : Hp} {F5 : FS}, Ext B F4 F5 H4 H5 → ¬ F4 D → H4 D ≠ none → ¬ F5 D := fun e h1 h2 h3 => (e.new D h3).elim h1 h2
      have hD3 := gr.ext.keep D _ hD' (by simp [isTbl]) nd
      have hR3 := hR'.ext sr'.wd gr.ext
      have nf3 := nF3 gr.ext nF' (by rw [hD']; simp)
      cases ha : asg d (wipeE env vs) with
      | none => rw [ha] at q'; exact q'.elim
      | some env1 =>
        rw [ha] at q'
        refine hin _ _ _ _ _ (wipe_wipe σ vs) (hg B (wipeE env vs) env1 st' (wipe σ vs) H3 F3 d x _ sr3 rp ha fun σ4 sr4 => ?_)
        refine ⟨B, env1, st', F3, sr4, ?_⟩
        cases ht : tf env1 st' with
        | no => simp only [ht] at q'; exact q'.elim
        | exc c s => simp only [ht] at q'; exact q'.elim
        | ok b st4 =>
          simp only [ht] at q'
          intro H4 F4 w4 x4
          have sr4' := sr4.ext x4 w4
          have sr3' := sr3.ext x4 w4
          have hD4 := x4.keep D _ hD3 (by simp [isTbl]) nd
          have hR4 := hR3.ext w3 x4
          have nf4 := nF3 x4 nf3 (by rw [hD3]; simp)
          have ex4 := ex3.trans x4
          cases b with
          | false =>
            dsimp only
            rw [if_neg Bool.false_ne_true] at q' ⊢
            exact ⟨acc, accV, st4, F4, sr3', ex4, hD4, hR4, nf4, q'⟩
          | true =>
            dsimp only
            rw [if_pos rfl] at q' ⊢
            refine ⟨B, env1, st4, F4, sr4', ?_⟩
            cases hf : f env1 st4 with
            | no => simp only [hf] at q'; exact q'.elim
            | exc c s => simp only [hf] at q'; exact q'.elim
            | ok v st5 =>
              simp only [hf] at q'
              intro H5 F5 w5 x5 v5 r5
              cases v with
              | loc => exact q'.elim
              | scr ns => exact q'.elim
              | d x0 =>
                have q' : Go X T W σ B F1 H1 (if acc.length < sizeLine then lcG asg tf f (wipeE env vs) (items.drop (i + 1)) (acc ++ [x0]) st5 else .no) _ := q'
                split at q'
                · rename_i hz
                  have hD5 := x5.keep D _ hD4 (by simp [isTbl]) nd
                  have hR5 := hR4.ext w4 x5
                  have nf5 := nF3 x5 nf4 (by rw [hD4]; simp)
                  have ex5 := ex4.trans x5
                  have sr5 := sr3'.ext x5 w5
                  refine ⟨accV, hD5, by rw [hR4.length]; exact hz, ?_⟩
                  obtain ⟨sr6, pk6⟩ := sr5.updFree (ys := accV ++ [v5]) hD5 nf5 nd n0 no no2
                  have r1 : Reps X.K F5 H5 [x0] [v5] := by
                    simp only [Reps]
                    exact ⟨v5, [], rfl, r5, rfl⟩
                  exact ⟨acc ++ [x0], accV ++ [v5], st5, F5, sr6, ex5.updNew hD, upd_same, Reps.pk pk6 (fun _ f => f) _ _ (hR5.append r1), nf5, q'⟩
                · exact q'.elim
/-- [e for x in xs if t] -/
theorem do_lc {iter : Expr} {ifs : List Expr} {scope : Scope} {own : List (Str × Nat)} {src : DF (List PyData)} {t : TG} {asg : AF} (hc : X.calm = true) (hN : X.N.Nodup) (hi : DI X T W false tg iter src) (ok : BlkOk X.N X.env.scope scope own)
    (hin : Inner t (own.map (·.2))) (hga : AsgOk X.K T t asg)
    (hg : ∀ (s : Shared) (H : Hp) (C : Addr) (cl : List (Str × Addr)) (fp : List Addr), PG (X.blk s H scope (compEnvC scope cl C X.env) fp) tg t)
    (ht : ∀ (s : Shared) (H : Hp) (C : Addr) (cl : List (Str × Addr)) (fp : List Addr), DTs (X.blk s H scope (compEnvC scope cl C X.env) fp) T W0 ifs tf)
    (he : ∀ (s : Shared) (H : Hp) (C : Addr) (cl : List (Str × Addr)) (fp : List Addr), DE (X.blk s H scope (compEnvC scope cl C X.env) fp) T W0 true e f) (hs : ∀ x, foldedSetIterable iter X.env x = pure x := by intro _; rfl) :
    DO X T W (.ListComp e [⟨tg, iter, ifs, 0⟩] scope pos) (fLc src asg tf f (own.map (·.2))) :=
  ⟨PE.imp (pe_lc (tt := tDT X T W0 tf) (te := tDE X T W0 true f) hc hN hi.pi ok hg (fun s H C cl fp => (ht s H C cl fp).pt) (fun s H C cl fp => (he s H C cl fp).pe) hs) fun σ H Q ⟨B, env, st, F, sr, q⟩ => lc_go hga hin sr q⟩
end
/-! ### a def -/
def runF (nw : Bool) (k : Nat) (body : SF) (ds : List DV) (st : Sto) : Res DV := match body (ds.map Slot.frz ++ List.replicate (k - ds.length) Slot.un) st with
  | .nx _ st' => if nw = true then .no else .ok (.d .none) st'
  | .rt d st' => .ok d st'
  | .exc c st' => .exc c st'
  | _ => .no
theorem SR.start {K : PySem.W.Frag} {T : FS} {B : Bs} {st : Sto} {H : Hp} {F : FS} (w : Wd K T B F H st) (h0 : B.H0 = H) (hF : B.F0 = F) {ds : List DV} {vs : List V} (r : RepMs true K B F H ds vs) (N : List Str) : SR K T B (ds.map Slot.frz ++ List.replicate (N.length - ds.length) Slot.un) st (L2.start N vs) H F := by
  have hl := r.length
  refine ⟨w, fun a o h _ _ => by rw [h0] at h; exact h, fun a ps h _ => ⟨ps, by rw [h0] at h; exact h⟩, fun a h => by rw [hF] at h; exact h, fun a h => .inl (by rw [hF]; exact h), by unfold L2.start; simp [hl], fun _ => [], fun i s h => ?_, fun i j a h => absurd h (by simp), fun i a h => absurd h (by simp)⟩
  have get : ∀ (ds : List DV) (vs : List V) (i : Nat) (d : DV), RepMs true K B F H ds vs → ds[i]? = some d → ∃ v, vs[i]? = some v ∧ RepD K B F H d v := by
    intro ds
    induction ds with
    | nil => intro vs i d _ e; simp at e
    | cons d0 ds ih =>
      intro vs i d h e
      obtain ⟨v, r, rfl, h1, h2⟩ := h
      cases i with
      | zero => simp at e; subst e; exact ⟨v, rfl, h1⟩
      | succ i =>
        obtain ⟨w, e1, e2⟩ := ih r i d h2 (by simpa using e)
        exact ⟨w, by simpa using e1, e2⟩
  unfold L2.start
  by_cases hi : i < ds.length
  · rw [List.getElem?_append_left (by simpa using hi), List.getElem?_map] at h
    cases hd : ds[i]? with
    | none => rw [hd] at h; cases h
    | some d =>
      rw [hd] at h
      cases h
      obtain ⟨v, e1, e2⟩ := get ds vs i d r hd
      refine ⟨some v, ?_, rfl, v, rfl, e2⟩
      rw [List.getElem?_append_left (by rw [List.length_map, hl]; exact hi), List.getElem?_map, e1]
      rfl
  · rw [List.getElem?_append_right (by simpa using hi)] at h
    rw [List.getElem?_append_right (by rw [List.length_map, hl]; omega), hl]
    simp only [List.length_map] at h ⊢
    obtain ⟨h1, h2⟩ := List.getElem?_eq_some_iff.mp h
    simp only [List.getElem_replicate] at h2
    subst h2
    rw [List.length_replicate] at h1
    rw [hl]
    exact ⟨none, by rw [List.getElem?_replicate, if_pos h1], rfl⟩
section
variable {P : Program} {w : World} {K : PySem.W.Frag} {mg : Str → Option Value} {base : Heap} {T : FS}
theorem RepMs.len {K : PySem.W.Frag} {B : Bs} {F : FS} {H : Hp} {m : Bool} {ds : List DV} {vs : List V} (r : RepMs m K B F H ds vs) : vs.length = ds.length := r.length
abbrev FnP (K : PySem.W.Frag) (x : Str) (st : Stmt) (f : Addr) (fd : FuncData) : Prop := FunD K x x (defArgs st) (defBody st) (defScope st) [] [] f fd
/-- a def whose body is the statement function g keeps its promise -/
theorem dl_def {x : Str} {st : Stmt} {f : Addr} {fd : FuncData} {N ps : List Str} {k : Nat} {nw : Bool} {g : SF} (F : FnP K x st f fd) (S : FnScope N ps (defScope st))
    (hb : ∀ (cdv : Value) (hcd : fd.code = cdv) (A : Around) (outer : List Env) (s : Shared) (H : Hp) (E : XK), Room k (A.deeper (envOfC x (defScope st) s.heap.objs.size f cdv)) →
      DSs (cxOf (L2N.CX P w) P w K mg base N x (defScope st) f cdv A outer s H E) T (fun cls d _ H => E cls d H) nw (defBody st) g) :
    FnOk P w K mg base (L2N.CX P w) (k + 1) f fd ps (spOf mg K T nw ps.length (runF nw N.length g)) := by
  obtain ⟨oc, od, dV, kV, doc, pm, an, cdv, ct, osl, rfl, lk, hcd, _, _⟩ := F.ex
  refine fn_of lk hcd S (fun vs H Q E h => ?_) (fun A outer s H vs Q E hr h => ?_)
  · obtain ⟨B, F, ds, st, hn, _, r, _⟩ := h
    rw [r.length, hn]
  · obtain ⟨B, Fz, ds, sto, hn, wd, r, q⟩ := h
    refine ⟨_, (hb cdv rfl A outer s H E hr).ps, ?_⟩
    have wd' : Wd K T { H0 := H, F0 := Fz, dr := B.dr } Fz H sto := wd.re rfl
    refine ⟨{ H0 := H, F0 := Fz, dr := B.dr }, _, sto, Fz, SR.start wd' rfl rfl (r.re rfl) N, ?_⟩
    have ext_of : ∀ {st' : Sto} {H' : Hp} {F' : FS}, FinR K T { H0 := H, F0 := Fz, dr := B.dr } st' H' F' → Ext B Fz F' H H' := fun {st' H' F'} fr =>
      ⟨fun a o h t d => fr.base a o h t d, fr.fsub, fr.fnew, fun a d _ => fr.wd.dr_some d, fun a ps h d => fr.btbl a ps h d⟩
    unfold runF at q
    cases hg : g (ds.map Slot.frz ++ List.replicate (N.length - ds.length) Slot.un) sto with
    | nx env' st' =>
      rw [hg] at q
      cases nw with
      | true => exact q.elim
      | false =>
        intro σ' H' F' s' _
        exact q .non H' F' (s'.wd.re rfl) (ext_of s'.fin) (by simp [RepD, Rep])
    | bk env' st' => rw [hg] at q; exact q.elim
    | ct env' st' => rw [hg] at q; exact q.elim
    | rt d st' =>
      rw [hg] at q
      intro v H' F' fr r'
      refine q v H' F' (fr.wd.re rfl) (ext_of fr) ?_
      cases nw with
      | true => exact r'
      | false => exact RepD.re (B := { H0 := H, F0 := Fz, dr := B.dr }) r' rfl
    | exc c st' =>
      rw [hg] at q
      exact fun C hC σ' H' F' fr => q C hC H' F' (fr.wd.re rfl) (ext_of fr)
    | no => rw [hg] at q; exact q.elim
end
end DL

set_option Elab.async false
set_option linter.all false
set_option maxRecDepth 100000
set_option maxHeartbeats 4000000
namespace DL
open PySem PySem.Spec PyProof.Rows L2
/-! ### short words for a printed derivation -/
structure Blts (mg : Str → Option Value) : Prop where
  len : mg "len" = none
  abs : mg "abs" = none
  int : mg "int" = none
  bool : mg "bool" = none
  str : mg "str" = none
  tuple : mg "tuple" = none
  list : mg "list" = none
  max : mg "max" = none
  min : mg "min" = none
  range : mg "range" = none
  sorted : mg "sorted" = none
  isinstance : mg "isinstance" = none
  all : mg "all" = none
  any : mg "any" = none
  enumerate : mg "enumerate" = none
  reversed : mg "reversed" = none
  dict : mg "dict" = none
/-- a def that may be called -/
structure Cal (P : Program) (w : World) (K : PySem.W.Frag) (mg : Str → Option Value) (base : Heap) (T : FS) (x : Str) (k : Nat) (n : Nat) (nw : Bool) (g : List DV → Sto → Res DV) : Prop where
  ex : ∃ f fd ps, ps.length = n ∧ FnOk P w K mg base (L2N.CX P w) k f fd ps (spOf mg K T nw n g) ∧ mg x = some (.ref f) ∧ PySem.W.keepIn K (.ref f) = true ∧ Binds K fd ps []
/-- an own error class that may be raised with a text -/
structure Rs (K : PySem.W.Frag) (mg : Str → Option Value) (x : Str) : Prop where
  ex : ∃ C, mg x = some (.ref C) ∧ PySem.W.excIn K C [.type "ValueError", .type "Exception", .type "BaseException", .type "object"] "ValueError.__new__" = true ∧ PySem.W.keepIn K (.ref C) = true ∧ PySem.W.subIn K (.ref C) (.type "BaseException") = some true ∧ PySem.W.typeIn K (.ref C) = some (.type "type")
section
variable {X : Cx} {T : FS} {W : WX} {nw m m1 m2 m3 : Bool} {pos : Pos} {a b c e x tg : Expr} {es : List Expr} {f g h : DF DV} {fs : DF (List DV)} {tf : DF Bool} {s : Stmt} {k : Nat}
theorem de_add (ha : DE X T W false a f) (hb : DE X T W false b g) : DE X T W m (.BinOp a .Add b pos) (fOp2 hAdd f g) := de_bin (n := true) op_hadd hadd_ok ha hb
theorem do_add (ha : DE X T W false a f) (hb : DE X T W false b g) : DO X T W (.BinOp a .Add b pos) (fLst (fOp2 hAdd f g)) := do_bin op_hadd hadd_ok ha hb
theorem de_sub (ha : DE X T W false a f) (hb : DE X T W false b g) : DE X T W m (.BinOp a .Sub b pos) (fOp2 hSub f g) := de_bin (n := false) op_sub hint0_ok ha hb
theorem de_mul (ha : DE X T W false a f) (hb : DE X T W false b g) : DE X T W m (.BinOp a .Mult b pos) (fOp2 hMul f g) := de_bin (n := true) op_hmul hmul_ok ha hb
theorem do_mul (ha : DE X T W false a f) (hb : DE X T W false b g) : DO X T W (.BinOp a .Mult b pos) (fLst (fOp2 hMul f g)) := do_bin op_hmul hmul_ok ha hb
theorem de_mod (ha : DE X T W false a f) (hb : DE X T W false b g) : DE X T W m (.BinOp a .Mod b pos) (fOp2 hMod f g) := de_bin (n := false) op_modN (hint_ok fun _ _ h => of_decide_eq_true h) ha hb
theorem de_fdiv (ha : DE X T W false a f) (hb : DE X T W false b g) : DE X T W m (.BinOp a .FloorDiv b pos) (fOp2 hFdiv f g) := de_bin (n := false) op_fdivN (hint_ok fun i j h => show j ≠ 0 ∧ j.natAbs < 1073741824 from of_decide_eq_true h) ha hb
theorem de_pow (ha : DE X T W false a f) (hb : DE X T W false b g) : DE X T W m (.BinOp a .Pow b pos) (fOp2 hPow f g) := de_bin (n := false) op_pow (hint_ok fun i j h => show 0 ≤ j ∧ j ≤ 1000000 ∧ i.natAbs < 2 ^ 64 from of_decide_eq_true h) ha hb
theorem de_shr (ha : DE X T W false a f) (hb : DE X T W false b g) : DE X T W m (.BinOp a .RShift b pos) (fOp2 hShr f g) := de_bin (n := false) op_shr (hint_ok fun _ _ h => of_decide_eq_true h) ha hb
theorem de_xor (ha : DE X T W false a f) (hb : DE X T W false b g) : DE X T W m (.BinOp a .BitXor b pos) (fOp2 hXor f g) := de_bin (n := false) op_xor hint0_ok ha hb
def hLe : DV → DV → Option DV := hCmp fun i j => decide (i ≤ j)
def hLtI : DV → DV → Option DV := hCmp fun i j => decide (i < j)
def hGt : DV → DV → Option DV := hCmp fun i j => decide (j < i)
def hGe : DV → DV → Option DV := hCmp fun i j => decide (j ≤ i)
theorem hle_ok {n : Bool} {K : PySem.W.Frag} : Op2 n K (rI0 fun i j => .bl (decide (i ≤ j))) hLe := hcmp_ok
theorem hlti_ok {n : Bool} {K : PySem.W.Frag} : Op2 n K (rI0 fun i j => .bl (decide (i < j))) hLtI := hcmp_ok
theorem hgt_ok {n : Bool} {K : PySem.W.Frag} : Op2 n K (rI0 fun i j => .bl (decide (j < i))) hGt := hcmp_ok
theorem hge_ok {n : Bool} {K : PySem.W.Frag} : Op2 n K (rI0 fun i j => .bl (decide (j ≤ i))) hGe := hcmp_ok
theorem de_eq (hr : Room k X.A) (ha : DE X T W false a f) (hb : DE X T W false b g) : DE X T W m (.Compare a [.Eq] [b] pos) (fOp2 hEq f g) := de_cmp (n := false) (op_eqD hr.units) heq_ok ha hb (nomark _)
theorem de_ne (hr : Room k X.A) (ha : DE X T W false a f) (hb : DE X T W false b g) : DE X T W m (.Compare a [.NotEq] [b] pos) (fOp2 hNe f g) := de_cmp (n := false) (op_neD hr.units) hne_ok ha hb (nomark _)
theorem de_lt (hr : Room k X.A) (ha : DE X T W false a f) (hb : DE X T W false b g) : DE X T W m (.Compare a [.Lt] [b] pos) (fOp2 hLt f g) := de_cmp (n := false) (op_hlt hr) hlt_ok ha hb (nomark _)
theorem de_le (hr : Room k X.A) (ha : DE X T W false a f) (hb : DE X T W false b g) : DE X T W m (.Compare a [.LtE] [b] pos) (fOp2 hLe f g) := de_cmp (n := false) op_le hle_ok ha hb (nomark _)
theorem de_gt (hr : Room k X.A) (ha : DE X T W false a f) (hb : DE X T W false b g) : DE X T W m (.Compare a [.Gt] [b] pos) (fOp2 hGt f g) := de_cmp (n := false) op_gt hgt_ok ha hb (nomark _)
theorem de_ge (hr : Room k X.A) (ha : DE X T W false a f) (hb : DE X T W false b g) : DE X T W m (.Compare a [.GtE] [b] pos) (fOp2 hGe f g) := de_cmp (n := false) op_ge hge_ok ha hb (nomark _)
theorem de_is (hr : Room k X.A) (ha : DE X T W false a f) (hb : DE X T W false b g) : DE X T W m (.Compare a [.Is] [b] pos) (fOp2 hIs f g) := de_cmp (n := false) op_his his_ok ha hb (nomark _)
theorem de_isnot (hr : Room k X.A) (ha : DE X T W false a f) (hb : DE X T W false b g) : DE X T W m (.Compare a [.IsNot] [b] pos) (fOp2 hIsNot f g) := de_cmp (n := false) op_hisN hisN_ok ha hb (nomark _)
theorem de_in (hr : Room k X.A) (ha : DE X T W false a f) (hb : DE X T W false b g) (hm : behindInMarks .In b = false := by rfl) : DE X T W m (.Compare a [.In] [b] pos) (fOp2 hIn f g) := de_cmp (n := false) (op_hin hr) hin_ok ha hb hm
theorem de_notin (hr : Room k X.A) (ha : DE X T W false a f) (hb : DE X T W false b g) (hm : behindInMarks .NotIn b = false := by rfl) : DE X T W m (.Compare a [.NotIn] [b] pos) (fOp2 hNotIn f g) := de_cmp (n := false) (op_hnotin hr) hnotin_ok ha hb hm
theorem dt_eq (hr : Room k X.A) (ha : DE X T W false a f) (hb : DE X T W false b g) : DT X T W (.Compare a [.Eq] [b] pos) (fB (fOp2 hEq f g)) := dt_cmp (n := false) (op_eqD hr.units) heq_ok ha hb (nomark _)
theorem dt_ne (hr : Room k X.A) (ha : DE X T W false a f) (hb : DE X T W false b g) : DT X T W (.Compare a [.NotEq] [b] pos) (fB (fOp2 hNe f g)) := dt_cmp (n := false) (op_neD hr.units) hne_ok ha hb (nomark _)
theorem dt_lt (hr : Room k X.A) (ha : DE X T W false a f) (hb : DE X T W false b g) : DT X T W (.Compare a [.Lt] [b] pos) (fB (fOp2 hLt f g)) := dt_cmp (n := false) (op_hlt hr) hlt_ok ha hb (nomark _)
theorem dt_le (hr : Room k X.A) (ha : DE X T W false a f) (hb : DE X T W false b g) : DT X T W (.Compare a [.LtE] [b] pos) (fB (fOp2 hLe f g)) := dt_cmp (n := false) op_le hle_ok ha hb (nomark _)
theorem dt_gt (hr : Room k X.A) (ha : DE X T W false a f) (hb : DE X T W false b g) : DT X T W (.Compare a [.Gt] [b] pos) (fB (fOp2 hGt f g)) := dt_cmp (n := false) op_gt hgt_ok ha hb (nomark _)
theorem dt_ge (hr : Room k X.A) (ha : DE X T W false a f) (hb : DE X T W false b g) : DT X T W (.Compare a [.GtE] [b] pos) (fB (fOp2 hGe f g)) := dt_cmp (n := false) op_ge hge_ok ha hb (nomark _)
theorem dt_is (hr : Room k X.A) (ha : DE X T W false a f) (hb : DE X T W false b g) : DT X T W (.Compare a [.Is] [b] pos) (fB (fOp2 hIs f g)) := dt_cmp (n := false) op_his his_ok ha hb (nomark _)
theorem dt_isnot (hr : Room k X.A) (ha : DE X T W false a f) (hb : DE X T W false b g) : DT X T W (.Compare a [.IsNot] [b] pos) (fB (fOp2 hIsNot f g)) := dt_cmp (n := false) op_hisN hisN_ok ha hb (nomark _)
theorem dt_in (hr : Room k X.A) (ha : DE X T W false a f) (hb : DE X T W false b g) (hm : behindInMarks .In b = false := by rfl) : DT X T W (.Compare a [.In] [b] pos) (fB (fOp2 hIn f g)) := dt_cmp (n := false) (op_hin hr) hin_ok ha hb hm
theorem dt_notin (hr : Room k X.A) (ha : DE X T W false a f) (hb : DE X T W false b g) (hm : behindInMarks .NotIn b = false := by rfl) : DT X T W (.Compare a [.NotIn] [b] pos) (fB (fOp2 hNotIn f g)) := dt_cmp (n := false) (op_hnotin hr) hnotin_ok ha hb hm
section
variable {p : Pos}
theorem de_len (B : Blts X.mg) (ha : DA X T W false [a] fs) (hg : Gl X "len" := by rfl) (he : starEach [a] X.env = (false, eval a X.env) :: starEach [] X.env := by rfl) (hpl : (backTo pos (starEach [] X.env)).any (·.1) = false := by rfl) :
    DE X T W m (.Call (.Name "len" p) [a] [] pos) (fOpN hLen fs) := de_call (n := false) (pe_callB call_len_seq hg B.len PySem.boot_len ha.pa (by decide) (by decide) he hpl) hlen_ok
theorem de_abs (B : Blts X.mg) (ha : DA X T W false [a] fs) (hg : Gl X "abs" := by rfl) (he : starEach [a] X.env = (false, eval a X.env) :: starEach [] X.env := by rfl) (hpl : (backTo pos (starEach [] X.env)).any (·.1) = false := by rfl) :
    DE X T W m (.Call (.Name "abs" p) [a] [] pos) (fOpN hAbs fs) := de_call (n := false) (pe_callB call_abs hg B.abs (by decide +kernel) ha.pa (by decide) (by decide) he hpl) habs_ok
theorem de_int_ (B : Blts X.mg) (ha : DA X T W false [a] fs) (hg : Gl X "int" := by rfl) (he : starEach [a] X.env = (false, eval a X.env) :: starEach [] X.env := by rfl) (hpl : (backTo pos (starEach [] X.env)).any (·.1) = false := by rfl) :
    DE X T W m (.Call (.Name "int" p) [a] [] pos) (fOpN hIntOf fs) := de_call (n := false) (pe_callTy call_int1 hg B.int (by decide +kernel) ha.pa (by decide) (by decide) he hpl) hintof_ok
theorem de_tuple (B : Blts X.mg) (ha : DA X T W false [a] fs) (hg : Gl X "tuple" := by rfl) (he : starEach [a] X.env = (false, eval a X.env) :: starEach [] X.env := by rfl) (hpl : (backTo pos (starEach [] X.env)).any (·.1) = false := by rfl) :
    DE X T W m (.Call (.Name "tuple" p) [a] [] pos) (fOpN hTuple fs) := de_call (n := false) (pe_callTy call_tuple_of hg B.tuple (by decide +kernel) ha.pa (by decide) (by decide) he hpl) htuple_ok
theorem de_list (B : Blts X.mg) (ha : DA X T W false [a] fs) (hg : Gl X "list" := by rfl) (he : starEach [a] X.env = (false, eval a X.env) :: starEach [] X.env := by rfl) (hpl : (backTo pos (starEach [] X.env)).any (·.1) = false := by rfl) :
    DE X T W m (.Call (.Name "list" p) [a] [] pos) (fOpN hList fs) := de_call (n := true) (pe_callTy call_list_of hg B.list (by decide +kernel) ha.pa (by decide) (by decide) he hpl) hlist_ok
theorem do_list (B : Blts X.mg) (ha : DA X T W false [a] fs) (hg : Gl X "list" := by rfl) (he : starEach [a] X.env = (false, eval a X.env) :: starEach [] X.env := by rfl) (hpl : (backTo pos (starEach [] X.env)).any (·.1) = false := by rfl) :
    DO X T W (.Call (.Name "list" p) [a] [] pos) (fLst (fOpN hList fs)) := do_call (pe_callTy call_list_of hg B.list (by decide +kernel) ha.pa (by decide) (by decide) he hpl) hlist_ok
theorem de_max (hc : X.calm = true) (B : Blts X.mg) (ha : DA X T W false (a :: es) fs) (hg : Gl X "max" := by rfl) (he : starEach (a :: es) X.env = (false, eval a X.env) :: starEach es X.env := by rfl) (hpl : (backTo pos (starEach es X.env)).any (·.1) = false := by rfl) :
    DE X T W m (.Call (.Name "max" p) (a :: es) [] pos) (fOpN hMax fs) := de_call (n := false) (pe_callB (cr_hmax hc) hg B.max (by decide +kernel) ha.pa (by decide) (by decide) he hpl) hmax_ok
theorem de_min (hc : X.calm = true) (B : Blts X.mg) (ha : DA X T W false (a :: es) fs) (hg : Gl X "min" := by rfl) (he : starEach (a :: es) X.env = (false, eval a X.env) :: starEach es X.env := by rfl) (hpl : (backTo pos (starEach es X.env)).any (·.1) = false := by rfl) :
    DE X T W m (.Call (.Name "min" p) (a :: es) [] pos) (fOpN hMin fs) := de_call (n := false) (pe_callB (cr_hmin hc) hg B.min (by decide +kernel) ha.pa (by decide) (by decide) he hpl) hmin_ok
theorem de_sorted (B : Blts X.mg) (ha : DA X T W false [a] fs) (hg : Gl X "sorted" := by rfl) (he : starEach [a] X.env = (false, eval a X.env) :: starEach [] X.env := by rfl) (hpl : (backTo pos (starEach [] X.env)).any (·.1) = false := by rfl) :
    DE X T W m (.Call (.Name "sorted" p) [a] [] pos) (fOpN hSorted fs) := de_call (n := true) (pe_callB cr_sortedI hg B.sorted (by decide +kernel) ha.pa (by decide) (by decide) he hpl) hsorted_ok
theorem de_isinst {t : String} {p2 : Pos} {y : Str} (B : Blts X.mg) (hT : X.mg y = none) (hv : bootBuiltins y = some (.type t)) (ha : DE X T W false x f) (hg : Gl X "isinstance" := by rfl) (hy : Gl X y := by rfl) (hn : y ≠ "__name__" := by decide) (hd : (y == ("__debug__" : Str)) = false := by decide)
    (he : starEach [x, .Name y p2] X.env = (false, eval x X.env) :: starEach [.Name y p2] X.env := by rfl) (he2 : starEach [.Name y p2] X.env = (false, eval (.Name y p2) X.env) :: starEach [] X.env := by rfl) (hpl : (backTo pos (starEach [.Name y p2] X.env)).any (·.1) = false := by rfl) :
    DE X T W m (.Call (.Name "isinstance" p) [x, .Name y p2] [] pos) (fOp1 (hIsi t) f) := de_isi hg B.isinstance (pe_bltn hy hT hv rfl hn hd) ha he he2 hpl
theorem de_cal {y : Str} {n : Nat} {gF : List DV → Sto → Res DV} (C : Cal X.prog X.w X.K X.mg X.base T y k n false gF) (hr : Room k X.A) (tk : L2N.Takes X W) (ha : DA X T W true (e :: es) fs) (hg : Gl X y := by rfl) (hdb : (y == ("__debug__" : Str)) = false := by decide)
    (he : starEach (e :: es) X.env = (false, eval e X.env) :: starEach es X.env := by rfl) (hpl : (backTo pos (starEach es X.env)).any (·.1) = false := by rfl) : DE X T W m (.Call (.Name y p) (e :: es) [] pos) (fOwn n gF fs) := by
  obtain ⟨fa, fd, ps, rfl, F, h1, h2, h3⟩ := C.ex
  exact de_own (pe_callS F hr hg h1 h2 h3 (fun σ => L2N.passAt tk σ) ha.pa hdb he hpl)
theorem do_cal {y : Str} {n : Nat} {gF : List DV → Sto → Res DV} (C : Cal X.prog X.w X.K X.mg X.base T y k n true gF) (hr : Room k X.A) (tk : L2N.Takes X W) (ha : DA X T W true (e :: es) fs) (hg : Gl X y := by rfl) (hdb : (y == ("__debug__" : Str)) = false := by decide)
    (he : starEach (e :: es) X.env = (false, eval e X.env) :: starEach es X.env := by rfl) (hpl : (backTo pos (starEach es X.env)).any (·.1) = false := by rfl) : DO X T W (.Call (.Name y p) (e :: es) [] pos) (fOwn n gF fs) := by
  obtain ⟨fa, fd, ps, rfl, F, h1, h2, h3⟩ := C.ex
  exact do_own (pe_callS F hr hg h1 h2 h3 (fun σ => L2N.passAt tk σ) ha.pa hdb he hpl)
theorem ds_raiseT {y t : Str} {j : Nat} {p2 pos2 : Pos} (R : Rs X.K X.mg y) (hc : X.calm = true) (tk : L2N.Takes X W) (hg : Gl X y := by rfl) (hdb : (y == ("__debug__" : Str)) = false := by decide) :
    DS X T W nw (.Raise (some (.Call (.Name y p) [.Constant (.str t) j p2] [] pos)) none pos2) (gRaise y) := by
  obtain ⟨C, h1, h2, h3, h4, h5⟩ := R.ex
  exact ds_raise h1 (L2N.ps_raise hc tk (L2N.pmk_own PySem.F.excBase_ValueError h2 h1 h3 (raises_own h4 h5) hg hdb))
end
theorem ds_setLc {i : Nat} {y : Str} {py : Pos} {elt iter : Expr} {ifs : List Expr} {scope : Scope} {own : List (Str × Nat)} {spos : Pos} {src : DF (List PyData)} {t : TG} {asg : AF} (hc : X.calm = true) (hN : X.N.Nodup) (hy : X.N[i]? = some y) (hyl : X.env.scope.names.lookup y = some .local)
    (hsw : swapsWith (.ListComp elt [⟨tg, iter, ifs, 0⟩] scope pos) (some (.Name y py)) spos.line X.env = pure true) (hi : DI X T W false tg iter src) (ok : BlkOk X.N X.env.scope scope own)
    (hin : Inner t (own.map (·.2))) (hga : AsgOk X.K T t asg)
    (hg : ∀ (s : Shared) (H : Hp) (C : Addr) (cl : List (Str × Addr)) (fp : List Addr), PG (X.blk s H scope (compEnvC scope cl C X.env) fp) tg t)
    (ht : ∀ (s : Shared) (H : Hp) (C : Addr) (cl : List (Str × Addr)) (fp : List Addr), DTs (X.blk s H scope (compEnvC scope cl C X.env) fp) T W0 ifs tf)
    (he : ∀ (s : Shared) (H : Hp) (C : Addr) (cl : List (Str × Addr)) (fp : List Addr), DE (X.blk s H scope (compEnvC scope cl C X.env) fp) T W0 true elt f) (hs : ∀ x, foldedSetIterable iter X.env x = pure x := by intro _; rfl) :
    DS X T W nw (.Assign [.Name y py] (.ListComp elt [⟨tg, iter, ifs, 0⟩] scope pos) spos) (gSet i (fLc src asg tf f (own.map (·.2)))) := by
  refine ds_set (f := fLc src asg tf f (own.map (·.2))) (PS.imp (ps_setLc (tt := tDT X T W0 tf) (te := tDE X T W0 true f) hc hN hy hyl hsw hi.pi ok hg (fun s H C cl fp => (ht s H C cl fp).pt) (fun s H C cl fp => (he s H C cl fp).pe) hs) fun D σ H h => ?_)
  obtain ⟨B, env, st, F, sr, q⟩ := h
  refine lc_go hga hin sr ?_
  cases hq : fLc src asg tf f (own.map (·.2)) env st with
  | no => rw [hq] at q; exact q
  | exc c s => rw [hq] at q; exact q
  | ok d s =>
    rw [hq] at q
    intro H' F' w' x' v r
    obtain ⟨F2, w2, e2, r2⟩ := r.frz sr.wd w' x'
    exact q H' F2 w2 e2 v r2
theorem ds_ownLc {i : Nat} {y : Str} {py : Pos} {elt iter : Expr} {ifs : List Expr} {scope : Scope} {own : List (Str × Nat)} {spos : Pos} {src : DF (List PyData)} {t : TG} {asg : AF} (hc : X.calm = true) (hN : X.N.Nodup) (hy : X.N[i]? = some y) (hyl : X.env.scope.names.lookup y = some .local)
    (hsw : swapsWith (.ListComp elt [⟨tg, iter, ifs, 0⟩] scope pos) (some (.Name y py)) spos.line X.env = pure true) (hi : DI X T W false tg iter src) (ok : BlkOk X.N X.env.scope scope own)
    (hin : Inner t (own.map (·.2))) (hga : AsgOk X.K T t asg)
    (hg : ∀ (s : Shared) (H : Hp) (C : Addr) (cl : List (Str × Addr)) (fp : List Addr), PG (X.blk s H scope (compEnvC scope cl C X.env) fp) tg t)
    (ht : ∀ (s : Shared) (H : Hp) (C : Addr) (cl : List (Str × Addr)) (fp : List Addr), DTs (X.blk s H scope (compEnvC scope cl C X.env) fp) T W0 ifs tf)
    (he : ∀ (s : Shared) (H : Hp) (C : Addr) (cl : List (Str × Addr)) (fp : List Addr), DE (X.blk s H scope (compEnvC scope cl C X.env) fp) T W0 true elt f) (hs : ∀ x, foldedSetIterable iter X.env x = pure x := by intro _; rfl) :
    DS X T W nw (.Assign [.Name y py] (.ListComp elt [⟨tg, iter, ifs, 0⟩] scope pos) spos) (gOwn i (fLc src asg tf f (own.map (·.2)))) := by
  refine ds_own (f := fLc src asg tf f (own.map (·.2))) (PS.imp (ps_setLc (tt := tDT X T W0 tf) (te := tDE X T W0 true f) hc hN hy hyl hsw hi.pi ok hg (fun s H C cl fp => (ht s H C cl fp).pt) (fun s H C cl fp => (he s H C cl fp).pe) hs) fun D σ H h => ?_)
  obtain ⟨B, env, st, F, sr, q⟩ := h
  exact lc_go hga hin sr q
theorem de_const {y : Str} {i : Int} {t : Tok} {p : Pos} (h : X.mg y = some (.int i t)) (hg : Gl X y := by rfl) (hd : (y == ("__debug__" : Str)) = false := by decide) : DE X T W m (.Name y p) (fC (.int i)) :=
  de_of (pe_glob (v := V.int i) hg h ⟨t, rfl⟩ hd) fun σ H Q B env st F sr q => q H F sr.wd .refl (.int i) (RepM.of (by simp [RepD, Rep]))
theorem dss_never {ss : List Stmt} : DSs X T W nw ss (fun _ _ => .no) := ⟨PSs.imp pss_never fun D σ H ⟨B, env, st, F, sr, q⟩ => q⟩
end
theorem cal_of {P : Program} {w : World} {K : PySem.W.Frag} {mg : Str → Option Value} {base : Heap} {T : FS} {x : Str} {k n : Nat} {ps : List Str} {nw : Bool} {g : List DV → Sto → Res DV} {f : Addr} {fd : FuncData} (h : FnOk P w K mg base (L2N.CX P w) k f fd ps (spOf mg K T nw ps.length g)) (hn : ps.length = n) (h1 : mg x = some (.ref f)) (h2 : PySem.W.keepIn K (.ref f) = true) (h3 : Binds K fd ps []) :
    Cal P w K mg base T x k n nw g := by
  subst hn
  exact ⟨⟨f, fd, ps, rfl, h, h1, h2, h3⟩⟩
end DL

set_option Elab.async false
set_option linter.all false
set_option maxRecDepth 100000
set_option maxHeartbeats 4000000
namespace DL
open PySem PySem.Spec PyProof.Rows L2
open PySem (Seg GenEnd Protocol)

/-! ### a generator expression's turns, at the level of HandS -/
/-- the context of a generator expression's block -/
abbrev gcx (X : Cx) (A' : Around) (s : Shared) (H : Hp) (cenv : Env) (fp : List Addr) (pn : List (Addr × Obj)) : Cx :=
  { X with A := A', s_0 := s, H_0 := H, env := cenv, outer := X.stack, stack := cenv :: X.stack, ex := fp, fn := fun _ => false, pn := pn, xe := fun _ _ => False }
/-- what the turns ask: over the iterator's items; Q the answer -/
def GenT (isAll : Bool) (J : It) (g : TG) (tt : TT) (te : TE) (vs : List Nat) (σ : L2.St) (Q : Bool → Hp → Prop) (W : Nat → Nat → Hp → Prop) : Prop := ∀ i m H, W i m H →
  (J.stop i H ∧ Q isAll H) ∨ (J.go i H ∧ ∃ Nx : Hp → Prop, (∀ H', Nx H' → ∃ m', m' < m ∧ W (i + 1) m' H') ∧ ∀ x H', J.yld i H x H' → g x (wipe σ vs) H' fun σ2 H2 => wipe σ2 vs = wipe σ vs ∧ tt σ2 H2 fun b H3 =>
    if b = true then te σ2 H3 fun y H4 => ∃ r, y = .bl r ∧ (if r = isAll then Nx H4 else Q r H4) else Nx H3)
section
variable {Y : Cx} {σ0 σ : L2.St} {isAll : Bool} {J : It} {g : TG} {tt : TT} {te : TE} {vs : List Nat} {Q : Bool → Hp → Prop} {W : Nat → Nat → Hp → Prop} {it : Addr} {fp : List Addr} {tn : Nat → Heap → Prop}
/-- at rest ahead of turn i -/
def AtT (Y : Cx) (W : Nat → Nat → Hp → Prop) (σ : L2.St) (vs : List Nat) (fp : List Addr) (tn : Nat → Heap → Prop) (m : Nat) (s : Shared) : Prop := ∃ i H', Inv Y [] (wipe σ vs) H' s ∧ tn i s.heap ∧ (∀ b ∈ fp, H' b = none) ∧ W i m H'
theorem Inv.re {X : Cx} {pins : List (Addr × Obj)} {H : Hp} {s s' : Shared} (I : Inv X pins σ H s) (hh : s'.heap = s.heap) (ho : s'.os = s.os) (hg : AllBare s'.gens) : Inv X pins σ H s' := by
  obtain ⟨h', g', d', t', o'⟩ := s'
  have hh : h' = s.heap := hh
  have ho : o' = s.os := ho
  subst hh ho
  exact ⟨I.ok, I.os, hg, I.base, I.loc, I.cell, I.free, I.freeC, I.pin, I.hok, I.len⟩
theorem AtT.re {m : Nat} {s s' : Shared} (h : AtT Y W σ vs fp tn m s) (hh : s'.heap = s.heap) (ho : s'.os = s.os) (hg : AllBare s'.gens) : AtT Y W σ vs fp tn m s' := by
  obtain ⟨i, H', I, st, n, w⟩ := h
  exact ⟨i, H', Inv.re I hh ho hg, by rw [hh]; exact st, n, w⟩
def gEnd (Y : Cx) (isAll : Bool) (Q : Bool → Hp → Prop) (σ : L2.St) (vs : List Nat) : Nat → Shared → Shared → Prop := fun _ _ s₁ => ∃ H', Inv Y [] (wipe σ vs) H' s₁ ∧ Q isAll H'
def gProt (Y : Cx) (isAll : Bool) (Q : Bool → Hp → Prop) (W : Nat → Nat → Hp → Prop) (σ : L2.St) (vs : List Nat) (fp : List Addr) (tn : Nat → Heap → Prop) : Protocol := fun n _ v s kap =>
  ∃ r, v = .bool r ∧ (if r = isAll then ∃ m, m < n ∧ AtT Y W σ vs fp tn m s ∧ ∀ s'' : Shared, s''.heap = s.heap → s''.os = s.os → AllBare s''.gens → kap (.send .none) s'' else ∃ H', Inv Y [] (wipe σ vs) H' s ∧ Q r H')
theorem gen_loop {elt tg iter : Expr} {ifs : List Expr} {scope : Scope} {pos : Pos} {A : Around} (hA : Y.A = A.over (.compLoop (.GeneratorExp elt [⟨tg, iter, ifs, 0⟩] scope pos) 0 (.ref it) .none Y.env) [])
    (hxe : Y.xe = fun _ _ => False) (hpn : ∀ b ∈ fp, FpOk Y [] (fun _ => none) b) (hc : Y.calm = true) (T : Turn Y.prog Y.w Y.K tg J fp it tn) (hco : Y.env.scope.isCoroutine = false)
    (hg : PG Y tg g) (ht : PTs Y ifs tt) (he : PE Y elt te) (turn : GenT isAll J g tt te vs σ Q W) :
    ∀ (m n : Nat) (s₀ s : Shared), m < n → AtT Y W σ vs fp tn m s →
      Seg (model Y.prog Y.w) A (fun n s₀ r s₁ => r = .ok .next ∧ gEnd Y isAll Q σ vs n s₀ s₁) (gProt Y isAll Q W σ vs fp tn) n s₀ (.compLoop (.GeneratorExp elt [⟨tg, iter, ifs, 0⟩] scope pos) 0 (.ref it) .none Y.env)
        ((model Y.prog Y.w).den (.compLoop (.GeneratorExp elt [⟨tg, iter, ifs, 0⟩] scope pos) 0 (.ref it) .none Y.env)) [] s := by
  have stat : ∀ {H' : Hp}, (∀ b ∈ fp, H' b = none) → ∀ b ∈ fp, FpOk Y [] H' b := fun hn b hb => ⟨hn b hb, (hpn b hb).2⟩
  intro m
  induction m using Nat.strongRecOn with
  | ind m ih =>
  intro n s₀ s hmn ⟨i, H5, I5, st5, n5, w5⟩
  show Seg _ A _ _ _ s₀ _ ((compTurn (.GeneratorExp elt [⟨tg, iter, ifs, 0⟩] scope pos) 0 (.ref it) .none Y.env).onRaise (leaving Y.env)) [] s
  rw [compTurn_gen, Sem.onRaise_eq_wrap]
  refine seg_bind_wrap (wpAny_standAt ?_)
  rcases turn i m H5 w5 with ⟨stop, qq⟩ | ⟨go, Nx, hNx, step⟩
  · refine seg_bind_wrap ?_
    rw [← hA]
    have td := T.done Y rfl rfl rfl hc i [] s _ H5 (fun _ _ => False) I5 (stat n5) st5 stop
    refine thnF td fun r s6 ⟨hr, I6⟩ => ?_
    subst hr
    exact seg_end (.ok .next) ⟨rfl, H5, I6, qq⟩
  · refine seg_bind_wrap ?_
    rw [← hA]
    have ti := T.item Y rfl rfl rfl hc i [] s _ H5 (fun _ _ => False) I5 (stat n5) st5 go
    refine thnF ti fun r s6 ⟨u, hr, h6⟩ => ?_
    subst hr
    refine seg_bind_wrap ?_
    rw [← hA]
    refine thnF h6 fun _ s7 ⟨x, H7, I7, r7, y7, st7, n7⟩ => ?_
    have I7' := I7.pinned (stat n7) (T.obj _ _ st7)
    have pgr := hg.run _ s7 _ H7 x u _ I7' r7 (step x H7 y7)
    rw [hxe] at pgr
    refine seg_bind_wrap ?_
    rw [← hA]
    refine thnF pgr fun _ s8 ⟨σ8, H8, I8, hw8, q8⟩ => ?_
    have ptr := ht.run _ s8 σ8 H8 _ I8 q8
    rw [hxe] at ptr
    refine seg_bind_wrap ?_
    rw [← hA]
    refine thnF ptr fun b s9 ⟨H9, I9, q9⟩ => ?_
    have hl : (wipe σ vs).length = σ8.length := by rw [← hw8, wipe_length]
    have wk : ∀ {s' : Shared} {H' : Hp}, Inv Y ([] ++ pinsAt fp s7.heap) σ8 H' s' → Inv Y [] (wipe σ vs) H' s' := fun {s' H'} I' => (I'.unpinned (pins := [])).weak hl (fun j v e => by
      rw [← hw8] at e
      exact (wipe_some e).1)
    have fin : ∀ {s' : Shared} {H' : Hp}, Inv Y ([] ++ pinsAt fp s7.heap) σ8 H' s' → Nx H' → ∃ m', m' < m ∧ AtT Y W σ vs fp tn m' s' := fun {s' H'} I' nx => by
      obtain ⟨m', hm, w'⟩ := hNx H' nx
      have pin' : ∀ b ∈ fp, ∀ o, s7.heap.get? b = some o → s'.heap.get? b = some o ∧ H' b = none := fun b hb o e =>
        let z := I'.pin (b, o) (List.mem_append_right _ (List.mem_append_right _ (mem_pinsAt hb e)))
        ⟨z.1, z.2.1⟩
      refine ⟨m', hm, i + 1, H', wk I', T.keep _ _ _ st7 fun b hb o e => (pin' b hb o e).1, fun b hb => ?_, w'⟩
      obtain ⟨o, e, _⟩ := T.obj _ _ st7 b hb
      exact (pin' b hb o e).2
    cases b with
    | false =>
      simp only [Bool.false_eq_true, if_false] at q9 ⊢
      obtain ⟨m', hm, at'⟩ := fin I9 q9
      exact seg_again rfl (ih m' hm n s₀ s9 (by omega) at')
    | true =>
      simp only [if_true] at q9 ⊢
      have hy : ∀ v, yieldOut Y.env v = yieldValue v := fun v => by simp only [yieldOut, hco, Bool.false_eq_true, if_false]
      simp only [hy]
      rw [Sem.bind_eq_wrap', Sem.bind_eq_wrap', Sem.wrap_wrap, Sem.wrap_wrap]
      have per := he.run _ s9 σ8 H9 _ I9 q9
      rw [hxe] at per
      refine seg_wrap ?_
      rw [← hA]
      refine thnF per fun z s10 ⟨yv, H10, I10, r10, r, hr, nx⟩ => ?_
      subst hr
      have hz : z = .bool r := r10
      subst hz
      obtain ⟨n', rfl⟩ : ∃ n', n = n' + 1 := ⟨n - 1, by omega⟩
      refine seg_at (seg_yield rfl rfl rfl ⟨r, rfl, ?_⟩)
      by_cases hr : r = isAll
      · rw [if_pos hr] at nx ⊢
        obtain ⟨m', hm, at'⟩ := fin I10 nx
        refine ⟨m', by show m' < n'; omega, at', fun s'' hh ho hb => ?_⟩
        exact seg_again rfl (ih m' hm n' s'' s'' (by omega) (at'.re hh ho hb))
      · rw [if_neg hr] at nx ⊢
        exact ⟨H10, wk I10, nx⟩

theorem AllBare.setGen {s : Shared} {gi : Nat} {gs : GenState} (h : AllBare s.gens) (hb : gs.bare = true) : AllBare (s.setGen gi gs).gens := by
  intro y hy
  obtain ⟨k, hk, rfl⟩ := Array.mem_iff_getElem.mp hy
  have hk' : k < s.gens.size := by simpa [Shared.setGen] using hk
  by_cases e : k = gi
  · subst e
    simp [Shared.setGen]
    exact hb
  · have : (s.setGen gi gs).gens[k] = s.gens[k] := Array.getElem_setIfInBounds_ne hk' (Ne.symm e)
    rw [this]
    exact h _ (Array.getElem_mem hk')
theorem setGen_at {s : Shared} {gi : Nat} {x : GenState} (h : gi < s.gens.size) : (s.setGen gi x).gens[gi]? = some x := by simp [Shared.setGen, h]
/-- a generator at rest, ready to go on -/
def RestG (Y : Cx) (M : Model) (A2 : Around) (isAll : Bool) (Q : Bool → Hp → Prop) (W : Nat → Nat → Hp → Prop) (σ : L2.St) (vs : List Nat) (fp : List Addr) (tn : Nat → Heap → Prop) (gi n : Nat) (s : Shared) : Prop :=
  ∃ gs m, s.gens[gi]? = some gs ∧ m < n ∧ AtT Y W σ vs fp tn m s ∧ ∀ s'' : Shared, s''.heap = s.heap → s''.os = s.os → AllBare s''.gens →
    gs.Goes M A2 (fun n s₀ r s₁ => r = .ok .next ∧ gEnd Y isAll Q σ vs n s₀ s₁) (gProt Y isAll Q W σ vs fp tn) n (.send .none) s''
/-- one step of the generator -/
theorem gen_next {a : Addr} {gi : Nat} {A1 : Around} {n : Nat} {s : Shared} {R : Option Value → Shared → Prop} {E : Value → Shared → Prop} (hh : A1.handled = none) (hroom : A1.depth < recursionLimit) (hgen : ∀ {σ' : L2.St} {H' : Hp} {s' : Shared}, Inv Y [] σ' H' s' → s'.heap.IsGen a gi)
    (rest : RestG Y (model Y.prog Y.w) A1.in1 isAll Q W σ vs fp tn gi n s)
    (hstop : ∀ s' H', Inv Y [] (wipe σ vs) H' s' → Q isAll H' → R none s')
    (hend : ∀ r s' H', r ≠ isAll → Inv Y [] (wipe σ vs) H' s' → Q r H' → R (some (.bool r)) s')
    (hgo : ∀ n' s', n = n' + 1 → RestG Y (model Y.prog Y.w) A1.in1 isAll Q W σ vs fp tn gi n' s' → R (some (.bool isAll)) s') :
    wpAny (model Y.prog Y.w) A1 (pyNext (.ref a)) R E s := by
  obtain ⟨gs, m, hgs, hmn, at_, goes⟩ := rest
  have I := at_.choose_spec.choose_spec.1
  have hlt : gi < s.gens.size := by
    rcases Nat.lt_or_ge gi s.gens.size with h | h
    · exact h
    · rw [Array.getElem?_eq_none h] at hgs; cases hgs
  refine GenW.wpAny_gsz (n := gi + 1) hlt ?_
  refine wpAny_pyNext_genexpQ (P := gEnd Y isAll Q σ vs) (Y := gProt Y isAll Q W σ vs fp tn) hh I.nolimit hroom (hgen I) hgs (goes _ rfl rfl (AllBare.setGen I.bare rfl)) (fun v s₁ gs' hb hv hsz => ?_) (fun s₁ hp h' hk hsz => ?_)
  · obtain ⟨n', rfl⟩ : ∃ n', n = n' + 1 := ⟨n - 1, by omega⟩
    have hsz' : gi < s₁.gens.size := Nat.lt_of_succ_le (by simpa [Shared.setGen] using hsz)
    obtain ⟨r, rfl, h⟩ := hv
    by_cases hr : r = isAll
    · rw [if_pos hr] at h
      subst hr
      obtain ⟨m', hm, at', kap⟩ := h
      have ab : AllBare s₁.gens := at'.choose_spec.choose_spec.1.bare
      refine hgo n' _ rfl ⟨gs', m', setGen_at hsz', hm, at'.re rfl rfl (AllBare.setGen ab hb), fun s'' h1 h2 h3 => kap s'' h1 h2 h3⟩
    · rw [if_neg hr] at h
      obtain ⟨H', I', q⟩ := h
      exact hend r _ H' hr (Inv.re I' rfl rfl (AllBare.setGen I'.bare hb)) q
  · obtain ⟨H', I', q⟩ := hp
    have I2 : Inv Y [] (wipe σ vs) H' (s₁.setGen gi .finished) := Inv.re I' rfl rfl (AllBare.setGen I'.bare rfl)
    exact hstop _ H' (I2.kept (t' := s₁.toks) hk) q
theorem all_loop {a : Addr} {gi : Nat} {A : Around} {R : Result → Shared → Prop} (hh : A.handled = none) (hroom : A.depth < recursionLimit) (hgen : ∀ {σ' : L2.St} {H' : Hp} {s' : Shared}, Inv Y [] σ' H' s' → s'.heap.IsGen a gi)
    (hR : ∀ r s' H', Inv Y [] (wipe σ vs) H' s' → Q r H' → R (.ok (.ret (.bool r))) s') :
    ∀ (n : Nat) (s : Shared), RestG Y (model Y.prog Y.w) A.in1.in1 true Q W σ vs fp tn gi n s → codeAny (model Y.prog Y.w) A (.builtin "all.loop" ⟨[.ref a], []⟩) R s := by
  intro n
  induction n with
  | zero =>
    intro s ⟨_, m, _, hm, _⟩
    exact absurd hm (Nat.not_lt_zero _)
  | succ n ih =>
    intro s rest
    refine codeAny_builtin F.entry_all_loop ?_
    rw [Around.under_plainId F.plain_all_loop _]
    show wpAny _ A.in1 (pyNext (.ref a) >>= _) _ _ s
    refine wpAny_bind (gen_next (A1 := A.in1) hh hroom hgen rest (fun s' H' I q => ?_) (fun r s' H' hr I q => ?_) (fun n' s' e rest' => ?_))
    · exact wpAny_bind (wpAny_rule (wpAny_pure (hR true s' H' I q)))
    · have er : r = false := by cases r <;> simp_all
      subst er
      refine wpAny_bind (wpAny_holding (wpAny_truthy_bool ?_))
      refine wpAny_bind (wpAny_letGo ?_)
      simp only [Bool.false_eq_true, if_false]
      exact wpAny_bind (wpAny_rule (wpAny_pure (hR false s' H' I q)))
    · cases e
      refine wpAny_bind (wpAny_holding (wpAny_truthy_bool ?_))
      refine wpAny_bind (wpAny_letGo ?_)
      simp only [if_true]
      exact wpAny_pure ⟨plainId_quiet F.plain_all_loop _, ih s' rest'⟩
theorem any_loop {a : Addr} {gi : Nat} {A : Around} {R : Result → Shared → Prop} (hh : A.handled = none) (hroom : A.depth < recursionLimit) (hgen : ∀ {σ' : L2.St} {H' : Hp} {s' : Shared}, Inv Y [] σ' H' s' → s'.heap.IsGen a gi)
    (hR : ∀ r s' H', Inv Y [] (wipe σ vs) H' s' → Q r H' → R (.ok (.ret (.bool r))) s') :
    ∀ (n : Nat) (s : Shared), RestG Y (model Y.prog Y.w) A.in1.in1 false Q W σ vs fp tn gi n s → codeAny (model Y.prog Y.w) A (.builtin "any.loop" ⟨[.ref a], []⟩) R s := by
  intro n
  induction n with
  | zero =>
    intro s ⟨_, m, _, hm, _⟩
    exact absurd hm (Nat.not_lt_zero _)
  | succ n ih =>
    intro s rest
    refine codeAny_builtin F.entry_any_loop ?_
    rw [Around.under_plainId F.plain_any_loop _]
    show wpAny _ A.in1 (pyNext (.ref a) >>= _) _ _ s
    refine wpAny_bind (gen_next (A1 := A.in1) hh hroom hgen rest (fun s' H' I q => ?_) (fun r s' H' hr I q => ?_) (fun n' s' e rest' => ?_))
    · exact wpAny_bind (wpAny_rule (wpAny_pure (hR false s' H' I q)))
    · have er : r = true := by cases r <;> simp_all
      subst er
      refine wpAny_bind (wpAny_holding (wpAny_truthy_bool ?_))
      refine wpAny_bind (wpAny_letGo ?_)
      simp only [if_true]
      exact wpAny_bind (wpAny_rule (wpAny_pure (hR true s' H' I q)))
    · cases e
      refine wpAny_bind (wpAny_holding (wpAny_truthy_bool ?_))
      refine wpAny_bind (wpAny_letGo ?_)
      simp only [Bool.false_eq_true, if_false]
      exact wpAny_pure ⟨plainId_quiet F.plain_any_loop _, ih s' rest'⟩
/-- the call's name and loop -/
def aaName (isAll : Bool) : String := if isAll = true then "all" else "any"
theorem call_aa {a : Addr} {gi n : Nat} {A : Around} {s : Shared} {R : Value → Shared → Prop} {E : Value → Shared → Prop} (hh : A.handled = none) (hroom : A.depth < recursionLimit) (hgen : ∀ {σ' : L2.St} {H' : Hp} {s' : Shared}, Inv Y [] σ' H' s' → s'.heap.IsGen a gi)
    (rest : RestG Y (model Y.prog Y.w) A.in1.in1 isAll Q W σ vs fp tn gi n s) (hR : ∀ r s' H', Inv Y [] (wipe σ vs) H' s' → Q r H' → R (.bool r) s') :
    wpAny (model Y.prog Y.w) A (call (.builtin (aaName isAll)) [.ref a]) R E s := by
  have I := rest.choose_spec.choose_spec.2.2.1.choose_spec.choose_spec.1
  cases isAll with
  | true =>
    refine call_function_tree F.kind_all F.plain_all F.entry_all (F.args_all1 _) ?_
    unfold Builtin.«all»
    refine wpAny_bind (m := oneArg "all" _) (wpAny_pure ?_)
    refine wpAny_bind (wpAny_pyIter_gen (hgen I) ?_)
    exact wpAny_pure ⟨plainId_quiet F.plain_all_loop _, all_loop hh hroom hgen (fun r s' H' I q => hR r s' H' I q) n s rest⟩
  | false =>
    refine call_function_tree F.kind_any F.plain_any F.entry_any (F.args_any1 _) ?_
    unfold Builtin.«any»
    refine wpAny_bind (m := oneArg "any" _) (wpAny_pure ?_)
    refine wpAny_bind (wpAny_pyIter_gen (hgen I) ?_)
    exact wpAny_pure ⟨plainId_quiet F.plain_any_loop _, any_loop hh hroom hgen (fun r s' H' I q => hR r s' H' I q) n s rest⟩
end

/-- the names of a generator expression's block -/
structure GBlk (N : List Str) (sc scope : Scope) (own : List (Str × Nat)) : Prop extends BlkOk N sc scope own where
  cell : ∀ y ∈ scope.names, y.2 ≠ .cell
  dot : scope.names.lookup (".0" : Str) = some NameKind.local
  co : scope.isCoroutine = false
theorem over_gen {A : Around} {ge : Expr} {it : Value} {env : Env} (hw : (Code.compLoop ge 0 it .none env).weight = 1) (he : (Code.compLoop ge 0 it .none env).envs = [env]) (hu : (Code.compLoop ge 0 it .none env).cUnits = 3) :
    (A.over (.compLoop ge 0 it .none env) []).depth = A.depth + 1 ∧ (A.over (.compLoop ge 0 it .none env) []).frames = A.frames.map (env :: ·) ∧ (A.over (.compLoop ge 0 it .none env) []).units = A.units + 3 ∧ (A.over (.compLoop ge 0 it .none env) []).handled = A.handled := by
  refine ⟨?_, ?_, ?_, rfl⟩
  · show A.depth + frameCount [] + (Code.compLoop ge 0 it .none env).weight = _
    rw [hw]; rfl
  · show pushEnvs (Code.compLoop ge 0 it .none env).envs (pushEnvs (envsOf []) A.frames) = _
    rw [he]
    simp only [pushEnvs_eq]
    cases A.frames <;> simp [envsOf]
  · show A.units + unitsOf [] + (Code.compLoop ge 0 it .none env).cUnits = _
    rw [hu]; rfl
section
variable {X : Cx} {pins : List (Addr × Obj)} {σ : L2.St} {H : Hp} {s : Shared}
theorem gblock_start {scope : Scope} {own : List (Str × Nat)} {fp : List Addr} {code it : Value} {gs : GenState} {tk : Nat} {h' : Heap} {A' : Around} {oa : Obj} (I : Inv X pins σ H s) (ok : GBlk X.N X.env.scope scope own) (hN : X.N.Nodup) (hfp : ∀ b ∈ fp, FpOk X pins H b ∧ b < s.heap.objs.size)
    (hA : A'.frames = X.A.frames.map (genEnv scope (cloFrom X.env.cells scope.names []) s.heap.objs.size code builtinsNs X.env :: ·)) (hh : A'.handled = X.A.handled) (hb : gs.bare = true) (hoa : ∃ n qn m : Value, oa.data = .fields #[n, qn, m])
    (hn : h'.Ns s.heap.objs.size (fun y => if y = ".0" then some it else none)) (hs : Heap.SameBut s.heap.objs.size (s.heap.push { cls := .type "frame", data := .dict #[] }) h') :
    Inv (gcx X A' s H (genEnv scope (cloFrom X.env.cells scope.names []) s.heap.objs.size code builtinsNs X.env) fp [(h'.objs.size, oa)]) [] (wipe σ (own.map (·.2))) H { s with gens := s.gens.push gs, toks := tk, heap := h'.push oa } := by
  have hfree : ∀ y ∈ scope.names, y.2 = .free → ∃ c, X.env.cells.lookup y.1 = some c := fun y hy e => by
    rcases ok.free y hy e with k | k
    · exact I.ok.has _ (.inl k)
    · exact I.ok.has _ (.inr k)
  have hsz : h'.objs.size = s.heap.objs.size + 1 := by rw [hs.1, Heap.size_push]
  generalize hcenv : genEnv scope (cloFrom X.env.cells scope.names []) s.heap.objs.size code builtinsNs X.env = cenv at *
  have kp : ∀ b o, s.heap.get? b = some o → (h'.push oa).get? b = some o := fun b o e => Heap.get?_push_of_some _ (hs.extBut b o (Nat.ne_of_lt (Heap.lt_size e)) (Heap.get?_push_of_some _ e))
  have hL : cenv.locals = s.heap.objs.size := by rw [← hcenv]; rfl
  have hcl : cenv.cells = cloFrom X.env.cells scope.names [] := by rw [← hcenv]; rfl
  have hsc : cenv.scope = scope := by rw [← hcenv]; rfl
  have cm : ∀ {y c}, (y, c) ∈ cloFrom X.env.cells scope.names [] → X.env.cells.lookup y = some c ∧ c < s.heap.objs.size := fun {y c} hm => by
    rcases cloFrom_mem hm with hm | ⟨h1, rfl⟩
    · cases hm
    · obtain ⟨c, hc⟩ := hfree _ h1 rfl
      rw [hc]
      obtain ⟨w, z⟩ := I.cell _ _ hc
      exact ⟨rfl, z.lt⟩
  have mem : ∀ {y c}, cenv.cells.lookup y = some c → X.env.cells.lookup y = some c ∧ c < s.heap.objs.size := fun {y c} e => by
    rw [hcl] at e
    exact cm (PySem.mem_of_lookup e)
  have look : ∀ {y}, scope.names.lookup y = some .free → ∃ c, cenv.cells.lookup y = some c ∧ X.env.cells.lookup y = some c := fun {y} hl => by
    have hy : (y, NameKind.free) ∈ scope.names := PySem.mem_of_lookup hl
    obtain ⟨c', e'⟩ := mem_lookup (cloFrom_has (cells := X.env.cells) (acc := []) hy)
    rw [← hcl] at e'
    exact ⟨c', e', (mem e').1⟩
  have okB : (gcx X A' s H cenv fp [(h'.objs.size, oa)]).Ok := by
    refine ⟨I.ok.mod, by show cenv.scope.kind = _; rw [hsc]; exact ok.kind, by show cenv.globals = _; rw [← hcenv]; exact I.ok.glob, by show cenv.builtins = _; rw [← hcenv]; rfl, by show s.heap.objs.size ≤ cenv.locals; rw [hL]; exact Nat.le_refl _,
      fun y z c e1 e2 => I.ok.inj y z c (mem e1).1 (mem e2).1, fun y hy => ?_, fun y c z e => Bool.noConfusion z, fun hc => hh.trans (I.ok.hd hc), ?_, .inr ⟨rfl, by show cenv.frame = some cenv.locals; rw [← hcenv]; rfl⟩, fun b hb => ⟨?_, fun y c e z => ?_⟩, I.bs, Nat.le_trans I.ok.bsz I.sz, fun b o e hb => ?_, fun b hb z => ?_, I.stack, I.stkFree⟩
    · show ∃ c, cenv.cells.lookup y = some c
      have hy : cenv.kindOf y = some .cell ∨ cenv.kindOf y = some .free := hy
      unfold Env.kindOf at hy
      rw [hsc] at hy
      rcases hy with hy | hy
      · exact absurd rfl (ok.cell _ (PySem.mem_of_lookup hy))
      · obtain ⟨c, h1, _⟩ := look hy
        exact ⟨c, h1⟩
    · show A'.frames = some (cenv :: X.stack)
      rw [hA, I.ok.frames]
      rfl
    · show b ≠ cenv.locals
      rw [hL]; exact Nat.ne_of_lt (hfp b hb).2
    · exact (hfp b hb).1.2.2.2.2.1 y c (mem e).1 z
    · rcases (hfp b hb).1.2.2.2.1 with z | z
      · exact I.ok.noex b o e z
      · exact absurd (Nat.lt_of_lt_of_le (Heap.lt_size e) (Nat.le_trans I.ok.bsz z)) (Nat.lt_irrefl _)
    · rcases List.mem_cons.mp (I.stkSub b z) with z | z
      · exact (hfp b hb).1.2.1 z
      · exact (hfp b hb).1.2.2.1 z
  have nostk : ∀ b, s.heap.objs.size ≤ b → b ∉ frs X.stack := fun b hb z => by
    rcases List.mem_cons.mp (I.stkSub b z) with z | z
    · exact absurd (Nat.lt_of_lt_of_le I.lt hb) (by rw [z]; exact Nat.lt_irrefl _)
    · exact I.nofs hb z
  refine ⟨okB, rfl, I.bare.push hb, Un.kept kp, ⟨fun y => if y = ".0" then some it else none, ?_, fun i y av e1 e2 e3 => ?_⟩, fun y c e => ?_, ?_, fun y c e => ?_, fun p hp => ?_, I.hok.kept kp, by rw [wipe_length]; exact I.len⟩
  · show Heap.Ns _ cenv.locals _
    rw [hL]
    exact hn.push _
  · obtain ⟨e2, hne⟩ := wipe_some e2
    have e3 : Vis cenv.scope y := e3
    have key : ∀ k, scope.names.lookup y = some k → k = .local ∨ k = .cell ∨ k = .free → k = .free := fun k hk hk' => by
      rcases hk' with rfl | rfl | rfl
      · rcases ok.own _ (PySem.mem_of_lookup hk) (.inl rfl) with e' | e'
        · obtain ⟨p, hp, hpy⟩ := List.mem_map.mp e'
          have e3 := ok.ix p hp
          have : p.1 = y := hpy
          rw [this] at e3
          exact absurd (List.mem_map.mpr ⟨p, hp, nodup_ix hN e3 e1⟩) hne
        · exact absurd (List.mem_of_getElem? e1) e'
      · exact absurd rfl (ok.cell _ (PySem.mem_of_lookup hk))
      · rfl
    have hfr : scope.names.lookup y = some .free := by
      unfold Vis at e3
      rw [hsc] at e3
      rcases e3 with e3 | e3 | e3
      · have := key _ e3 (.inl rfl)
        cases this
      · have := key _ e3 (.inr (.inl rfl))
        cases this
      · exact e3
    obtain ⟨m, hn, hl⟩ := I.loc
    have hvis : Vis X.env.scope y := (ok.free _ (PySem.mem_of_lookup hfr) rfl).elim (fun k => .inr (.inl k)) (fun k => .inr (.inr k))
    obtain ⟨w, r, q⟩ := hl i y av e1 e2 hvis
    obtain ⟨c, h1, h2⟩ := look hfr
    refine ⟨w, r, .inr ⟨.inr ?_, ?_⟩⟩
    · show cenv.kindOf y = _
      unfold Env.kindOf
      rw [hsc]; exact hfr
    · rcases q with ⟨k, _⟩ | ⟨_, c', e', z⟩
      · have k : X.env.scope.names.lookup y = some .local := k
        rcases ok.free _ (PySem.mem_of_lookup hfr) rfl with k' | k' <;> rw [show X.env.scope.names.lookup y = _ from k'] at k <;> cases k
      · rw [h2] at e'; cases e'
        exact ⟨c, h1, z.keeps kp⟩
  · have e : cenv.cells.lookup y = some c := e
    obtain ⟨w, z⟩ := I.cell y c (mem e).1
    exact ⟨w, z.keeps kp⟩
  · show H cenv.locals = none
    rw [hL]; exact I.hok.fresh (Nat.le_refl _)
  · have e : cenv.cells.lookup y = some c := e
    exact I.freeC y c (mem e).1
  · have hp : p = (h'.objs.size, oa) := by simpa using hp
    subst hp
    obtain ⟨n, qn, m, hd⟩ := hoa
    refine ⟨Heap.get?_push_size _ ?_, ?_, ?_, ?_, fun v z => ?_⟩
    · exact Obj.isFreed_of_fields hd
    · exact I.hok.fresh (by show _ ≤ h'.objs.size; omega)
    · show h'.objs.size ≠ cenv.locals
      rw [hL]; omega
    · exact nostk _ (by show _ ≤ h'.objs.size; omega)
    · have z : oa.data = .cell v := z
      rw [hd] at z
      cases z
end
end DL

set_option Elab.async false
set_option linter.all false
set_option maxRecDepth 100000
set_option maxHeartbeats 4000000
namespace DL
open PySem PySem.Spec PyProof.Rows L2
open PySem (Seg GenEnd Protocol)
section
variable {Y : Cx} {σ0 σ : L2.St} {isAll : Bool} {J : It} {g : TG} {tt : TT} {te : TE} {vs : List Nat} {Q : Bool → Hp → Prop} {W : Nat → Nat → Hp → Prop} {it : Addr} {fp : List Addr} {tn : Nat → Heap → Prop}
theorem gen_start {elt tg iter : Expr} {ifs : List Expr} {scope : Scope} {pos : Pos} {A : Around} (hA : Y.A = A.over (.compLoop (.GeneratorExp elt [⟨tg, iter, ifs, 0⟩] scope pos) 0 (.ref it) .none Y.env) [])
    (hxe : Y.xe = fun _ _ => False) (hpn : ∀ b ∈ fp, FpOk Y [] (fun _ => none) b) (hc : Y.calm = true) (T : Turn Y.prog Y.w Y.K tg J fp it tn) (hco : Y.env.scope.isCoroutine = false)
    (hg : PG Y tg g) (ht : PTs Y ifs tt) (he : PE Y elt te) (turn : GenT isAll J g tt te vs σ Q W) (m n : Nat) (s₀ s : Shared) (hmn : m < n) (at_ : AtT Y W σ vs fp tn m s) :
      Seg (model Y.prog Y.w) A (fun n s₀ r s₁ => r = .ok .next ∧ gEnd Y isAll Q σ vs n s₀ s₁) (gProt Y isAll Q W σ vs fp tn) n s₀ (.compStart (.GeneratorExp elt [⟨tg, iter, ifs, 0⟩] scope pos) 0 (.ref it) .none Y.env)
        ((model Y.prog Y.w).den (.compStart (.GeneratorExp elt [⟨tg, iter, ifs, 0⟩] scope pos) 0 (.ref it) .none Y.env)) [] s := by
  have loop := gen_loop hA hxe hpn hc T hco hg ht he turn m n s₀ s hmn at_
  obtain ⟨i, H', I, st, _, _⟩ := at_
  show Seg _ A _ _ _ s₀ _ ((compStart (.GeneratorExp elt [⟨tg, iter, ifs, 0⟩] scope pos) 0 (.ref it) .none Y.env).onRaise (leaving Y.env)) [] s
  unfold compStart
  rw [Sem.onRaise_eq_wrap]
  show Seg _ A _ _ _ s₀ _ ((ask >>= _).wrap _ _ _ _) [] s
  refine seg_bind_wrap (wpAny_askSetting ?_)
  split
  · exact seg_again rfl loop
  · first
      | exact seg_bind_wrap (wpAny_rule (seg_bind_wrap (wpAny_standAt (seg_bind_wrap (T.self _ i s _ _ st (seg_again rfl loop))))))
      | (refine seg_bind_wrap (wpAny_rule ?_); show Seg _ A _ _ _ s₀ _ ((standAt iter.pos >>= _).wrap _ _ _ _) [] s; exact seg_bind_wrap (wpAny_standAt (seg_bind_wrap (T.self _ i s _ _ st (seg_again rfl loop)))))
end
/-- any(..), all(..) of a generator expression: the turns by GenT; the def's table may have grown -/
def tAA (isAll : Bool) (P : Addr) (wi : TI) (g : TG) (tt : TT) (te : TE) (vs : List Nat) : TE := fun σ H Q => wi σ H fun J H1 => GxR.TabG H1 P ∧ ∀ H2, GxR.Tabbed P H1 H2 → ∃ W, (∃ m, W 0 m H2) ∧ GenT isAll J g tt te vs σ (fun r H => Q (.bl r) H) W
section
variable {X : Cx} {pins : List (Addr × Obj)} {σ : L2.St} {H : Hp} {s : Shared}
theorem gen_made {isAll : Bool} {c P : Addr} {elt tg iter : Expr} {ifs : List Expr} {gpos : Pos} {scope : Scope} {own : List (Str × Nat)} {wi : TI} {g : TG} {tt : TT} {te : TE} {k : Nat} {Q : VK} {Q' : Value → Shared → Prop}
    (hr : Room (k + 1) X.A) (hc : X.calm = true) (hN : X.N.Nodup) (TB : GxR.TabB X.base X.mg c P) (hcode : X.env.code = .ref c) (ok : GBlk X.N X.env.scope scope own) (hi : PI X tg iter wi)
    (hg : ∀ (A' : Around) (s : Shared) (H : Hp) (C : Addr) (cl : List (Str × Addr)) (code : Value) (fp : List Addr) (pn : List (Addr × Obj)), Room k A' → PG (gcx X A' s H (genEnv scope cl C code builtinsNs X.env) fp pn) tg g)
    (ht : ∀ (A' : Around) (s : Shared) (H : Hp) (C : Addr) (cl : List (Str × Addr)) (code : Value) (fp : List Addr) (pn : List (Addr × Obj)), Room k A' → PTs (gcx X A' s H (genEnv scope cl C code builtinsNs X.env) fp pn) ifs tt)
    (he : ∀ (A' : Around) (s : Shared) (H : Hp) (C : Addr) (cl : List (Str × Addr)) (code : Value) (fp : List Addr) (pn : List (Addr × Obj)), Room k A' → PE (gcx X A' s H (genEnv scope cl C code builtinsNs X.env) fp pn) elt te)
    (hs : ∀ v, genFold iter X.env v = pure v) (I : Inv X pins σ H s) (h : tAA isAll P wi g tt te (own.map (·.2)) σ H Q)
    (hQ : ∀ (a : Addr) (s5 : Shared), wpAny (model X.prog X.w) X.A (call (.builtin (aaName isAll)) [.ref a]) (EP X pins σ Q) X.xe s5 → Q' (.ref a) s5) :
    wpAny (model X.prog X.w) X.A (eval (.GeneratorExp elt [⟨tg, iter, ifs, 0⟩] scope gpos) X.env) Q' X.xe s := by
  have hfree : ∀ y ∈ scope.names, y.2 = .free → ∃ c, X.env.cells.lookup y.1 = some c := fun y hy e => by
    rcases ok.free y hy e with k | k
    · exact I.ok.has _ (.inl k)
    · exact I.ok.has _ (.inr k)
  refine wpAny_GeneratorExp_make ok.co (closure_ok hfree) ok.cell ok.dot ok.kind hr.depth ?_ hs
  refine thn (hi.run pins s σ H _ I h) fun xv s0 hx => thn hx fun itv s1 h1 => ?_
  obtain ⟨it, fp, tn, J, H1, e, I1, T, st1, f1, tb, q⟩ := h1
  subst e
  obtain ⟨ps, hP, htr⟩ := tb
  have hPs : s1.heap.get? P = some { cls := .none, data := .fields ps } := I1.hok P _ hP
  have cd : PySem.W.CodeHd s1.heap c P := TB.code.keeps fun b u e => I1.bk b u e
  have fpP : ∀ b ∈ fp, b ≠ P := fun b hb z => by
    have := (f1 b hb).1
    rw [z, hP] at this
    cases this
  have sz : ∀ b ∈ fp, b < s1.heap.objs.size := fun b hb => by
    obtain ⟨o, e, _⟩ := T.obj _ _ st1 b hb
    exact Heap.lt_size e
  refine ⟨I1.nolimit, ?_⟩
  -- behind the code object
  have cont : ∀ (code : Value) (h3 : Heap) (tk : Nat) (ps' more : Array Value), Heap.ExtBut P s1.heap h3 → h3.get? P = some { cls := .none, data := .fields ps' } → ps' = ps ++ more → TriplesOk ps'.toList → s1.heap.objs.size ≤ h3.objs.size →
      wpAny (model X.prog X.w) X.A (builtinsFor X.env.globals X.env.builtins) (fun bi s₄ => ∀ h', h'.Ns s₄.heap.objs.size (fun y => if y = ".0" then some (.ref it) else none) → Heap.SameBut s₄.heap.objs.size (s₄.heap.push { cls := .type "frame", data := .dict #[] }) h' →
          Q' (.ref h'.objs.size) { s₄ with
            gens := s₄.gens.push (.fresh (.compStart (.GeneratorExp elt [⟨tg, iter, ifs, 0⟩] scope gpos) 0 (.ref it) .none (genEnv scope (cloFrom X.env.cells scope.names []) s₄.heap.objs.size code bi X.env))),
            toks := s₄.toks + 1 + 1 + 1,
            heap := h'.push { cls := .type "generator", data := .fields #[.int s₄.gens.size 0, .str "<genexpr>" (s₄.toks + 1), .str (X.env.qual ++ "<genexpr>") (s₄.toks + 1 + 1)] } }) X.xe { s1 with heap := h3, toks := tk } := by
    intro code h3 tk ps' more hx hP3 hmore ht3 hsz3
    subst hmore
    obtain ⟨bm, ob, e1, e2, e3, e4, e5, e6, e7, e8⟩ := TB.bm
    have keep3 : ∀ b u, b ≠ P → s1.heap.get? b = some u → h3.get? b = some u := fun b u hb e => hx b u hb e
    refine wpAny_builtinsFor (m := X.mg) (by rw [I1.ok.glob]; exact (I1.mod.glob.keeps I1.bk).extBut hx TB.gP) e1 e2 (keep3 _ _ e4 (I1.bk _ _ e5)) e6 e7 e8 ?_
    have I3 : Inv X pins σ (upd H1 P (.tbl (ps ++ more))) { s1 with heap := h3, toks := tk } := GxR.inv_tab (g' := s1.gens) (d' := s1.drawn) I1 hP (fun b o hb e => keep3 b o hb e) hP3 I1.bare
    generalize hs3 : ({ s1 with heap := h3, toks := tk } : Shared) = s3 at I3 ⊢
    have eh3 : s3.heap = h3 := by rw [← hs3]
    intro h' hn' hs'
    have st3 : tn 0 s3.heap := T.keep _ _ _ st1 fun b hb o e => by rw [eh3]; exact keep3 b o (fpP b hb) e
    have f3 : ∀ b ∈ fp, FpOk X pins (upd H1 P (.tbl (ps ++ more))) b ∧ b < s3.heap.objs.size := fun b hb => by
      refine ⟨⟨?_, (f1 b hb).2⟩, by rw [eh3]; exact Nat.lt_of_lt_of_le (sz b hb) hsz3⟩
      rw [upd_ne (fpP b hb)]
      exact (f1 b hb).1
    obtain ⟨W, ⟨m0, w0⟩, turn⟩ := q _ ⟨⟨ps ++ more, upd_same, ht3⟩, fun b hb => upd_ne hb⟩
    generalize hH3 : upd H1 P (.tbl (ps ++ more)) = H3 at I3 f3 w0
    generalize hce : genEnv scope (cloFrom X.env.cells scope.names []) s3.heap.objs.size code builtinsNs X.env = cenv
    obtain ⟨d1, d2, d3, d4⟩ := over_gen (A := X.A.in1.in1) (ge := .GeneratorExp elt [⟨tg, iter, ifs, 0⟩] scope gpos) (it := .ref it) (env := cenv) rfl rfl rfl
    generalize hA' : X.A.in1.in1.over (.compLoop (.GeneratorExp elt [⟨tg, iter, ifs, 0⟩] scope gpos) 0 (.ref it) .none cenv) [] = A' at d1 d2 d3 d4
    have rA : Room k A' := ⟨d4.trans hr.hd, by have := hr.dp; rw [d1]; show X.A.depth + 1 + 3 * k + 5 < _; omega, by have := hr.un; rw [d3]; show X.A.units + 1 + 1 + 3 + 16 * k + 200 < _; omega⟩
    subst hce
    have I4 := gblock_start (A' := A') (code := code) (it := .ref it) (tk := s3.toks + 1 + 1 + 1) (gs := .fresh (.compStart (.GeneratorExp elt [⟨tg, iter, ifs, 0⟩] scope gpos) 0 (.ref it) .none (genEnv scope (cloFrom X.env.cells scope.names []) s3.heap.objs.size code builtinsNs X.env)))
      (oa := { cls := .type "generator", data := .fields #[.int s3.gens.size 0, .str "<genexpr>" (s3.toks + 1), .str (X.env.qual ++ "<genexpr>") (s3.toks + 1 + 1)] }) I3 ok hN f3 d2 d4 rfl ⟨_, _, _, rfl⟩ hn' hs'
    have kp : ∀ b o, s3.heap.get? b = some o → (h'.push { cls := .type "generator", data := .fields #[.int s3.gens.size 0, .str "<genexpr>" (s3.toks + 1), .str (X.env.qual ++ "<genexpr>") (s3.toks + 1 + 1)] }).get? b = some o := fun b o e => Heap.get?_push_of_some _ (hs'.extBut b o (Nat.ne_of_lt (Heap.lt_size e)) (Heap.get?_push_of_some _ e))
    have pg := hg A' s3 H3 s3.heap.objs.size (cloFrom X.env.cells scope.names []) code fp [(h'.objs.size, { cls := .type "generator", data := .fields #[.int s3.gens.size 0, .str "<genexpr>" (s3.toks + 1), .str (X.env.qual ++ "<genexpr>") (s3.toks + 1 + 1)] })] rA
    have pt := ht A' s3 H3 s3.heap.objs.size (cloFrom X.env.cells scope.names []) code fp [(h'.objs.size, { cls := .type "generator", data := .fields #[.int s3.gens.size 0, .str "<genexpr>" (s3.toks + 1), .str (X.env.qual ++ "<genexpr>") (s3.toks + 1 + 1)] })] rA
    have pe := he A' s3 H3 s3.heap.objs.size (cloFrom X.env.cells scope.names []) code fp [(h'.objs.size, { cls := .type "generator", data := .fields #[.int s3.gens.size 0, .str "<genexpr>" (s3.toks + 1), .str (X.env.qual ++ "<genexpr>") (s3.toks + 1 + 1)] })] rA
    have hgen : ∀ {Y : Cx} {σ' : L2.St} {H' : Hp} {s' : Shared}, Y.pn = [(h'.objs.size, { cls := .type "generator", data := .fields #[.int s3.gens.size 0, .str "<genexpr>" (s3.toks + 1), .str (X.env.qual ++ "<genexpr>") (s3.toks + 1 + 1)] })] → Inv Y [] σ' H' s' → s'.heap.IsGen h'.objs.size s3.gens.size := fun {Y σ' H' s'} hp I' => by
      have := (I'.pin _ (List.mem_append_left _ (by rw [hp]; exact List.mem_singleton_self _))).1
      exact ⟨_, _, _, this, rfl, rfl, rfl⟩
    refine hQ _ _ ?_
    refine call_aa (Y := gcx X A' s3 H3 (genEnv scope (cloFrom X.env.cells scope.names []) s3.heap.objs.size code builtinsNs X.env) fp [(h'.objs.size, { cls := .type "generator", data := .fields #[.int s3.gens.size 0, .str "<genexpr>" (s3.toks + 1), .str (X.env.qual ++ "<genexpr>") (s3.toks + 1 + 1)] })])
      (gi := s3.gens.size) (n := m0 + 1) (W := W) (Q := fun r H => Q (.bl r) H) (σ := σ) (vs := own.map (·.2)) (fp := fp) (tn := tn) hr.hd hr.depth (hgen rfl) ⟨_, m0, Array.getElem?_push_size .., Nat.lt_succ_self _, ⟨0, H3, I4, T.keep _ _ _ st3 fun b hb o e => kp b o e, fun b hb => (f3 b hb).1.1, w0⟩, fun s'' h1 h2 h3 => ⟨rfl, ?_⟩⟩ fun r s' H' I' q' => ?_
    · refine gen_start (isAll := isAll) (J := J) hA'.symm rfl (fun b hb => ⟨rfl, (I4.ok.exf b hb).1, I4.ok.exfs b hb, .inl hb, fun x c e => (I4.ok.exf b hb).2 x c e, fun p hp z => ?_⟩) hc T ok.co pg pt pe turn m0 (m0 + 1) s'' s'' (Nat.lt_succ_self _) (AtT.re ⟨0, H3, I4, T.keep _ _ _ st3 fun b hb o e => kp b o e, fun b hb => (f3 b hb).1.1, w0⟩ h1 h2 h3)
      have z : h'.objs.size = b := by
        rcases List.mem_append.mp hp with hp | hp
        · rw [List.mem_singleton.mp hp] at z
          exact z
        · cases hp
      have z1 : h'.objs.size = s3.heap.objs.size + 1 := by rw [hs'.1, Heap.size_push]
      have z2 := (f3 b hb).2
      have z3 : s3.heap.objs.size < b := by
        rw [← z, z1]
        exact Nat.lt_succ_self _
      exact absurd z3 (Nat.lt_asymm z2)
    · exact ⟨.bl r, H', I3.call' (ch := fp) I'.os I'.base I'.hok I'.bare fun b hb => ⟨(f3 b hb).1.2.2.2.1, (f3 b hb).1.2.1, (f3 b hb).1.2.2.2.2.1, (f3 b hb).1.2.2.2.2.2⟩, rfl, q'⟩
  cases hf : codeAmong gpos ps.toList with
  | none =>
    refine wpAny_genexprCodeX hcode (cd.code hPs htr) (cd.tab hPs) hf fun c' h' tk hx hge hlt hco' _ htab' _ => ?_
    obtain ⟨o1, vs, f1, tf, fl, tg, inF, tx, tt, op, _, _, _, _, _, _, _, _, _, htr, _⟩ := hco'
    exact cont _ h' tk _ _ hx htab'.2 rfl htr (Nat.le_trans hge (Nat.le_of_lt hlt))
  | some cv =>
    refine wpAny_genexprCode_hit hcode (cd.code hPs htr) hf ?_
    exact cont cv s1.heap s1.toks ps #[] (Heap.ExtBut.refl _ _) hPs (by simp) htr (Nat.le_refl _)
/-- all(..), any(..) -/
theorem pe_aa {isAll : Bool} {nm : Str} {c P : Addr} {elt tg iter : Expr} {ifs : List Expr} {p pos gpos : Pos} {scope : Scope} {own : List (Str × Nat)} {wi : TI} {g : TG} {tt : TT} {te : TE} {k : Nat}
    (hg0 : Gl X nm) (hm0 : X.mg nm = none) (hb0 : bootBuiltins nm = some (.builtin (aaName isAll))) (hnm : nm ≠ "__name__") (hdb : (nm == ("__debug__" : Str)) = false)
    (hr : Room (k + 1) X.A) (hc : X.calm = true) (hN : X.N.Nodup) (TB : GxR.TabB X.base X.mg c P) (hcode : X.env.code = .ref c) (ok : GBlk X.N X.env.scope scope own) (hi : PI X tg iter wi)
    (hg : ∀ (A' : Around) (s : Shared) (H : Hp) (C : Addr) (cl : List (Str × Addr)) (code : Value) (fp : List Addr) (pn : List (Addr × Obj)), Room k A' → PG (gcx X A' s H (genEnv scope cl C code builtinsNs X.env) fp pn) tg g)
    (ht : ∀ (A' : Around) (s : Shared) (H : Hp) (C : Addr) (cl : List (Str × Addr)) (code : Value) (fp : List Addr) (pn : List (Addr × Obj)), Room k A' → PTs (gcx X A' s H (genEnv scope cl C code builtinsNs X.env) fp pn) ifs tt)
    (he : ∀ (A' : Around) (s : Shared) (H : Hp) (C : Addr) (cl : List (Str × Addr)) (code : Value) (fp : List Addr) (pn : List (Addr × Obj)), Room k A' → PE (gcx X A' s H (genEnv scope cl C code builtinsNs X.env) fp pn) elt te)
    (hs : ∀ v, genFold iter X.env v = pure v)
    (hst : starEach [.GeneratorExp elt [⟨tg, iter, ifs, 0⟩] scope gpos] X.env = (false, eval (.GeneratorExp elt [⟨tg, iter, ifs, 0⟩] scope gpos) X.env) :: starEach [] X.env := by rfl) :
    PE X (.Call (.Name nm p) [.GeneratorExp elt [⟨tg, iter, ifs, 0⟩] scope gpos] [] pos) (tAA isAll P wi g tt te (own.map (·.2))) := by
  refine ⟨fun pins s σ H Q I h => ?_⟩
  refine wpAny_Call_Name_kw (ld_blt I hg0 hm0 hb0 (hn := hnm) (hd := hdb) ?_)
  refine PyProof.Rows.callWith_builtin1 ?_ hst (by rfl)
  rw [hst]
  show wpAny _ _ (spliced ((false, eval (.GeneratorExp elt [⟨tg, iter, ifs, 0⟩] scope gpos) X.env) :: backTo pos (starEach [] X.env))) _ _ s
  refine Calls.spliced_cons (gen_made hr hc hN TB hcode ok hi hg ht he hs I h fun a s5 h5 => ?_)
  exact Calls.spliced_nil h5
end
end DL

set_option Elab.async false
set_option linter.all false
set_option maxRecDepth 100000
set_option maxHeartbeats 4000000
namespace DL
open PySem PySem.Spec PyProof.Rows L2
section
variable {K : PySem.W.Frag} {T : FS} {B : Bs} {F F' : FS} {H H' : Hp} {st : Sto} {P : Addr}
theorem Wd.notP (w : Wd K T B F H st) (hP : GxR.TabG H P) : B.dr ≠ some P := fun z => by
  obtain ⟨ps, h, _⟩ := hP
  obtain ⟨xs, h2, _⟩ := w.sto P z
  rw [h] at h2; cases h2
theorem Ext.tab (w : Wd K T B F H st) (hP : GxR.TabG H P) (t : GxR.Tabbed P H H') : Ext B F F H H' := by
  obtain ⟨ps, h, _⟩ := hP
  obtain ⟨⟨qs, h', _⟩, hs⟩ := t
  refine ⟨fun a o e nt nd => ?_, fun _ f => f, fun _ f => .inl f, fun a d q => ?_, fun a ps' e d => ?_⟩
  · rw [hs a fun z => by rw [z, h] at e; cases e; exact nt trivial]; exact e
  · by_cases z : a = P
    · rw [z, h']; simp
    · rw [hs a z]; exact q
  · by_cases z : a = P
    · exact ⟨qs, by rw [z]; exact h'⟩
    · exact ⟨ps', by rw [hs a z]; exact e⟩
theorem Wd.tab (w : Wd K T B F H st) (hP : GxR.TabG H P) (t : GxR.Tabbed P H H') : Wd K T B F H' st := by
  have e := Ext.tab w hP t
  refine ⟨fun a f => e.some (w.live a f), w.fdr, fun a q => ?_, fun P' q => ?_⟩
  · obtain ⟨xs, h1, h2⟩ := w.sto a q
    refine ⟨xs, ?_, Reps.pk (w.pk e) e.sub _ _ h2⟩
    rw [t.2 a fun z => w.notP hP (by rw [← z]; exact q)]; exact h1
  · by_cases z : P' = P
    · rw [z]; exact t.1
    · obtain ⟨ps, h1, h2⟩ := w.tabs P' q
      exact ⟨ps, by rw [t.2 P' z]; exact h1, h2⟩
end
/-! ### all(..), any(..) -/
def aaG (isAll : Bool) (asg : AF) (tf : DF Bool) (f : DF DV) (env0 : DEnv) : List PyData → Sto → Res DV
  | [], st => .ok (.d (.bool isAll)) st
  | d :: ds, st => match asg d env0 with
    | none => .no
    | some env1 => match tf env1 st with
      | .ok b st1 => if b = true then (match f env1 st1 with
          | .ok (.d (.bool r)) st2 => if r = isAll then aaG isAll asg tf f env0 ds st2 else .ok (.d (.bool r)) st2
          | _ => .no) else aaG isAll asg tf f env0 ds st1
      | _ => .no
def fAA (isAll : Bool) (src : DF (List PyData)) (asg : AF) (tf : DF Bool) (f : DF DV) (vs : List Nat) : DF DV := fun env st => (src env st).bind fun items st1 => aaG isAll asg tf f (wipeE env vs) items st1
/-- a def in whose body a generator expression may stand -/
structure Gx (X : Cx) (T : FS) : Prop where
  ex : ∃ c P, GxR.TabB X.base X.mg c P ∧ X.env.code = .ref c ∧ T P
section
variable {X : Cx} {T : FS} {W : WX} {m : Bool} {pos p gpos : Pos} {elt tg iter : Expr} {ifs : List Expr} {f : DF DV} {tf : DF Bool} {isAll : Bool} {P : Addr}
theorem aa_go {src : DF (List PyData)} {t : TG} {asg : AF} {vs : List Nat} (hT : T P) (hg : AsgOk X.K T t asg) (hin : Inner t vs) {σ : L2.St} {H : Hp} {Q : VK} {B : Bs} {env : DEnv} {st : Sto} {F : FS} (sr : SR X.K T B env st σ H F)
    (q : Go X T W σ B F H (fAA isAll src asg tf f vs env st) fun d _ H' F' => ∀ v, RepM m X.K B F' H' d v → Q v H') : tAA isAll P (tDI X T W false src) t (tDT X T W0 tf) (tDE X T W0 false f) vs σ H Q := by
  refine ⟨B, env, st, F, sr, ?_⟩
  refine Go.mono (Go.bind q) fun items st1 H1 F1 w1 x1 q1 J hJ => ⟨w1.tabs P hT, fun H2 tb => ?_⟩
  have e2 := Ext.tab w1 (w1.tabs P hT) tb
  have w2 := w1.tab (w1.tabs P hT) tb
  have sr2 := ((sr.ext x1 w1).wipe vs).ext e2 w2
  refine ⟨fun i mm H' => mm = items.length - i ∧ ∃ st' F', SR X.K T B (wipeE env vs) st' (wipe σ vs) H' F' ∧ Ext B F1 F' H1 H' ∧
    Go X T W σ B F1 H1 (aaG isAll asg tf f (wipeE env vs) (items.drop i) st') (fun d _ H' F' => ∀ v, RepM m X.K B F' H' d v → Q v H'), ⟨_, rfl, st1, F1, sr2, e2, by rw [List.drop_zero]; exact q1⟩, ?_⟩
  rintro i m' H' ⟨rfl, st', F', sr', ex', q'⟩
  have ij := hJ st' H' F' sr'.wd (by rw [if_neg Bool.false_ne_true]; exact ex') i
  cases hd : items[i]? with
  | none =>
    have hl : items.length ≤ i := List.getElem?_eq_none_iff.mp hd
    rw [List.drop_of_length_le hl] at q'
    exact .inl ⟨ij.2 hd, q' H' F' sr'.wd ex' _ (RepM.of (by simp [RepD, Rep]))⟩
  | some d =>
    obtain ⟨hl, ed⟩ := List.getElem?_eq_some_iff.mp hd
    have edr : items.drop i = d :: items.drop (i + 1) := by rw [List.drop_eq_getElem_cons hl, ed]
    rw [edr] at q'
    unfold aaG at q'
    obtain ⟨go, yl⟩ := ij.1 d hd
    refine .inr ⟨go, fun H2 => ∃ st' F', SR X.K T B (wipeE env vs) st' (wipe σ vs) H2 F' ∧ Ext B F1 F' H1 H2 ∧
      Go X T W σ B F1 H1 (aaG isAll asg tf f (wipeE env vs) (items.drop (i + 1)) st') (fun d _ H' F' => ∀ v, RepM m X.K B F' H' d v → Q v H'), ?_, fun x H3 y => ?_⟩
    · rintro H2 ⟨st2, F2, h⟩
      exact ⟨items.length - (i + 1), by omega, rfl, st2, F2, h⟩
    · obtain ⟨F3, gr, rp⟩ := yl x H3 y
      have w3 := gr.wd sr'.wd
      have sr3 := sr'.ext gr.ext w3
      have ex3 := ex'.trans gr.ext
      cases ha : asg d (wipeE env vs) with
      | none => rw [ha] at q'; exact q'.elim
      | some env1 =>
        rw [ha] at q'
        refine hin _ _ _ _ _ (wipe_wipe σ vs) (hg B (wipeE env vs) env1 st' (wipe σ vs) H3 F3 d x _ sr3 rp ha fun σ4 sr4 => ?_)
        refine ⟨B, env1, st', F3, sr4, ?_⟩
        cases ht : tf env1 st' with
        | no => simp only [ht] at q'; exact q'.elim
        | exc c s => simp only [ht] at q'; exact q'.elim
        | ok b st4 =>
          simp only [ht] at q'
          intro H4 F4 w4 x4
          have sr4' := sr4.ext x4 w4
          have sr3' := sr3.ext x4 w4
          have ex4 := ex3.trans x4
          cases b with
          | false =>
            dsimp only
            rw [if_neg Bool.false_ne_true] at q' ⊢
            exact ⟨st4, F4, sr3', ex4, q'⟩
          | true =>
            dsimp only
            rw [if_pos rfl] at q' ⊢
            refine ⟨B, env1, st4, F4, sr4', ?_⟩
            cases hf : f env1 st4 with
            | no => simp only [hf] at q'; exact q'.elim
            | exc c s => simp only [hf] at q'; exact q'.elim
            | ok v st5 =>
              simp only [hf] at q'
              intro H5 F5 w5 x5 v5 r5
              have ex5 := ex4.trans x5
              have sr5 := sr3'.ext x5 w5
              cases v with
              | loc => exact q'.elim
              | scr ns => exact q'.elim
              | d x0 =>
                cases x0 <;> first | exact q'.elim | skip
                rename_i r
                have e5 : v5 = .bl r := by
                  rcases r5 with h | ⟨a, x, e, _, h⟩
                  · simpa [RepD, Rep] using h
                  · cases e
                    exact h.2.elim
                refine ⟨r, e5, ?_⟩
                have q' : Go X T W σ B F1 H1 (if r = isAll then aaG isAll asg tf f (wipeE env vs) (items.drop (i + 1)) st5 else .ok (.d (.bool r)) st5) _ := q'
                split at q'
                · rename_i hz
                  rw [if_pos hz]
                  exact ⟨st5, F5, sr5, ex5, q'⟩
                · rename_i hz
                  rw [if_neg hz]
                  exact q' H5 F5 w5 ex5 _ (RepM.of (by simp [RepD, Rep]))
theorem de_aa {nm : Str} {scope : Scope} {own : List (Str × Nat)} {src : DF (List PyData)} {t : TG} {asg : AF} {k : Nat} (hm0 : X.mg nm = none) (hb0 : bootBuiltins nm = some (.builtin (aaName isAll))) (hnm : nm ≠ "__name__") (hdb : (nm == ("__debug__" : Str)) = false)
    (hr : Room (k + 1) X.A) (hc : X.calm = true) (hN : X.N.Nodup) (G : Gx X T) (ok : GBlk X.N X.env.scope scope own) (hi : DI X T W false tg iter src) (hin : Inner t (own.map (·.2))) (hga : AsgOk X.K T t asg)
    (hg : ∀ (A' : Around) (s : Shared) (H : Hp) (C : Addr) (cl : List (Str × Addr)) (code : Value) (fp : List Addr) (pn : List (Addr × Obj)), Room k A' → PG (gcx X A' s H (genEnv scope cl C code builtinsNs X.env) fp pn) tg t)
    (ht : ∀ (A' : Around) (s : Shared) (H : Hp) (C : Addr) (cl : List (Str × Addr)) (code : Value) (fp : List Addr) (pn : List (Addr × Obj)), Room k A' → DTs (gcx X A' s H (genEnv scope cl C code builtinsNs X.env) fp pn) T W0 ifs tf)
    (he : ∀ (A' : Around) (s : Shared) (H : Hp) (C : Addr) (cl : List (Str × Addr)) (code : Value) (fp : List Addr) (pn : List (Addr × Obj)), Room k A' → DE (gcx X A' s H (genEnv scope cl C code builtinsNs X.env) fp pn) T W0 false elt f)
    (hg0 : Gl X nm := by rfl) (hs : ∀ v, genFold iter X.env v = pure v := by intro _; rfl)
    (hst : starEach [.GeneratorExp elt [⟨tg, iter, ifs, 0⟩] scope gpos] X.env = (false, eval (.GeneratorExp elt [⟨tg, iter, ifs, 0⟩] scope gpos) X.env) :: starEach [] X.env := by rfl) :
    DE X T W m (.Call (.Name nm p) [.GeneratorExp elt [⟨tg, iter, ifs, 0⟩] scope gpos] [] pos) (fAA isAll src asg tf f (own.map (·.2))) := by
  obtain ⟨c, P, TB, hcode, hT⟩ := G.ex
  exact ⟨PE.imp (pe_aa (isAll := isAll) (tt := tDT X T W0 tf) (te := tDE X T W0 false f) hg0 hm0 hb0 hnm hdb hr hc hN TB hcode ok hi.pi hg (fun A' s H C cl code fp pn r => (ht A' s H C cl code fp pn r).pt) (fun A' s H C cl code fp pn r => (he A' s H C cl code fp pn r).pe) hs hst) fun σ H Q ⟨B, env, st, F, sr, q⟩ => aa_go hT hga hin sr q⟩
theorem de_all {scope : Scope} {own : List (Str × Nat)} {src : DF (List PyData)} {t : TG} {asg : AF} {k : Nat} (bl : Blts X.mg)
    (hr : Room (k + 1) X.A) (hc : X.calm = true) (hN : X.N.Nodup) (G : Gx X T) (ok : GBlk X.N X.env.scope scope own) (hi : DI X T W false tg iter src) (hin : Inner t (own.map (·.2))) (hga : AsgOk X.K T t asg)
    (hg : ∀ (A' : Around) (s : Shared) (H : Hp) (C : Addr) (cl : List (Str × Addr)) (code : Value) (fp : List Addr) (pn : List (Addr × Obj)), Room k A' → PG (gcx X A' s H (genEnv scope cl C code builtinsNs X.env) fp pn) tg t)
    (ht : ∀ (A' : Around) (s : Shared) (H : Hp) (C : Addr) (cl : List (Str × Addr)) (code : Value) (fp : List Addr) (pn : List (Addr × Obj)), Room k A' → DTs (gcx X A' s H (genEnv scope cl C code builtinsNs X.env) fp pn) T W0 ifs tf)
    (he : ∀ (A' : Around) (s : Shared) (H : Hp) (C : Addr) (cl : List (Str × Addr)) (code : Value) (fp : List Addr) (pn : List (Addr × Obj)), Room k A' → DE (gcx X A' s H (genEnv scope cl C code builtinsNs X.env) fp pn) T W0 false elt f)
    (hg0 : Gl X "all" := by rfl) (hs : ∀ v, genFold iter X.env v = pure v := by intro _; rfl)
    (hst : starEach [.GeneratorExp elt [⟨tg, iter, ifs, 0⟩] scope gpos] X.env = (false, eval (.GeneratorExp elt [⟨tg, iter, ifs, 0⟩] scope gpos) X.env) :: starEach [] X.env := by rfl) :
    DE X T W m (.Call (.Name "all" p) [.GeneratorExp elt [⟨tg, iter, ifs, 0⟩] scope gpos] [] pos) (fAA true src asg tf f (own.map (·.2))) := de_aa bl.all (by rfl) (by decide) (by decide) hr hc hN G ok hi hin hga hg ht he hg0 hs hst
theorem de_any {scope : Scope} {own : List (Str × Nat)} {src : DF (List PyData)} {t : TG} {asg : AF} {k : Nat} (bl : Blts X.mg)
    (hr : Room (k + 1) X.A) (hc : X.calm = true) (hN : X.N.Nodup) (G : Gx X T) (ok : GBlk X.N X.env.scope scope own) (hi : DI X T W false tg iter src) (hin : Inner t (own.map (·.2))) (hga : AsgOk X.K T t asg)
    (hg : ∀ (A' : Around) (s : Shared) (H : Hp) (C : Addr) (cl : List (Str × Addr)) (code : Value) (fp : List Addr) (pn : List (Addr × Obj)), Room k A' → PG (gcx X A' s H (genEnv scope cl C code builtinsNs X.env) fp pn) tg t)
    (ht : ∀ (A' : Around) (s : Shared) (H : Hp) (C : Addr) (cl : List (Str × Addr)) (code : Value) (fp : List Addr) (pn : List (Addr × Obj)), Room k A' → DTs (gcx X A' s H (genEnv scope cl C code builtinsNs X.env) fp pn) T W0 ifs tf)
    (he : ∀ (A' : Around) (s : Shared) (H : Hp) (C : Addr) (cl : List (Str × Addr)) (code : Value) (fp : List Addr) (pn : List (Addr × Obj)), Room k A' → DE (gcx X A' s H (genEnv scope cl C code builtinsNs X.env) fp pn) T W0 false elt f)
    (hg0 : Gl X "any" := by rfl) (hs : ∀ v, genFold iter X.env v = pure v := by intro _; rfl)
    (hst : starEach [.GeneratorExp elt [⟨tg, iter, ifs, 0⟩] scope gpos] X.env = (false, eval (.GeneratorExp elt [⟨tg, iter, ifs, 0⟩] scope gpos) X.env) :: starEach [] X.env := by rfl) :
    DE X T W m (.Call (.Name "any" p) [.GeneratorExp elt [⟨tg, iter, ifs, 0⟩] scope gpos] [] pos) (fAA false src asg tf f (own.map (·.2))) := de_aa bl.any (by rfl) (by decide) (by decide) hr hc hN G ok hi hin hga hg ht he hg0 hs hst
end
/-- around a block nothing is let out -/
theorem takes0N {X : Cx} : L2N.Takes X (fun _ _ _ _ => False) := fun _ _ x => by
  obtain ⟨_, _, _, _, _, _, _, _, _, _, _, _, _, _, _, _, z⟩ := x
  exact z.elim
def gblkC (N : List Str) (sc scope : Scope) (own : List (Str × Nat)) : Bool := blkC N sc scope own && (scope.names.all fun y => decide (y.2 ≠ .cell)) && decide (scope.names.lookup (".0" : Str) = some NameKind.local) && !scope.isCoroutine
theorem gblk_by {N : List Str} {sc scope : Scope} {own : List (Str × Nat)} (h : gblkC N sc scope own = true) : GBlk N sc scope own := by
  unfold gblkC at h
  simp only [Bool.and_eq_true, List.all_eq_true, decide_eq_true_eq, Bool.not_eq_true'] at h
  obtain ⟨⟨⟨h1, h2⟩, h3⟩, h4⟩ := h
  exact ⟨blkOk_by h1, h2, h3, h4⟩
theorem gx_of {P : Program} {w : World} {K : PySem.W.Frag} {mg : Str → Option Value} {base : Heap} {T : FS} {CX : CXT} {N : List Str} {qual : Str} {scope : Scope} {f : Addr} {cdv : Value} {A : Around} {outer : List Env} {s : Shared} {H : Hp} {E : XK} {fd : FuncData}
    (G : ∃ c P, fd.code = .ref c ∧ GxR.TabB base mg c P ∧ T P) (hcd : fd.code = cdv) : Gx (cxOf CX P w K mg base N qual scope f cdv A outer s H E) T := by
  obtain ⟨c, P, h1, h2, h3⟩ := G
  exact ⟨c, P, h2, hcd.symm.trans h1, h3⟩
end DL

set_option Elab.async false
set_option linter.all false
set_option maxRecDepth 100000
set_option maxHeartbeats 4000000
namespace DL
open PySem PySem.Spec PyProof.Rows L2 HotX L2H
open PySem (Seg GenEnd Protocol)
section
variable {prog : Program} {w : World} {A : Around} {E : Value → Shared → Prop} {s : Shared}
theorem HotAt.upd {x1 it : Addr} {h h' : Heap} (hot : HotAt A x1 h) (hne : x1 ≠ it) (k : Heap.SameBut it h h') : HotAt A x1 h' := by
  obtain ⟨hh, o1, vs1, h1, d1, c1⟩ := hot
  exact ⟨hh, o1, vs1, (k.2 x1 hne).trans h1, d1, c1⟩
/-- StopIteration's way while an exception is handled -/
theorem stop_hot {α : Type} {x1 : Addr} {Q : α → Shared → Prop} (hot : HotAt A x1 s.heap) (hE : ∀ (a : Addr) (h' : Heap), s.heap.objs.size ≤ a → (∀ b o, s.heap.get? b = some o → h'.get? b = some o) → (∃ o, h'.get? a = some o ∧ o.cls = .type "StopIteration") → E (.ref a) { s with heap := h' }) :
    wpAny (model prog w) A (newExc (.type "StopIteration") [] >>= fun x => (raiseNew x : Sem α)) Q E s := by
  obtain ⟨hh, o1, vs1, h1, d1, c1⟩ := hot
  refine wpAny_bind ?_
  simp only [newExc, newTuple]
  refine wpAny_bind (wpAny_newObj_type ?_ (by size_fits))
  refine wpAny_bind (m := firstArgMember _ _) (wpAny_of_eq (a := Value.none) (by first | rfl | (simp only [firstArgMember]; rfl)) ?_)
  refine wpAny_newObj_type ?_ (by size_fits)
  refine raiseNew_hot ⟨hh, o1, vs1, Heap.get?_push_of_some _ (Heap.get?_push_of_some _ h1), d1, c1⟩ (Nat.ne_of_lt (Heap.lt_size (Heap.get?_push_of_some _ h1))) (Heap.get?_push_size _ rfl) rfl (by first | (simp; done) | (simp; omega) | (simp only [Array.size_append]; simp; omega)) ?_
  refine hE _ _ (by rw [Heap.size_push]; omega) (fun b o e => ?_) ⟨_, Heap.get?_update_self _ (Heap.get?_push_size _ rfl) rfl, rfl⟩
  rw [Heap.get?_update_other _ _ (Nat.ne_of_gt (Heap.lt_size (Heap.get?_push_of_some _ e)))]
  exact Heap.get?_push_of_some _ (Heap.get?_push_of_some _ e)
theorem next_list_end_hot {it l x1 : Addr} {i : Nat} {items} {Q : Option Value → Shared → Prop} (hot : HotAt A x1 s.heap) (hne : x1 ≠ it)
    (hit : s.heap.IsListIter it l i) (hl : s.heap.IsList l items) (hx : items[i]? = none)
    (hQ : ∀ h', Heap.ExtBut it s.heap h' → Q none { s with heap := h' }) : wpAny (model prog w) A (pyNext (.ref it)) Q E s := by
  obtain ⟨o, ho, hc, hd⟩ := id hit
  obtain ⟨ol, hol, _, nl, hdl⟩ := hl
  unfold pyNext
  refine wpAny_bind (wpAny_attempt (wpAny_callSpecial?_slot (name := Str.ofString "__next__") hit.typeIs slot_listiter_next
    (wpAny_call_entry slot_listiter_next hit.typeIs entry_listiter_next ?_ (args_listiter_next _))))
  show wpAny _ _ (field (.ref it) 0 >>= _) _ _ s
  refine wpAny_bind (wpAny_field ho hd (x := .ref l) rfl ?_)
  show wpAny _ _ (if (Value.ref l == Value.none) = true then _ else _) _ _ s
  rw [if_neg (show ¬ ((Value.ref l == Value.none) = true) from Bool.false_ne_true)]
  show wpAny _ _ (field (.ref it) 1 >>= _) _ _ s
  refine wpAny_bind (wpAny_field ho hd (x := .int i 0) rfl ?_)
  show wpAny _ _ (seqItems? (.ref l) >>= _) _ _ s
  refine wpAny_bind (wpAny_seqItems hol hdl ?_)
  simp only [Int.toNat_natCast, hx]
  refine wpAny_bind (wpAny_rule (wpAny_bind (wpAny_setField ho hd (by simp) ?_)))
  have hot2 : HotAt A.in1 x1 (s.heap.update it (Obj.mapFields (·.setIfInBounds 0 .none))) := HotAt.upd hot hne (Heap.SameBut.update ..)
  refine stop_hot hot2 fun a h' ha k ho' => ?_
  refine wpAny_bind (wpAny_isInstance (T := "StopIteration") (b := true) ho' isSubtype_stop ?_)
  exact wpAny_pure (hQ _ fun b o hb e => k b o ((Heap.SameBut.update ..).extBut b o hb e))
theorem next_tuple_end_hot {it t x1 : Addr} {i : Nat} {items} {Q : Option Value → Shared → Prop} (hot : HotAt A x1 s.heap) (hne : x1 ≠ it)
    (hit : IsTupIter s.heap it t i) (ht : IsTup s.heap t items) (hx : items[i]? = none)
    (hQ : ∀ h', Heap.ExtBut it s.heap h' → Q none { s with heap := h' }) : wpAny (model prog w) A (pyNext (.ref it)) Q E s := by
  obtain ⟨o, ho, hc, hd⟩ := id hit
  obtain ⟨ol, hol, _, nl, hdl⟩ := ht
  unfold pyNext
  refine wpAny_bind (wpAny_attempt (wpAny_callSpecial?_slot (name := Str.ofString "__next__") hit.typeIs slot_tupleiter_next
    (wpAny_call_entry slot_tupleiter_next hit.typeIs entry_tupleiter_next ?_ (args_tupleiter_next _))))
  show wpAny _ _ (field (.ref it) 0 >>= _) _ _ s
  refine wpAny_bind (wpAny_field ho hd (x := .ref t) rfl ?_)
  show wpAny _ _ (if (Value.ref t == Value.none) = true then _ else _) _ _ s
  rw [if_neg (show ¬ ((Value.ref t == Value.none) = true) from Bool.false_ne_true)]
  show wpAny _ _ (field (.ref it) 1 >>= _) _ _ s
  refine wpAny_bind (wpAny_field ho hd (x := .int i 0) rfl ?_)
  show wpAny _ _ (seqItems? (.ref t) >>= _) _ _ s
  refine wpAny_bind (wpAny_seqItems hol hdl ?_)
  simp only [Int.toNat_natCast, hx]
  refine wpAny_bind (wpAny_rule (wpAny_bind (wpAny_setField ho hd (by simp) ?_)))
  have hot2 : HotAt A.in1 x1 (s.heap.update it (Obj.mapFields (·.setIfInBounds 0 .none))) := HotAt.upd hot hne (Heap.SameBut.update ..)
  refine stop_hot hot2 fun a h' ha k ho' => ?_
  refine wpAny_bind (wpAny_isInstance (T := "StopIteration") (b := true) ho' isSubtype_stop ?_)
  exact wpAny_pure (hQ _ fun b o hb e => k b o ((Heap.SameBut.update ..).extBut b o hb e))
theorem unpackItems_hot {t x1 : Addr} {items : Array Value} {Q : List Value → Shared → Prop} (hot : HotAt A x1 s.heap) (ht : IsTup s.heap t items)
    (hQ : ∀ h', Heap.ExtBut s.heap.objs.size s.heap h' → Q items.toList { s with heap := h' }) : wpAny (model prog w) A (unpackItems (.ref t) items.size none) Q E s := by
  have hlt : t ≠ s.heap.objs.size := by obtain ⟨o, ho, _⟩ := ht; exact Nat.ne_of_lt (Heap.lt_size ho)
  have hx1 : x1 ≠ s.heap.objs.size := by obtain ⟨_, o, _, ho, _⟩ := hot; exact Nat.ne_of_lt (Heap.lt_size ho)
  unfold unpackItems
  refine wpAny_bind ?_
  · unfold notIterableAtAll
    refine wpAny_bind (wpAny_specialOf ht.typeIs slot_tuple_iter.lookup ?_)
    refine wpAny_pure ?_
    simp only [Bool.false_eq_true, if_false]
    refine wpAny_bind (wpAny_holding (iter_tuple ht ?_))
    refine wpAny_bind (wpAny_holding (draw_tuple hlt items.size 0 _ _ ⟨_, Heap.get?_push_size _ rfl, rfl, rfl⟩ (ht.push _) (by omega) fun h₁ hit₁ hs₁ => ?_))
    have hall : List.take items.size (List.drop 0 items.toList) = items.toList := by
      rw [List.drop_zero]; exact List.take_of_length_le (by simp)
    rw [hall]
    rw [if_neg (by simp)]
    have ht₁ : IsTup h₁ t items := (ht.push _).extBut hs₁.extBut hlt
    have hot₁ : HotAt A x1 h₁ := by
      obtain ⟨hh, o1, vs1, h1, d1, c1⟩ := hot
      exact ⟨hh, o1, vs1, hs₁.extBut _ _ hx1 (Heap.get?_push_of_some _ h1), d1, c1⟩
    refine wpAny_bind (wpAny_holding (next_tuple_end_hot hot₁ hx1 hit₁ ht₁ (by simp) fun h₂ he₂ => ?_))
    simp only [Option.isSome_none, Bool.false_eq_true, if_false]
    refine wpAny_pure (hQ h₂ fun b o hb e => he₂ b o hb (hs₁.extBut b o hb (Heap.get?_push_of_some _ e)))
theorem assign_Tuple_hot {env : Env} {elts : List Expr} {k} {pos : Pos} {t x1 : Addr} {items : Array Value} {Q : Unit → Shared → Prop} (hot : HotAt A x1 s.heap) (ht : IsTup s.heap t items)
    (hn : (assignEach elts env).length = items.size) (hstar : (assignEach elts env).findIdx? (·.1) = none)
    (h : ∀ h', Heap.ExtBut s.heap.objs.size s.heap h' → wpAny (model prog w) A (assignInOrder ((assignEach elts env).map (·.2)) items.toList) Q E { s with heap := h' }) :
    wpAny (model prog w) A (assign (.Tuple elts k pos) env (.ref t)) Q E s := by
  rw [PyProof.Rows.assign_Tuple]
  refine wpAny_bind (wpAny_standAt ?_)
  unfold unpack
  rw [hn, hstar]
  exact wpAny_bind (wpAny_holding (unpackItems_hot hot ht h))
end
/-! ### walks and targets there -/
theorem turn_listH {P : Program} {w : World} {K : PySem.W.Frag} {tg : Expr} (a it : Addr) : TurnH P w K tg (Itl K a) [it] it (fun i h => h.IsListIter it a i) where
  mem := by simp
  obj := fun i h st b hb => by
    have e : b = it := by simpa using hb
    subst e
    obtain ⟨o, e, c, d⟩ := st
    exact ⟨o, e, fun v z => by rw [d] at z; cases z⟩
  keep := fun i h h' st k => st.at fun o e => k it (by simp) o e
  item := by
    intro X hP hw hK hc i pins s σ H E I hf st hg
    subst hP hw hK
    obtain ⟨xs, x, hq, hx⟩ := hg
    obtain ⟨its, rv, p, hz⟩ := I.list hq
    obtain ⟨u, hu, ru⟩ := rv.get hx
    obtain ⟨f0, f1, f2, f3, f4, f5⟩ := hf it (by simp)
    refine wpAny_pyNext_list_item st p.isList (x := u) (by simpa using hu) fun h' st' sb => ?_
    have I1 : Inv X pins σ H { s with heap := h' } := I.turned (t' := s.toks) (fun b o hb e => (sb.2 b hb).trans e) f0 f1 f3 f4 f5
    obtain ⟨o, e, c, d⟩ := id st'
    exact ⟨u, rfl, go_of (s := { s with heap := h' }) e c d (by decide) ⟨x, H, I1, ru, ⟨rfl, fun ys hy => by rw [I.list_inj hy hq]; exact hx⟩, st', fun b hb => (hf b hb).1⟩⟩
  done := by
    intro X hP hw hK hc i pins s σ H E I hf st hg
    subst hP hw hK
    obtain ⟨xs, hq, hx⟩ := hg
    obtain ⟨its, rv, p, hz⟩ := I.list hq
    obtain ⟨f0, f1, f2, f3, f4, f5⟩ := hf it (by simp)
    have hl := rv.length
    obtain ⟨pp, ⟨hh, v1, e1, c1⟩, hp⟩ := hc
    have hpin := I.pin pp (List.mem_append_left _ hp)
    exact next_list_end_hot (x1 := pp.1) ⟨hh, pp.2, v1, hpin.1, e1, c1⟩ (f5 pp (List.mem_append_left _ hp)) st p.isList (by simp; omega) fun h' eb => ⟨rfl, I.turned (t' := s.toks) (fun b o hb e => eb b o hb e) f0 f1 f3 f4 f5⟩
  self := fun _ _ _ _ _ st h => wpAny_pyIter_listiter st h
section
variable {X : Cx} {tg : Expr}
theorem pi_listH {l : Expr} {tl : TE} (hl : PE X l tl) : PIH X tg l (iList X.K tl) := by
  refine ⟨fun pins s σ H R I h => ?_⟩
  refine thn (hl.run pins s σ H _ I h) fun v s1 ⟨x, H1, I1, r1, q1⟩ => ?_
  obtain ⟨a, e, ⟨xs, hq⟩, q⟩ := q1
  subst e
  cases r1
  obtain ⟨its, rv, p, hz⟩ := I1.list hq
  refine wpAny_pyIter_list p.isList ?_
  refine ⟨s1.heap.objs.size, [s1.heap.objs.size], _, _, H1, rfl, I1.kept (t' := s1.toks) fun b o e => Heap.get?_push_of_some _ e, turn_listH a _, ⟨_, Heap.get?_push_size _ rfl, rfl, rfl⟩, fun b hb => ?_, q⟩
  have e : b = s1.heap.objs.size := by simpa using hb
  subst e
  exact I1.fpOk (Nat.le_refl _) (I1.hok.fresh (Nat.le_refl _))
theorem pg_tupH {es : List Expr} {k : Nat} {t : TGs} {n : Nat} {pos : Pos} (hc : HotC X) (h : PGs X es t)
    (hn : (assignEach es X.env).length = n := by rfl) (hst : (assignEach es X.env).findIdx? (·.1) = none := by rfl) : PG X (.Tuple es k pos) (gTup X.K n t) := by
  refine ⟨fun pins s σ H v u Q I r hw => ?_⟩
  obtain ⟨a, xs, e1, hq, hl, hw⟩ := hw
  subst e1
  cases r
  obtain ⟨its, rv, ht, hz⟩ := I.tuple hq
  obtain ⟨x1, hot⟩ := hc.at I
  refine assign_Tuple_hot hot ht (by simp [hn, ← hl, rv.length]) hst fun h' hx => ?_
  have I1 : Inv X pins σ H { s with heap := h' } := I.kept (t' := s.toks) fun b o e => hx b o (Nat.ne_of_lt (Heap.lt_size e)) e
  exact h.run pins _ σ H xs _ Q I1 (by simpa using rv) hw
/-- a comprehension's block while an exception is handled: the pins stand -/
abbrev hblk (X : Cx) (s : Shared) (H : Hp) (scope : Scope) (cenv : Env) (fp : List Addr) : Cx := { X.blk s H scope cenv fp with pn := X.pn }
theorem hblk_hot {s : Shared} {H : Hp} {scope : Scope} {cenv : Env} {fp : List Addr} (hc : HotC X) : HotC (hblk X s H scope cenv fp) := hc
theorem Inv.addPn {Z : Cx} {σ : L2.St} {H : Hp} {s : Shared} {pn : List (Addr × Obj)} (I : Inv Z [] σ H s) (h : ∀ p ∈ pn, s.heap.get? p.1 = some p.2 ∧ H p.1 = none ∧ p.1 ≠ Z.env.locals ∧ p.1 ∉ Z.fs ∧ ∀ v, p.2.data ≠ .cell v) : Inv { Z with pn := pn } [] σ H s :=
  ⟨⟨I.ok.mod, I.ok.kind, I.ok.glob, I.ok.blt, I.ok.above, I.ok.inj, I.ok.has, I.ok.cab, I.ok.hd, I.ok.frames, I.ok.stk, I.ok.exf, I.ok.bs, I.ok.bsz, I.ok.noex, I.ok.exfs, I.ok.funs, I.ok.frf⟩, I.os, I.bare, I.base, I.loc, I.cell, I.free, I.freeC, fun p hp => h p (by simpa using hp), I.hok, I.len⟩
end
end DL

set_option Elab.async false
set_option linter.all false
set_option maxRecDepth 100000
set_option maxHeartbeats 4000000
namespace DL
open PySem PySem.Spec PyProof.Rows L2 HotX L2H
section
variable {X : Cx}
theorem lc_coreH {pins : List (Addr × Obj)} {s : Shared} {σ : L2.St} {H : Hp} {Q : VK} {elt tg iter : Expr} {ifs : List Expr} {scope : Scope} {own : List (Str × Nat)} {pos pos' : Pos} {wi : TI} {g : TG} {tt : TT} {te : TE} {use : Option (Value → Sem Unit)} {Qf : Value → Shared → Prop}
    (hc : HotC X) (hN : X.N.Nodup) (I : Inv X pins σ H s) (hi : PIH X tg iter wi) (ok : BlkOk X.N X.env.scope scope own)
    (hg : ∀ (s : Shared) (H : Hp) (C : Addr) (cl : List (Str × Addr)) (fp : List Addr), PG (hblk X s H scope (compEnvC scope cl C X.env) fp) tg g) (ht : ∀ (s : Shared) (H : Hp) (C : Addr) (cl : List (Str × Addr)) (fp : List Addr), PTs (hblk X s H scope (compEnvC scope cl C X.env) fp) ifs tt)
    (he : ∀ (s : Shared) (H : Hp) (C : Addr) (cl : List (Str × Addr)) (fp : List Addr), PE (hblk X s H scope (compEnvC scope cl C X.env) fp) elt te) (hs : ∀ x, foldedSetIterable iter X.env x = pure x)
    (h : tLc wi g tt te (own.map (·.2)) σ H Q)
    (hRR : ∀ D C s' m H', Inv X pins σ H' s' → Q (.ref D) H' → s'.heap.Ns C m → FpOk X pins H' C → compPost (model X.prog X.w) X.A X.xe use Qf (.ref D) C (.ok .next) s') :
    wpAny (model X.prog X.w) X.A (comprehension (.ListComp elt [⟨tg, iter, ifs, 0⟩] scope pos) scope X.env pos' (newList []) false (eval iter X.env) use) Qf X.xe s := by
  have hfree : ∀ y ∈ scope.names, y.2 = .free → ∃ c, X.env.cells.lookup y.1 = some c := fun y hy e => by
    rcases ok.free y hy e with k | k
    · exact I.ok.has _ (.inl k)
    · exact I.ok.has _ (.inr k)
  refine wpAny_comprehension_free (use := use) rfl hs (closure_ok hfree) ok.kind (fun y hy e => by rw [ok.uniq y hy, e])
    (thn (hi.run pins s σ H _ I h) fun xv s1 hx => thn hx fun itv s2 h2 => ?_)
  obtain ⟨it, fp, tn, J, H2, e, I2, T, st2, f2, q⟩ := h2
  subst e
  refine wpAny_newObj_type (newEnv_comp ?_) (by show 0 ≤ sizeLine; decide)
  generalize hD : s2.heap.objs.size = D
  have hDn : H2 D = none := I2.hok.fresh (Nat.le_of_eq hD)
  obtain ⟨W, ⟨m0, w0⟩, turn⟩ := q D hDn
  -- the new list
  generalize hs3 : ({ s2 with heap := s2.heap.push { cls := .type "list", data := .seq ([] : List Value).toArray } } : Shared) = s3
  have I3 : Inv X pins σ (upd H2 D (.lst [])) s3 := by
    rw [← hs3]
    refine I2.laid (t' := s2.toks) (fun b o e => Heap.get?_push_of_some _ e) (Nat.le_of_eq hD) ⟨Nat.zero_le _, [], 0, .nil, ?_⟩
    rw [← hD]
    exact Heap.get?_push_size _ rfl
  have h3 : s3.heap = s2.heap.push { cls := .type "list", data := .seq ([] : List Value).toArray } := by rw [← hs3]
  have sz : ∀ b ∈ fp, b < s2.heap.objs.size := fun b hb => by
    obtain ⟨o, e, _⟩ := T.obj _ _ st2 b hb
    exact Heap.lt_size e
  have f3 : ∀ b ∈ fp, FpOk X pins (upd H2 D (.lst [])) b ∧ b < s3.heap.objs.size := fun b hb => by
    have hlt := sz b hb
    refine ⟨⟨?_, (f2 b hb).2⟩, by rw [h3, Heap.size_push]; exact Nat.lt_succ_of_lt hlt⟩
    rw [upd_ne (by rw [← hD]; exact Nat.ne_of_lt hlt)]
    exact (f2 b hb).1
  have st3 : tn 0 s3.heap := T.keep _ _ _ st2 fun b _ o e => by rw [h3]; exact Heap.get?_push_of_some _ e
  have I4 := block_start I3 ok hN f3
  have pg := hg s3 (upd H2 D (.lst [])) s3.heap.objs.size (cellsFrom (s3.heap.objs.size + 1) scope.names (cloFrom X.env.cells scope.names [])) fp
  have pt := ht s3 (upd H2 D (.lst [])) s3.heap.objs.size (cellsFrom (s3.heap.objs.size + 1) scope.names (cloFrom X.env.cells scope.names [])) fp
  have pe := he s3 (upd H2 D (.lst [])) s3.heap.objs.size (cellsFrom (s3.heap.objs.size + 1) scope.names (cloFrom X.env.cells scope.names [])) fp
  show codeAny _ _ (.compStart (.ListComp elt [⟨tg, iter, ifs, 0⟩] scope pos) 0 (.ref it) (.ref D) (compEnvC scope (cellsFrom (s3.heap.objs.size + 1) scope.names (cloFrom X.env.cells scope.names [])) s3.heap.objs.size X.env)) (compPost (model X.prog X.w) X.A X.xe use Qf (.ref D) s3.heap.objs.size) { s3 with heap := pushCells (s3.heap.push { cls := .type "dict", data := .dict #[] }) scope.names }
  have nfp : ∀ b ∈ fp, (upd H2 D (.lst [])) b = none := fun b hb => (f3 b hb).1.1
  generalize hce : compEnvC scope (cellsFrom (s3.heap.objs.size + 1) scope.names (cloFrom X.env.cells scope.names [])) s3.heap.objs.size X.env = ce at I4 pg pt pe ⊢
  have cL : ce.locals = s3.heap.objs.size := by subst hce; rfl
  generalize hH3 : upd H2 D (.lst []) = H3 at I3 I4 pg pt pe w0 nfp f3
  generalize hs4 : ({ s3 with heap := pushCells (s3.heap.push { cls := .type "dict", data := .dict #[] }) scope.names } : Shared) = s4 at I4 ⊢
  have kp4 : ∀ b o, s3.heap.get? b = some o → s4.heap.get? b = some o := fun b o e => by rw [← hs4]; exact pushCells_keeps _ _ _ _ (Heap.get?_push_of_some _ e)
  have st4 : tn 0 s4.heap := T.keep _ _ _ st3 fun b _ o e => kp4 b o e
  have I4 : Inv (hblk X s3 H3 scope ce fp) [] (wipe σ (own.map (·.2))) H3 s4 := Inv.addPn I4 fun p hp => by
    obtain ⟨p1, p2, p3, p4, p5⟩ := I3.pin p (List.mem_append_left _ hp)
    refine ⟨kp4 _ _ p1, p2, ?_, fun z => ?_, p5⟩
    · show p.1 ≠ ce.locals
      rw [cL]
      exact Nat.ne_of_lt (Heap.lt_size p1)
    · exact (List.mem_cons.mp (I3.stkSub _ z)).elim p3 p4
  have stat : ∀ {σ' : L2.St} {H' : Hp} {s' : Shared}, Inv (hblk X s3 H3 scope ce fp) [] σ' H' s' → (∀ b ∈ fp, H' b = none) → ∀ b ∈ fp, FpOk (hblk X s3 H3 scope ce fp) [] H' b := fun {σ' H' s'} I' hn b hb =>
    ⟨hn b hb, (I'.ok.exf b hb).1, I'.ok.exfs b hb, .inl hb, fun x c e => (I'.ok.exf b hb).2 x c e, fun p hp => by
      have hp : p ∈ X.pn := by simpa using hp
      exact (f3 b hb).1.2.2.2.2.2 p (List.mem_append_left _ hp)⟩
  have loop : codeAny (model X.prog X.w) X.A (.compLoop (.ListComp elt [⟨tg, iter, ifs, 0⟩] scope pos) 0 (.ref it) (.ref D) ce) (compPost (model X.prog X.w) X.A X.xe use Qf (.ref D) s3.heap.objs.size) s4 := by
    refine compLoop_any (fun n s' => ∃ i H', Inv (hblk X s3 H3 scope ce fp) [] (wipe σ (own.map (·.2))) H' s' ∧ tn i s'.heap ∧ (∀ b ∈ fp, H' b = none) ∧ W i n H') ?_ m0 ⟨0, H3, I4, st4, nfp, w0⟩
    rintro n s5 ⟨i, H5, I5, st5, n5, w5⟩
    rcases turn i n H5 w5 with ⟨stop, qq⟩ | ⟨go, Nx, hNx, step⟩
    · have td := T.done (hblk X s3 H3 scope ce fp) rfl rfl rfl (hblk_hot hc) i [] s5 _ H5 (fun _ _ => False) I5 (stat I5 n5) st5 stop
      refine thnF td fun r s6 ⟨hr, I6⟩ => ?_
      subst hr
      -- back in the def's context
      have I7 : Inv X pins σ H5 s6 := I3.call' (ch := fp) I6.os I6.base I6.hok I6.bare fun b hb => ⟨(f3 b hb).1.2.2.2.1, (f3 b hb).1.2.1, (f3 b hb).1.2.2.2.2.1, (f3 b hb).1.2.2.2.2.2⟩
      have nC : H5 s3.heap.objs.size = none := by
        have z : H5 ce.locals = none := I6.free
        rw [cL] at z
        exact z
      obtain ⟨m, hn, _⟩ := I6.loc
      have hn : s6.heap.Ns ce.locals m := hn
      rw [cL] at hn
      exact hRR D s3.heap.objs.size s6 m H5 I7 qq hn (I3.fpOk (Nat.le_refl _) nC)
    · have ti := T.item (hblk X s3 H3 scope ce fp) rfl rfl rfl (hblk_hot hc) i [] s5 _ H5 (fun _ _ => False) I5 (stat I5 n5) st5 go
      refine thnF ti fun r s6 ⟨u, hr, h6⟩ => ?_
      subst hr
      refine thnF h6 fun _ s7 ⟨x, H7, I7, r7, y7, st7, n7⟩ => ?_
      have I7' := I7.pinned (stat I7 n7) (T.obj _ _ st7)
      refine thnF (pg.run _ s7 _ H7 x u _ I7' r7 (step x H7 y7)) fun _ s8 ⟨σ8, H8, I8, hw8, q8⟩ => ?_
      refine thnF (pt.run _ s8 σ8 H8 _ I8 q8) fun b s9 ⟨H9, I9, q9⟩ => ?_
      -- the turn's end
      have fin : ∀ {s' : Shared} {H' : Hp}, Inv (hblk X s3 H3 scope ce fp) ([] ++ pinsAt fp s7.heap) σ8 H' s' → Nx H' → ∃ m, m < n ∧ ∃ i H', Inv (hblk X s3 H3 scope ce fp) [] (wipe σ (own.map (·.2))) H' s' ∧ tn i s'.heap ∧ (∀ b ∈ fp, H' b = none) ∧ W i m H' := fun {s' H'} I' nx => by
        obtain ⟨m', hm, w'⟩ := hNx H' nx
        have pin' : ∀ b ∈ fp, ∀ o, s7.heap.get? b = some o → s'.heap.get? b = some o ∧ H' b = none := fun b hb o e =>
          let z := I'.pin (b, o) (List.mem_append_right _ (List.mem_append_right _ (mem_pinsAt hb e)))
          ⟨z.1, z.2.1⟩
        have hl : (wipe σ (own.map (·.2))).length = σ8.length := by rw [← hw8, wipe_length]
        refine ⟨m', hm, i + 1, H', (I'.unpinned (pins := [])).weak hl (fun j v e => ?_), T.keep _ _ _ st7 fun b hb o e => (pin' b hb o e).1, fun b hb => ?_, w'⟩
        · rw [← hw8] at e
          exact (wipe_some e).1
        · obtain ⟨o, e, _⟩ := T.obj _ _ st7 b hb
          exact (pin' b hb o e).2
      cases b with
      | false =>
        simp only [Bool.false_eq_true, if_false] at q9 ⊢
        exact fin I9 q9
      | true =>
        simp only [if_true] at q9 ⊢
        refine thnF (pe.run _ s9 σ8 H9 _ I9 q9) fun z s10 ⟨yv, H10, I10, r10, acc, hD10, hz10, nx⟩ => ?_
        exact app_ok (X := hblk X s3 H3 scope ce fp) I10 hD10 hz10 r10 fun s11 I11 => fin I11 nx
  exact codeAny_compStart_list loop (T.self X.A 0 _ _ _ st4 loop)
theorem ps_setLcH {i : Nat} {y : Str} {py : Pos} {elt tg iter : Expr} {ifs : List Expr} {scope : Scope} {own : List (Str × Nat)} {pos spos : Pos} {wi : TI} {g : TG} {tt : TT} {te : TE} (hc : HotC X) (hN : X.N.Nodup) (hy : X.N[i]? = some y) (hyl : X.env.scope.names.lookup y = some .local)
    (hsw : swapsWith (.ListComp elt [⟨tg, iter, ifs, 0⟩] scope pos) (some (.Name y py)) spos.line X.env = pure true) (hi : PIH X tg iter wi) (ok : BlkOk X.N X.env.scope scope own)
    (hg : ∀ (s : Shared) (H : Hp) (C : Addr) (cl : List (Str × Addr)) (fp : List Addr), PG (hblk X s H scope (compEnvC scope cl C X.env) fp) tg g) (ht : ∀ (s : Shared) (H : Hp) (C : Addr) (cl : List (Str × Addr)) (fp : List Addr), PTs (hblk X s H scope (compEnvC scope cl C X.env) fp) ifs tt)
    (he : ∀ (s : Shared) (H : Hp) (C : Addr) (cl : List (Str × Addr)) (fp : List Addr), PE (hblk X s H scope (compEnvC scope cl C X.env) fp) elt te) (hs : ∀ x, foldedSetIterable iter X.env x = pure x := by intro _; rfl) :
    PS X (.Assign [.Name y py] (.ListComp elt [⟨tg, iter, ifs, 0⟩] scope pos) spos) (tAsg (tLc wi g tt te (own.map (·.2))) (gName i)) := by
  refine ⟨fun pins s σ H D I h => ?_⟩
  rw [exec_Assign_Name_used _ _ _ _ hsw]
  refine wpAny_bind (wpAny_standAt (wpAny_bind ?_))
  show wpAny _ X.A (do let _ ← comprehension (.ListComp elt [⟨tg, iter, ifs, 0⟩] scope pos) scope X.env (firstIterPos [⟨tg, iter, ifs, 0⟩] pos) (newList []) false (eval iter X.env) (some (assign (.Name y py) X.env))) _ _ s
  have h : tLc wi g tt te (own.map (·.2)) σ H (fun x H1 => gName i x σ H1 D.nx) := h
  refine wpAny_bind (thn (lc_coreH (Qf := fun _ s' => SP X pins D .next s') hc hN I hi ok hg ht he hs h fun L C s' m H' I' q hn f => ?_) fun _ s' hq => wpAny_pure (wpAny_pure hq))
  show wpAny _ _ (assign (.Name y py) X.env (.ref L)) _ _ _
  refine wpAny_assign_Name (store_ok2 (v := V.ref L) I' hN hy (.inl hyl) rfl (fun s2 I2 ⟨a, sb, ha⟩ => ?_) (.inr hyl))
  obtain ⟨f0, f1, f2, f3, f4, f5⟩ := f
  have haC : C ≠ a := by
    rcases ha with z | z
    · rw [z]; exact f1
    · exact fun e => f4 y a z e.symm
  refine ⟨m, hn.sameBut sb haC, fun h3 sb3 => ?_⟩
  exact ⟨_, H', I2.turned (t' := s2.toks) (fun b o hb e => (sb3.2 b hb).trans e) f0 f1 f3 f4 f5, q⟩
theorem pe_lcH {elt tg iter : Expr} {ifs : List Expr} {scope : Scope} {own : List (Str × Nat)} {pos : Pos} {wi : TI} {g : TG} {tt : TT} {te : TE} (hc : HotC X) (hN : X.N.Nodup) (hi : PIH X tg iter wi) (ok : BlkOk X.N X.env.scope scope own)
    (hg : ∀ (s : Shared) (H : Hp) (C : Addr) (cl : List (Str × Addr)) (fp : List Addr), PG (hblk X s H scope (compEnvC scope cl C X.env) fp) tg g) (ht : ∀ (s : Shared) (H : Hp) (C : Addr) (cl : List (Str × Addr)) (fp : List Addr), PTs (hblk X s H scope (compEnvC scope cl C X.env) fp) ifs tt)
    (he : ∀ (s : Shared) (H : Hp) (C : Addr) (cl : List (Str × Addr)) (fp : List Addr), PE (hblk X s H scope (compEnvC scope cl C X.env) fp) elt te) (hs : ∀ x, foldedSetIterable iter X.env x = pure x := by intro _; rfl) :
    PE X (.ListComp elt [⟨tg, iter, ifs, 0⟩] scope pos) (tLc wi g tt te (own.map (·.2))) := by
  refine ⟨fun pins s σ H Q I h => ?_⟩
  rw [eval_ListComp]
  refine lc_coreH hc hN I hi ok hg ht he hs h fun D C s' m H' I' q hn f => ⟨m, hn, fun h'' sb => ?_⟩
  obtain ⟨f0, f1, f2, f3, f4, f5⟩ := f
  exact ⟨.ref D, H', I'.turned (t' := s'.toks) (fun b o hb e => (sb.2 b hb).trans e) f0 f1 f3 f4 f5, rfl, q⟩
end
/-! ### isinstance of the handled exception -/
/-- what is handled: the object p, of the class D -/
structure HotE (X : Cx) (p : Addr × Obj) (D : Addr) : Prop where
  hot : Hot1 X.A p
  mem : p ∈ X.pn
  cls : Zc (.ref D) none p.2
theorem HotE.c {X : Cx} {p : Addr × Obj} {D : Addr} (h : HotE X p D) : HotC X := ⟨p, h.hot, h.mem⟩
theorem call_isP {X : Cx} {D : Addr} {p : Addr × Obj} (C : ExcC X.K D) (h : HotE X p D) : CallR X (.builtin "isinstance") (rIsE X.K D p.1) := by
  intro pins s σ H xs us Q I r hq
  obtain ⟨a, oe⟩ := p
  obtain ⟨⟨_, vs, hv, _⟩, hm, hz⟩ := h
  obtain ⟨c, cv, b, rfl, hcv, e, q⟩ := hq
  cases r with
  | cons rx rr =>
    cases rr with
    | cons rt rr =>
      cases rr
      cases rx
      have ec := hcv _ rt
      subst ec
      obtain ⟨hget, _⟩ := I.pin (a, oe) (List.mem_append_left _ hm)
      have J : PySem.W.InstAt s.heap a oe D none := by
        obtain ⟨oc, od, oda, osl⟩ := oe
        obtain ⟨h1, h2⟩ := hz
        dsimp only at h1 h2 hv
        subst h1 h2 hv
        exact ⟨hget, rfl, rfl, trivial⟩
      exact PySem.W.kia_one (PySem.W.handS_kitx_exc C.hg C.hk C.hs C.hd C.ha C.hn C.ht C.hm) I.kIn J e (fun z => nomatch z) fun tk => ⟨.bl b, H, I.kept (t' := tk) fun _ _ z => z, rfl, q⟩
end DL

set_option Elab.async false
set_option linter.all false
set_option maxRecDepth 100000
set_option maxHeartbeats 4000000
namespace DL
open PySem PySem.Spec PyProof.Rows L2 HotX L2H
/-! ### comprehensions there -/
structure DIH (X : Cx) (T : FS) (W : WX) (m : Bool) (tg iter : Expr) (f : DF (List PyData)) : Prop where
  pi : PIH X tg iter (tDI X T W m f)
theorem PIH.imp {X : Cx} {tg iter : Expr} {t t' : TI} (h : PIH X tg iter t) (i : ∀ σ H R, t' σ H R → t σ H R) : PIH X tg iter t' := ⟨fun pins s σ H R I w => h.run pins s σ H R I (i σ H R w)⟩
section
variable {X : Cx} {T : FS} {W : WX} {nw m m1 m2 : Bool} {pos : Pos} {e a b c tg : Expr} {f g : DF DV} {tf : DF Bool}
theorem di_listH (h : DE X T W m e f) : DIH X T W m tg e (fItL f) := by
  refine ⟨PIH.imp (pi_listH h.pe) fun σ H R ⟨B, env, st, F, sr, q⟩ => ?_⟩
  refine tDE.go sr q fun d st1 v H1 F1 sr1 x1 r1 q1 => ?_
  unfold toL at q1
  split at q1
  · obtain ⟨p, xs, rfl, h1, h2, h3, h4⟩ := r1.listAt sr1.wd
    exact ⟨p, rfl, ⟨xs, SqL.of h1⟩, q1 H1 F1 sr1.wd .refl _ (itl_ok sr1.wd h1 h2 h3 h4)⟩
  · exact q1.elim
theorem ds_setLcH {i : Nat} {y : Str} {py : Pos} {elt iter : Expr} {ifs : List Expr} {scope : Scope} {own : List (Str × Nat)} {spos : Pos} {src : DF (List PyData)} {t : TG} {asg : AF} (hc : HotC X) (hN : X.N.Nodup) (hy : X.N[i]? = some y) (hyl : X.env.scope.names.lookup y = some .local)
    (hsw : swapsWith (.ListComp elt [⟨tg, iter, ifs, 0⟩] scope pos) (some (.Name y py)) spos.line X.env = pure true) (hi : DIH X T W false tg iter src) (ok : BlkOk X.N X.env.scope scope own)
    (hin : Inner t (own.map (·.2))) (hga : AsgOk X.K T t asg)
    (hg : ∀ (s : Shared) (H : Hp) (C : Addr) (cl : List (Str × Addr)) (fp : List Addr), PG (hblk X s H scope (compEnvC scope cl C X.env) fp) tg t)
    (ht : ∀ (s : Shared) (H : Hp) (C : Addr) (cl : List (Str × Addr)) (fp : List Addr), DTs (hblk X s H scope (compEnvC scope cl C X.env) fp) T W0 ifs tf)
    (he : ∀ (s : Shared) (H : Hp) (C : Addr) (cl : List (Str × Addr)) (fp : List Addr), DE (hblk X s H scope (compEnvC scope cl C X.env) fp) T W0 true elt f) (hs : ∀ x, foldedSetIterable iter X.env x = pure x := by intro _; rfl) :
    DS X T W nw (.Assign [.Name y py] (.ListComp elt [⟨tg, iter, ifs, 0⟩] scope pos) spos) (gSet i (fLc src asg tf f (own.map (·.2)))) := by
  refine ds_set (f := fLc src asg tf f (own.map (·.2))) (PS.imp (ps_setLcH (tt := tDT X T W0 tf) (te := tDE X T W0 true f) hc hN hy hyl hsw hi.pi ok hg (fun s H C cl fp => (ht s H C cl fp).pt) (fun s H C cl fp => (he s H C cl fp).pe) hs) fun D σ H h => ?_)
  obtain ⟨B, env, st, F, sr, q⟩ := h
  refine lc_go hga hin sr ?_
  cases hq : fLc src asg tf f (own.map (·.2)) env st with
  | no => rw [hq] at q; exact q
  | exc c s => rw [hq] at q; exact q
  | ok d s =>
    rw [hq] at q
    intro H' F' w' x' v r
    obtain ⟨F2, w2, e2, r2⟩ := r.frz sr.wd w' x'
    exact q H' F2 w2 e2 v r2
theorem do_lcH {iter : Expr} {ifs : List Expr} {scope : Scope} {own : List (Str × Nat)} {elt : Expr} {src : DF (List PyData)} {t : TG} {asg : AF} (hc : HotC X) (hN : X.N.Nodup) (hi : DIH X T W false tg iter src) (ok : BlkOk X.N X.env.scope scope own)
    (hin : Inner t (own.map (·.2))) (hga : AsgOk X.K T t asg)
    (hg : ∀ (s : Shared) (H : Hp) (C : Addr) (cl : List (Str × Addr)) (fp : List Addr), PG (hblk X s H scope (compEnvC scope cl C X.env) fp) tg t)
    (ht : ∀ (s : Shared) (H : Hp) (C : Addr) (cl : List (Str × Addr)) (fp : List Addr), DTs (hblk X s H scope (compEnvC scope cl C X.env) fp) T W0 ifs tf)
    (he : ∀ (s : Shared) (H : Hp) (C : Addr) (cl : List (Str × Addr)) (fp : List Addr), DE (hblk X s H scope (compEnvC scope cl C X.env) fp) T W0 true elt f) (hs : ∀ x, foldedSetIterable iter X.env x = pure x := by intro _; rfl) :
    DO X T W (.ListComp elt [⟨tg, iter, ifs, 0⟩] scope pos) (fLc src asg tf f (own.map (·.2))) :=
  ⟨PE.imp (pe_lcH (tt := tDT X T W0 tf) (te := tDE X T W0 true f) hc hN hi.pi ok hg (fun s H C cl fp => (ht s H C cl fp).pt) (fun s H C cl fp => (he s H C cl fp).pe) hs) fun σ H Q ⟨B, env, st, F, sr, q⟩ => lc_go hga hin sr q⟩
theorem RoomH.units' {k : Nat} {A : Around} (r : RoomH k A) : A.units + 64 < cLine := by have := r.un; omega
theorem de_neH {k : Nat} (hr : RoomH k X.A) (ha : DE X T W false a f) (hb : DE X T W false b g) : DE X T W m (.Compare a [.NotEq] [b] pos) (fOp2 hNe f g) := de_cmp (n := false) (op_neD (RoomH.units' hr)) hne_ok ha hb (nomark _)
theorem dt_neH {k : Nat} (hr : RoomH k X.A) (ha : DE X T W false a f) (hb : DE X T W false b g) : DT X T W (.Compare a [.NotEq] [b] pos) (fB (fOp2 hNe f g)) := dt_cmp (n := false) (op_neD (RoomH.units' hr)) hne_ok ha hb (nomark _)
/-- an answer to isinstance -/
structure IsC (K : PySem.W.Frag) (mg : Str → Option Value) (D : Addr) (C : Str) (b : Bool) : Prop where
  ex : ∃ A, mg C = some (.ref A) ∧ PySem.W.kitOne K (.ref D) (.ref A) = some b
def fIsP (i : Nat) (a : Addr) (b : Bool) : DF DV := fun env st => match env[i]? with
  | some (.pin (.ref a')) => if a' = a then .ok (.d (.bool b)) st else .no
  | _ => .no
theorem de_isP {i : Nat} {y C : Str} {D : Addr} {p : Addr × Obj} {r : Bool} {p0 p1 p2 : Pos} (HC : HotE X p D) (EC : ExcC X.K D) (bl : Blts X.mg) (A : IsC X.K X.mg D C r) (hy : PE X (.Name y p1) (tVar i)) (hg : Gl X "isinstance" := by rfl) (hgC : Gl X C := by rfl) (hd : (C == ("__debug__" : Str)) = false := by decide)
    (he : starEach [.Name y p1, .Name C p2] X.env = (false, eval (.Name y p1) X.env) :: starEach [.Name C p2] X.env := by rfl) (he2 : starEach [.Name C p2] X.env = (false, eval (.Name C p2) X.env) :: starEach [] X.env := by rfl) (hpl : (backTo pos (starEach [.Name C p2] X.env)).any (·.1) = false := by rfl) :
    DE X T W m (.Call (.Name "isinstance" p0) [.Name y p1, .Name C p2] [] pos) (fIsP i p.1 r) := by
  obtain ⟨a, h1, h2⟩ := A.ex
  refine ⟨PE.imp (pe_callB (call_isP EC HC) hg bl.isinstance boot_isinstance (pa_cons hy (pa_cons (pe_glob (v := V.ref a) hgC h1 rfl hd) pa_nil he2) he) (by decide) (by decide) he hpl) fun σ H Q ⟨B, env, st, F, sr, q⟩ => ?_⟩
  unfold fIsP at q
  split at q
  · rename_i a' ha
    split at q
    · rename_i ea
      subst ea
      obtain ⟨fp, s1, _, _⟩ := sr.slots
      obtain ⟨o, e1, _, e2⟩ := s1 i _ ha
      subst e2
      refine ⟨_, e1, ?_⟩
      exact ⟨_, _, r, rfl, fun u ru => ru, h2, q H F sr.wd .refl _ (RepM.of (by simp [RepD, Rep]))⟩
    · exact q.elim
  · exact q.elim
theorem dt_isP {i : Nat} {y C : Str} {D : Addr} {p : Addr × Obj} {r : Bool} {p0 p1 p2 : Pos} (HC : HotE X p D) (EC : ExcC X.K D) (bl : Blts X.mg) (A : IsC X.K X.mg D C r) (hy : PE X (.Name y p1) (tVar i)) (hg : Gl X "isinstance" := by rfl) (hgC : Gl X C := by rfl) (hd : (C == ("__debug__" : Str)) = false := by decide)
    (he : starEach [.Name y p1, .Name C p2] X.env = (false, eval (.Name y p1) X.env) :: starEach [.Name C p2] X.env := by rfl) (he2 : starEach [.Name C p2] X.env = (false, eval (.Name C p2) X.env) :: starEach [] X.env := by rfl) (hpl : (backTo pos (starEach [.Name C p2] X.env)).any (·.1) = false := by rfl)
    (ht : ∀ whole, isTrue (.Call (.Name "isinstance" p0) [.Name y p1, .Name C p2] [] pos) X.env whole = (do let v ← whole; standAt (Expr.Call (.Name "isinstance" p0) [.Name y p1, .Name C p2] [] pos).pos; holding [v] (truthy v)) := by intro _; rfl) :
    DT X T W (.Call (.Name "isinstance" p0) [.Name y p1, .Name C p2] [] pos) (fB (fIsP i p.1 r)) := dt_val (de_isP HC EC bl A hy hg hgC hd he he2 hpl) ht
end
/-! ### a def that tells of the handled exception -/
structure FnHE (P : Program) (w : World) (K : PySem.W.Frag) (mg : Str → Option Value) (base : Heap) (CX : CXT) (k : Nat) (f : Addr) (fd : FuncData) (ps : List Str) (p : Addr × Obj) (sp : Sp) : Prop where
  len : ∀ vs H Q E, sp vs H Q E → vs.length = ps.length
  run : ∀ (A : Around) (outer : List Env) (s : Shared) (H : Hp) (args : Args) (us : List Value) (vs : List V) (Q : VK) (E : XK), RoomH k A → Hot1 A p → PinOk outer H s p → Env0 P w K mg base A outer s H → BindsTo s fd args (ps.zip us) → Vals vs us → sp vs H Q E →
    codeAny (model P w) A (.call (.ref f) args) (CR CX outer P w H s Q E) s
theorem fn_ofHE {CX : CXT} {P : Program} {w : World} {K : PySem.W.Frag} {mg : Str → Option Value} {base : Heap} {k : Nat} {f : Addr} {name qual : Str} {params : Arguments} {body : List Stmt} {scope : Scope} {dV kV doc pm cdv ct oc : Value} {an od : Option Addr}
    {osl : Array (Option Value)} {N ps : List Str} {sp : Sp} {p : Addr × Obj} (lk : K.lookup f = some ⟨oc, od, .func (PySem.W.fnOf name qual params body scope dV kV doc pm an cdv ct), osl⟩) (hcd : PySem.W.codeIn K cdv qual = true) (S : FnScope N ps scope)
    (len : ∀ vs H Q E, sp vs H Q E → vs.length = ps.length)
    (hbody : ∀ (A : Around) (outer : List Env) (s : Shared) (H : Hp) (vs : List V) (Q : VK) (E : XK), Hot1 A p → RoomH k (A.deeper (envOfC qual scope s.heap.objs.size f cdv)) → sp vs H Q E →
      ∃ t, PSs (cxH CX P w K mg base N qual scope f cdv A outer s H E p) body t ∧ t { nx := fun _ H' => Q .non H', rt := Q } (L2.start N vs) H) :
    FnHE P w K mg base CX (k + 1) f (PySem.W.fnOf name qual params body scope dV kV doc pm an cdv ct) ps p sp := by
  refine ⟨len, fun A outer s H args us vs Q E hr hot hpin e0 hb r hsp => ?_⟩
  have hl := len _ _ _ _ hsp
  have KX : K.In s.heap := e0.mod.kin.keeps fun b o e => (e0.bs b o e).1
  have lim : s.heap.NoLimit := e0.mod.nolimit.keeps fun b o e => (e0.bs b o e).1
  have hkind : ∀ y ∈ ps.zip us, scope.names.lookup y.1 = some .local ∨ (scope.names.lookup y.1 = some .cell ∧ ((cellsFrom (s.heap.objs.size + 1) scope.names []).lookup y.1).isSome = true) := fun ⟨n, v⟩ hy => by
    rcases S.par n (List.of_mem_zip hy).1 with q | q
    · exact .inl q
    · exact .inr ⟨q, PySem.W.cellsFrom_some _ _ _ (.inl q)⟩
  refine codeAny_call_function hr.depth (KX _ _ lk) rfl S.co S.gen rfl (PySem.W.codeRec_of KX hcd) (hb _ _ _ _ ?_)
  refine wpAny_newFunctionEnv_cells S.kind hkind fun env he s1 x => ?_
  subst he
  refine ⟨lim.keeps x.toInCall.keep, codeAny_func ?_⟩
  obtain ⟨t, ht, hq⟩ := hbody A outer s H vs Q E hot (hr.deeper _) hsp
  have I : Inv (cxH CX P w K mg base N qual scope f cdv A outer s H E p) [] (L2.start N vs) H s1 := inv_startH S hpin e0 hl r x
  refine wpAny_mono (ht.run [] s1 (L2.start N vs) H _ I hq) (fun fl s' hs => ?_) fun e s' hs => hs
  have fin : ∀ {σ' : L2.St} {H' : Hp} {v : V} {u : Value}, Inv (cxH CX P w K mg base N qual scope f cdv A outer s H E p) [] σ' H' s' → RelV v u → Q v H' → CE outer P w H s Q u s' :=
    fun {σ' H' v u} J rv q => ⟨v, H', J.os, J.bare, J.base, J.hok, rv, q⟩
  cases fl with
  | ret u =>
    obtain ⟨v, σ', H', J, rv, q⟩ := hs
    exact fin J rv q
  | next =>
    obtain ⟨σ', H', J, q⟩ := hs
    exact fin (v := V.non) (u := Value.none) J rfl q
  | brk =>
    obtain ⟨_, _, _, q⟩ := hs
    exact False.elim q
  | cont =>
    obtain ⟨_, _, _, q⟩ := hs
    exact False.elim q
/-- what such a def promises: it tells the text t -/
def spTold (K : PySem.W.Frag) (T : FS) (p : Addr × Obj) (t : Str) : Sp := fun vs H Q _ => ∃ B F st, vs = [.ref p.1] ∧ Wd K T B F H st ∧ ∀ H' F', Wd K T B F' H' st → Ext B F F' H H' → Q (.str t) H'
def startP (a : Addr) (n : Nat) : DEnv := .pin (.ref a) :: List.replicate n .un
theorem SR.startP {K : PySem.W.Frag} {T : FS} {B : Bs} {st : Sto} {H : Hp} {F : FS} (w : Wd K T B F H st) (h0 : B.H0 = H) (hF : B.F0 = F) (a : Addr) (N : List Str) (n : Nat) (hn : N.length = n + 1) : SR K T B (DL.startP a n) st (L2.start N [.ref a]) H F := by
  refine ⟨w, fun a o h _ _ => by rw [h0] at h; exact h, fun a ps h _ => ⟨ps, by rw [h0] at h; exact h⟩, fun a h => by rw [hF] at h; exact h, fun a h => .inl (by rw [hF]; exact h), by unfold L2.start DL.startP; simp [hn], fun _ => [], fun i s h => ?_, fun i j a h => absurd h (by simp), fun i a h => absurd h (by simp)⟩
  unfold DL.startP at h
  unfold L2.start
  cases i with
  | zero =>
    simp only [List.getElem?_cons_zero, Option.some.injEq] at h
    subst h
    exact ⟨some (.ref a), rfl, rfl, rfl⟩
  | succ i =>
    simp only [List.getElem?_cons_succ] at h
    obtain ⟨h1, h2⟩ := List.getElem?_eq_some_iff.mp h
    simp only [List.getElem_replicate] at h2
    subst h2
    rw [List.length_replicate] at h1
    refine ⟨none, ?_, rfl⟩
    show ([some (V.ref a)] ++ List.replicate (N.length - 1) none)[i + 1]? = some none
    rw [List.getElem?_append_right (by simp), List.getElem?_replicate, if_pos (by simp; omega)]
section
variable {P : Program} {w : World} {K : PySem.W.Frag} {mg : Str → Option Value} {base : Heap} {T : FS}
theorem dl_told {x : Str} {st : Stmt} {f D : Addr} {fd : FuncData} {N ps : List Str} {k n : Nat} {g : SF} {p : Addr × Obj} {t : Str} (F : FnP K x st f fd) (S : FnScope N ps (defScope st)) (hp : ps.length = 1) (hn : N.length = n + 1) (hz : Zc (.ref D) none p.2)
    (hg : ∀ sto, ∃ t', g (startP p.1 n) sto = .rt (.d (.str t)) sto ∧ t' = t)
    (hb : ∀ (cdv : Value) (hcd : fd.code = cdv) (A : Around) (outer : List Env) (s : Shared) (H : Hp) (E : XK), RoomH k (A.deeper (envOfC x (defScope st) s.heap.objs.size f cdv)) → HotE (cxH (L2N.CX P w) P w K mg base N x (defScope st) f cdv A outer s H E p) p D →
      DSs (cxH (L2N.CX P w) P w K mg base N x (defScope st) f cdv A outer s H E p) T W0 false (defBody st) g) :
    FnHE P w K mg base (L2N.CX P w) (k + 1) f fd ps p (spTold K T p t) := by
  obtain ⟨oc, od, dV, kV, doc, pm, an, cdv, ct, osl, rfl, lk, hcd, _, _⟩ := F.ex
  refine fn_ofHE lk hcd S (fun vs H Q E h => ?_) (fun A outer s H vs Q E hot hr h => ?_)
  · obtain ⟨B, F, st, rfl, _⟩ := h
    exact hp.symm
  · obtain ⟨B, Fz, sto, rfl, wd, q⟩ := h
    refine ⟨_, (hb cdv rfl A outer s H E hr ⟨hot, List.mem_singleton_self _, hz⟩).ps, ?_⟩
    have wd' : Wd K T { H0 := H, F0 := Fz, dr := B.dr } Fz H sto := wd.re rfl
    refine ⟨{ H0 := H, F0 := Fz, dr := B.dr }, _, sto, Fz, SR.startP wd' rfl rfl p.1 N n hn, ?_⟩
    obtain ⟨t', e, _⟩ := hg sto
    rw [e]
    intro v H' F' fr r
    have er : v = .str t := by simpa [RepD, Rep] using r
    subst er
    exact q H' F' (fr.wd.re rfl) ⟨fun a o h t d => fr.base a o h t d, fr.fsub, fr.fnew, fun a d _ => fr.wd.dr_some d, fun a ps h d => fr.btbl a ps h d⟩
end
/-! ### try: .. except E as e: return told(e) -/
section
variable {X : Cx} {T : FS} {W : WX} {nw : Bool}
theorem run_fnHE {CX : CXT} {k : Nat} {f : Addr} {fd : FuncData} {ps : List Str} {sp : Sp} {E : L2.St → XK} {pins : List (Addr × Obj)} {σ : L2.St} {H : Hp} {s : Shared} {Q : VK} {us : List Value} {vs : List V} {p : Addr × Obj} (F : FnHE X.prog X.w X.K X.mg X.base CX k f fd ps p sp) (hr : RoomH k X.A) (hot : Hot1 X.A p) (hp : p ∈ X.pn) (hb : Binds X.K fd ps []) (hx : PassesAt CX X σ (E σ))
    (I : Inv X pins σ H s) (r : Vals vs us) (h : sp vs H Q (E σ)) : wpAny (model X.prog X.w) X.A (call (.ref f) us) (EP X pins σ Q) X.xe s := by
  have hl : us.length = ps.length := by rw [← r.length]; exact F.len _ _ _ _ h
  have b := hb s us I.kIn (by rw [List.append_nil]; exact hl)
  rw [List.append_nil] at b
  have P1 := I.pin p (List.mem_append_left _ hp)
  have hpin : PinOk X.stack H s p := ⟨P1.1, P1.2.1, fun hm => (List.mem_cons.mp (I.stkSub p.1 hm)).elim P1.2.2.1 P1.2.2.2.1, P1.2.2.2.2⟩
  refine wpAny_call (codeAny_mono (F.run X.A X.stack s H ⟨us, []⟩ us vs Q (E σ) hr hot hpin I.env0 b r h) fun r s' hq => ?_)
  cases r with
  | error e => exact hx pins H s e s' I hq
  | ok fl =>
    cases fl with
    | ret u => exact I.after hq
    | next => exact False.elim hq
    | brk => exact False.elim hq
    | cont => exact False.elim hq
theorem pe_callHE {CX : CXT} {k : Nat} {f : Addr} {fd : FuncData} {ps : List Str} {sp : Sp} {E : L2.St → XK} {x : Str} {q pos : Pos} {e : Expr} {es : List Expr} {t : TA} {p : Addr × Obj} (F : FnHE X.prog X.w X.K X.mg X.base CX k f fd ps p sp) (hr : RoomH k X.A) (hot : Hot1 X.A p) (hp : p ∈ X.pn) (hg : Gl X x) (hm : X.mg x = some (.ref f)) (hk : PySem.W.keepIn X.K (.ref f) = true) (hb : Binds X.K fd ps []) (hx : ∀ σ, PassesAt CX X σ (E σ))
    (ha : PA X (e :: es) t) (hdb : (x == ("__debug__" : Str)) = false := by decide) (he : starEach (e :: es) X.env = (false, eval e X.env) :: starEach es X.env := by rfl) (hpl : (backTo pos (starEach es X.env)).any (·.1) = false := by rfl) :
    PE X (.Call (.Name x q) (e :: es) [] pos) (tCallS sp E t) := by
  refine ⟨fun pins s σ H Q I h => ?_⟩
  refine wpAny_Call_Name_kw (ld_glob I hg hm ?_ hdb)
  refine PySem.W.callWith_K (h₀ := X.base) I.ok.mod.kin hk (thn (ha.run pos pins s σ H _ I h) fun us s1 ⟨vs, H1, I1, r, q⟩ => ⟨I1.kIn, ?_⟩) he hpl
  exact run_fnHE F hr hot hp hb (hx σ) I1 r q
/-- the errors that are told: of each the class, the text told; the def that tells -/
structure TellK (P : Program) (w : World) (K : PySem.W.Frag) (mg : Str → Option Value) (base : Heap) (T : FS) (k : Nat) (x : Str) (told : Str → Option Str) : Prop where
  ex : ∃ f fd ps, ps.length = 1 ∧ mg x = some (.ref f) ∧ PySem.W.keepIn K (.ref f) = true ∧ Binds K fd ps [] ∧
    ∀ c t D p, told c = some t → mg c = some (.ref D) → Zc (.ref D) none p.2 → FnHE P w K mg base (L2N.CX P w) k f fd ps p (spTold K T p t)
/-- the class of an except clause takes them -/
structure CatchK (K : PySem.W.Frag) (mg : Str → Option Value) (x : Str) (told : Str → Option Str) : Prop where
  ex : ∃ A, mg x = some (.ref A) ∧ ∀ c t D, told c = some t → mg c = some (.ref D) → PySem.W.exmOne K (.ref D) (.ref A) = some true
def gTry (told : Str → Option Str) (g : SF) : SF := fun env st => match g env st with
  | .exc c st' => (match told c with
    | some t => .rt (.d (.str t)) st'
    | none => .no)
  | r => r
theorem Hot1.of {X : Cx} {a : Addr} {oe : Obj} {cls : Value} {d : Option Addr} {pn : List (Addr × Obj)} (hz : L2N.Zn cls d oe) (hd : ∃ vs, oe.data = .fields vs) : Hot1 (X.suite a ((a, oe) :: pn)).A (a, oe) := by
  obtain ⟨vs, hd⟩ := hd
  exact ⟨rfl, vs, hd, hz.2.2 vs hd⟩
theorem roomH_suite {k : Nat} {a : Addr} {pn : List (Addr × Obj)} (hr : Room k X.A) : RoomH k (X.suite a pn).A := ⟨hr.dp, hr.un⟩
theorem ds_try {i : Nat} {x n y : Str} {k : Nat} {told : Str → Option Str} {body : List Stmt} {g : SF} {np pos pos' rp cp cq xp : Pos} (hs : X.stack = X.env :: X.outer) (hf : X.env.frame = some X.env.locals) (hN : X.N.Nodup) (hi : X.N[i]? = some n) (hln : X.env.kindOf n = some .local)
    (tk : L2N.Takes X W) (hr : Room k X.A) (CK : CatchK X.K X.mg x told) (TK : TellK X.prog X.w X.K X.mg X.base T k y told)
    (hb : ∀ (W : WX) (pn : List (Addr × Obj)) (xe : Value → Shared → Prop), L2N.Takes (X.tr pn xe) W → PassesOwn (model X.prog X.w) X.A X.env xe → DSs (X.tr pn xe) T W false body g)
    (hg : Gl X x := by rfl) (hgy : Gl X y := by rfl) (hv : Vis X.env.scope n := by exact Or.inl rfl) (hdx : (x == ("__debug__" : Str)) = false := by decide) (hdy : (y == ("__debug__" : Str)) = false := by decide) (hdn : (n == ("__debug__" : Str)) = false := by decide) (hcn : (n == ("__classdict__" : Str)) = false := by decide)
    (hst : ∀ (a : Addr) (pn : List (Addr × Obj)), starEach [.Name n xp] (X.suite a pn).env = (false, eval (.Name n xp) (X.suite a pn).env) :: starEach [] (X.suite a pn).env := by intros; rfl) :
    DS X T W false (.Try body [.ExceptHandler (some (.Name x np)) (some n) [.Return (some (.Call (.Name y cq) [.Name n xp] [] cp)) rp] pos'] [] [] pos) (gTry told g) := by
  obtain ⟨A, hA, hex⟩ := CK.ex
  obtain ⟨fT, fdT, psT, hpT, hmT, hkT, hbT, hFT⟩ := TK.ex
  refine ⟨PS.imp (L2N.ps_try_as (Wout := W) (c := .ref A) (i := i) (tb := fun W' => tDS X T W' false g)
    (ts := fun a cls d D σ H => ∃ c t Dc B F st, (i < σ.length → σ[i]? = some (some (.ref a))) ∧ told c = some t ∧ X.mg c = some (.ref Dc) ∧ cls = .ref Dc ∧ d = none ∧ Wd X.K T B F H st ∧ ∀ H' F', Wd X.K T B F' H' st → Ext B F F' H H' → D.rt (.str t) H')
    hs hf hN hi hln ⟨hg, hdx, .inl hA⟩ tk (fun W' pn xe tk' po => ?_) (fun a oe cls d pn hz hd => ?_)) fun D σ H ⟨B, env, st, F, sr, q⟩ => ⟨B, env, st, F, sr, ?_⟩⟩
  · exact (hb W' pn xe tk' po).ps
  · refine ⟨fun pins s σ H D I h => ?_⟩
    obtain ⟨c, t, Dc, B, F, st, hσ, htd, hmc, rfl, rfl, wd, q⟩ := h
    have FT := hFT c t Dc (a, oe) htd hmc (hz.zc)
    have pe := pe_callHE (X := X.suite a ((a, oe) :: pn)) (E := WE W0) (pos := cp) (q := cq) (es := []) FT (roomH_suite hr) (Hot1.of (X := X) hz hd) List.mem_cons_self hgy hmT hkT hbT (fun σ => L2N.passAt takes0N σ)
      (pa_cons (pe_var (X := X.suite a ((a, oe) :: pn)) (i := i) (pos := xp) hi hv hdn hcn) pa_nil (hst a ((a, oe) :: pn))) hdy (hst a ((a, oe) :: pn)) (by rfl)
    refine (pss_one (ps_ret pe)).run pins s σ H D I ?_
    have hil : i < σ.length := by
      rw [I.len]
      exact (List.getElem?_eq_some_iff.mp hi).1
    exact ⟨_, hσ hil, B, F, st, rfl, wd, q⟩
  · unfold gTry at q
    cases hq : g env st with
    | nx env' st' => rw [hq] at q; exact q
    | bk env' st' => rw [hq] at q; exact q
    | ct env' st' => rw [hq] at q; exact q
    | rt d st' => rw [hq] at q; exact q
    | no => rw [hq] at q; exact q.elim
    | exc c st' =>
      rw [hq] at q
      intro Dc hDc σ' H' F' fr
      cases ht : told c with
      | none => simp only [ht] at q; exact q.elim
      | some t =>
        simp only [ht] at q
        refine ⟨true, hex c t Dc ht hDc, fun _ a na => ?_, fun z => Bool.noConfusion z⟩
        refine ⟨c, t, Dc, B, F', st', fun hil => List.getElem?_set_self (by simpa using hil), ht, hDc, rfl, rfl, fr.wd, fun H2 F2 w2 e2 => ?_⟩
        refine q (.str t) H2 F2 ⟨w2, fun a o h t d => e2.keep a o (fr.base a o h t d) t d, fun a ps h d => ?_, fun a h => e2.sub a (fr.fsub a h), fun a h => ?_⟩ (by simp [RepD, Rep])
        · obtain ⟨qs, z⟩ := fr.btbl a ps h d
          exact e2.tbl a qs z d
        · rcases e2.new a h with h1 | h1
          · exact fr.fnew a h1
          · by_cases hd : B.dr = some a
            · exact absurd hd (w2.fdr a h)
            · refine .inr ?_
              cases z : B.H0 a with
              | none => rfl
              | some o =>
                rcases tbl_or o with tb | tb
                · obtain ⟨ps, rfl⟩ := isTbl_eq tb
                  obtain ⟨qs, z2⟩ := fr.btbl a ps z hd
                  rw [h1] at z2; cases z2
                · have z2 := fr.base a o z tb hd
                  rw [h1] at z2; cases z2
end
end DL

set_option Elab.async false
set_option linter.all false
set_option maxRecDepth 100000
set_option maxHeartbeats 4000000
namespace DL
open PySem PySem.Spec PyProof.Rows L2
/-! ### the law's def -/
theorem RepD.redr {K : PySem.W.Frag} {B B' : Bs} {F : FS} {H : Hp} {v : DV} {x : V} (h : RepD K B F H v x) (hd : B.dr = none) : RepD K B' F H v x := by
  cases v with
  | d y => exact h
  | loc =>
    obtain ⟨a, h1, _⟩ := h
    rw [hd] at h1; cases h1
  | scr ns => exact h
theorem SR.promote {K : PySem.W.Frag} {T : FS} {B : Bs} {env : DEnv} {st : Sto} {σ : L2.St} {H : Hp} {F : FS} (sr : SR K T B env st σ H F) {i : Nat} {ds : List PyData} (hi : env[i]? = some (.own (.list ds))) (hd : B.dr = none) :
    ∃ a, SR K T { B with dr := some a } (env.set i (.frz .loc)) ds σ H F := by
  obtain ⟨fp, h1, h2, h3⟩ := sr.slots
  obtain ⟨o, e1, a, e2, e3, e4, xs, e5, e6⟩ := h1 i _ hi
  subst e3
  have memA : a ∈ fp i := by rw [e2]; simp
  have ha := h3 i a memA
  refine ⟨a, ⟨sr.wd.live, fun b f z => ?_, fun b q => ?_, sr.wd.tabs⟩, fun b o h t d => sr.base b o h t (by rw [hd]; simp), fun b ps h d => sr.btbl b ps h (by rw [hd]; simp), sr.fsub, sr.fnew, by rw [List.length_set]; exact sr.len, fun k => if k = i then [] else fp k, fun k s hk => ?_, fun k j b hb hc => ?_, fun k b hb => ?_⟩
  · have z : a = b := Option.some.inj z
    exact ha.1 (z ▸ f)
  · have q : a = b := Option.some.inj q
    subst q
    exact ⟨xs, e5, e6⟩
  · by_cases z : k = i
    · subst z
      have hl : k < env.length := (List.getElem?_eq_some_iff.mp hi).1
      rw [List.getElem?_set_self hl] at hk
      cases hk
      refine ⟨_, e1, ?_⟩
      show (if k = k then [] else fp k) = [] ∧ _
      rw [if_pos rfl]
      exact ⟨rfl, _, rfl, a, rfl, rfl⟩
    · rw [List.getElem?_set_ne (Ne.symm z)] at hk
      obtain ⟨o, f1, f2⟩ := h1 k s hk
      refine ⟨o, f1, ?_⟩
      show SlotAt K _ F H s o (if k = i then [] else fp k)
      rw [if_neg z]
      cases s with
      | un => exact f2
      | pin w => exact f2
      | obj l x =>
        obtain ⟨c, g1, g2, g3, g4⟩ := f2
        refine ⟨c, g1, g2, fun q => ?_, g4⟩
        have q : a = c := Option.some.inj q
        exact z (h2 k i a (by rw [g1, q]; simp) memA)
      | frz v =>
        obtain ⟨g1, w, g2, g3⟩ := f2
        exact ⟨g1, w, g2, g3.redr hd⟩
      | own x =>
        obtain ⟨c, g1, g2, g3, g4⟩ := f2
        refine ⟨c, g1, g2, fun q => ?_, g4⟩
        have q : a = c := Option.some.inj q
        exact z (h2 k i a (by rw [g1, q]; simp) memA)
  · have hb : b ∈ (if k = i then [] else fp k) := hb
    have hc : b ∈ (if j = i then [] else fp j) := hc
    by_cases z : k = i
    · rw [if_pos z] at hb; simp at hb
    · by_cases z2 : j = i
      · rw [if_pos z2] at hc; simp at hc
      · rw [if_neg z] at hb
        rw [if_neg z2] at hc
        exact h2 k j b hb hc
  · have hb : b ∈ (if k = i then [] else fp k) := hb
    by_cases z : k = i
    · rw [if_pos z] at hb; simp at hb
    · rw [if_neg z] at hb
      obtain ⟨g1, g2, g3, g4⟩ := h3 k b hb
      refine ⟨g1, fun q => ?_, g3, g4⟩
      have q : a = b := Option.some.inj q
      exact z (h2 k i a (by rw [q]; exact hb) memA)
/-- a script's numbers -/
def ScrOk (ns : List Int) : Prop := ns.length ≤ 63 ∧ ∀ z ∈ ns, Builtin.Int.intBits z ≤ 1048576
def spLaw (K : PySem.W.Frag) (T : FS) : Sp := fun vs H Q _ => ∃ a ns, vs = [.ref a] ∧ ScrOk ns ∧ SqL K H a (ns.map V.int) ∧ (∀ P, T P → GxR.TabG H P) ∧ ∀ H', Q (.bl true) H'
section
variable {P : Program} {w : World} {K : PySem.W.Frag} {mg : Str → Option Value} {base : Heap} {T : FS}
theorem dl_law {x y : Str} {st b1 : Stmt} {b2 : List Stmt} {f : Addr} {fd : FuncData} {N : List Str} {k i : Nat} {g1 g2 : SF} (F : FnP K x st f fd) (S : FnScope N [y] (defScope st)) (hbd : defBody st = b1 :: b2)
    (h1 : ∀ (cdv : Value) (hcd : fd.code = cdv) (A : Around) (outer : List Env) (s : Shared) (H : Hp) (E : XK), Room k (A.deeper (envOfC x (defScope st) s.heap.objs.size f cdv)) →
      DS (cxOf (L2N.CX P w) P w K mg base N x (defScope st) f cdv A outer s H E) T W0 false b1 g1)
    (h2 : ∀ (cdv : Value) (hcd : fd.code = cdv) (A : Around) (outer : List Env) (s : Shared) (H : Hp) (E : XK), Room k (A.deeper (envOfC x (defScope st) s.heap.objs.size f cdv)) →
      DSs (cxOf (L2N.CX P w) P w K mg base N x (defScope st) f cdv A outer s H E) T W0 false b2 g2)
    (plain : ∀ ns, ScrOk ns → ∃ env ds st', g1 ([DV.scr ns].map Slot.frz ++ List.replicate (N.length - 1) Slot.un) [] = .nx env [] ∧ env[i]? = some (.own (.list ds)) ∧ g2 (env.set i (.frz .loc)) ds = .rt (.d (.bool true)) st') :
    FnOk P w K mg base (L2N.CX P w) (k + 1) f fd [y] (spLaw K T) := by
  obtain ⟨oc, od, dV, kV, doc, pm, an, cdv, ct, osl, rfl, lk, hcd, _, _⟩ := F.ex
  refine fn_of lk hcd S (fun vs H Q E h => ?_) (fun A outer s H vs Q E hr h => ?_)
  · obtain ⟨a, ns, rfl, _⟩ := h
    rfl
  · obtain ⟨a, ns, rfl, hs, hl, ht, hQ⟩ := h
    obtain ⟨env, ds, st', p1, p2, p3⟩ := plain ns hs
    refine ⟨_, by rw [hbd]; exact pss_cons (h1 cdv rfl A outer s H E hr).ps (h2 cdv rfl A outer s H E hr).ps, ?_⟩
    have key : ∃ Fz : FS, (∀ b, Fz b → H b ≠ none) ∧ RepD K { H0 := H, F0 := Fz, dr := none } Fz H (.scr ns) (.ref a) := by
      rcases hl with hl | hl
      · refine ⟨fun b => b = a, fun b hb => ?_, a, rfl, .inl ⟨rfl, hl⟩⟩
        subst hb
        rcases hl with hl | ⟨o, hl⟩ <;> rw [hl] <;> simp
      · exact ⟨fun _ => False, fun _ hb => hb.elim, a, rfl, .inr fun H' => .inr hl⟩
    obtain ⟨Fz, hF, rs⟩ := key
    have wd : Wd K T { H0 := H, F0 := Fz, dr := none } Fz H [] := ⟨hF, (fun b _ => by simp), (fun b z => by simp at z), ht⟩
    have sr0 : SR K T { H0 := H, F0 := Fz, dr := none } ([DV.scr ns].map Slot.frz ++ List.replicate (N.length - 1) Slot.un) [] (L2.start N [.ref a]) H Fz := SR.start wd rfl rfl (ds := [.scr ns]) ⟨.ref a, [], rfl, rs, rfl⟩ N
    refine ⟨_, _, _, Fz, sr0, ?_⟩
    rw [p1]
    intro σ1 H1 F1 sr1 _
    obtain ⟨a1, sr2⟩ := SR.promote sr1 p2 rfl
    refine ⟨_, _, _, F1, sr2, ?_⟩
    rw [p3]
    intro v H2 F2 _ r
    have er : v = .bl true := by simpa [RepD, Rep] using r
    subst er
    exact hQ H2
end
/-! ### facts by names -/
section
variable {fa : List He.Fa} {fn : List He.DefD} {ts : List He.Tab} {tf : List He.Defn} {ex : PySem.W.Frag → Bool} {w : World} {h : Heap} {K : PySem.W.Frag}
/-- the tables of the defs tf -/
def tabsOf (K : PySem.W.Frag) (tf : List He.Defn) : FS := fun P => ∃ p ∈ tf, P = (He.cT K p).2
def csOf (K : PySem.W.Frag) (tf : List He.Defn) : List (Addr × Addr) := tf.map (He.cT K)
/-- a def and its table -/
theorem g0_of {p : He.Defn} {x : Str} {st : Stmt} {fd : FuncData} {mg : Str → Option Value} {base : Heap} (F : FnP K x st (He.fAd K p) fd) (hp : p ∈ tf) (hT : ∀ q ∈ csOf K tf, LamX.TabB base mg q.1 q.2) :
    ∃ c P, fd.code = .ref c ∧ GxR.TabB base mg c P ∧ tabsOf K tf P := by
  obtain ⟨oc, od, dV, kV, doc, pm, an, cdv, ct, osl, rfl, lk, hcd, _, _⟩ := F.ex
  obtain ⟨c, rfl⟩ := He.codeIn_ref hcd
  have e := He.codeOf_eq (p := p) lk (c := c) rfl
  have t := hT (He.cT K p) (List.mem_map.mpr ⟨p, hp, rfl⟩)
  refine ⟨c, (He.cT K p).2, rfl, ?_, p, hp, rfl⟩
  have e2 : (He.cT K p).1 = c := e
  rw [← e2]
  exact ⟨t.code, t.bm, t.gP⟩
end
/-! ### the head's facts -/
def excB (K : PySem.W.Frag) (D : Addr) : Bool :=
  decide (PySem.W.findIn K (.ref D) "__getattribute__" = some (some (.builtin "BaseException.__getattribute__"))) && (decide (PySem.W.findIn K (.ref D) "__getattr__" = some none) && (decide (PySem.W.subIn K (.ref D) (.type "BaseException") = some true) && (PySem.W.hasDictIn K D && (decide (PySem.W.findIn K (.ref D) "__class__" = some (some (.builtin "object.__class__"))) && (decide (PySem.W.specialIn K (.builtin "object.__class__") "__get__" = some (some (.builtin "getset_descriptor.__get__"))) && (decide (PySem.W.takesIn K (.builtin "object.__class__") = some true) && decide (PySem.W.mroIn K D (.type "object") = some true)))))))
theorem excB_ok {K : PySem.W.Frag} {D : Addr} (h : excB K D = true) : ExcC K D := by
  unfold excB at h
  obtain ⟨h1, h⟩ := He.ba h
  obtain ⟨h2, h⟩ := He.ba h
  obtain ⟨h3, h⟩ := He.ba h
  obtain ⟨h4, h⟩ := He.ba h
  obtain ⟨h5, h⟩ := He.ba h
  obtain ⟨h6, h⟩ := He.ba h
  obtain ⟨h7, h8⟩ := He.ba h
  exact ⟨of_decide_eq_true h1, of_decide_eq_true h2, of_decide_eq_true h3, h4, of_decide_eq_true h5, of_decide_eq_true h6, of_decide_eq_true h7, of_decide_eq_true h8⟩
def kitX (K : PySem.W.Frag) (D C : Str) (b : Bool) : Bool := decide (PySem.W.kitOne K (.ref (He.ga K D)) (.ref (He.ga K C)) = some b)
theorem kitX_ok {K : PySem.W.Frag} {D C : Str} {b : Bool} (h : kitX K D C b = true) : PySem.W.kitOne K (.ref (He.ga K D)) (.ref (He.ga K C)) = some b := of_decide_eq_true h
section
variable {fa : List He.Fa} {fn : List He.DefD} {tf : List He.Defn} {ex : PySem.W.Frag → Bool} {w : World} {K : PySem.W.Frag} {h : Heap}
theorem cs_empty (c : He.SaysX fa fn [] tf ex w h K) : ∀ p ∈ csOf K tf, h.get? p.2 = some { cls := .none, data := .fields #[] } := fun p hp => by
  obtain ⟨q, hq, rfl⟩ := List.mem_map.mp hp
  exact c.empty q hq
theorem cs_out (c : He.SaysX fa fn [] tf ex w h K) : ∀ p ∈ csOf K tf, K.lookup p.2 = none := fun p hp => by
  obtain ⟨q, hq, rfl⟩ := List.mem_map.mp hp
  exact c.out q hq
theorem cs_head (X : K.In h) (c : He.SaysX fa fn [] tf ex w h K) : ∀ p ∈ csOf K tf, PySem.W.CodeHd h p.1 p.2 := fun p hp => by
  obtain ⟨q, hq, rfl⟩ := List.mem_map.mp hp
  exact PySem.W.codeHd_of_K X (c.hd q hq)
theorem cs_tabs {H : Hp} (hH : ∀ p ∈ csOf K tf, H p.2 = some (.tbl #[])) : ∀ P, tabsOf K tf P → GxR.TabG H P := fun P ⟨q, hq, e⟩ => by
  rw [e]
  exact ⟨#[], hH _ (List.mem_map.mpr ⟨q, hq, rfl⟩), trivial⟩
end
end DL

set_option Elab.async false
set_option linter.all false
set_option maxRecDepth 100000
set_option maxHeartbeats 4000000
namespace DL
open PySem PySem.Spec
/-! ### reading the plain functions -/
/-- what is hidden: nothing is rewritten in it -/
inductive Dum {α : Type} : α → Type where
  | mk (a : α) : Dum a
def hid {α : Type} {k : α} (_ : Dum k) : α := k
theorem hid_ap {α β : Type} {k : α → Sto → β} {a : α} {st : Sto} : hid (.mk k) a st = k a st := rfl
section
variable {α β : Type} {env : DEnv} {st st' : Sto} {a : α} {c : Str} {r r' : Res α} {s s' : SRes}
theorem bind_ok {k : α → Sto → Res β} : (Res.ok a st).bind k = k a st := rfl
theorem bind_exc {k : α → Sto → Res β} : (Res.exc c st : Res α).bind k = .exc c st := rfl
theorem bind_no {k : α → Sto → Res β} : (Res.no : Res α).bind k = .no := rfl
theorem bind_cg (k : α → Sto → Res β) (h : r = r') : Res.bind r k = Res.bind r' k := by rw [h]
theorem thn_ok {k : α → Sto → SRes} : (Res.ok a st).thn k = k a st := rfl
theorem thn_exc {k : α → Sto → SRes} : (Res.exc c st : Res α).thn k = .exc c st := rfl
theorem thn_no {k : α → Sto → SRes} : (Res.no : Res α).thn k = .no := rfl
theorem thn_cg (k : α → Sto → SRes) (h : r = r') : Res.thn r k = Res.thn r' k := by rw [h]
theorem then_nx {k : SF} : (SRes.nx env st).andThen k = k env st := rfl
theorem then_rt {d : DV} {k : SF} : (SRes.rt d st).andThen k = .rt d st := rfl
theorem then_exc {k : SF} : (SRes.exc c st).andThen k = .exc c st := rfl
theorem then_bk {k : SF} : (SRes.bk env st).andThen k = .bk env st := rfl
theorem then_ct {k : SF} : (SRes.ct env st).andThen k = .ct env st := rfl
theorem then_cg (k : SF) (h : s = s') : SRes.andThen s k = SRes.andThen s' k := by rw [h]
theorem lift_some {d : DV} : lift (some d) st = .ok d st := rfl
theorem lift_none : lift none st = .no := rfl
theorem fC_ap  (x : PyData) : fC x env st = .ok (.d x) st := rfl
theorem fOp2_ap  (h : DV → DV → Option DV) (f g : DF DV) : fOp2 h f g env st = (f env st).bind (hid (.mk fun a st1 => (g env st1).bind (hid (.mk fun b st2 => lift (h a b) st2)))) := rfl
theorem fOp1_ap  (h : DV → Option DV) (f : DF DV) : fOp1 h f env st = (f env st).bind (hid (.mk fun a st1 => lift (h a) st1)) := rfl
theorem fNil_ap : fNil  env st = .ok [] st := rfl
theorem fCons_ap  (f : DF DV) (g : DF (List DV)) : fCons f g env st = (f env st).bind (hid (.mk fun a st1 => (g env st1).bind (hid (.mk fun as st2 => .ok (a :: as) st2)))) := rfl
theorem fOpN_ap  (h : List DV → Option DV) (f : DF (List DV)) : fOpN h f env st = (f env st).bind (hid (.mk fun as st1 => lift (h as) st1)) := rfl
theorem fLst_ap  (f : DF DV) : fLst f env st = (f env st).bind lstOnly := rfl
theorem fB_ap  (f : DF DV) : fB f env st = (f env st).bind toB := rfl
theorem fAnd_ap  (f g : DF Bool) : fAnd f g env st = (f env st).bind (hid (.mk fun b st1 => if b = true then g env st1 else .ok false st1)) := rfl
theorem fOr_ap  (f g : DF Bool) : fOr f g env st = (f env st).bind (hid (.mk fun b st1 => if b = true then .ok true st1 else g env st1)) := rfl
theorem fNot_ap  (f : DF Bool) : fNot f env st = (f env st).bind (hid (.mk fun b st1 => .ok (!b) st1)) := rfl
theorem fAndV_ap  (f g : DF DV) : fAndV f g env st = (f env st).bind (hid (.mk fun d st1 => (toB d st1).bind (hid (.mk fun b st2 => if b = true then g env st2 else .ok (.d (.bool false)) st2)))) := rfl
theorem fOrV_ap  (f g : DF DV) : fOrV f g env st = (f env st).bind (hid (.mk fun d st1 => (toB d st1).bind (hid (.mk fun b st2 => if b = true then .ok (.d (.bool true)) st2 else g env st2)))) := rfl
theorem fNotV_ap  (f : DF DV) : fNotV f env st = (f env st).bind (hid (.mk fun d st1 => (toB d st1).bind (hid (.mk fun b st2 => .ok (.d (.bool (!b))) st2)))) := rfl
theorem fIfE_ap  (t : DF Bool) (f g : DF DV) : fIfE t f g env st = (t env st).bind (hid (.mk fun b st1 => if b = true then f env st1 else g env st1)) := rfl
theorem fChain_ap  (h h' : DV → DV → Option DV) (f g k : DF DV) : fChain h h' f g k env st = (f env st).bind (hid (.mk fun a st1 => (g env st1).bind (hid (.mk fun b st2 => (lift (h a b) st2).bind (hid (.mk fun d st3 => (toB d st3).bind (hid (.mk fun t st4 => if t = true then (k env st4).bind (hid (.mk fun c st5 => lift (h' b c) st5)) else .ok (.d (.bool false)) st4)))))))) := rfl
theorem fNoP_ap : fNoP  env st = .ok none st := rfl
theorem fSomeP_ap  (f : DF DV) : fSomeP f env st = (f env st).bind toI := rfl
theorem fSl_ap  (f : DF DV) (l u : DF (Option Int)) : fSl f l u env st = (f env st).bind (hid (.mk fun a st1 => (l env st1).bind (hid (.mk fun lo st2 => (u env st2).bind (hid (.mk fun hi st3 => lift (hSl a lo hi) st3)))))) := rfl
theorem fOwn_ap  (n : Nat) (g : List DV → Sto → Res DV) (fs : DF (List DV)) : fOwn n g fs env st = (fs env st).bind (hid (.mk fun ds st1 => if ds.length = n then g ds st1 else .no)) := rfl
theorem fItL_ap  (f : DF DV) : fItL f env st = (f env st).bind toL := rfl
theorem fItT_ap  (f : DF DV) : fItT f env st = (f env st).bind toT := rfl
theorem fItScr_ap  (f : DF DV) : fItScr f env st = (f env st).bind toScr := rfl
theorem fRng1_ap  (fs : DF (List DV)) : fRng1 fs env st = (fs env st).bind hRng1 := rfl
theorem fRng2_ap  (fs : DF (List DV)) : fRng2 fs env st = (fs env st).bind hRng2 := rfl
theorem fYes_ap : fYes  env st = .ok true st := rfl
theorem fLc_ap  (src : DF (List PyData)) (a : AF) (t : DF Bool) (f : DF DV) (vs : List Nat) : fLc src a t f vs env st = (src env st).bind (hid (.mk fun items st1 => lcG a t f (wipeE env vs) items [] st1)) := rfl
theorem fAA_ap  (isAll : Bool) (src : DF (List PyData)) (asg : AF) (tf : DF Bool) (f : DF DV) (vs : List Nat) : fAA isAll src asg tf f vs env st = (src env st).bind (hid (.mk fun items st1 => aaG isAll asg tf f (wipeE env vs) items st1)) := rfl
theorem gSeq_ap  (g k : SF) : gSeq g k env st = (g env st).andThen k := rfl
theorem gNop_ap : gNop  env st = .nx env st := rfl
theorem gSet_ap  (i : Nat) (f : DF DV) : gSet i f env st = (f env st).thn (hid (.mk fun d st1 => .nx (env.set i (.frz d)) st1)) := rfl
theorem gIf_ap  (t : DF Bool) (g k : SF) : gIf t g k env st = (t env st).thn (hid (.mk fun b st1 => if b = true then g env st1 else k env st1)) := rfl
theorem gRet_ap  (f : DF DV) : gRet f env st = (f env st).thn (hid (.mk fun d st1 => .rt d st1)) := rfl
theorem gRaise_ap  (x : Str) : gRaise x env st = .exc x st := rfl
theorem gExpr_ap  (f : DF DV) : gExpr f env st = (f env st).thn (hid (.mk fun _ st1 => .nx env st1)) := rfl
theorem gBreak_ap : gBreak  env st = .bk env st := rfl
theorem gCont_ap : gCont  env st = .ct env st := rfl
theorem gFor_ap  (src : DF (List PyData)) (a : AF) (body : SF) : gFor src a body env st = (src env st).thn (hid (.mk fun items st1 => forG a body items env st1)) := rfl
theorem toB_b {b : Bool} : toB (.d (.bool b)) st = .ok b st := rfl
theorem toI_i {i : Int} : toI (.d (.int i)) st = .ok (some i) st := rfl
theorem toL_l {ds : List PyData} : toL (.d (.list ds)) st = .ok ds st := rfl
theorem toT_t {ds : List PyData} : toT (.d (.tuple ds)) st = .ok ds st := rfl
theorem toScr_s {ns : List Int} : toScr (.scr ns) st = .ok (ns.map PyData.int) st := rfl
theorem lstOnly_l {ds : List PyData} : lstOnly (.d (.list ds)) st = .ok (.d (.list ds)) st := rfl
theorem allD_nil : allD [] = some [] := rfl
theorem allD_cons {x : PyData} {r : List DV} : allD (.d x :: r) = (allD r).map (x :: ·) := rfl
theorem map_some' {f : α → β} : Option.map f (some a) = some (f a) := rfl
theorem fName_at {i : Nat} {v : DV} (h : env[i]? = some (.frz v)) : fName i env st = .ok v st := by unfold fName; rw [h]
theorem fNameB_at {i : Nat} {v : DV} (h : env[i]? = some (.frz v)) : fNameB i env st = .ok v st := by unfold fNameB; rw [h]
theorem fNameB_own {i : Nat} {x : PyData} (h : env[i]? = some (.own x)) : fNameB i env st = .ok (.d x) st := by unfold fNameB; rw [h]
theorem fIsP_at {i : Nat} {a : Addr} {b : Bool} (h : env[i]? = some (.pin (.ref a))) : fIsP i a b env st = .ok (.d (.bool b)) st := by
  unfold fIsP
  rw [h]
  exact if_pos rfl
theorem lcG_nil {a : AF} {t : DF Bool} {f : DF DV} {acc : List PyData} : lcG a t f env [] acc st = .ok (.d (.list acc)) st := rfl
theorem aaG_nil {isAll : Bool} {a : AF} {t : DF Bool} {f : DF DV} : aaG isAll a t f env [] st = .ok (.d (.bool isAll)) st := rfl
theorem forG_nil {a : AF} {g : SF} : forG a g [] env st = .nx env st := rfl
theorem runF_ap {nw : Bool} {k : Nat} {body : SF} {ds : List DV} : runF nw k body ds st = match body (ds.map Slot.frz ++ List.replicate (k - ds.length) Slot.un) st with
  | .nx _ st' => if nw = true then .no else .ok (.d .none) st'
  | .rt d st' => .ok d st'
  | .exc c st' => .exc c st'
  | _ => .no := rfl
theorem runF_rt {nw : Bool} {k : Nat} {body : SF} {ds : List DV} {d : DV} (h : body (ds.map Slot.frz ++ List.replicate (k - ds.length) Slot.un) st = .rt d st') : runF nw k body ds st = .ok d st' := by unfold runF; rw [h]
theorem runF_exc {nw : Bool} {k : Nat} {body : SF} {ds : List DV} (h : body (ds.map Slot.frz ++ List.replicate (k - ds.length) Slot.un) st = .exc c st') : runF nw k body ds st = .exc c st' := by unfold runF; rw [h]
theorem runF_nx {k : Nat} {body : SF} {ds : List DV} {e : DEnv} (h : body (ds.map Slot.frz ++ List.replicate (k - ds.length) Slot.un) st = .nx e st') : runF false k body ds st = .ok (.d .none) st' := by
  unfold runF
  rw [h]
  rfl
end
section
variable {env : DEnv} {st st' : Sto} {s : Slot}
theorem fName_z {v : DV} : fName 0 (.frz v :: env) st = .ok v st := rfl
theorem fName_s {i : Nat} : fName (i + 1) (s :: env) st = fName i env st := rfl
theorem fNameB_z {v : DV} : fNameB 0 (.frz v :: env) st = .ok v st := rfl
theorem fNameB_zo {v : PyData} : fNameB 0 (.own v :: env) st = .ok (.d v) st := rfl
theorem fNameB_s {i : Nat} : fNameB (i + 1) (s :: env) st = fNameB i env st := rfl
theorem fIsP_z {a : Addr} {b : Bool} : fIsP 0 a b (.pin (.ref a) :: env) st = .ok (.d (.bool b)) st := fIsP_at rfl
theorem fIsP_s {i : Nat} {a : Addr} {b : Bool} : fIsP (i + 1) a b (s :: env) st = fIsP i a b env st := rfl
theorem aName_ap {i : Nat} {d : PyData} : aName i d env = some (env.set i (.frz (.d d))) := rfl
theorem aNil_ap : aNil [] env = some env := rfl
theorem aCons_ap {a : AF} {r : List PyData → DEnv → Option DEnv} {d : PyData} {ds : List PyData} : aCons a r (d :: ds) env = (a d env).bind fun env1 => r ds env1 := rfl
theorem aTup_ap {n : Nat} {r : List PyData → DEnv → Option DEnv} {ds : List PyData} : aTup n r (.tuple ds) env = if ds.length = n then r ds env else none := rfl
theorem wipeE_nil : wipeE env [] = env := rfl
theorem wipeE_cons {v : Nat} {vs : List Nat} : wipeE env (v :: vs) = (wipeE env vs).set v .un := rfl
theorem lcG_cons {a : AF} {t : DF Bool} {f : DF DV} {d : PyData} {ds acc : List PyData} {env1 : DEnv} (h : a d env = some env1) : lcG a t f env (d :: ds) acc st = match t env1 st with
      | .ok b st1 => if b = true then (match f env1 st1 with
          | .ok v st2 => match v with
            | .d x => if acc.length < sizeLine then lcG a t f env ds (acc ++ [x]) st2 else .no
            | _ => .no
          | _ => .no) else lcG a t f env ds acc st1
      | _ => .no := by
  show (match a d env with | none => _ | some env1 => _) = _
  rw [h] <;> rfl
theorem lcG_yes {a : AF} {t : DF Bool} {f : DF DV} {d x : PyData} {ds acc : List PyData} {env1 : DEnv} {st1 st2 : Sto} (h : a d env = some env1) (ht : t env1 st = .ok true st1) (hf : f env1 st1 = .ok (.d x) st2) (hl : acc.length < sizeLine) :
    lcG a t f env (d :: ds) acc st = lcG a t f env ds (acc ++ [x]) st2 := by
  rw [lcG_cons h, ht]
  show (if true = true then _ else _) = _
  rw [if_pos rfl, hf]
  exact if_pos hl
theorem lcG_skip {a : AF} {t : DF Bool} {f : DF DV} {d : PyData} {ds acc : List PyData} {env1 : DEnv} {st1 : Sto} (h : a d env = some env1) (ht : t env1 st = .ok false st1) : lcG a t f env (d :: ds) acc st = lcG a t f env ds acc st1 := by
  rw [lcG_cons h, ht]
  rfl
/-- a comprehension without a test, its element a plain function -/
theorem lcG_map {a : AF} {f : DF DV} {ds : List PyData} (φ : PyData → PyData) (hh : ∀ d ∈ ds, ∃ env1, a d env = some env1 ∧ ∀ st, f env1 st = .ok (.d (φ d)) st) : ∀ (acc : List PyData) (st : Sto), acc.length + ds.length ≤ sizeLine → lcG a fYes f env ds acc st = .ok (.d (.list (acc ++ ds.map φ))) st := by
  induction ds with
  | nil => intro acc st _; rw [lcG_nil]; simp
  | cons d ds ih =>
    intro acc st hl
    obtain ⟨env1, h1, h2⟩ := hh d (by simp)
    have hl' : acc.length < sizeLine := by simp at hl; omega
    rw [lcG_yes h1 rfl (h2 st) hl', ih (fun e he => hh e (by simp [he])) _ _ (by simp at hl ⊢; omega)]
    simp
/-- .. with a test -/
theorem lcG_filter {a : AF} {t : DF Bool} {f : DF DV} {ds : List PyData} (p : PyData → Bool) (φ : PyData → PyData) (hh : ∀ d ∈ ds, ∃ env1, a d env = some env1 ∧ (∀ st, t env1 st = .ok (p d) st) ∧ ∀ st, p d = true → f env1 st = .ok (.d (φ d)) st) : ∀ (acc : List PyData) (st : Sto), acc.length + ds.length ≤ sizeLine → lcG a t f env ds acc st = .ok (.d (.list (acc ++ (ds.filter p).map φ))) st := by
  induction ds with
  | nil => intro acc st _; rw [lcG_nil]; simp
  | cons d ds ih =>
    intro acc st hl
    obtain ⟨env1, h1, h2, h3⟩ := hh d (by simp)
    have hl' : acc.length < sizeLine := by simp at hl; omega
    cases hp : p d with
    | true =>
      rw [lcG_yes h1 ((h2 st).trans (by rw [hp])) (h3 st hp) hl', ih (fun e he => hh e (by simp [he])) _ _ (by simp at hl ⊢; omega)]
      simp [List.filter_cons, hp]
    | false =>
      rw [lcG_skip h1 ((h2 st).trans (by rw [hp])), ih (fun e he => hh e (by simp [he])) _ _ (by simp at hl ⊢; omega)]
      simp [List.filter_cons, hp]
theorem aaG_cons {isAll : Bool} {a : AF} {t : DF Bool} {f : DF DV} {d : PyData} {ds : List PyData} {env1 : DEnv} {r : Bool} {st2 : Sto} (h : a d env = some env1) (ht : t env1 st = .ok true st') (hf : f env1 st' = .ok (.d (.bool r)) st2) :
    aaG isAll a t f env (d :: ds) st = if r = isAll then aaG isAll a t f env ds st2 else .ok (.d (.bool r)) st2 := by
  show (match a d env with | none => _ | some env1 => _) = _
  rw [h]
  show (match t env1 st with | .ok b st1 => _ | _ => _) = _
  rw [ht]
  show (if true = true then _ else _) = _
  rw [if_pos rfl, hf]
/-- all(..) of a plain test -/
theorem aaG_all {a : AF} {f : DF DV} {ds : List PyData} (p : PyData → Bool) (hh : ∀ d ∈ ds, ∃ env1, a d env = some env1 ∧ ∀ st, f env1 st = .ok (.d (.bool (p d))) st) : ∀ st, aaG true a fYes f env ds st = .ok (.d (.bool (ds.all p))) st := by
  induction ds with
  | nil => intro st; rfl
  | cons d ds ih =>
    intro st
    obtain ⟨env1, h1, h2⟩ := hh d (by simp)
    rw [aaG_cons h1 rfl (h2 st)]
    cases hp : p d with
    | true => rw [if_pos rfl, ih (fun e he => hh e (by simp [he]))]; simp [hp]
    | false => rw [if_neg (by decide)]; simp [hp]
theorem aaG_any {a : AF} {f : DF DV} {ds : List PyData} (p : PyData → Bool) (hh : ∀ d ∈ ds, ∃ env1, a d env = some env1 ∧ ∀ st, f env1 st = .ok (.d (.bool (p d))) st) : ∀ st, aaG false a fYes f env ds st = .ok (.d (.bool (ds.any p))) st := by
  induction ds with
  | nil => intro st; rfl
  | cons d ds ih =>
    intro st
    obtain ⟨env1, h1, h2⟩ := hh d (by simp)
    rw [aaG_cons h1 rfl (h2 st)]
    cases hp : p d with
    | true => rw [if_neg (by decide)]; simp [hp]
    | false => rw [if_pos rfl, ih (fun e he => hh e (by simp [he]))]; simp [hp]
/-! ### small operations -/
theorem shaped_int {i : Int} : SeqAt.shaped (.int i) = true := rfl
theorem shaped_bool {i : Bool} : SeqAt.shaped (.bool i) = true := rfl
theorem shaped_none : SeqAt.shaped .none = true := rfl
theorem shaped_str {x : Str} (h : PyData.strOk x = true) : SeqAt.shaped (.str x) = true := by
  unfold SeqAt.shaped
  show (PyData.strOk x && decide (0 ≤ 64)) = true
  rw [h]
  rfl
/-- flat data -/
def flatS (d : PyData) : Bool := flatD d && d.canLay0
theorem flatAll {ds : List PyData} (h : ds.all flatS = true) : PyData.canLayAll0 ds = true ∧ PyData.depthAll ds = 0 := by
  induction ds with
  | nil => exact ⟨rfl, rfl⟩
  | cons d ds ih =>
    rw [List.all_cons, Bool.and_eq_true] at h
    obtain ⟨h1, h2⟩ := ih h.2
    have h3 := h.1
    unfold flatS at h3
    rw [Bool.and_eq_true] at h3
    refine ⟨?_, ?_⟩
    · show (d.canLay0 && PyData.canLayAll0 ds) = true
      rw [h3.2, h1]
      rfl
    · show max d.depth (PyData.depthAll ds) = 0
      rw [h2]
      cases d <;> first | rfl | exact absurd h3.1 (by simp [flatD])
theorem shaped_list {ds : List PyData} (h : ds.all flatS = true) : SeqAt.shaped (.list ds) = true := by
  obtain ⟨h1, h2⟩ := flatAll h
  unfold SeqAt.shaped
  show (PyData.canLayAll0 ds && decide (PyData.depthAll ds + 1 ≤ 64)) = true
  rw [h1, h2]
  rfl
theorem shaped_tuple {ds : List PyData} (h : ds.all flatS = true) : SeqAt.shaped (.tuple ds) = true := by
  obtain ⟨h1, h2⟩ := flatAll h
  unfold SeqAt.shaped
  show (PyData.canLayAll0 ds && decide (PyData.depthAll ds + 1 ≤ 64)) = true
  rw [h1, h2]
  rfl
def iL (ns : List Int) : List PyData := ns.map PyData.int
theorem flat_ints {ns : List Int} : (iL ns).all flatS = true := by
  induction ns with
  | nil => rfl
  | cons n ns ih =>
    show (flatS (.int n) && (iL ns).all flatS) = true
    rw [ih]
    rfl
theorem hEq_of {a b : PyData} (ha : SeqAt.shaped a = true) (hb : SeqAt.shaped b = true) : hEq (.d a) (.d b) = some (.d (.bool (PyData.eqv a b))) := by
  show (if (SeqAt.shaped a && SeqAt.shaped b) = true then vBool (PyData.eqv a b) else none) = _
  rw [ha, hb]
  rfl
theorem hNe_of {a b : PyData} (ha : SeqAt.shaped a = true) (hb : SeqAt.shaped b = true) : hNe (.d a) (.d b) = some (.d (.bool (!PyData.eqv a b))) := by
  show (if (SeqAt.shaped a && SeqAt.shaped b) = true then vBool (!PyData.eqv a b) else none) = _
  rw [ha, hb]
  rfl
theorem hEq_ii {i j : Int} : hEq (.d (.int i)) (.d (.int j)) = some (.d (.bool (decide (i = j)))) := hEq_of shaped_int shaped_int
theorem hNe_ii {i j : Int} : hNe (.d (.int i)) (.d (.int j)) = some (.d (.bool (!decide (i = j)))) := hNe_of shaped_int shaped_int
theorem eqv_ints : ∀ {a b : List Int}, PyData.eqvAll (iL a) (iL b) = decide (a = b)
  | [], [] => rfl
  | [], b :: bs => by
    show false = _
    simp
  | a :: as, [] => by
    show false = _
    simp
  | a :: as, b :: bs => by
    show ((a == b) && PyData.eqvAll (iL as) (iL bs)) = _
    rw [eqv_ints]
    rw [Bool.eq_iff_iff]
    simp
theorem eqv_list {a b : List Int} : PyData.eqv (.list (iL a)) (.list (iL b)) = decide (a = b) := eqv_ints
theorem eqv_tuple {a b : List Int} : PyData.eqv (.tuple (iL a)) (.tuple (iL b)) = decide (a = b) := eqv_ints
theorem hAdd_ii {i j : Int} : hAdd (.d (.int i)) (.d (.int j)) = some (.d (.int (i + j))) := rfl
theorem hSub_ii {i j : Int} : hSub (.d (.int i)) (.d (.int j)) = some (.d (.int (i - j))) := rfl
theorem hLe_ii {i j : Int} : hLe (.d (.int i)) (.d (.int j)) = some (.d (.bool (decide (i ≤ j)))) := rfl
theorem hLtI_ii {i j : Int} : hLtI (.d (.int i)) (.d (.int j)) = some (.d (.bool (decide (i < j)))) := rfl
theorem hGt_ii {i j : Int} : hGt (.d (.int i)) (.d (.int j)) = some (.d (.bool (decide (j < i)))) := rfl
theorem hGe_ii {i j : Int} : hGe (.d (.int i)) (.d (.int j)) = some (.d (.bool (decide (j ≤ i)))) := rfl
theorem hIs_bb {a b : Bool} : hIs (.d (.bool a)) (.d (.bool b)) = some (.d (.bool (decide (a = b)))) := rfl
theorem hIsNot_bb {a b : Bool} : hIsNot (.d (.bool a)) (.d (.bool b)) = some (.d (.bool (!decide (a = b)))) := rfl
end
end DL

set_option Elab.async false
set_option linter.all false
set_option maxRecDepth 100000
set_option maxHeartbeats 4000000
namespace DL
open PySem PySem.Spec PyProof.Rows L2
/-! ### more equations -/
section
variable {st : Sto} {ds es : List PyData} {x y : PyData} {i j : Int} {b : Bool}
theorem sv : sizeLine = 16777216 := by rw [sizeLine_eq]
theorem hLen_l : hLen [.d (.list ds)] = some (.d (.int ds.length)) := rfl
theorem hLen_t : hLen [.d (.tuple ds)] = some (.d (.int ds.length)) := rfl
theorem hLen_s {ns : List Int} : hLen [.scr ns] = some (.d (.int ns.length)) := rfl
theorem hTup_ap {ds : List DV} : hTup ds = (allD ds).bind fun xs => if xs.length ≤ sizeLine then some (.d (.tuple xs)) else none := rfl
theorem hLst_ap {ds : List DV} : hLst ds = (allD ds).bind fun xs => if xs.length ≤ sizeLine then some (.d (.list xs)) else none := rfl
theorem hTuple_l : hTuple [.d (.list ds)] = some (.d (.tuple ds)) := rfl
theorem hTuple_t : hTuple [.d (.tuple ds)] = some (.d (.tuple ds)) := rfl
theorem hList_l : hList [.d (.list ds)] = some (.d (.list ds)) := rfl
theorem hList_t : hList [.d (.tuple ds)] = some (.d (.list ds)) := rfl
theorem hAbs_i : hAbs [.d (.int i)] = some (.d (.int (if i < 0 then -i else i))) := rfl
theorem hIntOf_i : hIntOf [.d (.int i)] = some (.d (.int i)) := rfl
theorem hIntOf_b : hIntOf [.d (.bool b)] = some (.d (.int (if b then 1 else 0))) := rfl
theorem hNeg_i : hNeg (.d (.int i)) = some (.d (.int (-i))) := rfl
def pInt : PyData → Bool
  | .int _ => true
  | .bool _ => true
  | _ => false
def pBool : PyData → Bool
  | .bool _ => true
  | _ => false
def pTup : PyData → Bool
  | .tuple _ => true
  | _ => false
def pList : PyData → Bool
  | .list _ => true
  | _ => false
def pStr : PyData → Bool
  | .str _ => true
  | _ => false
theorem hIsi_of {t : String} (h : kitB (tyD x) t = some b) : hIsi t (.d x) = some (.d (.bool b)) := by
  show (kitB (tyD x) t).map (fun b => DV.d (.bool b)) = _
  rw [h]
  rfl
theorem hIsi_int : hIsi "int" (.d x) = some (.d (.bool (pInt x))) := by
  cases x with
  | none => exact hIsi_of (show kitB "NoneType" "int" = some false by decide +kernel)
  | bool _ => exact hIsi_of (show kitB "bool" "int" = some true by decide +kernel)
  | int _ => exact hIsi_of (show kitB "int" "int" = some true by decide +kernel)
  | str _ => exact hIsi_of (show kitB "str" "int" = some false by decide +kernel)
  | list _ => exact hIsi_of (show kitB "list" "int" = some false by decide +kernel)
  | tuple _ => exact hIsi_of (show kitB "tuple" "int" = some false by decide +kernel)
  | dict _ => exact hIsi_of (show kitB "dict" "int" = some false by decide +kernel)
theorem hIsi_bool : hIsi "bool" (.d x) = some (.d (.bool (pBool x))) := by
  cases x with
  | none => exact hIsi_of (show kitB "NoneType" "bool" = some false by decide +kernel)
  | bool _ => exact hIsi_of (show kitB "bool" "bool" = some true by decide +kernel)
  | int _ => exact hIsi_of (show kitB "int" "bool" = some false by decide +kernel)
  | str _ => exact hIsi_of (show kitB "str" "bool" = some false by decide +kernel)
  | list _ => exact hIsi_of (show kitB "list" "bool" = some false by decide +kernel)
  | tuple _ => exact hIsi_of (show kitB "tuple" "bool" = some false by decide +kernel)
  | dict _ => exact hIsi_of (show kitB "dict" "bool" = some false by decide +kernel)
theorem hIsi_tuple : hIsi "tuple" (.d x) = some (.d (.bool (pTup x))) := by
  cases x with
  | none => exact hIsi_of (show kitB "NoneType" "tuple" = some false by decide +kernel)
  | bool _ => exact hIsi_of (show kitB "bool" "tuple" = some false by decide +kernel)
  | int _ => exact hIsi_of (show kitB "int" "tuple" = some false by decide +kernel)
  | str _ => exact hIsi_of (show kitB "str" "tuple" = some false by decide +kernel)
  | list _ => exact hIsi_of (show kitB "list" "tuple" = some false by decide +kernel)
  | tuple _ => exact hIsi_of (show kitB "tuple" "tuple" = some true by decide +kernel)
  | dict _ => exact hIsi_of (show kitB "dict" "tuple" = some false by decide +kernel)
theorem hIsi_list : hIsi "list" (.d x) = some (.d (.bool (pList x))) := by
  cases x with
  | none => exact hIsi_of (show kitB "NoneType" "list" = some false by decide +kernel)
  | bool _ => exact hIsi_of (show kitB "bool" "list" = some false by decide +kernel)
  | int _ => exact hIsi_of (show kitB "int" "list" = some false by decide +kernel)
  | str _ => exact hIsi_of (show kitB "str" "list" = some false by decide +kernel)
  | list _ => exact hIsi_of (show kitB "list" "list" = some true by decide +kernel)
  | tuple _ => exact hIsi_of (show kitB "tuple" "list" = some false by decide +kernel)
  | dict _ => exact hIsi_of (show kitB "dict" "list" = some false by decide +kernel)
theorem hIsi_str : hIsi "str" (.d x) = some (.d (.bool (pStr x))) := by
  cases x with
  | none => exact hIsi_of (show kitB "NoneType" "str" = some false by decide +kernel)
  | bool _ => exact hIsi_of (show kitB "bool" "str" = some false by decide +kernel)
  | int _ => exact hIsi_of (show kitB "int" "str" = some false by decide +kernel)
  | str _ => exact hIsi_of (show kitB "str" "str" = some true by decide +kernel)
  | list _ => exact hIsi_of (show kitB "list" "str" = some false by decide +kernel)
  | tuple _ => exact hIsi_of (show kitB "tuple" "str" = some false by decide +kernel)
  | dict _ => exact hIsi_of (show kitB "dict" "str" = some false by decide +kernel)
end

/-! items and slices -/
section
variable {α : Type} {xs : List α} {ds : List PyData} {ns : List Int} {i j : Int}
theorem atI_pos (h : 0 ≤ i) (h2 : i < xs.length) : L2.atI xs i = xs[i.toNat]? := by
  unfold L2.atI L2.ixN
  rw [if_pos h, if_pos h2]
  rfl
theorem atI_neg (h : i < 0) (h2 : -(xs.length : Int) ≤ i) : L2.atI xs i = xs[(i + xs.length).toNat]? := by
  unfold L2.atI L2.ixN
  rw [if_neg (by omega), if_pos h2]
  rfl
theorem getElem?_getD {d : α} {n : Nat} (h : n < xs.length) : xs[n]? = some (xs.getD n d) := by
  rw [List.getD_eq_getElem?_getD, List.getElem?_eq_getElem h]
  rfl
theorem hIx_l (h : 0 ≤ i) (h2 : i < ds.length) : hIx (.d (.list ds)) (.d (.int i)) = some (.d (ds.getD i.toNat .none)) := by
  show (L2.atI ds i).map DV.d = _
  rw [atI_pos h h2, getElem?_getD (by omega)]
  rfl
theorem hIx_t (h : 0 ≤ i) (h2 : i < ds.length) : hIx (.d (.tuple ds)) (.d (.int i)) = some (.d (ds.getD i.toNat .none)) := hIx_l h h2
theorem iL_len : (iL ns).length = ns.length := List.length_map _
theorem iL_getD {n : Nat} (h : n < ns.length) : (iL ns).getD n .none = .int (ns.getD n 0) := by
  unfold iL
  rw [List.getD_eq_getElem?_getD, List.getElem?_map, getElem?_getD (d := 0) h]
  rfl
theorem hIx_li (h : 0 ≤ i) (h2 : i < ns.length) : hIx (.d (.list (iL ns))) (.d (.int i)) = some (.d (.int (ns.getD i.toNat 0))) := by
  rw [hIx_l h (by rw [iL_len]; exact h2), iL_getD (by omega)]
theorem hIx_ti (h : 0 ≤ i) (h2 : i < ns.length) : hIx (.d (.tuple (iL ns))) (.d (.int i)) = some (.d (.int (ns.getD i.toNat 0))) := hIx_li h h2
theorem hIx_lin (h : i < 0) (h2 : -(ns.length : Int) ≤ i) : hIx (.d (.list (iL ns))) (.d (.int i)) = some (.d (.int (ns.getD (i + ns.length).toNat 0))) := by
  show (L2.atI (iL ns) i).map DV.d = _
  rw [atI_neg h (by rw [iL_len]; exact h2), iL_len, getElem?_getD (d := .none) (by rw [iL_len]; omega), iL_getD (by omega)]
  rfl
theorem hIx_tin (h : i < 0) (h2 : -(ns.length : Int) ≤ i) : hIx (.d (.tuple (iL ns))) (.d (.int i)) = some (.d (.int (ns.getD (i + ns.length).toNat 0))) := hIx_lin h h2
theorem hIx_l0 {d : PyData} : hIx (.d (.list (d :: ds))) (.d (.int 0)) = some (.d d) := hIx_l (Int.le_refl 0) (by simp only [List.length_cons]; omega)
theorem hIx_t0 {d : PyData} : hIx (.d (.tuple (d :: ds))) (.d (.int 0)) = some (.d d) := hIx_l0
theorem hIx_l1 {d e : PyData} : hIx (.d (.list (d :: e :: ds))) (.d (.int 1)) = some (.d e) := hIx_l (by decide) (by simp only [List.length_cons]; omega)
theorem hIx_t1 {d e : PyData} : hIx (.d (.tuple (d :: e :: ds))) (.d (.int 1)) = some (.d e) := hIx_l1
theorem hIx_l2 {d e f : PyData} : hIx (.d (.list (d :: e :: f :: ds))) (.d (.int 2)) = some (.d f) := hIx_l (by decide) (by simp only [List.length_cons]; omega)
theorem hIx_t2 {d e f : PyData} : hIx (.d (.tuple (d :: e :: f :: ds))) (.d (.int 2)) = some (.d f) := hIx_l2
theorem cut_to (h : 0 ≤ i) : cutD xs none (some i) = xs.take i.toNat := by
  unfold cutD
  rw [show HT.sIx xs.length 0 none = 0 from rfl, show HT.sIx xs.length xs.length (some i) = min i.toNat xs.length from by show (if i < 0 then _ else _) = _; rw [if_neg (by omega)]]
  rw [List.drop_zero, Nat.sub_zero]
  by_cases h1 : i.toNat ≤ xs.length
  · rw [Nat.min_eq_left h1]
  · rw [Nat.min_eq_right (by omega), List.take_of_length_le (Nat.le_refl _), List.take_of_length_le (by omega)]
theorem cut_from (h : 0 ≤ i) : cutD xs (some i) none = xs.drop i.toNat := by
  unfold cutD
  rw [show HT.sIx xs.length xs.length none = xs.length from rfl, show HT.sIx xs.length 0 (some i) = min i.toNat xs.length from by show (if i < 0 then _ else _) = _; rw [if_neg (by omega)]]
  by_cases h1 : i.toNat ≤ xs.length
  · rw [Nat.min_eq_left h1, List.take_of_length_le (by rw [List.length_drop]; omega)]
  · rw [Nat.min_eq_right (by omega), List.drop_of_length_le (Nat.le_refl _), List.drop_of_length_le (by omega), List.take_nil]
theorem cut_last : cutD xs none (some (-1)) = xs.dropLast := by
  unfold cutD
  rw [show HT.sIx xs.length 0 none = 0 from rfl, show HT.sIx xs.length xs.length (some (-1)) = xs.length - 1 from by show (if (-1 : Int) < 0 then (-1 + (xs.length : Int)).toNat else min (-1 : Int).toNat xs.length) = _; rw [if_pos (by decide)]; omega]
  rw [List.drop_zero, Nat.sub_zero, List.dropLast_eq_take]
theorem hSl_l {lo hi : Option Int} : hSl (.d (.list ds)) lo hi = some (.d (.list (cutD ds lo hi))) := rfl
theorem hSl_t {lo hi : Option Int} : hSl (.d (.tuple ds)) lo hi = some (.d (.tuple (cutD ds lo hi))) := rfl
theorem hSl_s {lo hi : Option Int} : hSl (.scr ns) lo hi = some (.d (.list ((cutD ns lo hi).map PyData.int))) := rfl
theorem hAdd_tt {a b : List PyData} (h : a.length + b.length ≤ 16777216) : hAdd (.d (.tuple a)) (.d (.tuple b)) = some (.d (.tuple (a ++ b))) := if_pos (by rw [sv]; exact h)
theorem hAdd_ll {a b : List PyData} (h : a.length + b.length ≤ 16777216) : hAdd (.d (.list a)) (.d (.list b)) = some (.d (.list (a ++ b))) := if_pos (by rw [sv]; exact h)
theorem iL_app {a b : List Int} : iL a ++ iL b = iL (a ++ b) := (List.map_append).symm
theorem iL_take {n : Nat} : (iL ns).take n = iL (ns.take n) := (List.map_take).symm
theorem iL_drop {n : Nat} : (iL ns).drop n = iL (ns.drop n) := (List.map_drop).symm
theorem iL_nil : iL [] = [] := rfl
theorem iL_cons : iL (i :: ns) = .int i :: iL ns := rfl
end

/-! whole numbers -/
section
variable {i j : Int}
theorem hMul_ii (h : (-18446744073709551616 < i ∧ i < 18446744073709551616) ∨ (-18446744073709551616 < j ∧ j < 18446744073709551616)) : hMul (.d (.int i)) (.d (.int j)) = some (.d (.int (i * j))) := by
  refine if_pos ?_
  unfold cMul
  simp only [Bool.or_eq_true, Bool.and_eq_true, decide_eq_true_eq]
  exact h
theorem hMod_ii (h : 0 < j) : hMod (.d (.int i)) (.d (.int j)) = some (.d (.int (i % j))) := by
  show (if decide (j ≠ 0) = true then some (DV.d (.int (i.fmod j))) else none) = _
  rw [if_pos (by simp; omega), Int.fmod_eq_emod_of_nonneg i (by omega)]
theorem hFdiv_ii (h : 0 < j) (h2 : j < 1073741824) : hFdiv (.d (.int i)) (.d (.int j)) = some (.d (.int (i / j))) := by
  show (if decide (j ≠ 0 ∧ j.natAbs < 1073741824) = true then some (DV.d (.int (i.fdiv j))) else none) = _
  rw [if_pos (by simp; omega), Int.fdiv_eq_ediv_of_nonneg i (by omega)]
theorem hPow_ii (h : 0 ≤ j ∧ j ≤ 1000000 ∧ i.natAbs < 18446744073709551616) : hPow (.d (.int i)) (.d (.int j)) = some (.d (.int (i ^ j.toNat))) := if_pos (decide_eq_true h)
theorem hShr_ii (h : 0 ≤ j) : hShr (.d (.int i)) (.d (.int j)) = some (.d (.int (i / 2 ^ j.toNat))) := if_pos (decide_eq_true h)
theorem hXor_ii : hXor (.d (.int i)) (.d (.int j)) = some (.d (.int (PySem.Builtin.bitXor i j))) := rfl
theorem hRng1_i {st : Sto} (h : -4611686018427387904 ≤ j ∧ j < 4611686018427387904) : hRng1 [.d (.int j)] st = .ok (rngL 0 j.toNat) st := if_pos h
theorem hRng2_i {st : Sto} (h : -4611686018427387904 ≤ i ∧ i < 4611686018427387904 ∧ -4611686018427387904 ≤ j ∧ j < 4611686018427387904) : hRng2 [.d (.int i), .d (.int j)] st = .ok (rngL i (j - i).toNat) st := if_pos h
/-- whole numbers from 0 -/
def nats (n : Nat) : List Int := (List.range n).map Int.ofNat
theorem rng_nats {n : Nat} : rngL 0 n = iL (nats n) := by
  unfold rngL nats iL
  rw [List.map_map]
  apply List.map_congr_left
  intro i _
  show PyData.int (0 + Int.ofNat i) = .int (Int.ofNat i)
  rw [Int.zero_add]
theorem mem_nats {n : Nat} {i : Int} : i ∈ nats n ↔ 0 ≤ i ∧ i < n := by
  unfold nats
  rw [List.mem_map]
  constructor
  · rintro ⟨a, h1, rfl⟩
    have := List.mem_range.mp h1
    exact ⟨Int.natCast_nonneg a, by show (a : Int) < n; omega⟩
  · rintro ⟨h1, h2⟩
    exact ⟨i.toNat, List.mem_range.mpr (by omega), by show ((i.toNat : Nat) : Int) = i; omega⟩
theorem rng_map {lo : Int} {n : Nat} : rngL lo n = iL ((List.range n).map fun k => lo + Int.ofNat k) := by
  unfold rngL iL
  rw [List.map_map]
  rfl
end
/-! more statements -/
section
variable {env : DEnv} {st : Sto} {f : DF DV} {i k : Nat}
theorem gAsg_ap (a : AF) : gAsg f a env st = (f env st).thn (hid (.mk fun d st1 => match d with
  | .d x => match a x env with
    | some env1 => .nx env1 st1
    | none => .no
  | _ => .no)) := rfl
theorem gUnpackLoc_ap (n : Nat) (r : List PyData → DEnv → Option DEnv) : gUnpackLoc f n r env st = (f env st).thn (hid (.mk fun d st1 => match d with
  | .loc => if st1.length = n then (match r st1 env with
    | some env1 => .nx env1 st1
    | none => .no) else .no
  | _ => .no)) := rfl
theorem gStoreLoc_ap : gStoreLoc i k f env st = (f env st).thn (hid (.mk fun d st1 => match env[i]?, d with
  | some (.frz .loc), .d x => if k < st1.length then .nx env (st1.set k x) else .no
  | _, _ => .no)) := rfl
theorem gPar_ap {j : Nat} (fs : DF (List DV)) : gPar i j fs env st = (fs env st).thn (hid (.mk fun ds st1 => match ds with
  | [d1, d2] => .nx ((env.set i (.frz d1)).set j (.frz d2)) st1
  | _ => .no)) := rfl
theorem hLt_ii {i j : Int} : hLt (.d (.int i)) (.d (.int j)) = some (.d (.bool (decide (i < j)))) := rfl
end
def finR (nw : Bool) (r : SRes) : Res DV := match r with
  | .nx _ st' => if nw = true then .no else .ok (.d .none) st'
  | .rt d st' => .ok d st'
  | .exc c st' => .exc c st'
  | _ => .no
theorem runF_fin {nw : Bool} {k : Nat} {body : SF} {ds : List DV} {st : Sto} : runF nw k body ds st = finR nw (body (ds.map Slot.frz ++ List.replicate (k - ds.length) Slot.un) st) := rfl
theorem finR_nx {env : DEnv} {st : Sto} : finR false (.nx env st) = .ok (.d .none) st := rfl
theorem finR_rt {nw : Bool} {d : DV} {st : Sto} : finR nw (.rt d st) = .ok d st := rfl
theorem finR_exc {nw : Bool} {c : Str} {st : Sto} : finR nw (.exc c st) = .exc c st := rfl
theorem bind_if {α β : Type} {p : Prop} [Decidable p] {r r' : Res α} {k : α → Sto → Res β} : (if p then r else r').bind k = if p then r.bind k else r'.bind k := by split <;> rfl
theorem thn_if {α : Type} {p : Prop} [Decidable p] {r r' : Res α} {k : α → Sto → SRes} : (if p then r else r').thn k = if p then r.thn k else r'.thn k := by split <;> rfl
theorem then_if {p : Prop} [Decidable p] {r r' : SRes} {k : SF} : (if p then r else r').andThen k = if p then r.andThen k else r'.andThen k := by split <;> rfl
theorem finR_if {nw : Bool} {p : Prop} [Decidable p] {r r' : SRes} : finR nw (if p then r else r') = if p then finR nw r else finR nw r' := by split <;> rfl
/-! ### a list or a tuple, walked -/
theorem DE.weak {X : Cx} {T : FS} {W : WX} {m : Bool} {e : Expr} {f : DF DV} (h : DE X T W m e f) : DE X T W false e f :=
  ⟨PE.imp h.pe fun σ H Q ⟨B, env, st, F, sr, q⟩ => ⟨B, env, st, F, sr, Go.mono q fun d st1 H1 F1 w1 x1 q1 v r => q1 v r.view⟩⟩
theorem DI.pick {X : Cx} {T : FS} {W : WX} {m : Bool} {tg e : Expr} {f f1 f2 : DF (List PyData)} (h1 : DI X T W m tg e f1) (h2 : DI X T W m tg e f2) (hf : ∀ env st, f env st = f1 env st ∨ f env st = f2 env st) : DI X T W m tg e f :=
  ⟨⟨fun pins s σ H R I w => by
    obtain ⟨B, env, st, F, sr, q⟩ := w
    rcases hf env st with z | z
    · rw [z] at q
      exact h1.pi.run pins s σ H R I ⟨B, env, st, F, sr, q⟩
    · rw [z] at q
      exact h2.pi.run pins s σ H R I ⟨B, env, st, F, sr, q⟩⟩⟩
def toS (d : DV) (st : Sto) : Res (List PyData) := match d with
  | .d (.list ds) => .ok ds st
  | .d (.tuple ds) => .ok ds st
  | _ => .no
def fIt (f : DF DV) : DF (List PyData) := fun env st => (f env st).bind toS
theorem di_seq {X : Cx} {T : FS} {W : WX} {m : Bool} {tg e : Expr} {f : DF DV} (h : DE X T W m e f) : DI X T W m tg e (fIt f) := by
  refine DI.pick (di_list h) (di_tup h.weak) fun env st => ?_
  unfold fIt fItL fItT
  cases f env st with
  | ok d st1 =>
    cases d with
    | d x => cases x <;> first | exact .inl rfl | exact .inr rfl
    | _ => exact .inl rfl
  | _ => exact .inl rfl
theorem fIt_ap {f : DF DV} {env : DEnv} {st : Sto} : fIt f env st = (f env st).bind toS := rfl
theorem toS_l {ds : List PyData} {st : Sto} : toS (.d (.list ds)) st = .ok ds st := rfl
theorem toS_t {ds : List PyData} {st : Sto} : toS (.d (.tuple ds)) st = .ok ds st := rfl
/-! comprehensions over whole numbers -/
theorem lcG_ints {a : AF} {t : DF Bool} {f : DF DV} {env : DEnv} {ns : List Int} (p : Int → Bool) (φ : Int → PyData) (hl : ns.length ≤ 16777216) (hh : ∀ i ∈ ns, ∃ env1, a (.int i) env = some env1 ∧ (∀ st, t env1 st = .ok (p i) st) ∧ ∀ st, p i = true → f env1 st = .ok (.d (φ i)) st) (st : Sto) :
    lcG a t f env (iL ns) [] st = .ok (.d (.list ((ns.filter p).map φ))) st := by
  have key : ∀ (ns : List Int) (acc : List PyData), (∀ i ∈ ns, ∃ env1, a (.int i) env = some env1 ∧ (∀ st, t env1 st = .ok (p i) st) ∧ ∀ st, p i = true → f env1 st = .ok (.d (φ i)) st) → acc.length + ns.length ≤ 16777216 → lcG a t f env (iL ns) acc st = .ok (.d (.list (acc ++ (ns.filter p).map φ))) st := by
    intro ns
    induction ns with
    | nil => intro acc _ _; show lcG a t f env [] acc st = _; rw [lcG_nil]; simp
    | cons i ns ih =>
      intro acc hh hl
      obtain ⟨env1, h1, h2, h3⟩ := hh i (by simp)
      have hl' : acc.length < sizeLine := by rw [sv]; simp at hl; omega
      rw [iL_cons]
      cases hp : p i with
      | true =>
        rw [lcG_yes h1 ((h2 st).trans (by rw [hp])) (h3 st hp) hl', ih _ (fun e he => hh e (by simp [he])) (by simp at hl ⊢; omega)]
        simp [List.filter_cons, hp]
      | false =>
        rw [lcG_skip h1 ((h2 st).trans (by rw [hp])), ih _ (fun e he => hh e (by simp [he])) (by simp at hl ⊢; omega)]
        simp [List.filter_cons, hp]
  exact (key ns [] hh (by simpa using hl)).trans (by rw [List.nil_append])
theorem lcG_ints' {a : AF} {f : DF DV} {env : DEnv} {ns : List Int} (φ : Int → PyData) (hl : ns.length ≤ 16777216) (hh : ∀ i ∈ ns, ∃ env1, a (.int i) env = some env1 ∧ ∀ st, f env1 st = .ok (.d (φ i)) st) (st : Sto) :
    lcG a fYes f env (iL ns) [] st = .ok (.d (.list (ns.map φ))) st := by
  rw [lcG_ints (fun _ => true) φ hl (fun i hi => by
    obtain ⟨env1, h1, h2⟩ := hh i hi
    exact ⟨env1, h1, fun st => rfl, fun st _ => h2 st⟩) st]
  rw [List.filter_eq_self.mpr (fun _ _ => rfl)]
/-- .. that draws: the store changes, what is kept is kept -/
theorem lcG_draw {a : AF} {f : DF DV} {env : DEnv} {G : Sto → Prop} {R : PyData → Prop} : ∀ (ds acc : List PyData) (st : Sto), G st → (∀ d ∈ ds, ∃ env1, a d env = some env1 ∧ ∀ st, G st → ∃ x st', f env1 st = .ok (.d x) st' ∧ R x ∧ G st') → acc.length + ds.length ≤ 16777216 →
    ∃ xs st', lcG a fYes f env ds acc st = .ok (.d (.list (acc ++ xs))) st' ∧ xs.length = ds.length ∧ (∀ x ∈ xs, R x) ∧ G st'
  | [], acc, st, g, _, _ => ⟨[], st, by rw [lcG_nil, List.append_nil], rfl, (fun x h => by cases h), g⟩
  | d :: ds, acc, st, g, hh, hl => by
    obtain ⟨env1, h1, h2⟩ := hh d (by simp)
    obtain ⟨x, st1, h3, h4, g1⟩ := h2 st g
    have hl' : acc.length < sizeLine := by rw [sv]; simp at hl; omega
    obtain ⟨xs, st2, h5, h6, h7, g2⟩ := lcG_draw ds (acc ++ [x]) st1 g1 (fun e he => hh e (by simp [he])) (by simp at hl ⊢; omega)
    refine ⟨x :: xs, st2, ?_, by simp [h6], fun y hy => ?_, g2⟩
    · rw [lcG_yes h1 rfl h3 hl', h5]
      simp
    · rcases List.mem_cons.mp hy with e | e
      · rw [e]; exact h4
      · exact h7 y e
/-! membership, tries -/
theorem ints_flat {ns : List Int} : (iL ns).all flatD = true := by
  unfold iL
  rw [List.all_map, List.all_eq_true]
  intro i _; rfl
theorem any_ints {ns : List Int} {i : Int} : ((iL ns).any fun z => PyData.eqv z (.int i)) = decide (i ∈ ns) := by
  unfold iL
  rw [List.any_map, Bool.eq_iff_iff, List.any_eq_true, decide_eq_true_eq]
  constructor
  · rintro ⟨j, hj, e⟩
    have e : (j == i) = true := e
    rw [beq_iff_eq.mp e] at hj; exact hj
  · intro h
    exact ⟨i, h, show (i == i) = true from beq_self_eq_true i⟩
theorem hNotIn_ti {ns : List Int} {i : Int} : hNotIn (.d (.int i)) (.d (.tuple (iL ns))) = some (.d (.bool (!decide (i ∈ ns)))) := by
  show (if (flatD (.int i) && (iL ns).all flatD) = true then vBool (!(iL ns).any fun z => PyData.eqv z (.int i)) else none) = _
  rw [ints_flat, any_ints]; rfl
theorem hIn_ti {ns : List Int} {i : Int} : hIn (.d (.int i)) (.d (.tuple (iL ns))) = some (.d (.bool (decide (i ∈ ns)))) := by
  show (if (flatD (.int i) && (iL ns).all flatD) = true then vBool ((iL ns).any fun z => PyData.eqv z (.int i)) else none) = _
  rw [ints_flat, any_ints]; rfl
theorem hNotIn_li {ns : List Int} {i : Int} : hNotIn (.d (.int i)) (.d (.list (iL ns))) = some (.d (.bool (!decide (i ∈ ns)))) := by
  show (if (SeqAt.shaped (.int i) && SeqAt.shaped (.list (iL ns))) = true then vBool (!(iL ns).any fun z => PyData.eqv z (.int i)) else none) = _
  rw [shaped_list flat_ints, any_ints]; rfl
theorem hIn_li {ns : List Int} {i : Int} : hIn (.d (.int i)) (.d (.list (iL ns))) = some (.d (.bool (decide (i ∈ ns)))) := by
  show (if (SeqAt.shaped (.int i) && SeqAt.shaped (.list (iL ns))) = true then vBool ((iL ns).any fun z => PyData.eqv z (.int i)) else none) = _
  rw [shaped_list flat_ints, any_ints]; rfl
theorem hEq_tt {a b : List Int} : hEq (.d (.tuple (iL a))) (.d (.tuple (iL b))) = some (.d (.bool (decide (a = b)))) := by
  rw [hEq_of (shaped_tuple flat_ints) (shaped_tuple flat_ints), eqv_tuple]
theorem hNe_tt {a b : List Int} : hNe (.d (.tuple (iL a))) (.d (.tuple (iL b))) = some (.d (.bool (!decide (a = b)))) := by
  rw [hNe_of (shaped_tuple flat_ints) (shaped_tuple flat_ints), eqv_tuple]
theorem hEq_ll {a b : List Int} : hEq (.d (.list (iL a))) (.d (.list (iL b))) = some (.d (.bool (decide (a = b)))) := by
  rw [hEq_of (shaped_list flat_ints) (shaped_list flat_ints), eqv_list]
theorem hNe_ll {a b : List Int} : hNe (.d (.list (iL a))) (.d (.list (iL b))) = some (.d (.bool (!decide (a = b)))) := by
  rw [hNe_of (shaped_list flat_ints) (shaped_list flat_ints), eqv_list]
theorem hNe_bb {a b : Bool} : hNe (.d (.bool a)) (.d (.bool b)) = some (.d (.bool (!decide (a = b)))) := by
  rw [hNe_of shaped_bool shaped_bool]
  cases a <;> cases b <;> rfl
theorem hEq_bb {a b : Bool} : hEq (.d (.bool a)) (.d (.bool b)) = some (.d (.bool (decide (a = b)))) := by
  rw [hEq_of shaped_bool shaped_bool]
  cases a <;> cases b <;> rfl
theorem gTry_ap {told : Str → Option Str} {g : SF} {env : DEnv} {st : Sto} : gTry told g env st = match g env st with
  | .exc c st' => (match told c with
    | some t => .rt (.d (.str t)) st'
    | none => .no)
  | r => r := rfl
theorem gTry_rt {told : Str → Option Str} {g : SF} {env : DEnv} {st st' : Sto} {d : DV} (h : g env st = .rt d st') : gTry told g env st = .rt d st' := by
  rw [gTry_ap, h]
theorem gTry_exc {told : Str → Option Str} {g : SF} {env : DEnv} {st st' : Sto} {c t : Str} (h : g env st = .exc c st') (ht : told c = some t) : gTry told g env st = .rt (.d (.str t)) st' := by
  rw [gTry_ap, h]
  show (match told c with | some t => _ | none => _) = _
  rw [ht]
theorem gTry_nx {told : Str → Option Str} {g : SF} {env env' : DEnv} {st st' : Sto} (h : g env st = .nx env' st') : gTry told g env st = .nx env' st' := by
  rw [gTry_ap, h]
theorem hMul_l {ds : List PyData} {k : Nat} (h : ds.length * k ≤ 16777216) (h2 : k ≤ 16777216) : hMul (.d (.list ds)) (.d (.int k)) = some (.d (.list (List.replicate k ds).flatten)) := by
  have c : -(2 ^ 63) ≤ (k : Int) ∧ (k : Int) < 2 ^ 63 ∧ ds.length * (k : Int).toNat ≤ sizeLine := ⟨by omega, by omega, by rw [sv, Int.toNat_natCast]; exact h⟩
  simp only [hMul]
  rw [if_pos c, Int.toNat_natCast]
theorem hMul_l0 {ds : List PyData} : hMul (.d (.list ds)) (.d (.int 0)) = some (.d (.list [])) := by
  have := hMul_l (ds := ds) (k := 0) (by omega) (by omega)
  simpa using this
theorem hMul_l1 {ds : List PyData} (h : ds.length ≤ 16777216) : hMul (.d (.list ds)) (.d (.int 1)) = some (.d (.list ds)) := by
  have := hMul_l (ds := ds) (k := 1) (by omega) (by omega)
  simpa using this
end DL

set_option Elab.async false
set_option linter.all false
set_option maxRecDepth 100000
set_option maxHeartbeats 4000000
namespace DL
open PySem PySem.Spec PyProof.Rows L2
/-! ### the draws of the laws -/
def mixG : SF := (gSeq (gSet 2 (fOp2 hMod (fOp2 hAdd (fOp2 hAdd (fOp2 hMul (fOp2 hMod (fName 0) (fOp2 hSub (fOp2 hPow (fC (.int 2)) (fC (.int 61))) (fC (.int 1)))) (fC (.int 6364136223846793005))) (fOp2 hMul (fName 1) (fC (.int 1442695040888963407)))) (fC (.int 97))) (fOp2 hPow (fC (.int 2)) (fC (.int 61)))))
  (gSeq (gSet 2 (fOp2 hMod (fOp2 hMul (fOp2 hXor (fName 2) (fOp2 hShr (fName 2) (fC (.int 29)))) (fC (.int 3935559000370003845))) (fOp2 hPow (fC (.int 2)) (fC (.int 61)))))
  (gRet (fOp2 hMod (fOp2 hMul (fOp2 hXor (fName 2) (fOp2 hShr (fName 2) (fC (.int 31)))) (fC (.int 2862933555777941757))) (fOp2 hPow (fC (.int 2)) (fC (.int 61)))))))
def mixF : List DV → Sto → Res DV := runF false 3 mixG
def drawG : SF := (gSeq (gUnpackLoc (fName 0) 3 (aCons (aName 2) (aCons (aName 3) (aCons (aName 4) aNil))))
  (gSeq (gIf (fB (fOp2 hLt (fName 3) (fName 1)))
   (gSeq (gSet 5 (fOp2 hIx (fName 4) (fOp2 hMod (fName 2) (fOpN hLen (fCons (fName 4) fNil)))))
  (gSeq (gSet 3 (fIfE (fAnd (fB (fOp2 hLt (fName 2) (fOpN hLen (fCons (fName 4) fNil)))) (fB (fOp2 hGe (fName 5) (fOp2 hPow (fC (.int 10)) (fC (.int 18)))))) (fName 5) (fOwn 2 mixF (fCons (fName 5) (fCons (fName 2) fNil)))))
  (gSet 2 (fOp2 hAdd (fName 2) (fC (.int 1))))))
   gNop)
  (gSeq (gStoreLoc 0 0 (fName 2))
  (gSeq (gStoreLoc 0 1 (fOp2 hFdiv (fName 3) (fName 1)))
  (gRet (fOp2 hMod (fName 3) (fName 1)))))))
def drawF : List DV → Sto → Res DV := runF false 6 drawG
def openG : SF := (gSeq (gSet 1 (fLc (fIt (fSl (fName 0) fNoP (fSomeP (fC (.int 63))))) (aName 2) fYes (fOpN hAbs (fCons (fOpN hIntOf (fCons (fName 2) fNil)) fNil)) [2]))
  (gRet (fOpN hLst (fCons (fC (.int 0)) (fCons (fC (.int 0)) (fCons (fOp2 hAdd (fName 1) (fOpN hLst (fCons (fC (.int 0)) fNil))) fNil))))))
def openF : List DV → Sto → Res DV := runF true 3 openG
theorem p61 : hPow (.d (.int 2)) (.d (.int 61)) = some (.d (.int 2305843009213693952)) := by rw [hPow_ii (by decide)]; rfl
theorem p18 : hPow (.d (.int 10)) (.d (.int 18)) = some (.d (.int 1000000000000000000)) := by rw [hPow_ii (by decide)]; rfl
theorem sh29 {i : Int} : hShr (.d (.int i)) (.d (.int 29)) = some (.d (.int (i / 2 ^ 29))) := hShr_ii (by decide)
theorem sh31 {i : Int} : hShr (.d (.int i)) (.d (.int 31)) = some (.d (.int (i / 2 ^ 31))) := hShr_ii (by decide)
theorem ml1 {i : Int} : hMul (.d (.int i)) (.d (.int 6364136223846793005)) = some (.d (.int (i * 6364136223846793005))) := hMul_ii (.inr (by decide))
theorem ml2 {i : Int} : hMul (.d (.int i)) (.d (.int 1442695040888963407)) = some (.d (.int (i * 1442695040888963407))) := hMul_ii (.inr (by decide))
theorem ml3 {i : Int} : hMul (.d (.int i)) (.d (.int 3935559000370003845)) = some (.d (.int (i * 3935559000370003845))) := hMul_ii (.inr (by decide))
theorem ml4 {i : Int} : hMul (.d (.int i)) (.d (.int 2862933555777941757)) = some (.d (.int (i * 2862933555777941757))) := hMul_ii (.inr (by decide))
theorem md1 {i : Int} : hMod (.d (.int i)) (.d (.int (2305843009213693952 - 1))) = some (.d (.int (i % (2305843009213693952 - 1)))) := hMod_ii (by decide)
theorem md2 {i : Int} : hMod (.d (.int i)) (.d (.int 2305843009213693952)) = some (.d (.int (i % 2305843009213693952))) := hMod_ii (by decide)
def mix1 (c t : Int) : Int := (c % (2305843009213693952 - 1) * 6364136223846793005 + t * 1442695040888963407 + 97) % 2305843009213693952
def mix2 (n : Int) : Int := PySem.Builtin.bitXor n (n / 2 ^ 29) * 3935559000370003845 % 2305843009213693952
def mix3 (n : Int) : Int := PySem.Builtin.bitXor n (n / 2 ^ 31) * 2862933555777941757 % 2305843009213693952
theorem e_mix (c t : Int) (st : Sto) : ∃ m : Int, mixF [.d (.int c), .d (.int t)] st = .ok (.d (.int m)) st ∧ 0 ≤ m := by
  refine ⟨mix3 (mix2 (mix1 c t)), ?_, Int.emod_nonneg _ (by decide)⟩
  simp -implicitDefEqProofs -dsimp only [mixF, mixG, p61, sh29, sh31, ml1, ml2, ml3, ml4, md1, md2, mix1, mix2, mix3, fC_ap, fOp2_ap, fOp1_ap, fNil_ap, fCons_ap, fOpN_ap, fLst_ap, fB_ap, fAnd_ap, fOr_ap, fNot_ap, fAndV_ap, fOrV_ap, fNotV_ap, fIfE_ap, fChain_ap, fNoP_ap, fSomeP_ap, fSl_ap, fOwn_ap, fItL_ap, fItT_ap, fItScr_ap, fRng1_ap, fRng2_ap, fYes_ap, fLc_ap, fAA_ap, gSeq_ap, gNop_ap, gSet_ap, gIf_ap, gRet_ap, gRaise_ap, gExpr_ap, gBreak_ap, gCont_ap, gFor_ap, bind_ok, bind_exc, bind_no, thn_ok, thn_exc, thn_no, then_nx, then_rt, then_exc, then_bk, then_ct, lift_some, lift_none, toB_b, toI_i, toL_l, toT_t, toScr_s, lstOnly_l, allD_nil, allD_cons, map_some', lcG_nil, aaG_nil, forG_nil, fName_z, fName_s, fNameB_z, fNameB_zo, fNameB_s, fIsP_z, fIsP_s, aName_ap, aNil_ap, aCons_ap, aTup_ap, wipeE_nil, wipeE_cons, hEq_ii, hNe_ii, hAdd_ii, hSub_ii, hLe_ii, hLtI_ii, hGt_ii, hGe_ii, hIs_bb, hIsNot_bb, List.set_cons_zero, List.set_cons_succ, List.map_cons, List.map_nil, List.cons_append, List.nil_append, hLen_l, hLen_t, hLen_s, hTup_ap, hLst_ap, hTuple_l, hTuple_t, hList_l, hList_t, hAbs_i, hIntOf_i, hIntOf_b, hNeg_i, hIsi_int, hIsi_bool, hIsi_tuple, hIsi_list, hIsi_str, hSl_l, hSl_t, hSl_s, hIx_l0, hIx_t0, hIx_l1, hIx_t1, hIx_l2, hIx_t2, hXor_ii, sv, Option.map_some, Option.bind_some, List.length_cons, List.length_nil, reduceIte, Nat.reduceLT, Nat.reduceLeDiff, Nat.reduceAdd, Bool.false_eq_true, Bool.not_true, Bool.not_false, gAsg_ap, gUnpackLoc_ap, gStoreLoc_ap, gPar_ap, runF_fin, finR_nx, finR_rt, finR_exc, List.replicate_succ, List.replicate_zero, Nat.reduceSub, List.getElem?_cons_zero, List.getElem?_cons_succ, hLt_ii, pInt, pBool, pTup, pList, pStr, decide_eq_true_eq, fIt_ap, toS_l, toS_t, hid_ap]
/-- what the draws hold -/
def Draws (st : Sto) : Prop := ∃ (t l : Int) (cs : List Int), st = [.int t, .int l, .list (iL cs)] ∧ 0 ≤ t ∧ 0 ≤ l ∧ cs ≠ [] ∧ ∀ c ∈ cs, 0 ≤ c
theorem e_draw {st : Sto} {n : Int} (g : Draws st) (h0 : 0 < n) (h1 : n < 1073741824) : ∃ (r : Int) (st' : Sto), drawF [.loc, .d (.int n)] st = .ok (.d (.int r)) st' ∧ 0 ≤ r ∧ r < n ∧ Draws st' := by
  obtain ⟨t, l, cs, rfl, ht, hl, hne, hc⟩ := g
  have fd : ∀ i, hFdiv (.d (.int i)) (.d (.int n)) = some (.d (.int (i / n))) := fun i => hFdiv_ii h0 h1
  have md : ∀ i, hMod (.d (.int i)) (.d (.int n)) = some (.d (.int (i % n))) := fun i => hMod_ii h0
  have last : ∀ (t l : Int), 0 ≤ t → 0 ≤ l → 0 ≤ l % n ∧ l % n < n ∧ Draws [.int t, .int (l / n), .list (iL cs)] := fun t l ht hl =>
    ⟨Int.emod_nonneg _ (by omega), Int.emod_lt_of_pos _ h0, t, l / n, cs, rfl, ht, Int.ediv_nonneg hl (by omega), hne, hc⟩
  by_cases c : l < n
  · have hcl : 0 < cs.length := List.length_pos_iff.mpr hne
    have mc : hMod (.d (.int t)) (.d (.int (iL cs).length)) = some (.d (.int (t % cs.length))) := by rw [iL_len]; exact hMod_ii (by omega)
    have q0 := Int.emod_nonneg t (b := (cs.length : Int)) (by omega)
    have q1 := Int.emod_lt_of_pos t (b := (cs.length : Int)) (by omega)
    have ix : hIx (.d (.list (iL cs))) (.d (.int (t % cs.length))) = some (.d (.int (cs.getD (t % cs.length).toNat 0))) := hIx_li q0 q1
    have hcc : 0 ≤ cs.getD (t % (cs.length : Int)).toNat 0 := by
      rw [List.getD_eq_getElem?_getD, List.getElem?_eq_getElem (by omega)]
      exact hc _ (List.getElem_mem _)
    generalize cs.getD (t % (cs.length : Int)).toNat 0 = cell at ix hcc
    obtain ⟨m, hm, m0⟩ := e_mix cell t [.int t, .int l, .list (iL cs)]
    by_cases c2 : t < (iL cs).length
    · by_cases c3 : (1000000000000000000 : Int) ≤ cell
      · refine ⟨_, _, ?_, last (t + 1) cell (by omega) (by omega)⟩
        simp -implicitDefEqProofs -dsimp only [drawF, drawG, c, c2, c3, p18, mc, ix, fd, md, fC_ap, fOp2_ap, fOp1_ap, fNil_ap, fCons_ap, fOpN_ap, fLst_ap, fB_ap, fAnd_ap, fOr_ap, fNot_ap, fAndV_ap, fOrV_ap, fNotV_ap, fIfE_ap, fChain_ap, fNoP_ap, fSomeP_ap, fSl_ap, fOwn_ap, fItL_ap, fItT_ap, fItScr_ap, fRng1_ap, fRng2_ap, fYes_ap, fLc_ap, fAA_ap, gSeq_ap, gNop_ap, gSet_ap, gIf_ap, gRet_ap, gRaise_ap, gExpr_ap, gBreak_ap, gCont_ap, gFor_ap, bind_ok, bind_exc, bind_no, thn_ok, thn_exc, thn_no, then_nx, then_rt, then_exc, then_bk, then_ct, lift_some, lift_none, toB_b, toI_i, toL_l, toT_t, toScr_s, lstOnly_l, allD_nil, allD_cons, map_some', lcG_nil, aaG_nil, forG_nil, fName_z, fName_s, fNameB_z, fNameB_zo, fNameB_s, fIsP_z, fIsP_s, aName_ap, aNil_ap, aCons_ap, aTup_ap, wipeE_nil, wipeE_cons, hEq_ii, hNe_ii, hAdd_ii, hSub_ii, hLe_ii, hLtI_ii, hGt_ii, hGe_ii, hIs_bb, hIsNot_bb, List.set_cons_zero, List.set_cons_succ, List.map_cons, List.map_nil, List.cons_append, List.nil_append, hLen_l, hLen_t, hLen_s, hTup_ap, hLst_ap, hTuple_l, hTuple_t, hList_l, hList_t, hAbs_i, hIntOf_i, hIntOf_b, hNeg_i, hIsi_int, hIsi_bool, hIsi_tuple, hIsi_list, hIsi_str, hSl_l, hSl_t, hSl_s, hIx_l0, hIx_t0, hIx_l1, hIx_t1, hIx_l2, hIx_t2, hXor_ii, sv, Option.map_some, Option.bind_some, List.length_cons, List.length_nil, reduceIte, Nat.reduceLT, Nat.reduceLeDiff, Nat.reduceAdd, Bool.false_eq_true, Bool.not_true, Bool.not_false, gAsg_ap, gUnpackLoc_ap, gStoreLoc_ap, gPar_ap, runF_fin, finR_nx, finR_rt, finR_exc, List.replicate_succ, List.replicate_zero, Nat.reduceSub, List.getElem?_cons_zero, List.getElem?_cons_succ, hLt_ii, pInt, pBool, pTup, pList, pStr, decide_eq_true_eq, fIt_ap, toS_l, toS_t, hid_ap, List.getElem?_cons_zero]
      · refine ⟨_, _, ?_, last (t + 1) m (by omega) (by omega)⟩
        simp -implicitDefEqProofs -dsimp only [drawF, drawG, c, c2, c3, p18, mc, ix, fd, md, hm, fC_ap, fOp2_ap, fOp1_ap, fNil_ap, fCons_ap, fOpN_ap, fLst_ap, fB_ap, fAnd_ap, fOr_ap, fNot_ap, fAndV_ap, fOrV_ap, fNotV_ap, fIfE_ap, fChain_ap, fNoP_ap, fSomeP_ap, fSl_ap, fOwn_ap, fItL_ap, fItT_ap, fItScr_ap, fRng1_ap, fRng2_ap, fYes_ap, fLc_ap, fAA_ap, gSeq_ap, gNop_ap, gSet_ap, gIf_ap, gRet_ap, gRaise_ap, gExpr_ap, gBreak_ap, gCont_ap, gFor_ap, bind_ok, bind_exc, bind_no, thn_ok, thn_exc, thn_no, then_nx, then_rt, then_exc, then_bk, then_ct, lift_some, lift_none, toB_b, toI_i, toL_l, toT_t, toScr_s, lstOnly_l, allD_nil, allD_cons, map_some', lcG_nil, aaG_nil, forG_nil, fName_z, fName_s, fNameB_z, fNameB_zo, fNameB_s, fIsP_z, fIsP_s, aName_ap, aNil_ap, aCons_ap, aTup_ap, wipeE_nil, wipeE_cons, hEq_ii, hNe_ii, hAdd_ii, hSub_ii, hLe_ii, hLtI_ii, hGt_ii, hGe_ii, hIs_bb, hIsNot_bb, List.set_cons_zero, List.set_cons_succ, List.map_cons, List.map_nil, List.cons_append, List.nil_append, hLen_l, hLen_t, hLen_s, hTup_ap, hLst_ap, hTuple_l, hTuple_t, hList_l, hList_t, hAbs_i, hIntOf_i, hIntOf_b, hNeg_i, hIsi_int, hIsi_bool, hIsi_tuple, hIsi_list, hIsi_str, hSl_l, hSl_t, hSl_s, hIx_l0, hIx_t0, hIx_l1, hIx_t1, hIx_l2, hIx_t2, hXor_ii, sv, Option.map_some, Option.bind_some, List.length_cons, List.length_nil, reduceIte, Nat.reduceLT, Nat.reduceLeDiff, Nat.reduceAdd, Bool.false_eq_true, Bool.not_true, Bool.not_false, gAsg_ap, gUnpackLoc_ap, gStoreLoc_ap, gPar_ap, runF_fin, finR_nx, finR_rt, finR_exc, List.replicate_succ, List.replicate_zero, Nat.reduceSub, List.getElem?_cons_zero, List.getElem?_cons_succ, hLt_ii, pInt, pBool, pTup, pList, pStr, decide_eq_true_eq, fIt_ap, toS_l, toS_t, hid_ap, List.getElem?_cons_zero]
    · refine ⟨_, _, ?_, last (t + 1) m (by omega) (by omega)⟩
      simp -implicitDefEqProofs -dsimp only [drawF, drawG, c, c2, p18, mc, ix, fd, md, hm, fC_ap, fOp2_ap, fOp1_ap, fNil_ap, fCons_ap, fOpN_ap, fLst_ap, fB_ap, fAnd_ap, fOr_ap, fNot_ap, fAndV_ap, fOrV_ap, fNotV_ap, fIfE_ap, fChain_ap, fNoP_ap, fSomeP_ap, fSl_ap, fOwn_ap, fItL_ap, fItT_ap, fItScr_ap, fRng1_ap, fRng2_ap, fYes_ap, fLc_ap, fAA_ap, gSeq_ap, gNop_ap, gSet_ap, gIf_ap, gRet_ap, gRaise_ap, gExpr_ap, gBreak_ap, gCont_ap, gFor_ap, bind_ok, bind_exc, bind_no, thn_ok, thn_exc, thn_no, then_nx, then_rt, then_exc, then_bk, then_ct, lift_some, lift_none, toB_b, toI_i, toL_l, toT_t, toScr_s, lstOnly_l, allD_nil, allD_cons, map_some', lcG_nil, aaG_nil, forG_nil, fName_z, fName_s, fNameB_z, fNameB_zo, fNameB_s, fIsP_z, fIsP_s, aName_ap, aNil_ap, aCons_ap, aTup_ap, wipeE_nil, wipeE_cons, hEq_ii, hNe_ii, hAdd_ii, hSub_ii, hLe_ii, hLtI_ii, hGt_ii, hGe_ii, hIs_bb, hIsNot_bb, List.set_cons_zero, List.set_cons_succ, List.map_cons, List.map_nil, List.cons_append, List.nil_append, hLen_l, hLen_t, hLen_s, hTup_ap, hLst_ap, hTuple_l, hTuple_t, hList_l, hList_t, hAbs_i, hIntOf_i, hIntOf_b, hNeg_i, hIsi_int, hIsi_bool, hIsi_tuple, hIsi_list, hIsi_str, hSl_l, hSl_t, hSl_s, hIx_l0, hIx_t0, hIx_l1, hIx_t1, hIx_l2, hIx_t2, hXor_ii, sv, Option.map_some, Option.bind_some, List.length_cons, List.length_nil, reduceIte, Nat.reduceLT, Nat.reduceLeDiff, Nat.reduceAdd, Bool.false_eq_true, Bool.not_true, Bool.not_false, gAsg_ap, gUnpackLoc_ap, gStoreLoc_ap, gPar_ap, runF_fin, finR_nx, finR_rt, finR_exc, List.replicate_succ, List.replicate_zero, Nat.reduceSub, List.getElem?_cons_zero, List.getElem?_cons_succ, hLt_ii, pInt, pBool, pTup, pList, pStr, decide_eq_true_eq, fIt_ap, toS_l, toS_t, hid_ap, List.getElem?_cons_zero]
  · refine ⟨_, _, ?_, last t l (by omega) (by omega)⟩
    simp -implicitDefEqProofs -dsimp only [drawF, drawG, c, p18, fd, md, fC_ap, fOp2_ap, fOp1_ap, fNil_ap, fCons_ap, fOpN_ap, fLst_ap, fB_ap, fAnd_ap, fOr_ap, fNot_ap, fAndV_ap, fOrV_ap, fNotV_ap, fIfE_ap, fChain_ap, fNoP_ap, fSomeP_ap, fSl_ap, fOwn_ap, fItL_ap, fItT_ap, fItScr_ap, fRng1_ap, fRng2_ap, fYes_ap, fLc_ap, fAA_ap, gSeq_ap, gNop_ap, gSet_ap, gIf_ap, gRet_ap, gRaise_ap, gExpr_ap, gBreak_ap, gCont_ap, gFor_ap, bind_ok, bind_exc, bind_no, thn_ok, thn_exc, thn_no, then_nx, then_rt, then_exc, then_bk, then_ct, lift_some, lift_none, toB_b, toI_i, toL_l, toT_t, toScr_s, lstOnly_l, allD_nil, allD_cons, map_some', lcG_nil, aaG_nil, forG_nil, fName_z, fName_s, fNameB_z, fNameB_zo, fNameB_s, fIsP_z, fIsP_s, aName_ap, aNil_ap, aCons_ap, aTup_ap, wipeE_nil, wipeE_cons, hEq_ii, hNe_ii, hAdd_ii, hSub_ii, hLe_ii, hLtI_ii, hGt_ii, hGe_ii, hIs_bb, hIsNot_bb, List.set_cons_zero, List.set_cons_succ, List.map_cons, List.map_nil, List.cons_append, List.nil_append, hLen_l, hLen_t, hLen_s, hTup_ap, hLst_ap, hTuple_l, hTuple_t, hList_l, hList_t, hAbs_i, hIntOf_i, hIntOf_b, hNeg_i, hIsi_int, hIsi_bool, hIsi_tuple, hIsi_list, hIsi_str, hSl_l, hSl_t, hSl_s, hIx_l0, hIx_t0, hIx_l1, hIx_t1, hIx_l2, hIx_t2, hXor_ii, sv, Option.map_some, Option.bind_some, List.length_cons, List.length_nil, reduceIte, Nat.reduceLT, Nat.reduceLeDiff, Nat.reduceAdd, Bool.false_eq_true, Bool.not_true, Bool.not_false, gAsg_ap, gUnpackLoc_ap, gStoreLoc_ap, gPar_ap, runF_fin, finR_nx, finR_rt, finR_exc, List.replicate_succ, List.replicate_zero, Nat.reduceSub, List.getElem?_cons_zero, List.getElem?_cons_succ, hLt_ii, pInt, pBool, pTup, pList, pStr, decide_eq_true_eq, fIt_ap, toS_l, toS_t, hid_ap, List.getElem?_cons_zero]
theorem e_open {ns : List Int} (h : ScrOk ns) (st : Sto) : ∃ ds, openF [.scr ns] st = .ok (.d (.list ds)) st ∧ Draws ds := by
  have hl := h.1
  refine ⟨_, ?_, 0, 0, (ns.take 63).map (fun i => if i < 0 then -i else i) ++ [0], rfl, by decide, by decide, by simp, fun c hc => ?_⟩
  · have cut : cutD ns none (some 63) = ns.take 63 := cut_to (by decide)
    have e : (ns.take 63).map PyData.int = iL (ns.take 63) := rfl
    have lc : ∀ st, lcG (aName 2) fYes (fOpN hAbs (fCons (fOpN hIntOf (fCons (fName 2) fNil)) fNil)) [.frz (.scr ns), .un, .un] (iL (ns.take 63)) [] st = .ok (.d (.list (iL ((ns.take 63).map fun i => if i < 0 then -i else i)))) st := fun st => by
      rw [lcG_ints' (fun i => .int (if i < 0 then -i else i)) (by simp; omega)]
      · unfold iL; rw [List.map_map]; rfl
      · intro i hi
        refine ⟨_, rfl, fun st => ?_⟩
        simp -implicitDefEqProofs -dsimp only [fC_ap, fOp2_ap, fOp1_ap, fNil_ap, fCons_ap, fOpN_ap, fLst_ap, fB_ap, fAnd_ap, fOr_ap, fNot_ap, fAndV_ap, fOrV_ap, fNotV_ap, fIfE_ap, fChain_ap, fNoP_ap, fSomeP_ap, fSl_ap, fOwn_ap, fItL_ap, fItT_ap, fItScr_ap, fRng1_ap, fRng2_ap, fYes_ap, fLc_ap, fAA_ap, gSeq_ap, gNop_ap, gSet_ap, gIf_ap, gRet_ap, gRaise_ap, gExpr_ap, gBreak_ap, gCont_ap, gFor_ap, bind_ok, bind_exc, bind_no, thn_ok, thn_exc, thn_no, then_nx, then_rt, then_exc, then_bk, then_ct, lift_some, lift_none, toB_b, toI_i, toL_l, toT_t, toScr_s, lstOnly_l, allD_nil, allD_cons, map_some', lcG_nil, aaG_nil, forG_nil, fName_z, fName_s, fNameB_z, fNameB_zo, fNameB_s, fIsP_z, fIsP_s, aName_ap, aNil_ap, aCons_ap, aTup_ap, wipeE_nil, wipeE_cons, hEq_ii, hNe_ii, hAdd_ii, hSub_ii, hLe_ii, hLtI_ii, hGt_ii, hGe_ii, hIs_bb, hIsNot_bb, List.set_cons_zero, List.set_cons_succ, List.map_cons, List.map_nil, List.cons_append, List.nil_append, hLen_l, hLen_t, hLen_s, hTup_ap, hLst_ap, hTuple_l, hTuple_t, hList_l, hList_t, hAbs_i, hIntOf_i, hIntOf_b, hNeg_i, hIsi_int, hIsi_bool, hIsi_tuple, hIsi_list, hIsi_str, hSl_l, hSl_t, hSl_s, hIx_l0, hIx_t0, hIx_l1, hIx_t1, hIx_l2, hIx_t2, hXor_ii, sv, Option.map_some, Option.bind_some, List.length_cons, List.length_nil, reduceIte, Nat.reduceLT, Nat.reduceLeDiff, Nat.reduceAdd, Bool.false_eq_true, Bool.not_true, Bool.not_false, gAsg_ap, gUnpackLoc_ap, gStoreLoc_ap, gPar_ap, runF_fin, finR_nx, finR_rt, finR_exc, List.replicate_succ, List.replicate_zero, Nat.reduceSub, List.getElem?_cons_zero, List.getElem?_cons_succ, hLt_ii, pInt, pBool, pTup, pList, pStr, decide_eq_true_eq, fIt_ap, toS_l, toS_t, hid_ap]
    have ap : hAdd (.d (.list (iL ((ns.take 63).map fun i => if i < 0 then -i else i)))) (.d (.list [.int 0])) = some (.d (.list (iL ((ns.take 63).map (fun i => if i < 0 then -i else i) ++ [0])))) := by
      rw [hAdd_ll (by rw [iL_len]; simp; omega), ← iL_app]; rfl
    simp -implicitDefEqProofs -dsimp only [openF, openG, cut, e, lc, ap, fC_ap, fOp2_ap, fOp1_ap, fNil_ap, fCons_ap, fOpN_ap, fLst_ap, fB_ap, fAnd_ap, fOr_ap, fNot_ap, fAndV_ap, fOrV_ap, fNotV_ap, fIfE_ap, fChain_ap, fNoP_ap, fSomeP_ap, fSl_ap, fOwn_ap, fItL_ap, fItT_ap, fItScr_ap, fRng1_ap, fRng2_ap, fYes_ap, fLc_ap, fAA_ap, gSeq_ap, gNop_ap, gSet_ap, gIf_ap, gRet_ap, gRaise_ap, gExpr_ap, gBreak_ap, gCont_ap, gFor_ap, bind_ok, bind_exc, bind_no, thn_ok, thn_exc, thn_no, then_nx, then_rt, then_exc, then_bk, then_ct, lift_some, lift_none, toB_b, toI_i, toL_l, toT_t, toScr_s, lstOnly_l, allD_nil, allD_cons, map_some', lcG_nil, aaG_nil, forG_nil, fName_z, fName_s, fNameB_z, fNameB_zo, fNameB_s, fIsP_z, fIsP_s, aName_ap, aNil_ap, aCons_ap, aTup_ap, wipeE_nil, wipeE_cons, hEq_ii, hNe_ii, hAdd_ii, hSub_ii, hLe_ii, hLtI_ii, hGt_ii, hGe_ii, hIs_bb, hIsNot_bb, List.set_cons_zero, List.set_cons_succ, List.map_cons, List.map_nil, List.cons_append, List.nil_append, hLen_l, hLen_t, hLen_s, hTup_ap, hLst_ap, hTuple_l, hTuple_t, hList_l, hList_t, hAbs_i, hIntOf_i, hIntOf_b, hNeg_i, hIsi_int, hIsi_bool, hIsi_tuple, hIsi_list, hIsi_str, hSl_l, hSl_t, hSl_s, hIx_l0, hIx_t0, hIx_l1, hIx_t1, hIx_l2, hIx_t2, hXor_ii, sv, Option.map_some, Option.bind_some, List.length_cons, List.length_nil, reduceIte, Nat.reduceLT, Nat.reduceLeDiff, Nat.reduceAdd, Bool.false_eq_true, Bool.not_true, Bool.not_false, gAsg_ap, gUnpackLoc_ap, gStoreLoc_ap, gPar_ap, runF_fin, finR_nx, finR_rt, finR_exc, List.replicate_succ, List.replicate_zero, Nat.reduceSub, List.getElem?_cons_zero, List.getElem?_cons_succ, hLt_ii, pInt, pBool, pTup, pList, pStr, decide_eq_true_eq, fIt_ap, toS_l, toS_t, hid_ap]
  · rcases List.mem_append.mp hc with h | h
    · obtain ⟨i, _, rfl⟩ := List.mem_map.mp h
      split <;> omega
    · simp at h; omega
theorem gOwn_ap {i : Nat} {f : DF DV} {env : DEnv} {st : Sto} : gOwn i f env st = (f env st).thn fun d st1 => match d with
  | .d (.list ds) => .nx (env.set i (.own (.list ds))) st1
  | _ => .no := rfl
/-! loops -/
def NxI (I : DEnv → Sto → Prop) (r : SRes) : Prop := ∃ e s, r = .nx e s ∧ I e s
def RtV (d : DV) (r : SRes) : Prop := ∃ s, r = .rt d s
theorem for_seq {I : DEnv → Sto → Prop} {P : SRes → Prop} {a : AF} {b k : SF} : ∀ {items : List PyData} {env : DEnv} {st : Sto}, I env st → (∀ d ∈ items, ∀ env st, I env st → ∃ env1, a d env = some env1 ∧ NxI I (b env1 st)) → (∀ env st, I env st → P (k env st)) → P ((forG a b items env st).andThen k)
  | [], env, st, hI, _, hk => hk env st hI
  | d :: ds, env, st, hI, hs, hk => by
    obtain ⟨env1, h1, e, s, h2, h3⟩ := hs d (by simp) env st hI
    have : forG a b (d :: ds) env st = forG a b ds e s := by
      show (match a d env with | none => _ | some env1 => _) = _
      rw [h1]
      show (match b env1 st with | .nx e s => _ | .ct e s => _ | .bk e s => _ | r => _) = _
      rw [h2]
    rw [this]
    exact for_seq h3 (fun d hd => hs d (by simp [hd])) hk
theorem for_end {I : DEnv → Sto → Prop} {a : AF} {b : SF} {items : List PyData} {env : DEnv} {st : Sto} (hI : I env st) (hs : ∀ d ∈ items, ∀ env st, I env st → ∃ env1, a d env = some env1 ∧ NxI I (b env1 st)) : NxI I (forG a b items env st) := by
  have := for_seq (P := NxI I) (k := gNop) hI hs (fun env st h => ⟨env, st, rfl, h⟩)
  cases h : forG a b items env st with
  | nx e s => rw [h] at this; exact this
  | _ => rw [h] at this; obtain ⟨_, _, e, _⟩ := this; cases e
theorem hEq_t0 {a : List Int} : hEq (.d (.tuple (iL a))) (.d (.tuple [])) = some (.d (.bool (decide (a = [])))) := hEq_tt (b := [])
theorem hNe_t0 {a : List Int} : hNe (.d (.tuple (iL a))) (.d (.tuple [])) = some (.d (.bool (!decide (a = [])))) := hNe_tt (b := [])
theorem hEq_l0 {a : List Int} : hEq (.d (.list (iL a))) (.d (.list [])) = some (.d (.bool (decide (a = [])))) := hEq_ll (b := [])
theorem hNe_l0 {a : List Int} : hNe (.d (.list (iL a))) (.d (.list [])) = some (.d (.bool (!decide (a = [])))) := hNe_ll (b := [])
theorem hNe_00 : hNe (.d (.list [])) (.d (.list [])) = some (.d (.bool false)) := hNe_ll (a := []) (b := [])
theorem hEq_00 : hEq (.d (.list [])) (.d (.list [])) = some (.d (.bool true)) := hEq_ll (a := []) (b := [])
theorem hNe_ss {a b : Str} (ha : PyData.strOk a = true) (hb : PyData.strOk b = true) : hNe (.d (.str a)) (.d (.str b)) = some (.d (.bool (!(a == b)))) := hNe_of (shaped_str ha) (shaped_str hb)
theorem lcN_filter {i : Nat} {t : DF Bool} {f : DF DV} {env : DEnv} {ds : List PyData} (p : PyData → Bool) (φ : PyData → PyData) (hl : ds.length ≤ 16777216) (hh : ∀ d ∈ ds, (∀ st, t (env.set i (.frz (.d d))) st = .ok (p d) st) ∧ ∀ st, p d = true → f (env.set i (.frz (.d d))) st = .ok (.d (φ d)) st) (st : Sto) :
    lcG (aName i) t f env ds [] st = .ok (.d (.list ((ds.filter p).map φ))) st := by
  rw [lcG_filter (a := aName i) p φ (fun d hd => ⟨_, rfl, hh d hd⟩) [] st (by rw [sv]; simpa using hl), List.nil_append]
theorem lcN_map {i : Nat} {f : DF DV} {env : DEnv} {ds : List PyData} (φ : PyData → PyData) (hl : ds.length ≤ 16777216) (hh : ∀ d ∈ ds, ∀ st, f (env.set i (.frz (.d d))) st = .ok (.d (φ d)) st) (st : Sto) :
    lcG (aName i) fYes f env ds [] st = .ok (.d (.list (ds.map φ))) st := by
  rw [lcG_map (a := aName i) φ (fun d hd => ⟨_, rfl, hh d hd⟩) [] st (by rw [sv]; simpa using hl), List.nil_append]
theorem lcN_ints {i : Nat} {t : DF Bool} {f : DF DV} {env : DEnv} {ns : List Int} (p : Int → Bool) (φ : Int → PyData) (hl : ns.length ≤ 16777216) (hh : ∀ x ∈ ns, (∀ st, t (env.set i (.frz (.d (.int x)))) st = .ok (p x) st) ∧ ∀ st, p x = true → f (env.set i (.frz (.d (.int x)))) st = .ok (.d (φ x)) st) (st : Sto) :
    lcG (aName i) t f env (iL ns) [] st = .ok (.d (.list ((ns.filter p).map φ))) st := lcG_ints p φ hl (fun x hx => ⟨_, rfl, hh x hx⟩) st
theorem lcN_ints' {i : Nat} {f : DF DV} {env : DEnv} {ns : List Int} (φ : Int → PyData) (hl : ns.length ≤ 16777216) (hh : ∀ x ∈ ns, ∀ st, f (env.set i (.frz (.d (.int x)))) st = .ok (.d (φ x)) st) (st : Sto) :
    lcG (aName i) fYes f env (iL ns) [] st = .ok (.d (.list (ns.map φ))) st := lcG_ints' φ hl (fun x hx => ⟨_, rfl, hh x hx⟩) st
theorem nats_len {n : Nat} : (nats n).length = n := by unfold nats; simp
end DL


set_option Elab.async false
set_option linter.all false
set_option maxRecDepth 100000
set_option maxHeartbeats 4000000
namespace DL
open PySem PySem.Spec PyProof.Rows L2
/-! ### dicts of one's own: keys that are ints or tuples of ints -/
section
variable {κ0 κ α : Type} [DecidableEq κ0] [DecidableEq κ]
def lk (kvs : List (κ0 × α)) (k : κ0) : Option α := match kvs with
  | [] => none
  | p :: r => if p.1 = k then some p.2 else lk r k
def hasK (kvs : List (κ0 × α)) (k : κ0) : Bool := kvs.any fun p => decide (p.1 = k)
def put (kvs : List (κ0 × α)) (k : κ0) (v : α) : List (κ0 × α) := if hasK kvs k = true then kvs.map (fun p => if p.1 = k then (p.1, v) else p) else kvs ++ [(k, v)]
variable {kc : κ0 → κ} {K : PySem.W.Frag} {F : FS} {H : Hp}
theorem lk_has : ∀ {kvs : List (κ0 × α)} {k : κ0}, hasK kvs k = (lk kvs k).isSome
  | [], k => rfl
  | p :: r, k => by
    unfold lk
    by_cases h : p.1 = k
    · rw [if_pos h]; simp [hasK, h]
    · rw [if_neg h, ← lk_has (kvs := r)]; simp [hasK, h]
theorem Al.lk (hi : ∀ a b, kc a = kc b → a = b) : ∀ {kvs : List (κ0 × PyData)} {ks : List (κ × V)} (k : κ0), Al kc K F H kvs ks → match DL.lk kvs k with
    | none => valV ks (kc k) = none
    | some d => ∃ v, valV ks (kc k) = some v ∧ Rep K F H d v
  | [], ks, k, h => by have h : ks = [] := h; subst h; exact rfl
  | p :: r, ks, k, h => by
    obtain ⟨v, t, rfl, h1, h2⟩ := h
    unfold DL.lk
    by_cases e : p.1 = k
    · rw [if_pos e]
      exact ⟨v, valV_pos (by rw [← e]), h1⟩
    · rw [if_neg e]
      rw [valV_neg (fun z => e (hi _ _ z))]
      exact Al.lk hi k h2
theorem Al.map (hi : ∀ a b, kc a = kc b → a = b) {k : κ0} {d : PyData} {v : V} (hv : Rep K F H d v) : ∀ {kvs : List (κ0 × PyData)} {ks : List (κ × V)}, Al kc K F H kvs ks → Al kc K F H (kvs.map fun p => if p.1 = k then (p.1, d) else p) (ks.map fun kv => if kv.1 = kc k then (kv.1, v) else kv)
  | [], ks, h => by have h : ks = [] := h; subst h; exact rfl
  | p :: r, ks, h => by
    obtain ⟨w, t, rfl, h1, h2⟩ := h
    by_cases e : p.1 = k
    · refine ⟨v, t.map fun kv => if kv.1 = kc k then (kv.1, v) else kv, ?_, ?_, Al.map hi hv h2⟩
      · simp [e]
      · simp [e]; exact hv
    · refine ⟨w, t.map fun kv => if kv.1 = kc k then (kv.1, v) else kv, ?_, ?_, Al.map hi hv h2⟩
      · have : ¬ kc p.1 = kc k := fun z => e (hi _ _ z)
        simp [e, this]
      · simp [e]; exact h1
theorem Al.snoc {k : κ0} {d : PyData} {v : V} (hv : Rep K F H d v) : ∀ {kvs : List (κ0 × PyData)} {ks : List (κ × V)}, Al kc K F H kvs ks → Al kc K F H (kvs ++ [(k, d)]) (ks ++ [(kc k, v)])
  | [], ks, h => by have h : ks = [] := h; subst h; exact ⟨v, [], rfl, hv, rfl⟩
  | p :: r, ks, h => by
    obtain ⟨w, t, rfl, h1, h2⟩ := h
    exact ⟨w, t ++ [(kc k, v)], rfl, h1, Al.snoc hv h2⟩
theorem Al.has (hi : ∀ a b, kc a = kc b → a = b) {k : κ0} : ∀ {kvs : List (κ0 × PyData)} {ks : List (κ × V)}, Al kc K F H kvs ks → (ks.any fun kv => decide (kv.1 = kc k)) = hasK kvs k
  | [], ks, h => by have h : ks = [] := h; subst h; rfl
  | p :: r, ks, h => by
    obtain ⟨w, t, rfl, h1, h2⟩ := h
    have ih := Al.has hi (k := k) h2
    unfold hasK at ih ⊢
    rw [List.any_cons, List.any_cons, ih]
    congr 1
    rw [Bool.eq_iff_iff, decide_eq_true_eq, decide_eq_true_eq]
    exact ⟨hi _ _, fun z => congrArg kc z⟩
theorem Al.put (hi : ∀ a b, kc a = kc b → a = b) {k : κ0} {d : PyData} {v : V} (hv : Rep K F H d v) {kvs : List (κ0 × PyData)} {ks : List (κ × V)} (h : Al kc K F H kvs ks) : Al kc K F H (DL.put kvs k d) (putK ks (kc k) v) := by
  unfold DL.put putK
  rw [h.has hi]
  split
  · exact h.map hi hv
  · exact h.snoc hv
theorem Al.get : ∀ {kvs : List (κ0 × PyData)} {ks : List (κ × V)} {i : Nat}, Al kc K F H kvs ks → ks[i]?.map (·.1) = kvs[i]?.map fun p => kc p.1
  | [], ks, i, h => by have h : ks = [] := h; subst h; simp
  | p :: r, ks, i, h => by
    obtain ⟨w, t, rfl, h1, h2⟩ := h
    cases i with
    | zero => simp
    | succ i => simpa using Al.get (i := i) h2
end
theorem kI_inj : ∀ a b, kI a = kI b → a = b := fun a b h => Sum.inl.inj h
theorem kT_inj : ∀ a b, kT a = kT b → a = b := fun a b h => by
  unfold kT at h
  exact List.map_inj_right (fun x y z => Sum.inl.inj z) |>.mp h
theorem kT_map {ns : List Int} : (kT ns).map kV = ns.map V.int := by
  unfold kT
  rw [List.map_map]
  rfl
section
variable {X : Cx} {T : FS} {B : Bs} {F : FS} {H : Hp} {σ : L2.St} {st : Sto} {env : DEnv}
theorem SR.objAt (sr : SR X.K T B env st σ H F) {i : Nat} {l : Bool} {x : OX} (hi : env[i]? = some (.obj l x)) : ∃ a, σ[i]? = some (some (.ref a)) ∧ ObjAt X.K F H l x a ∧ B.dr ≠ some a ∧ ¬ F a := by
  obtain ⟨fps, h1, h2, h3⟩ := sr.slots
  obtain ⟨o, e1, a, b1, rfl, nd, e4⟩ := h1 i _ hi
  exact ⟨a, e1, e4, nd, (h3 i a (by rw [b1]; simp)).1⟩
/-- what stands there now -/
theorem ObjAt.some {K : PySem.W.Frag} {l : Bool} {x : OX} {a : Addr} (h : ObjAt K F H l x a) : ∃ o, H a = some o ∧ ¬ isTbl o ∧ (∀ xs, o ≠ .tup xs) ∧ (l = false → Mut (some o) ∧ ¬ Stable o ∧ ∀ xs, o ≠ .lst xs) := by
  cases x with
  | di kvs =>
    obtain ⟨ks, h1, _⟩ := h
    cases l with
    | false => exact ⟨_, h1, by simp [isTbl], by simp, fun _ => ⟨trivial, by simp [Stable], by simp⟩⟩
    | true =>
      obtain ⟨od, h1⟩ := h1
      exact ⟨_, h1, by simp [isTbl], by simp, fun z => by cases z⟩
  | dt kvs =>
    obtain ⟨ks, h1, _⟩ := h
    cases l with
    | false => exact ⟨_, h1, by simp [isTbl], by simp, fun _ => ⟨trivial, by simp [Stable], by simp⟩⟩
    | true =>
      obtain ⟨od, h1⟩ := h1
      exact ⟨_, h1, by simp [isTbl], by simp, fun z => by cases z⟩
/-- a dict of one's own, changed -/
theorem SR.mutO (sr : SR X.K T B env st σ H F) {i : Nat} {x x' : OX} (hi : env[i]? = some (.obj false x)) {a : Addr} (ha : σ[i]? = some (some (.ref a))) {o' : HO} (r : ∀ H' : Hp, PK F H H' → H' a = some o' → ObjAt X.K F H' false x' a) :
    SR X.K T B (env.set i (.obj false x')) st σ (upd H a o') F ∧ SExt F F H (upd H a o') := by
  obtain ⟨fps, h1, h2, h3⟩ := sr.slots
  obtain ⟨o, e1, e2⟩ := h1 i _ hi
  rw [ha] at e1
  cases e1
  obtain ⟨b, b1, b2, b3, b4⟩ := e2
  cases b2
  obtain ⟨oo, hx, nt, _, hm⟩ := b4.some
  obtain ⟨_, ns, nl⟩ := hm rfl
  have hmem : a ∈ fps i := by rw [b1]; simp
  obtain ⟨nF, nd, n0, _⟩ := h3 i a hmem
  have pk : PK F H (upd H a o') := fun c o h q t => by
    refine Eq.trans (upd_ne fun z => ?_) h
    subst z
    rcases q with q | q
    · exact nF q
    · rw [hx] at h; cases h; exact ns q
  have at_ : ∀ c, c ≠ a → upd H a o' c = H c := fun c h => upd_ne h
  refine ⟨⟨⟨fun c f => ?_, sr.wd.fdr, fun c q => ?_, fun P q => ?_⟩, fun c o h t d => ?_, fun c ps h d => ?_, sr.fsub, sr.fnew, by rw [List.length_set]; exact sr.len, fps, fun k s h => ?_, h2, fun k c hc => ?_⟩, ⟨fun _ f => f, pk⟩⟩
  · by_cases z : c = a
    · rw [z, upd_same]; simp
    · rw [at_ c z]; exact sr.wd.live c f
  · obtain ⟨zs, z1, z2⟩ := sr.wd.sto c q
    have z : c ≠ a := fun z => nd (by rw [← z]; exact q)
    exact ⟨zs, by rw [at_ c z]; exact z1, Reps.pk pk (fun _ f => f) _ _ z2⟩
  · obtain ⟨ps, z1, z2⟩ := sr.wd.tabs P q
    refine ⟨ps, ?_, z2⟩
    rw [at_ P fun z => by rw [z, hx] at z1; cases z1; exact nt trivial]
    exact z1
  · rw [at_ c fun z => by rw [z, n0] at h; cases h]
    exact sr.base c o h t d
  · rw [at_ c fun z => by rw [z, n0] at h; cases h]
    exact sr.btbl c ps h d
  · by_cases hk : k = i
    · subst hk
      have hlt : k < env.length := (List.getElem?_eq_some_iff.mp hi).1
      rw [List.getElem?_set_self hlt] at h
      cases h
      exact ⟨some (.ref a), ha, a, b1, rfl, nd, r _ pk upd_same⟩
    · rw [List.getElem?_set_ne (Ne.symm hk)] at h
      obtain ⟨o'', e4, e5⟩ := h1 k s h
      refine ⟨o'', e4, ?_⟩
      cases s with
      | un => exact e5
      | pin w => exact e5
      | obj l y =>
        obtain ⟨c, f1, f2, f4, f3⟩ := e5
        have z : c ≠ a := fun z => hk (h2 k i a (by rw [f1, z]; simp) hmem)
        exact ⟨c, f1, f2, f4, f3.keep (fun o q _ => by rw [at_ c z]; exact q) pk fun _ f => f⟩
      | frz v =>
        obtain ⟨f1, w, f2, f3⟩ := e5
        refine ⟨f1, w, f2, ?_⟩
        cases v with
        | d y => exact Rep.pk pk (fun _ f => f) y w f3
        | loc => exact f3
        | scr ns =>
          obtain ⟨c, rfl, f3⟩ := f3
          refine ⟨c, rfl, f3.imp (fun ⟨f, rd⟩ => ⟨f, ?_⟩) id⟩
          rcases rd with rd | ⟨oo, rd⟩
          · exact .inl (pk c _ rd (.inl f) (by simp [isTbl]))
          · exact .inr ⟨oo, pk c _ rd (.inl f) (by simp [isTbl])⟩
      | own y =>
        obtain ⟨c, f1, f2, f4, f3⟩ := e5
        refine ⟨c, f1, f2, f4, ?_⟩
        cases y <;> first | exact f3.elim | skip
        obtain ⟨zs, z1, z2⟩ := f3
        have z : c ≠ a := fun z => hk (h2 k i a (by rw [f1, z]; simp) hmem)
        exact ⟨zs, by rw [at_ c z]; exact z1, Reps.pk pk (fun _ f => f) _ _ z2⟩
  · obtain ⟨z1, z2, z3, z4⟩ := h3 k c hc
    refine ⟨z1, z2, z3, ?_⟩
    by_cases z : c = a
    · rw [z, upd_same]; simp
    · rw [at_ c z]; exact z4
/-- a new one -/
theorem SR.newO (sr : SR X.K T B env st σ H F) {i : Nat} {x : OX} {p : Addr} {o : HO} (hp : H p = none) (r : ∀ H' : Hp, H' p = some o → ObjAt X.K F H' false x p) : SR X.K T B (env.set i (.obj false x)) st (σ.set i (some (.ref p))) (upd H p o) F ∧ Ext B F F H (upd H p o) := by
  have e : Ext B F F H (upd H p o) := Ext.alloc hp
  have sr1 := sr.ext e (sr.wd.alloc hp)
  have hd : B.dr ≠ some p := fun q => sr.wd.dr_some q hp
  have hf : ¬ F p := fun f => sr.wd.live p f hp
  have h0 : B.H0 p = none := by
    cases q : B.H0 p with
    | none => rfl
    | some o =>
      rcases tbl_or o with t | t
      · obtain ⟨ps, rfl⟩ := isTbl_eq t
        obtain ⟨qs, z⟩ := sr.btbl p ps q hd
        rw [hp] at z; cases z
      · have z := sr.base p o q t hd
        rw [hp] at z; cases z
  refine ⟨?_, e⟩
  obtain ⟨fps, k1, k2, k3⟩ := sr.slots
  refine sr1.set (fp := [p]) ⟨p, rfl, rfl, hd, r _ upd_same⟩ (fun a ha => ?_) (fun gps g1 g3 j a hj hjl ha hm => ?_)
  · rw [List.mem_singleton.mp ha]
    exact ⟨hf, hd, h0, by rw [upd_same]; simp⟩
  · have ea := List.mem_singleton.mp hm
    subst ea
    obtain ⟨s, hs⟩ : ∃ s, env[j]? = some s := ⟨env[j], List.getElem?_eq_getElem hjl⟩
    obtain ⟨o2, e2, e3⟩ := g1 j s hs
    obtain ⟨o', e2', e3'⟩ := k1 j s hs
    rw [e2] at e2'
    cases e2'
    have : a ∈ fps j := by
      cases s with
      | un => rw [show gps j = [] from e3] at ha; simp at ha
      | frz v => rw [show gps j = [] from e3.1] at ha; simp at ha
      | pin w => rw [show gps j = [] from e3.1] at ha; simp at ha
      | obj l y =>
        obtain ⟨b, b1, b2, _⟩ := e3
        obtain ⟨c, c1, c2, _⟩ := e3'
        rw [b2] at c2
        cases c2
        rw [b1] at ha
        rw [c1]
        exact ha
      | own y =>
        obtain ⟨b, b1, b2, _⟩ := e3
        obtain ⟨c, c1, c2, _⟩ := e3'
        rw [b2] at c2
        cases c2
        rw [b1] at ha
        rw [c1]
        exact ha
    exact (k3 j a this).2.2.2 hp
end
end DL

set_option Elab.async false
set_option linter.all false
set_option maxRecDepth 100000
set_option maxHeartbeats 4000000
namespace DL
open PySem PySem.Spec PyProof.Rows L2
/-! ### dicts of one's own: rules -/
section
variable {X : Cx} {T : FS} {W : WX} {nw m : Bool} {pos p1 p2 : Pos} {e a b tg : Expr} {f g : DF DV} {s : Stmt}
def gDNew (i : Nat) (x : OX) : SF := fun env st => .nx (env.set i (.obj false x)) st
theorem ds_dnewI {i : Nat} (ps : PS X s (tAsg tDNewK (gName i))) : DS X T W nw s (gDNew i (.di [])) := by
  refine ⟨PS.imp ps fun D σ H ⟨B, env, st, F, sr, q⟩ p hp => ?_⟩
  obtain ⟨s2, e2⟩ := sr.newO (i := i) (x := .di []) (o := .dK []) hp fun H' h => ⟨[], h, rfl⟩
  exact q (σ.set i (some (.ref p))) _ F s2 (SExt.of sr.wd e2)
theorem ds_dnewT {i : Nat} (ps : PS X s (tAsg tDNewT (gName i))) : DS X T W nw s (gDNew i (.dt [])) := by
  refine ⟨PS.imp ps fun D σ H ⟨B, env, st, F, sr, q⟩ p hp => ?_⟩
  obtain ⟨s2, e2⟩ := sr.newO (i := i) (x := .dt []) (o := .dT []) hp fun H' h => ⟨[], h, rfl⟩
  exact q (σ.set i (some (.ref p))) _ F s2 (SExt.of sr.wd e2)
/-- what stands at a key -/
def dget (x : OX) (k : DV) : Option (Option PyData) := match x, k with
  | .di kvs, .d (.int j) => some (lk kvs j)
  | .dt kvs, .d (.tuple ks) => (asInts ks).map fun ns => lk kvs ns
  | _, _ => none
theorem HOAt.rd {l : Bool} {H : Hp} {a : Addr} {o : HO} (h : HOAt l H a o) : Rd H a o := by
  cases l with
  | false => exact .inl h
  | true => exact .inr h
def RelD (K : PySem.W.Frag) (F : FS) (H : Hp) (r : Option PyData) (o : Option V) : Prop := match r with
  | none => o = none
  | some d => ∃ w, o = some w ∧ Rep K F H d w
theorem RelD.isSome {K : PySem.W.Frag} {F : FS} {H : Hp} {r : Option PyData} {o : Option V} (h : RelD K F H r o) : o.isSome = r.isSome := by
  cases r with
  | none => rw [show o = none from h]; rfl
  | some d => obtain ⟨w, g3, _⟩ := h; rw [g3]; rfl
theorem RelD.of_lk {κ0 κ : Type} [DecidableEq κ0] [DecidableEq κ] {kc : κ0 → κ} {K : PySem.W.Frag} {F : FS} {H : Hp} (hi : ∀ a b, kc a = kc b → a = b) {kvs : List (κ0 × PyData)} {ks : List (κ × V)} (k : κ0) (h : Al kc K F H kvs ks) : RelD K F H (lk kvs k) (valV ks (kc k)) := by
  have q := h.lk hi k
  unfold RelD
  cases z : lk kvs k with
  | none => rw [z] at q; exact q
  | some d => rw [z] at q; exact q
theorem dget_ok {K : PySem.W.Frag} {B : Bs} {F : FS} {H : Hp} {l : Bool} {x : OX} {a : Addr} {k : DV} {y : V} {r : Option PyData} (h : ObjAt K F H l x a) (v : View K B F H k y) (e : dget x k = some r) :
    ∃ o, DGet H a y o ∧ RelD K F H r o := by
  cases x with
  | di kvs =>
    cases k with
    | d z =>
      cases z with
      | int j =>
        cases e
        obtain ⟨ks, h1, h2⟩ := h
        have e1 := v.int
        subst e1
        exact ⟨valV ks (kI j), .inl ⟨ks, kI j, h1.rd, rfl, rfl⟩, RelD.of_lk kI_inj j h2⟩
      | _ => cases e
    | _ => cases e
  | dt kvs =>
    cases k with
    | d z =>
      cases z with
      | tuple ds =>
        have e : (asInts ds).map (fun ns => lk kvs ns) = some r := e
        cases hn : asInts ds with
        | none => rw [hn] at e; cases e
        | some ns =>
          rw [hn] at e
          cases e
          obtain ⟨ks, h1, h2⟩ := h
          obtain ⟨b, xs, rfl, s1, r1⟩ := v.tuple
          rw [asInts_some hn] at r1
          have e1 := r1.ofInts
          subst e1
          exact ⟨valV ks (kT ns), .inr ⟨ks, kT ns, b, h1.rd, rfl, by rw [kT_map]; exact s1, rfl⟩, RelD.of_lk kT_inj ns h2⟩
      | _ => cases e
    | _ => cases e
/-- key in d -/
def dIn (i : Nat) (env : DEnv) (k : DV) : Option Bool := match env[i]? with
  | some (.obj _ x) => (dget x k).map Option.isSome
  | _ => none
def fDIn (i : Nat) (f : DF DV) : DF DV := fun env st => (f env st).bind fun k st1 => lift ((dIn i env k).map fun b => .d (.bool b)) st1
def fDNotIn (i : Nat) (f : DF DV) : DF DV := fun env st => (f env st).bind fun k st1 => lift ((dIn i env k).map fun b => .d (.bool (!b))) st1
theorem din_tree {i : Nat} {σ : L2.St} {H : Hp} {Q : VK} (neg : Bool) (q : tDE X T W m (fun env st => (f env st).bind fun k st1 => lift ((dIn i env k).map fun b => .d (.bool (if neg = true then !b else b))) st1) σ H Q) :
    tDE X T W false f σ H fun y H1 => tVar i σ H1 fun x H2 => ∃ a o, x = .ref a ∧ DGet H2 a y o ∧ Q (.bl (if neg = true then !o.isSome else o.isSome)) H2 := by
  obtain ⟨B, env, st, F, sr, q⟩ := q
  refine tDE.go sr q fun d st1 v H1 F1 sr1 x1 r1 q1 => ?_
  obtain ⟨d2, hd, q2⟩ := Go.lift q1
  cases hI : dIn i env d with
  | none => rw [hI] at hd; cases hd
  | some bb =>
    rw [hI] at hd
    cases hd
    unfold dIn at hI
    split at hI
    · rename_i l x hi
      cases hg : dget x d with
      | none => rw [hg] at hI; cases hI
      | some r =>
        rw [hg] at hI
        cases hI
        obtain ⟨a, e1, e2, e3, _⟩ := sr1.objAt hi
        obtain ⟨o, g1, g2⟩ := dget_ok e2 (RepM.view r1) hg
        refine ⟨.ref a, e1, a, o, rfl, g1, ?_⟩
        rw [g2.isSome]
        refine q2 H1 F1 sr1.wd .refl _ (RepM.of ?_)
        simp only [RepD, Rep]
    · cases hI
theorem de_pc {op : CmpOp} {t : TE} {f : DF DV} (h : PC X op a b t) (i : ∀ σ H Q, tDE X T W m f σ H Q → t σ H Q) (h1 : behindInMarks op b = false) : DE X T W m (.Compare a [op] [b] pos) f := ⟨PE.imp (pe_cmp h h1) i⟩
theorem dt_pc {op : CmpOp} {t : TE} {f : DF DV} (h : PC X op a b t) (i : ∀ σ H Q, tDE X T W false f σ H Q → t σ H Q) (h1 : behindInMarks op b = false) : DT X T W (.Compare a [op] [b] pos) (fB f) :=
  ⟨PT.imp (pt_cmp h h1) fun σ H Q q => i σ H _ (tB_of (m := false) q)⟩
theorem hu_of {k : Nat} {A : Around} (hr : Room k A) : A.units + 1 < cLine := by have := hr.un; omega
theorem de_din {k i : Nat} {y : Str} (hr : Room k X.A) (ha : DE X T W false a f) (hy : PE X (.Name y p1) (tVar i)) (h1 : behindInMarks .In (.Name y p1) = false := by rfl) : DE X T W m (.Compare a [.In] [.Name y p1] pos) (fDIn i f) :=
  de_pc (pc_din (hu_of hr) ha.pe hy) (fun σ H Q q => din_tree false q) h1
theorem dt_din {k i : Nat} {y : Str} (hr : Room k X.A) (ha : DE X T W false a f) (hy : PE X (.Name y p1) (tVar i)) (h1 : behindInMarks .In (.Name y p1) = false := by rfl) : DT X T W (.Compare a [.In] [.Name y p1] pos) (fB (fDIn i f)) :=
  dt_pc (pc_din (hu_of hr) ha.pe hy) (fun σ H Q q => din_tree false q) h1
theorem de_dnotin {k i : Nat} {y : Str} (hr : Room k X.A) (ha : DE X T W false a f) (hy : PE X (.Name y p1) (tVar i)) (h1 : behindInMarks .NotIn (.Name y p1) = false := by rfl) : DE X T W m (.Compare a [.NotIn] [.Name y p1] pos) (fDNotIn i f) :=
  de_pc (pc_dnotin (hu_of hr) ha.pe hy) (fun σ H Q q => din_tree true q) h1
theorem dt_dnotin {k i : Nat} {y : Str} (hr : Room k X.A) (ha : DE X T W false a f) (hy : PE X (.Name y p1) (tVar i)) (h1 : behindInMarks .NotIn (.Name y p1) = false := by rfl) : DT X T W (.Compare a [.NotIn] [.Name y p1] pos) (fB (fDNotIn i f)) :=
  dt_pc (pc_dnotin (hu_of hr) ha.pe hy) (fun σ H Q q => din_tree true q) h1
/-- d[key] -/
def fDGet (i : Nat) (f : DF DV) : DF DV := fun env st => match env[i]? with
  | some (.obj _ x) => (f env st).bind fun k st1 => lift ((dget x k).bind fun r => r.map DV.d) st1
  | _ => .no
theorem de_dget {k i : Nat} {y : Str} (hr : Room k X.A) (ha : DE X T W false a f) (hy : PE X (.Name y p1) (tVar i)) (hs : NoSl a) : DE X T W m (.Subscript (.Name y p1) a pos) (fDGet i f) := by
  refine ⟨PE.imp (pe_dget (hu_of hr) hy ha.pe hs) fun σ H Q ⟨B, env, st, F, sr, q⟩ => ?_⟩
  unfold fDGet at q
  split at q
  · rename_i l x hi
    obtain ⟨c, c1, _⟩ := sr.objAt hi
    refine ⟨.ref c, c1, ?_⟩
    refine tDE.go sr q fun d st1 v H1 F1 sr1 x1 r1 q1 => ?_
    obtain ⟨d2, hd, q2⟩ := Go.lift q1
    cases hg : dget x d with
    | none => rw [hg] at hd; cases hd
    | some r =>
      rw [hg] at hd
      cases r with
      | none => cases hd
      | some d3 =>
        cases hd
        obtain ⟨a, e1, e2, e3, _⟩ := sr1.objAt hi
        rw [c1] at e1
        cases e1
        obtain ⟨o, g1, w, g3, g4⟩ := dget_ok e2 (RepM.view r1) hg
        subst g3
        exact ⟨c, w, rfl, g1, q2 H1 F1 sr1.wd .refl _ (RepM.of g4)⟩
  · exact q.elim
/-- d[key] = v -/
def dput (x : OX) (k : DV) (v : DV) : Option OX := match x, k, v with
  | .di kvs, .d (.int j), .d d => if kvs.length < sizeLine then some (.di (put kvs j d)) else none
  | .dt kvs, .d (.tuple ks), .d d => if kvs.length < sizeLine then (asInts ks).map fun ns => .dt (put kvs ns d) else none
  | _, _, _ => none
def gDPut (i : Nat) (fk fv : DF DV) : SF := fun env st => match env[i]? with
  | some (.obj false x) => (fv env st).thn fun v st1 => (fk env st1).thn fun k st2 => match dput x k v with
    | some x' => .nx (env.set i (.obj false x')) st2
    | none => .no
  | _ => .no
theorem dput_ok {K : PySem.W.Frag} {B : Bs} {F : FS} {H : Hp} {x x' : OX} {a : Addr} {k v : DV} {y w : V} (h : ObjAt K F H false x a) (vk : View K B F H k y) (rv : RepD K B F H v w) (e : dput x k v = some x') :
    ∃ o', DPut H a y w (upd H a o') ∧ ∀ H' : Hp, PK F H H' → H' a = some o' → ObjAt K F H' false x' a := by
  cases x with
  | di kvs =>
    cases k with
    | d z =>
      cases z with
      | int j =>
        cases v with
        | d dd =>
          have e : (if kvs.length < sizeLine then some (OX.di (put kvs j dd)) else none) = some x' := e
          split at e
          · rename_i hz
            cases e
            obtain ⟨ks, h1, h2⟩ := h
            have e1 := vk.int
            subst e1
            exact ⟨_, .inl ⟨ks, kI j, h1, rfl, by rw [h2.length]; exact hz, rfl⟩, fun H' pk q => ⟨_, q, (h2.put kI_inj rv).pk pk fun _ f => f⟩⟩
          · cases e
        | _ => cases e
      | _ => cases e
    | _ => cases e
  | dt kvs =>
    cases k with
    | d z =>
      cases z with
      | tuple ds =>
        cases v with
        | d dd =>
          have e : (if kvs.length < sizeLine then (asInts ds).map (fun ns => OX.dt (put kvs ns dd)) else none) = some x' := e
          split at e
          · rename_i hz
            cases hn : asInts ds with
            | none => rw [hn] at e; cases e
            | some ns =>
              rw [hn] at e
              cases e
              obtain ⟨ks, h1, h2⟩ := h
              obtain ⟨b, xs, rfl, s1, r1⟩ := vk.tuple
              rw [asInts_some hn] at r1
              have e1 := r1.ofInts
              subst e1
              exact ⟨_, .inr ⟨ks, kT ns, b, h1, rfl, by rw [kT_map]; exact s1, by rw [h2.length]; exact hz, rfl⟩, fun H' pk q => ⟨_, q, (h2.put kT_inj rv).pk pk fun _ f => f⟩⟩
          · cases e
        | _ => cases e
      | _ => cases e
    | _ => cases e
theorem ds_dput {k i : Nat} {y : Str} {value : Expr} {fk fv : DF DV} (hr : Room k X.A) (hv : DE X T W true value fv) (ha : DE X T W false a fk) (hy : PE X (.Name y p1) (tVar i)) (hs : swapsWith value (some (.Subscript (.Name y p1) a p2)) pos.line X.env = pure false := by rfl) :
    DS X T W nw (.Assign [.Subscript (.Name y p1) a p2] value pos) (gDPut i fk fv) := by
  refine ⟨PS.imp (ps_dput (hu_of hr) hy ha.pe hv.pe hs) fun D σ H ⟨B, env, st, F, sr, q⟩ => ?_⟩
  unfold gDPut at q
  split at q
  · rename_i x hi
    obtain ⟨c, c1, _⟩ := sr.objAt hi
    refine ⟨B, env, st, F, sr, ?_⟩
    refine Go.mono (GoS.thn q sr) fun d st1 H1 F1 w1 x1 q1 v r1 => ?_
    have sr1 := sr.ext x1 w1
    refine ⟨.ref c, c1, B, env, st1, F1, sr1, ?_⟩
    refine Go.mono (GoS.thn q1 sr1) fun d2 st2 H2 F2 w2 x2 q2 v2 r2 => ?_
    have sr2 := sr1.ext x2 w2
    split at q2
    · rename_i x' hp
      obtain ⟨c', e1, e2, e3, _⟩ := sr2.objAt hi
      rw [c1] at e1
      cases e1
      obtain ⟨o', g1, g2⟩ := dput_ok e2 (RepM.view r2) (RepD.ext sr1.wd x2 r1) hp
      obtain ⟨s3, e4⟩ := sr2.mutO hi c1 g2
      exact ⟨c, _, rfl, g1, q2 σ _ F2 s3 e4⟩
    · exact q2.elim
  · exact q.elim
/-- xs[key] = v, a list of one's own -/
def gStoreOwn (i : Nat) (fk fv : DF DV) : SF := fun env st => match env[i]? with
  | some (.own (.list ds)) => (fv env st).thn fun v st1 => (fk env st1).thn fun k st2 => match k, v with
    | .d (.int j), .d x => (match ixN ds.length j with
      | some n => .nx (env.set i (.own (.list (ds.set n x)))) st2
      | none => .no)
    | _, _ => .no
  | _ => .no
theorem ds_storeOwn {i : Nat} {fk fv : DF DV} (ps : PS X s (tAsg (tDE X T W true fv) (gSub (tVar i) (tDE X T W false fk) rSetL))) : DS X T W nw s (gStoreOwn i fk fv) := by
  refine ⟨PS.imp ps fun D σ H ⟨B, env, st, F, sr, q⟩ => ?_⟩
  unfold gStoreOwn at q
  split at q
  · rename_i ds hi
    refine ⟨B, env, st, F, sr, ?_⟩
    refine Go.mono (GoS.thn q sr) fun d st1 H1 F1 w1 x1 q1 v r1 => ?_
    have sr1 := sr.ext x1 w1
    obtain ⟨c, xs0, c1, c2, c3, c4⟩ := sr1.ownAt hi
    refine ⟨.ref c, c1, B, env, st1, F1, sr1, ?_⟩
    refine Go.mono (GoS.thn q1 sr1) fun d2 st2 H2 F2 w2 x2 q2 v2 r2 => ?_
    have sr2 := sr1.ext x2 w2
    split at q2
    · rename_i j x
      split at q2
      · rename_i n hn
        obtain ⟨c', xs, e1, e2, e3, e4⟩ := sr2.ownAt hi
        rw [c1] at e1
        cases e1
        have ej := (RepM.view r2).int
        subst ej
        have r1' : RepD X.K B F2 H2 (.d x) v := RepD.ext sr1.wd x2 (show RepD X.K B F1 H1 (.d x) v from r1)
        obtain ⟨s3, e5⟩ := sr2.mut hi c1 (e3.set n r1') ⟨xs, e2⟩
        exact ⟨c, xs, j, n, rfl, rfl, e2, by rw [e3.length]; exact hn, q2 σ _ F2 s3 e5⟩
      · exact q2.elim
    · exact q2.elim
  · exact q.elim
end
end DL

set_option Elab.async false
set_option linter.all false
set_option maxRecDepth 100000
set_option maxHeartbeats 4000000
namespace DL
open PySem PySem.Spec PyProof.Rows L2
/-! ### a dict locked while it is walked; sorted -/
/-- all that data leans on stands -/
def PK2 (F : FS) (H H' : Hp) : Prop := (∀ a o, H a = some o → F a → ¬ isTbl o → H' a = some o) ∧ ∀ a xs, H a = some (.tup xs) → H' a = some (.tup xs)
mutual
theorem Rep.pk2 {K : PySem.W.Frag} {F : FS} {H H' : Hp} (k : PK2 F H H') : ∀ (d : PyData) (v : V), Rep K F H d v → Rep K F H' d v
  | .none, v, h => by simpa [Rep] using h
  | .bool b, v, h => by simpa [Rep] using h
  | .int i, v, h => by simpa [Rep] using h
  | .str x, v, h => by simpa [Rep] using h
  | .list ds, v, h => by
    simp only [Rep] at h ⊢
    obtain ⟨a, xs, e, f, s, r⟩ := h
    exact ⟨a, xs, e, f, k.1 a _ s f id, Reps.pk2 k ds xs r⟩
  | .tuple ds, v, h => by
    simp only [Rep] at h ⊢
    obtain ⟨a, xs, e, s, r⟩ := h
    exact ⟨a, xs, e, k.2 a _ s, Reps.pk2 k ds xs r⟩
  | .dict _, v, h => by simp [Rep] at h
theorem Reps.pk2 {K : PySem.W.Frag} {F : FS} {H H' : Hp} (k : PK2 F H H') : ∀ (ds : List PyData) (vs : List V), Reps K F H ds vs → Reps K F H' ds vs
  | [], vs, h => by simpa [Reps] using h
  | d :: ds, vs, h => by
    simp only [Reps] at h ⊢
    obtain ⟨v, r, e, h1, h2⟩ := h
    exact ⟨v, r, e, Rep.pk2 k d v h1, Reps.pk2 k ds r h2⟩
end
theorem Al.pk2 {κ0 κ : Type} {kc : κ0 → κ} {K : PySem.W.Frag} {F : FS} {H H' : Hp} (k : PK2 F H H') : ∀ {kvs : List (κ0 × PyData)} {ks : List (κ × V)}, Al kc K F H kvs ks → Al kc K F H' kvs ks
  | [], ks, h => h
  | p :: r, ks, h => by
    obtain ⟨v, t, rfl, h1, h2⟩ := h
    exact ⟨v, t, rfl, Rep.pk2 k _ _ h1, Al.pk2 k h2⟩
theorem RepD.pk2 {K : PySem.W.Frag} {B : Bs} {F : FS} {H H' : Hp} (k : PK2 F H H') {v : DV} {x : V} (h : RepD K B F H v x) : RepD K B F H' v x := by
  cases v with
  | d y => exact Rep.pk2 k y x h
  | loc => exact h
  | scr ns =>
    obtain ⟨a, rfl, h⟩ := h
    refine ⟨a, rfl, h.imp (fun ⟨f, r⟩ => ⟨f, ?_⟩) id⟩
    rcases r with r | ⟨o, r⟩
    · exact .inl (k.1 a _ r f (by simp [isTbl]))
    · exact .inr ⟨o, k.1 a _ r f (by simp [isTbl])⟩
section
variable {X : Cx} {T : FS} {B : Bs} {F F' : FS} {H H' : Hp} {σ : L2.St} {st st' : Sto} {env : DEnv}
/-- the same state, the dict of slot i locked or unlocked -/
theorem SR.relock (sr : SR X.K T B env st σ H F) {i : Nat} {l l' : Bool} {x : OX} (hi : env[i]? = some (.obj l x)) {a : Addr} (ha : σ[i]? = some (some (.ref a))) {o : HO} (nt : ¬ isTbl o) (r : ∀ H' : Hp, PK2 F H H' → H' a = some o → ObjAt X.K F H' l' x a) :
    SR X.K T B (env.set i (.obj l' x)) st σ (upd H a o) F := by
  obtain ⟨fps, h1, h2, h3⟩ := sr.slots
  obtain ⟨o1, e1, e2⟩ := h1 i _ hi
  rw [ha] at e1
  cases e1
  obtain ⟨b, b1, b2, b3, b4⟩ := e2
  cases b2
  obtain ⟨oo, hx, nt0, ntup, _⟩ := b4.some
  have hmem : a ∈ fps i := by rw [b1]; simp
  obtain ⟨nF, nd, n0, _⟩ := h3 i a hmem
  have at_ : ∀ c, c ≠ a → upd H a o c = H c := fun c h => upd_ne h
  have pk : PK2 F H (upd H a o) := ⟨fun c u h f _ => (at_ c fun z => nF (by rw [← z]; exact f)).trans h, fun c xs h => (at_ c fun z => by rw [z, hx] at h; cases h; exact ntup xs rfl).trans h⟩
  refine ⟨⟨fun c f => ?_, sr.wd.fdr, fun c q => ?_, fun P q => ?_⟩, fun c o h t d => ?_, fun c ps h d => ?_, sr.fsub, sr.fnew, by rw [List.length_set]; exact sr.len, fps, fun k s h => ?_, h2, fun k c hc => ?_⟩
  · by_cases z : c = a
    · rw [z, upd_same]; simp
    · rw [at_ c z]; exact sr.wd.live c f
  · obtain ⟨zs, z1, z2⟩ := sr.wd.sto c q
    have z : c ≠ a := fun z => nd (by rw [← z]; exact q)
    exact ⟨zs, by rw [at_ c z]; exact z1, Reps.pk2 pk _ _ z2⟩
  · obtain ⟨ps, z1, z2⟩ := sr.wd.tabs P q
    refine ⟨ps, ?_, z2⟩
    rw [at_ P fun z => by rw [z, hx] at z1; cases z1; exact nt0 trivial]
    exact z1
  · rw [at_ c fun z => by rw [z, n0] at h; cases h]
    exact sr.base c o h t d
  · rw [at_ c fun z => by rw [z, n0] at h; cases h]
    exact sr.btbl c ps h d
  · by_cases hk : k = i
    · subst hk
      have hlt : k < env.length := (List.getElem?_eq_some_iff.mp hi).1
      rw [List.getElem?_set_self hlt] at h
      cases h
      exact ⟨some (.ref a), ha, a, b1, rfl, nd, r _ pk upd_same⟩
    · rw [List.getElem?_set_ne (Ne.symm hk)] at h
      obtain ⟨o'', e4, e5⟩ := h1 k s h
      refine ⟨o'', e4, ?_⟩
      cases s with
      | un => exact e5
      | pin w => exact e5
      | obj l y =>
        obtain ⟨c, f1, f2, f4, f3⟩ := e5
        have z : c ≠ a := fun z => hk (h2 k i a (by rw [f1, z]; simp) hmem)
        refine ⟨c, f1, f2, f4, ?_⟩
        cases y with
        | di kvs =>
          obtain ⟨ks, z1, z2⟩ := f3
          refine ⟨ks, ?_, z2.pk2 pk⟩
          cases l with
          | false => exact (at_ c z).trans z1
          | true => obtain ⟨od, z1⟩ := z1; exact ⟨od, (at_ c z).trans z1⟩
        | dt kvs =>
          obtain ⟨ks, z1, z2⟩ := f3
          refine ⟨ks, ?_, z2.pk2 pk⟩
          cases l with
          | false => exact (at_ c z).trans z1
          | true => obtain ⟨od, z1⟩ := z1; exact ⟨od, (at_ c z).trans z1⟩
      | frz v =>
        obtain ⟨f1, w, f2, f3⟩ := e5
        exact ⟨f1, w, f2, f3.pk2 pk⟩
      | own y =>
        obtain ⟨c, f1, f2, f4, f3⟩ := e5
        refine ⟨c, f1, f2, f4, ?_⟩
        cases y <;> first | exact f3.elim | skip
        obtain ⟨zs, z1, z2⟩ := f3
        have z : c ≠ a := fun z => hk (h2 k i a (by rw [f1, z]; simp) hmem)
        exact ⟨zs, by rw [at_ c z]; exact z1, Reps.pk2 pk _ _ z2⟩
  · obtain ⟨z1, z2, z3, z4⟩ := h3 k c hc
    refine ⟨z1, z2, z3, ?_⟩
    by_cases z : c = a
    · rw [z, upd_same]; simp
    · rw [at_ c z]; exact z4
/-- unlocked again: what grew while it was locked has grown -/
theorem ext_unlock {a : Addr} {o o' : HO} (hx : H a = some o) (nt : ¬ isTbl o) (e : Ext B F F' (upd H a o') H') (nF : ¬ F a) : Ext B F F' H (upd H' a o) := by
  refine ⟨fun c u h t d => ?_, e.sub, fun c f => ?_, fun c d q => ?_, fun c ps h d => ?_⟩
  · by_cases z : c = a
    · rw [z, upd_same]; rw [z, hx] at h; exact h
    · rw [upd_ne z]; exact e.keep c u (by rw [upd_ne z]; exact h) t d
  · rcases e.new c f with f | f
    · exact .inl f
    · by_cases z : c = a
      · rw [z, upd_same] at f; cases f
      · rw [upd_ne z] at f; exact .inr f
  · by_cases z : c = a
    · rw [z, upd_same]; simp
    · rw [upd_ne z]; exact e.draws c d (by rw [upd_ne z]; exact q)
  · have z : c ≠ a := fun z => by rw [z, hx] at h; cases h; exact nt trivial
    rw [upd_ne z]
    exact e.tbl c ps (by rw [upd_ne z]; exact h) d
theorem wd_upd2 {K : PySem.W.Frag} (w : Wd K T B F H st) {a : Addr} {o o' : HO} (hx : H a = some o') (nt : ¬ isTbl o') (ntup : ∀ xs, o' ≠ .tup xs) (nF : ¬ F a) (nd : B.dr ≠ some a) : Wd K T B F (upd H a o) st ∧ PK2 F H (upd H a o) := by
  have at_ : ∀ c, c ≠ a → upd H a o c = H c := fun c h => upd_ne h
  have pk : PK2 F H (upd H a o) := ⟨fun c u h f _ => (at_ c fun z => nF (by rw [← z]; exact f)).trans h, fun c xs h => (at_ c fun z => by rw [z, hx] at h; cases h; exact ntup xs rfl).trans h⟩
  refine ⟨⟨fun c f => ?_, w.fdr, fun c q => ?_, fun P q => ?_⟩, pk⟩
  · rw [at_ c fun z => nF (by rw [← z]; exact f)]; exact w.live c f
  · obtain ⟨zs, z1, z2⟩ := w.sto c q
    exact ⟨zs, by rw [at_ c fun z => nd (by rw [← z]; exact q)]; exact z1, Reps.pk2 pk _ _ z2⟩
  · obtain ⟨ps, z1, z2⟩ := w.tabs P q
    exact ⟨ps, by rw [at_ P fun z => by rw [z, hx] at z1; cases z1; exact nt trivial]; exact z1, z2⟩
end
section
variable {X : Cx} {T : FS} {W : WX} {nw m : Bool} {pos p1 p2 : Pos} {e a b tg : Expr} {f g : DF DV} {s : Stmt}
/-- a value that is data and no list of the call's own (a list may be new) -/
def fLock (i : Nat) (f : DF DV) : DF DV := fun env st => match env[i]? with
  | some (.obj false x) => (match f (env.set i (.obj true x)) st with
    | .ok d st' => .ok d st'
    | _ => .no)
  | _ => .no
theorem obj_o {K : PySem.W.Frag} {F : FS} {H : Hp} {x : OX} {c : Addr} (h : ObjAt K F H false x c) : ∃ u : HO, H c = some u ∧ ¬ isTbl u ∧ (∀ xs, u ≠ .tup xs) ∧ Mut (some u) ∧ ∀ od (H' : Hp), PK2 F H H' → H' c = some (.frz od u) → ObjAt K F H' true x c := by
  cases x with
  | di kvs =>
    obtain ⟨ks, h1, h2⟩ := h
    exact ⟨_, h1, by simp [isTbl], by simp, trivial, fun od H' pk q => ⟨ks, ⟨od, q⟩, h2.pk2 pk⟩⟩
  | dt kvs =>
    obtain ⟨ks, h1, h2⟩ := h
    exact ⟨_, h1, by simp [isTbl], by simp, trivial, fun od H' pk q => ⟨ks, ⟨od, q⟩, h2.pk2 pk⟩⟩
/-- a list made while the dict is locked -/
theorem do_lock {i : Nat} (h : DO X T W e f) : DO X T W e (fLock i f) := by
  refine ⟨PE.imp (pe_lock h.pe) fun σ H Q ⟨B, env, st, F, sr, q⟩ => ?_⟩
  unfold fLock at q
  split at q
  · rename_i x hi
    obtain ⟨c, c1, c2, nd, nF⟩ := sr.objAt hi
    obtain ⟨u, u1, u2, u3, u4, u5⟩ := obj_o c2
    refine ⟨c, u, u1, u4, fun od => ?_⟩
    refine ⟨B, env.set i (.obj true x), st, F, sr.relock hi c1 (o := .frz od u) (by simp [isTbl]) (u5 od), ?_⟩
    cases hf : f (env.set i (.obj true x)) st with
    | no => rw [hf] at q; exact q.elim
    | exc _ _ => rw [hf] at q; exact q.elim
    | ok d st1 =>
      rw [hf] at q
      intro H1 F1 w1 x1 v r1
      have k1 : H1 c = some (.frz od u) := x1.keep c _ upd_same (by simp [isTbl]) nd
      have nF1 : ¬ F1 c := fun f => by
        rcases x1.new c f with f | f
        · exact nF f
        · rw [upd_same] at f; cases f
      refine ⟨k1, ?_⟩
      obtain ⟨w2, pk2⟩ := wd_upd2 w1 (o := u) k1 (by simp [isTbl]) (by simp) nF1 nd
      refine q _ F1 w2 (ext_unlock u1 u2 x1 nF) v ?_
      obtain ⟨p, ds, xs, rfl, rfl, z1, z2, z3, z4⟩ := r1
      have hpc : p ≠ c := fun z => by rw [z, upd_same] at z1; cases z1
      rw [upd_ne hpc] at z1
      exact ⟨p, ds, xs, rfl, rfl, z1, z2, by rw [upd_ne hpc]; exact z3, Reps.pk2 pk2 _ _ z4⟩
  · exact q.elim
/-- the keys of a locked dict -/
def keysO : OX → List PyData
  | .di kvs => kvs.map fun p => .int p.1
  | .dt kvs => kvs.map fun p => .tuple (p.1.map PyData.int)
def fKeys (i : Nat) : DF (List PyData) := fun env st => match env[i]? with
  | some (.obj true x) => .ok (keysO x) st
  | _ => .no
theorem di_keys {i : Nat} (he : PE X e (tVar i)) : DI X T W m tg e (fKeys i) := by
  refine ⟨PI.imp (pi_keys he) fun σ H R ⟨B, env, st, F, sr, q⟩ => ?_⟩
  unfold fKeys at q
  split at q
  · rename_i x hi
    obtain ⟨c, c1, c2, nd, nF⟩ := sr.objAt hi
    refine ⟨.ref c, c1, c, ?_⟩
    have stay : ∀ {o : HO} {H2 : Hp} {F2 : FS}, H c = some o → Stable o → ¬ isTbl o → (if m = true then SExt F F2 H H2 else Ext B F F2 H H2) → H2 c = some o := fun {o H2 F2} ho hs ht x => by
      cases m with
      | true => exact SExt.pk x c _ ho (.inr hs) ht
      | false => exact Ext.keep x c _ ho ht nd
    cases x with
    | di kvs =>
      obtain ⟨ks, ⟨od, z1⟩, z2⟩ := c2
      refine ⟨od, rfl, .inl ⟨ks, z1, q H F sr.wd .refl _ fun st' H2 F2 w2 x k => ⟨fun d hd => ?_, fun hd => ?_⟩⟩⟩
      · have h2 := stay z1 trivial (by simp [isTbl]) x
        have hd : (kvs.map fun p => PyData.int p.1)[k]? = some d := hd
        rw [List.getElem?_map] at hd
        cases hk : kvs[k]? with
        | none => rw [hk] at hd; cases hd
        | some p =>
          rw [hk] at hd
          cases hd
          have hlt := (List.getElem?_eq_some_iff.mp hk).1
          refine ⟨⟨h2, by rw [z2.length]; exact hlt⟩, fun x H3 y => ?_⟩
          obtain ⟨rfl, kk, v, y1, rfl⟩ := y
          have g := z2.get (i := k)
          rw [y1, hk] at g
          have g : kk = kI p.1 := Option.some.inj g
          subst g
          exact ⟨F2, .refl, by simp only [Rep]; rfl⟩
      · have h2 := stay z1 trivial (by simp [isTbl]) x
        refine ⟨h2, ?_⟩
        have hd := List.getElem?_eq_none_iff.mp (show (kvs.map fun p => PyData.int p.1)[k]? = none from hd)
        rw [z2.length]
        simpa using hd
    | dt kvs =>
      obtain ⟨ks, ⟨od, z1⟩, z2⟩ := c2
      refine ⟨od, rfl, .inr ⟨ks, z1, q H F sr.wd .refl _ fun st' H2 F2 w2 x k => ⟨fun d hd => ?_, fun hd => ?_⟩⟩⟩
      · have h2 := stay z1 trivial (by simp [isTbl]) x
        have hd : (kvs.map fun p => PyData.tuple (p.1.map PyData.int))[k]? = some d := hd
        rw [List.getElem?_map] at hd
        cases hk : kvs[k]? with
        | none => rw [hk] at hd; cases hd
        | some p =>
          rw [hk] at hd
          cases hd
          have hlt := (List.getElem?_eq_some_iff.mp hk).1
          refine ⟨⟨h2, by rw [z2.length]; exact hlt⟩, fun x H3 y => ?_⟩
          obtain ⟨rfl, kk, v, qa, y1, rfl, y2⟩ := y
          have g := z2.get (i := k)
          rw [y1, hk] at g
          have g : kk = kT p.1 := Option.some.inj g
          subst g
          rw [kT_map] at y2
          exact ⟨F2, .refl, by simp only [Rep]; exact ⟨qa, _, rfl, y2, Reps.mkInts _⟩⟩
      · have h2 := stay z1 trivial (by simp [isTbl]) x
        refine ⟨h2, ?_⟩
        have hd := List.getElem?_eq_none_iff.mp (show (kvs.map fun p => PyData.tuple (p.1.map PyData.int))[k]? = none from hd)
        rw [z2.length]
        simpa using hd
  · exact q.elim
end
end DL

set_option Elab.async false
set_option linter.all false
set_option maxRecDepth 100000
set_option maxHeartbeats 4000000
namespace DL
open PySem PySem.Spec PyProof.Rows L2
/-! ### sorted: pairs of numbers; the keys of a dict -/
theorem Reps.perm {K : PySem.W.Frag} {F : FS} {H : Hp} {xs ys : List V} (p : ys.Perm xs) : ∀ {ds : List PyData}, Reps K F H ds xs → ∃ es, es.Perm ds ∧ Reps K F H es ys := by
  induction p with
  | nil => intro ds h; exact ⟨ds, .refl _, h⟩
  | cons x _ ih =>
    intro ds h
    cases ds with
    | nil => simp [Reps] at h
    | cons d ds =>
      simp only [Reps] at h
      obtain ⟨v, r, e, h1, h2⟩ := h
      cases e
      obtain ⟨es, p2, h3⟩ := ih h2
      exact ⟨d :: es, p2.cons d, by simp only [Reps]; exact ⟨_, _, rfl, h1, h3⟩⟩
  | swap x y l =>
    intro ds h
    cases ds with
    | nil => simp [Reps] at h
    | cons d ds =>
      cases ds with
      | nil => simp [Reps] at h
      | cons d2 ds =>
        simp only [Reps] at h
        obtain ⟨v, r, e, h1, v2, r2, e2, h2, h3⟩ := h
        cases e
        cases e2
        exact ⟨d2 :: d :: ds, .swap _ _ _, by simp only [Reps]; exact ⟨_, _, rfl, h2, _, _, rfl, h1, h3⟩⟩
  | trans _ _ ih1 ih2 =>
    intro ds h
    obtain ⟨es, p1, h1⟩ := ih2 h
    obtain ⟨fs, p2, h2⟩ := ih1 h1
    exact ⟨fs, p2.trans p1, h2⟩
def sB : Int := 1048576
def cd (l : List Int) : Int := TS.code sB l
def asPair : PyData → Option (List Int)
  | .tuple [.int a, .int b] => if 0 ≤ a ∧ a < sB ∧ 0 ≤ b ∧ b < sB then some [a, b] else none
  | _ => none
def asPairs : List PyData → Option (List (List Int))
  | [] => some []
  | d :: ds => (asPair d).bind fun x => (asPairs ds).map (x :: ·)
def ptD (l : List Int) : PyData := .tuple (l.map PyData.int)
theorem asPair_eq {d : PyData} {l : List Int} (h : asPair d = some l) : d = ptD l ∧ l.length = 2 ∧ TS.Bd sB l := by
  unfold asPair at h
  split at h
  · split at h
    · rename_i a b hb
      cases h
      refine ⟨rfl, rfl, fun m hm => ?_⟩
      simp only [List.mem_cons, List.not_mem_nil, or_false] at hm
      rcases hm with rfl | rfl
      · exact ⟨hb.1, hb.2.1⟩
      · exact ⟨hb.2.2.1, hb.2.2.2⟩
    · cases h
  · cases h
theorem asPairs_eq : ∀ {ds : List PyData} {L : List (List Int)}, asPairs ds = some L → ds = L.map ptD ∧ ∀ l ∈ L, l.length = 2 ∧ TS.Bd sB l
  | [], L, h => by cases h; exact ⟨rfl, by simp⟩
  | d :: ds, L, h => by
    unfold asPairs at h
    cases h1 : asPair d with
    | none => rw [h1] at h; cases h
    | some x =>
      cases h2 : asPairs ds with
      | none => rw [h1, h2] at h; cases h
      | some M =>
        rw [h1, h2] at h
        cases h
        obtain ⟨e1, e2, e3⟩ := asPair_eq h1
        obtain ⟨f1, f2⟩ := asPairs_eq h2
        exact ⟨by rw [e1, f1]; rfl, fun l hl => (List.mem_cons.mp hl).elim (fun e => by rw [e]; exact ⟨e2, e3⟩) (f2 l)⟩
def sortP (L : List (List Int)) : List (List Int) := L.mergeSort fun a b => decide (cd a ≤ cd b)
def hSortT : List DV → Option DV
  | [.d (.list ds)] => if ds.length < 64 then (asPairs ds).map fun L => .d (.list ((sortP L).map ptD)) else none
  | _ => none
theorem cd_inj {a b : List Int} (ha : a.length = 2) (hb : b.length = 2) (xa : TS.Bd sB a) (xb : TS.Bd sB b) (h : cd a = cd b) : a = b := by
  match a, b, ha, hb with
  | [a1, a2], [b1, b2], _, _ =>
    have e : a1 * sB ^ 1 + (a2 * sB ^ 0 + 0) = b1 * sB ^ 1 + (b2 * sB ^ 0 + 0) := h
    have p1 := xa a2 (by simp)
    have p2 := xb b2 (by simp)
    rw [show sB ^ 1 = sB from by rfl, show sB ^ 0 = 1 from by rfl] at e
    unfold sB at e p1 p2
    have : a1 = b1 := by omega
    subst this
    have : a2 = b2 := by omega
    subst this
    rfl
theorem sortP_eq {L M : List (List Int)} (hL : ∀ l ∈ L, l.length = 2 ∧ TS.Bd sB l) (p : M.Perm L) (s : M.Pairwise fun a b => cd a ≤ cd b) : M = sortP L := by
  unfold sortP
  have q : (L.mergeSort fun a b => decide (cd a ≤ cd b)).Perm L := List.mergeSort_perm _ _
  have t : (L.mergeSort fun a b => decide (cd a ≤ cd b)).Pairwise (fun a b => decide (cd a ≤ cd b) = true) := List.pairwise_mergeSort (fun a b c h1 h2 => by simp at *; omega) (fun a b => by simp; omega) L
  have t' := t.imp (fun h => of_decide_eq_true h)
  refine (p.trans q.symm).eq_of_pairwise (fun a b ha hb h1 h2 => ?_) s t'
  have xa := hL a (p.mem_iff.mp ha)
  have xb := hL b (q.mem_iff.mp hb)
  exact cd_inj xa.1 xb.1 xa.2 xb.2 (Int.le_antisymm h1 h2)
theorem ptD_inj {a b : List Int} (h : ptD a = ptD b) : a = b := by
  unfold ptD at h
  injection h with h
  exact (List.map_inj_right (fun x y z => by injection z)).mp h
theorem hsortT_ok {n : Bool} {K : PySem.W.Frag} (hn : n = true := by rfl) : OpN n K (rSortU K 2 sB) hSortT := by
  intro T B F H st xs as d Q w vx e q
  unfold hSortT at e
  split at e
  · rename_i ds
    split at e
    · rename_i h64
      cases hns : asPairs ds with
      | none => rw [hns] at e; cases e
      | some L =>
        rw [hns] at e
        cases e
        obtain ⟨x, rfl, v⟩ := args1 vx
        obtain ⟨a, ys, rfl, s1, r1⟩ := v.list
        obtain ⟨e1, e2⟩ := asPairs_eq hns
        have tup : ∀ {L : List (List Int)} {ys : List V}, Reps K F H (L.map ptD) ys → ∀ x ∈ ys, ∃ l ∈ L, TupI K H x l := by
          intro L
          induction L with
          | nil => intro ys r x hx; simp only [List.map_nil, Reps] at r; subst r; cases hx
          | cons l L ih =>
            intro ys r x hx
            simp only [List.map_cons, Reps] at r
            obtain ⟨v, t, rfl, r2, r3⟩ := r
            rcases List.mem_cons.mp hx with e | e
            · subst e
              unfold ptD at r2
              simp only [Rep] at r2
              obtain ⟨b, zs, rfl, z1, z2⟩ := r2
              have z3 := z2.ofInts
              subst z3
              exact ⟨l, by simp, b, rfl, SqT.of z1⟩
            · obtain ⟨m, m1, m2⟩ := ih r3 x e
              exact ⟨m, by simp [m1], m2⟩
        subst e1
        refine ⟨a, ys, rfl, SqL.of s1, by rw [r1.length]; exact h64, fun x hx => ?_, fun zs p hp hs hn' => ?_⟩
        · obtain ⟨l, l1, l2⟩ := tup r1 x hx
          exact ⟨l, l2, e2 l l1⟩
        · obtain ⟨es, pe, re⟩ := Reps.perm hp r1
          obtain ⟨M, hM, pM⟩ : ∃ M : List (List Int), es = M.map ptD ∧ M.Perm L := by
            have key : ∀ {es : List PyData} {L : List (List Int)}, es.Perm (L.map ptD) → ∃ M : List (List Int), es = M.map ptD ∧ M.Perm L := by
              intro es L p
              generalize hG : L.map ptD = G at p
              induction p generalizing L with
              | nil => cases L with
                | nil => exact ⟨[], rfl, .refl _⟩
                | cons => cases hG
              | cons x _ ih => cases L with
                | nil => cases hG
                | cons l L =>
                  rw [List.map_cons] at hG
                  injection hG with g1 g2
                  obtain ⟨M, h1, h2⟩ := ih g2
                  exact ⟨l :: M, by rw [h1, ← g1]; rfl, h2.cons l⟩
              | swap x y t => cases L with
                | nil => cases hG
                | cons l L => cases L with
                  | nil => rw [List.map_cons] at hG; injection hG with g1 g2; cases g2
                  | cons l2 L =>
                    rw [List.map_cons, List.map_cons] at hG
                    injection hG with g1 g2
                    injection g2 with g2 g3
                    exact ⟨l2 :: l :: L, by rw [← g1, ← g2, ← g3]; rfl, .swap _ _ _⟩
              | trans _ _ ih1 ih2 =>
                obtain ⟨M, h1, h2⟩ := ih2 hG
                obtain ⟨N, h3, h4⟩ := ih1 h1.symm
                exact ⟨N, h3, h4.trans h2⟩
            exact key pe
          subst hM
          have srt : M.Pairwise fun a b => cd a ≤ cd b := by
            have key : ∀ {M : List (List Int)} {zs : List V}, Reps K F H (M.map ptD) zs → zs.Pairwise (fun x y => ∀ n m, TupI K H x n → TupI K H y m → TS.code sB n ≤ TS.code sB m) → M.Pairwise fun a b => cd a ≤ cd b := by
              intro M
              induction M with
              | nil => intro _ _ _; exact .nil
              | cons l M ih =>
                intro zs r s
                simp only [List.map_cons, Reps] at r
                obtain ⟨v, t, rfl, r2, r3⟩ := r
                rw [List.pairwise_cons] at s ⊢
                refine ⟨fun b hb => ?_, ih r3 s.2⟩
                have tv : TupI K H v l := by
                  unfold ptD at r2
                  simp only [Rep] at r2
                  obtain ⟨b, zs, rfl, z1, z2⟩ := r2
                  have z3 := z2.ofInts
                  subst z3
                  exact ⟨b, rfl, SqT.of z1⟩
                obtain ⟨j, hj, ej⟩ := List.mem_iff_getElem.mp hb
                have gj : (M.map ptD)[j]? = some (ptD b) := by rw [List.getElem?_map, List.getElem?_eq_getElem hj, ej]; rfl
                obtain ⟨y, y1, y2⟩ := r3.get gj
                have ty : TupI K H y b := by
                  unfold ptD at y2
                  simp only [Rep] at y2
                  obtain ⟨c, zs, rfl, z1, z2⟩ := y2
                  have z3 := z2.ofInts
                  subst z3
                  exact ⟨c, rfl, SqT.of z1⟩
                exact s.1 y (List.mem_of_getElem? y1) l b tv ty
            exact key re hs
          rw [sortP_eq e2 pM srt] at re
          exact q _ _ F (.alloc hn') (repR_new w.live hn' (re.grow w (.alloc hn')) hn)
    · cases e
  · cases e
def hSortA (as : List DV) : Option DV := match hSorted as with
  | some d => some d
  | none => hSortT as
def rSortA (K : PySem.W.Frag) : List V → Hp → VK → Prop := fun xs H Q => rSortedI K xs H Q ∨ rSortU K 2 sB xs H Q
theorem hsortA_ok {n : Bool} {K : PySem.W.Frag} (hn : n = true := by rfl) : OpN n K (rSortA K) hSortA := by
  intro T B F H st xs as d Q w vx e q
  unfold hSortA at e
  cases h : hSorted as with
  | some d' =>
    rw [h] at e
    cases e
    exact .inl (hsorted_ok hn T B F H st xs as d Q w vx h q)
  | none =>
    rw [h] at e
    exact .inr (hsortT_ok hn T B F H st xs as d Q w vx e q)
section
variable {X : Cx} {T : FS} {W : WX} {nw m : Bool} {pos p p1 : Pos} {e a b tg : Expr} {f g : DF DV} {fs : DF (List DV)}
theorem de_sortedA (B : Blts X.mg) (ha : DA X T W false [a] fs) (hg : Gl X "sorted" := by rfl) (he : starEach [a] X.env = (false, eval a X.env) :: starEach [] X.env := by rfl) (hpl : (backTo pos (starEach [] X.env)).any (·.1) = false := by rfl) :
    DE X T W m (.Call (.Name "sorted" p) [a] [] pos) (fOpN hSortA fs) := de_call (n := true) (pe_callB (CallR.or cr_sortedI (cr_sortT (by decide))) hg B.sorted (by decide +kernel) ha.pa (by decide) (by decide) he hpl) hsortA_ok
/-- sorted(d), the keys numbers -/
def fSortD (i : Nat) : DF DV := fun env st => match env[i]? with
  | some (.obj _ (.di kvs)) => if kvs.length < 64 then .ok (.d (.list ((sortI (kvs.map (·.1))).map PyData.int))) st else .no
  | _ => .no
theorem Al.keysI {K : PySem.W.Frag} {F : FS} {H : Hp} : ∀ {kvs : List (Int × PyData)} {ks : List (Key × V)}, Al kI K F H kvs ks → ks.map (·.1) = (kvs.map (·.1)).map Sum.inl
  | [], ks, h => by have h : ks = [] := h; subst h; rfl
  | p :: r, ks, h => by
    obtain ⟨v, t, rfl, h1, h2⟩ := h
    simp [Al.keysI h2, kI]
theorem de_sortD {i : Nat} {y : Str} (bl : Blts X.mg) (hc : X.calm = true) (hy : PE X (.Name y p1) (tVar i)) (hg : Gl X "sorted" := by rfl) (he : starEach [.Name y p1] X.env = (false, eval (.Name y p1) X.env) :: starEach [] X.env := by rfl) (hpl : (backTo pos (starEach [] X.env)).any (·.1) = false := by rfl) :
    DE X T W m (.Call (.Name "sorted" p) [.Name y p1] [] pos) (fSortD i) := by
  refine ⟨PE.imp (pe_callB (call_sortedDI hc) hg bl.sorted (by decide +kernel) (pa_cons hy pa_nil) (by decide) (by decide) he hpl) fun σ H Q ⟨B, env, st, F, sr, q⟩ => ?_⟩
  unfold fSortD at q
  split at q
  · rename_i l kvs hi
    split at q
    · rename_i h64
      obtain ⟨c, c1, ⟨ks, k1, k2⟩, nd, nF⟩ := sr.objAt hi
      refine ⟨.ref c, c1, c, ks, kvs.map (·.1), rfl, k1.rd, k2.keysI, by simpa using h64, fun ys p hp hs hn => ?_⟩
      rw [sorted_eq hp hs] at *
      exact Grow.end (n := true) sr (.alloc hn) (repR_new sr.wd.live hn (Reps.mkInts _)) q
    · exact q.elim
  · exact q.elim
end
end DL

set_option Elab.async false
set_option linter.all false
set_option maxRecDepth 100000
set_option maxHeartbeats 4000000
namespace DL
open PySem PySem.Spec PyProof.Rows L2
/-! ### more equations: pairs, dicts, loops -/
def jD (p : Int × Int) : PyData := .tuple [.int p.1, .int p.2]
theorem lcG_img {β : Type} {a : AF} {t : DF Bool} {f : DF DV} {env : DEnv} (g : β → PyData) (p : β → Bool) (φ : β → PyData) (st : Sto) : ∀ (L : List β) (acc : List PyData), acc.length + L.length ≤ 16777216 → (∀ x ∈ L, ∃ env1, a (g x) env = some env1 ∧ (∀ st, t env1 st = .ok (p x) st) ∧ ∀ st, p x = true → f env1 st = .ok (.d (φ x)) st) →
    lcG a t f env (L.map g) acc st = .ok (.d (.list (acc ++ (L.filter p).map φ))) st
  | [], acc, _, _ => by show lcG a t f env [] acc st = _; rw [lcG_nil]; simp
  | x :: L, acc, hl, hh => by
    obtain ⟨env1, h1, h2, h3⟩ := hh x (by simp)
    have hl' : acc.length < sizeLine := by rw [sv]; simp at hl; omega
    rw [List.map_cons]
    cases hp : p x with
    | true =>
      rw [lcG_yes h1 ((h2 st).trans (by rw [hp])) (h3 st hp) hl', lcG_img g p φ st L _ (by simp at hl ⊢; omega) (fun e he => hh e (by simp [he]))]
      simp [List.filter_cons, hp]
    | false =>
      rw [lcG_skip h1 ((h2 st).trans (by rw [hp])), lcG_img g p φ st L _ (by simp at hl ⊢; omega) (fun e he => hh e (by simp [he]))]
      simp [List.filter_cons, hp]
theorem lcP {i j : Nat} {t : DF Bool} {f : DF DV} {env : DEnv} {J : List (Int × Int)} (p : Int × Int → Bool) (φ : Int × Int → PyData) (hl : J.length ≤ 16777216) (hh : ∀ q ∈ J, (∀ st, t ((env.set i (.frz (.d (.int q.1)))).set j (.frz (.d (.int q.2)))) st = .ok (p q) st) ∧ ∀ st, p q = true → f ((env.set i (.frz (.d (.int q.1)))).set j (.frz (.d (.int q.2)))) st = .ok (.d (φ q)) st) (st : Sto) :
    lcG (aTup 2 (aCons (aName i) (aCons (aName j) aNil))) t f env (J.map jD) [] st = .ok (.d (.list ((J.filter p).map φ))) st := by
  rw [lcG_img jD p φ st J [] (by simpa using hl) (fun x hx => ⟨_, rfl, hh x hx⟩), List.nil_append]
theorem asInts_iL {l : List Int} : asInts (iL l) = some l := asInts_map l
theorem hSortA_i {l : List Int} : hSortA [.d (.list (iL l))] = some (.d (.list (iL (sortI l)))) := by
  show (match (asInts (iL l)).map (fun ns => DV.d (.list ((sortI ns).map PyData.int))) with | some d => some d | none => _) = _
  rw [asInts_iL]
  rfl
theorem put_keys {κ0 α : Type} [DecidableEq κ0] {kvs : List (κ0 × α)} {k : κ0} {v : α} : (put kvs k v).map (·.1) = if k ∈ kvs.map (·.1) then kvs.map (·.1) else kvs.map (·.1) ++ [k] := by
  unfold put
  have h : hasK kvs k = true ↔ k ∈ kvs.map (·.1) := by
    unfold hasK
    rw [List.any_eq_true, List.mem_map]
    exact ⟨fun ⟨p, h1, h2⟩ => ⟨p, h1, of_decide_eq_true h2⟩, fun ⟨p, h1, h2⟩ => ⟨p, h1, decide_eq_true h2⟩⟩
  by_cases q : k ∈ kvs.map (·.1)
  · rw [if_pos (h.mpr q), if_pos q, List.map_map]
    apply List.map_congr_left
    intro p _
    show (if p.1 = k then (p.1, v) else p).1 = p.1
    split <;> rfl
  · rw [if_neg (fun z => q (h.mp z)), if_neg q, List.map_append]; rfl
theorem gDPut_ap {i : Nat} {fk fv : DF DV} {env : DEnv} {st : Sto} : gDPut i fk fv env st = match env[i]? with
  | some (.obj false x) => (fv env st).thn (hid (.mk fun v st1 => (fk env st1).thn (hid (.mk fun k st2 => match dput x k v with
    | some x' => .nx (env.set i (.obj false x')) st2
    | none => .no))))
  | _ => .no := rfl
theorem dput_i {kvs : List (Int × PyData)} {j : Int} {d : PyData} (h : kvs.length < 16777216) : dput (.di kvs) (.d (.int j)) (.d d) = some (.di (put kvs j d)) := if_pos (by rw [sv]; exact h)
theorem dput_t {kvs : List (List Int × PyData)} {ns : List Int} {d : PyData} (h : kvs.length < 16777216) : dput (.dt kvs) (.d (.tuple (iL ns))) (.d d) = some (.dt (put kvs ns d)) := by
  show (if kvs.length < sizeLine then (asInts (iL ns)).map (fun ns => OX.dt (put kvs ns d)) else none) = _
  rw [if_pos (by rw [sv]; exact h), asInts_iL]; rfl
theorem gDNew_ap {i : Nat} {x : OX} {env : DEnv} {st : Sto} : gDNew i x env st = .nx (env.set i (.obj false x)) st := rfl
theorem fSortD_at {i : Nat} {l : Bool} {kvs : List (Int × PyData)} {env : DEnv} {st : Sto} (h : env[i]? = some (.obj l (.di kvs))) (h2 : kvs.length < 64) : fSortD i env st = .ok (.d (.list (iL (sortI (kvs.map (·.1)))))) st := by
  unfold fSortD
  rw [h]
  exact if_pos h2
theorem gAppend_ap {i : Nat} {f : DF DV} {env : DEnv} {st : Sto} : gAppend i f env st = match env[i]? with
  | some (.own (.list ds)) => (f env st).thn (hid (.mk fun d st1 => match d with
    | .d x => if ds.length < sizeLine then .nx (env.set i (.own (.list (ds ++ [x])))) st1 else .no
    | _ => .no))
  | _ => .no := rfl
theorem gOwn_ap' {i : Nat} {f : DF DV} {env : DEnv} {st : Sto} : gOwn i f env st = (f env st).thn (hid (.mk fun d st1 => match d with
  | .d (.list ds) => .nx (env.set i (.own (.list ds))) st1
  | _ => .no)) := rfl
theorem gStoreOwn_ap {i : Nat} {fk fv : DF DV} {env : DEnv} {st : Sto} : gStoreOwn i fk fv env st = match env[i]? with
  | some (.own (.list ds)) => (fv env st).thn (hid (.mk fun v st1 => (fk env st1).thn (hid (.mk fun k st2 => match k, v with
    | .d (.int j), .d x => (match ixN ds.length j with
      | some n => .nx (env.set i (.own (.list (ds.set n x)))) st2
      | none => .no)
    | _, _ => .no))))
  | _ => .no := rfl
/-- a loop by what is done -/
theorem for_pre {β : Type} {g : β → PyData} {I : List β → DEnv → Sto → Prop} {P : SRes → Prop} {a : AF} {b k : SF} {all : List β} : ∀ {L pre : List β} {env : DEnv} {st : Sto}, all = pre ++ L → I pre env st → (∀ pre x post, all = pre ++ x :: post → ∀ env st, I pre env st → ∃ env1, a (g x) env = some env1 ∧ NxI (I (pre ++ [x])) (b env1 st)) → (∀ env st, I all env st → P (k env st)) → P ((forG a b (L.map g) env st).andThen k)
  | [], pre, env, st, ha, hI, hs, hk => hk env st (by rw [ha, List.append_nil]; exact hI)
  | d :: ds, pre, env, st, ha, hI, hs, hk => by
    obtain ⟨env1, h1, e, s, h2, h3⟩ := hs pre d ds ha env st hI
    have : forG a b (List.map g (d :: ds)) env st = forG a b (List.map g ds) e s := by
      show (match a (g d) env with | none => _ | some env1 => _) = _
      rw [h1]
      show (match b env1 st with | .nx e s => _ | .ct e s => _ | .bk e s => _ | r => _) = _
      rw [h2]
    rw [this]
    exact for_pre (pre := pre ++ [d]) (by rw [ha]; simp) h3 hs hk
theorem pre_mem {β : Type} {all pre post : List β} {x : β} (h : all = pre ++ x :: post) : x ∈ all := by rw [h]; simp
theorem pre_len {β : Type} {all pre post : List β} {x : β} (h : all = pre ++ x :: post) : pre.length < all.length := by rw [h]; simp
/-- a turn of a loop that ends by a return -/
def Stp (I : Nat → DEnv → Sto → Prop) (P : SRes → Prop) (n : Nat) (r : SRes) : Prop := (∃ v s, r = .rt v s ∧ P (.rt v s)) ∨ ∃ m e s, m < n ∧ r = .nx e s ∧ I m e s
/-- a loop that ends by a return -/
theorem for_find {I : Nat → DEnv → Sto → Prop} {P : SRes → Prop} {a : AF} {b k : SF} : ∀ {items : List PyData} {n : Nat} {env : DEnv} {st : Sto}, I n env st → n < items.length → (∀ d ∈ items, ∀ n env st, I n env st → ∃ env1, a d env = some env1 ∧ Stp I P n (b env1 st)) → P ((forG a b items env st).andThen k)
  | [], n, env, st, _, hn, _ => by simp at hn
  | d :: ds, n, env, st, hI, hn, hs => by
    obtain ⟨env1, h1, h⟩ := hs d (by simp) n env st hI
    rcases h with ⟨v, s, h2, h3⟩ | ⟨m, e, s, hm, h2, h3⟩
    · have : forG a b (d :: ds) env st = .rt v s := by
        show (match a d env with | none => _ | some env1 => _) = _
        rw [h1]
        show (match b env1 st with | .nx e s => _ | .ct e s => _ | .bk e s => _ | r => _) = _
        rw [h2]
      rw [this]
      exact h3
    · have : forG a b (d :: ds) env st = forG a b ds e s := by
        show (match a d env with | none => _ | some env1 => _) = _
        rw [h1]
        show (match b env1 st with | .nx e s => _ | .ct e s => _ | .bk e s => _ | r => _) = _
        rw [h2]
      rw [this]
      exact for_find h3 (by simp at hn; omega) (fun d hd => hs d (by simp [hd]))
end DL


set_option Elab.async false
set_option linter.all false
set_option maxRecDepth 100000
set_option maxHeartbeats 4000000
namespace K95
open PySem PySem.Spec PyProof.Rows L2 L2H DL

def topS (i : Nat) : Stmt := PySem.Challenge.pw_happenedfirst_k95_whole_paintings_and_ch.main.body.getD i (.Pass ⟨0, 0, 0, 0⟩)

abbrev s_is_number : Stmt := topS 8
abbrev N_is_number : List Str := ["value", "least", "most"]
theorem sc_is_number : FnScope N_is_number ["value", "least", "most"] (defScope s_is_number) := ⟨rfl, rfl, rfl, by decide +kernel, rfl, by decide +kernel, by decide +kernel⟩
def g_is_number : SF := (gRet (fAndV (fOp1 (hIsi "int") (fName 0)) (fAndV (fNotV (fOp1 (hIsi "bool") (fName 0))) (fChain hLe hLe (fName 1) (fName 0) (fName 2)))))
def f_is_number : List DV → Sto → Res DV := runF false 3 g_is_number
theorem ok_is_number {P : Program} {w : World} {K : PySem.W.Frag} {mg : Str → Option Value} {base : Heap} {T : FS} {f : Addr} {fd : FuncData} (F : FnP K "is_number" s_is_number f fd) (bl : Blts mg)    : FnOk P w K mg base (L2N.CX P w) 1 f fd ["value", "least", "most"] (spOf mg K T false 3 f_is_number) :=
  dl_def F sc_is_number fun cdv hcd A outer s H E hr => by
  have tk := L2N.takes_of (X := cxOf (L2N.CX P w) P w K mg base N_is_number "is_number" (defScope s_is_number) f cdv A outer s H E) (E := E) rfl rfl rfl rfl
  exact (dss_one (ds_ret (de_and (de_isinst bl bl.int (by decide +kernel) (de_name (pv 0))) (de_and (de_not (de_isinst bl bl.bool (by decide +kernel) (de_name (pv 0)))) (de_one (de_chain op_le op_le hle_ok hle_ok (de_name (pv 1)) (de_name (pv 0)) (de_name (pv 2))))))))

abbrev s_are_joints : Stmt := topS 10
abbrev N_are_joints : List Str := ["value", "many", "pair", "one", "k"]
theorem sc_are_joints : FnScope N_are_joints ["value", "many"] (defScope s_are_joints) := ⟨rfl, rfl, rfl, by decide +kernel, rfl, by decide +kernel, by decide +kernel⟩
def g_are_joints : SF := (gSeq (gIf (fNot (fB (fOp1 (hIsi "tuple") (fName 0))))
   (gRet (fC (.bool false)))
   gNop)
  (gSeq (gFor (fIt (fName 0)) (aName 2)
   (gSeq (gIf (fOr (fNot (fB (fOp1 (hIsi "tuple") (fName 2)))) (fOr (fB (fOp2 hNe (fOpN hLen (fCons (fName 2) fNil)) (fC (.int 2)))) (fNot (fB (fAA true (fIt (fName 2)) (aName 3) fYes (fOwn 3 f_is_number (fCons (fName 3) (fCons (fC (.int 0)) (fCons (fOp2 hSub (fName 1) (fC (.int 1))) fNil)))) [3])))))
   (gRet (fC (.bool false)))
   gNop)
  (gIf (fB (fOp2 hGe (fOp2 hIx (fName 2) (fC (.int 0))) (fOp2 hIx (fName 2) (fC (.int 1)))))
   (gRet (fC (.bool false)))
   gNop)))
  (gRet (fAA true (fRng1 (fCons (fOp2 hSub (fOpN hLen (fCons (fName 0) fNil)) (fC (.int 1))) fNil)) (aName 4) fYes (fOp2 hLt (fOp2 hIx (fName 0) (fName 4)) (fOp2 hIx (fName 0) (fOp2 hAdd (fName 4) (fC (.int 1))))) [4]))))
def f_are_joints : List DV → Sto → Res DV := runF false 5 g_are_joints
theorem ok_are_joints {P : Program} {w : World} {K : PySem.W.Frag} {mg : Str → Option Value} {base : Heap} {T : FS} {f : Addr} {fd : FuncData} (F : FnP K "are_joints" s_are_joints f fd) (bl : Blts mg) (C_is_number : Cal P w K mg base T "is_number" 1 3 false f_is_number)   (G0 : ∃ c P, fd.code = .ref c ∧ GxR.TabB base mg c P ∧ T P) : FnOk P w K mg base (L2N.CX P w) 3 f fd ["value", "many"] (spOf mg K T false 2 f_are_joints) :=
  dl_def F sc_are_joints fun cdv hcd A outer s H E hr => by
  have tk := L2N.takes_of (X := cxOf (L2N.CX P w) P w K mg base N_are_joints "are_joints" (defScope s_are_joints) f cdv A outer s H E) (E := E) rfl rfl rfl rfl
  have G := gx_of (CX := L2N.CX P w) (P := P) (w := w) (K := K) (N := N_are_joints) (qual := "are_joints") (scope := defScope s_are_joints) (f := f) (A := A) (outer := outer) (s := s) (H := H) (E := E) G0 hcd
  exact (dss_cons (ds_if (dt_not (dt_val (de_isinst bl bl.tuple (by decide +kernel) (de_name (pv 0)))))
   (dss_one (ds_ret de_bl))
   dss_nil)
  (dss_cons (ds_for (t := (gName 2)) (passes_of rfl) rfl (di_seq (de_name (pv 0))) ⟨(pg_name (i := 2) sc_are_joints.nd rfl (Or.inl rfl)), asg_name⟩
   (dss_cons (ds_if (dt_pw (dw_or (dt_not (dt_val (de_isinst bl bl.tuple (by decide +kernel) (de_name (pv 2))))) (dw_or (dt_ne hr (de_len bl (da_cons (de_name (pv 2)) da_nil)) de_int) (dw_or1 (dt_not (dt_val (de_all (own := [("one", 3)]) (t := (gName 3)) (k := 1) bl (hr.mono (by decide)) rfl sc_are_joints.nd ⟨G.ex⟩ (gblk_by (own := [("one", 3)]) (N := N_are_joints) (sc := defScope s_are_joints) (by decide +kernel)) (di_seq (de_name (pv 2))) (inner_name (by decide)) asg_name (fun _ _ _ _ _ _ _ _ hr => (pg_name (i := 3) sc_are_joints.nd rfl (Or.inl rfl))) (fun _ _ _ _ _ _ _ _ hr => dts_nil) (fun _ _ _ _ _ _ _ _ hr => (de_cal C_is_number (hr.mono (by decide)) takes0N (da_cons (de_name (pv 3)) (da_cons de_int (da_cons (de_sub (de_name (pv 1)) de_int) da_nil))))))))))))
   (dss_one (ds_ret de_bl))
   dss_nil)
  (dss_one (ds_if (dt_ge hr (de_ix (de_name (pv 2)) de_int (fun _ _ => rfl)) (de_ix (de_name (pv 2)) de_int (fun _ _ => rfl)))
   (dss_one (ds_ret de_bl))
   dss_nil))))
  (dss_one (ds_ret (de_all (own := [("k", 4)]) (t := (gName 4)) (k := 1) bl (hr.mono (by decide)) rfl sc_are_joints.nd ⟨G.ex⟩ (gblk_by (own := [("k", 4)]) (N := N_are_joints) (sc := defScope s_are_joints) (by decide +kernel)) (di_rng1 (by rfl) bl.range (da_cons (de_sub (de_len bl (da_cons (de_name (pv 0)) da_nil)) de_int) da_nil)) (inner_name (by decide)) asg_name (fun _ _ _ _ _ _ _ _ hr => (pg_name (i := 4) sc_are_joints.nd rfl (Or.inl rfl))) (fun _ _ _ _ _ _ _ _ hr => dts_nil) (fun _ _ _ _ _ _ _ _ hr => (de_lt hr (de_ix (de_name (pv 0)) (de_name (pv 4)) (fun _ _ => rfl)) (de_ix (de_name (pv 0)) (de_add (de_name (pv 4)) de_int) (fun _ _ => rfl)))))))))

abbrev s_joined_to : Stmt := topS 11
abbrev N_joined_to : List Str := ["graph", "node", "i", "j"]
theorem sc_joined_to : FnScope N_joined_to ["graph", "node"] (defScope s_joined_to) := ⟨rfl, rfl, rfl, by decide +kernel, rfl, by decide +kernel, by decide +kernel⟩
def g_joined_to : SF := (gRet (fOpN hSortA (fCons (fLc (fIt (fOp2 hIx (fName 0) (fC (.int 1)))) (aTup 2 (aCons (aName 2) (aCons (aName 3) aNil))) (fB (fOp2 hIn (fName 1) (fOpN hTup (fCons (fName 2) (fCons (fName 3) fNil))))) (fOp2 hSub (fOp2 hAdd (fName 2) (fName 3)) (fName 1)) [2, 3]) fNil)))
def f_joined_to : List DV → Sto → Res DV := runF false 4 g_joined_to
theorem ok_joined_to {P : Program} {w : World} {K : PySem.W.Frag} {mg : Str → Option Value} {base : Heap} {T : FS} {f : Addr} {fd : FuncData} (F : FnP K "joined_to" s_joined_to f fd) (bl : Blts mg)    : FnOk P w K mg base (L2N.CX P w) 1 f fd ["graph", "node"] (spOf mg K T false 2 f_joined_to) :=
  dl_def F sc_joined_to fun cdv hcd A outer s H E hr => by
  have tk := L2N.takes_of (X := cxOf (L2N.CX P w) P w K mg base N_joined_to "joined_to" (defScope s_joined_to) f cdv A outer s H E) (E := E) rfl rfl rfl rfl
  exact (dss_one (ds_ret (de_sortedA bl (da_cons (de_new (do_lc (own := [("i", 2), ("j", 3)]) (t := (gTup _ 2 (gCons (gName 2) (gCons (gName 3) gNil)))) rfl sc_joined_to.nd (di_seq (de_ix (de_name (pv 0)) de_int (fun _ _ => rfl))) (blkOk_by (own := [("i", 2), ("j", 3)]) (N := N_joined_to) (sc := defScope s_joined_to) (by decide +kernel)) (inner_tup (inners_cons (by decide) (inners_cons (by decide) inners_nil))) (asg_tup (asgs_cons asg_name (asgs_cons asg_name asgs_nil))) (fun _ _ _ _ _ => (pg_tup rfl (pgs_cons (pg_name (i := 2) sc_joined_to.nd rfl (Or.inl rfl)) (pgs_cons (pg_name (i := 3) sc_joined_to.nd rfl (Or.inl rfl)) pgs_nil)))) (fun _ _ _ _ _ => (dts_one (dt_in hr (de_name (pv 1)) (de_tup (da_cons (de_name (pv 2)) (da_cons (de_name (pv 3)) da_nil)))))) (fun _ _ _ _ _ => (de_sub (de_add (de_name (pv 2)) (de_name (pv 3))) (de_name (pv 1)))))) da_nil))))

abbrev s_is_map : Stmt := topS 15
abbrev N_is_map : List Str := ["value"]
theorem sc_is_map : FnScope N_is_map ["value"] (defScope s_is_map) := ⟨rfl, rfl, rfl, by decide +kernel, rfl, by decide +kernel, by decide +kernel⟩
def g_is_map : SF := (gSeq (gIf (fOr (fNot (fB (fOp1 (hIsi "tuple") (fName 0)))) (fOr (fB (fOp2 hNe (fOpN hLen (fCons (fName 0) fNil)) (fC (.int 2)))) (fNot (fB (fOwn 3 f_is_number (fCons (fOp2 hIx (fName 0) (fC (.int 0))) (fCons (fC (.int 1)) (fCons (fC (.int 12)) fNil))))))))
   (gRet (fC (.bool false)))
   gNop)
  (gRet (fOwn 2 f_are_joints (fCons (fOp2 hIx (fName 0) (fC (.int 1))) (fCons (fOp2 hIx (fName 0) (fC (.int 0))) fNil)))))
def f_is_map : List DV → Sto → Res DV := runF false 1 g_is_map
theorem ok_is_map {P : Program} {w : World} {K : PySem.W.Frag} {mg : Str → Option Value} {base : Heap} {T : FS} {f : Addr} {fd : FuncData} {t_MOST_NODES : Tok}(F : FnP K "is_map" s_is_map f fd) (bl : Blts mg) (C_are_joints : Cal P w K mg base T "are_joints" 3 2 false f_are_joints) (C_is_number : Cal P w K mg base T "is_number" 1 3 false f_is_number)  (C_MOST_NODES : mg "MOST_NODES" = some (.int 12 t_MOST_NODES)) : FnOk P w K mg base (L2N.CX P w) 4 f fd ["value"] (spOf mg K T false 1 f_is_map) :=
  dl_def F sc_is_map fun cdv hcd A outer s H E hr => by
  have tk := L2N.takes_of (X := cxOf (L2N.CX P w) P w K mg base N_is_map "is_map" (defScope s_is_map) f cdv A outer s H E) (E := E) rfl rfl rfl rfl
  exact (dss_cons (ds_if (dt_pw (dw_or (dt_not (dt_val (de_isinst bl bl.tuple (by decide +kernel) (de_name (pv 0))))) (dw_or (dt_ne hr (de_len bl (da_cons (de_name (pv 0)) da_nil)) de_int) (dw_or1 (dt_not (dt_val (de_cal C_is_number (hr.mono (by decide)) tk (da_cons (de_ix (de_name (pv 0)) de_int (fun _ _ => rfl)) (da_cons de_int (da_cons (de_const C_MOST_NODES) da_nil))))))))))
   (dss_one (ds_ret de_bl))
   dss_nil)
  (dss_one (ds_ret (de_cal C_are_joints (hr.mono (by decide)) tk (da_cons (de_ix (de_name (pv 0)) de_int (fun _ _ => rfl)) (da_cons (de_ix (de_name (pv 0)) de_int (fun _ _ => rfl)) da_nil))))))

abbrev s_is_row : Stmt := topS 16
abbrev N_is_row : List Str := ["graph", "value", "most", "one"]
theorem sc_is_row : FnScope N_is_row ["graph", "value", "most"] (defScope s_is_row) := ⟨rfl, rfl, rfl, by decide +kernel, rfl, by decide +kernel, by decide +kernel⟩
def g_is_row : SF := (gRet (fAndV (fOp1 (hIsi "tuple") (fName 1)) (fAndV (fOp2 hEq (fOpN hLen (fCons (fName 1) fNil)) (fOp2 hIx (fName 0) (fC (.int 0)))) (fAA true (fIt (fName 1)) (aName 3) fYes (fOwn 3 f_is_number (fCons (fName 3) (fCons (fC (.int 0)) (fCons (fName 2) fNil)))) [3]))))
def f_is_row : List DV → Sto → Res DV := runF false 4 g_is_row
theorem ok_is_row {P : Program} {w : World} {K : PySem.W.Frag} {mg : Str → Option Value} {base : Heap} {T : FS} {f : Addr} {fd : FuncData} (F : FnP K "is_row" s_is_row f fd) (bl : Blts mg) (C_is_number : Cal P w K mg base T "is_number" 1 3 false f_is_number)   (G0 : ∃ c P, fd.code = .ref c ∧ GxR.TabB base mg c P ∧ T P) : FnOk P w K mg base (L2N.CX P w) 3 f fd ["graph", "value", "most"] (spOf mg K T false 3 f_is_row) :=
  dl_def F sc_is_row fun cdv hcd A outer s H E hr => by
  have tk := L2N.takes_of (X := cxOf (L2N.CX P w) P w K mg base N_is_row "is_row" (defScope s_is_row) f cdv A outer s H E) (E := E) rfl rfl rfl rfl
  have G := gx_of (CX := L2N.CX P w) (P := P) (w := w) (K := K) (N := N_is_row) (qual := "is_row") (scope := defScope s_is_row) (f := f) (A := A) (outer := outer) (s := s) (H := H) (E := E) G0 hcd
  exact (dss_one (ds_ret (de_and (de_isinst bl bl.tuple (by decide +kernel) (de_name (pv 1))) (de_and (de_eq hr (de_len bl (da_cons (de_name (pv 1)) da_nil)) (de_ix (de_name (pv 0)) de_int (fun _ _ => rfl))) (de_one (de_all (own := [("one", 3)]) (t := (gName 3)) (k := 1) bl (hr.mono (by decide)) rfl sc_is_row.nd ⟨G.ex⟩ (gblk_by (own := [("one", 3)]) (N := N_is_row) (sc := defScope s_is_row) (by decide +kernel)) (di_seq (de_name (pv 1))) (inner_name (by decide)) asg_name (fun _ _ _ _ _ _ _ _ hr => (pg_name (i := 3) sc_is_row.nd rfl (Or.inl rfl))) (fun _ _ _ _ _ _ _ _ hr => dts_nil) (fun _ _ _ _ _ _ _ _ hr => (de_cal C_is_number (hr.mono (by decide)) takes0N (da_cons (de_name (pv 3)) (da_cons de_int (da_cons (de_name (pv 2)) da_nil)))))))))))

abbrev s_is_painting : Stmt := topS 17
abbrev N_is_painting : List Str := ["graph", "value"]
theorem sc_is_painting : FnScope N_is_painting ["graph", "value"] (defScope s_is_painting) := ⟨rfl, rfl, rfl, by decide +kernel, rfl, by decide +kernel, by decide +kernel⟩
def g_is_painting : SF := (gRet (fOwn 3 f_is_row (fCons (fName 0) (fCons (fName 1) (fCons (fC (.int 12)) fNil)))))
def f_is_painting : List DV → Sto → Res DV := runF false 2 g_is_painting
theorem ok_is_painting {P : Program} {w : World} {K : PySem.W.Frag} {mg : Str → Option Value} {base : Heap} {T : FS} {f : Addr} {fd : FuncData} {t_MOST_COLOUR : Tok}(F : FnP K "is_painting" s_is_painting f fd) (bl : Blts mg) (C_is_row : Cal P w K mg base T "is_row" 3 3 false f_is_row)  (C_MOST_COLOUR : mg "MOST_COLOUR" = some (.int 12 t_MOST_COLOUR)) : FnOk P w K mg base (L2N.CX P w) 4 f fd ["graph", "value"] (spOf mg K T false 2 f_is_painting) :=
  dl_def F sc_is_painting fun cdv hcd A outer s H E hr => by
  have tk := L2N.takes_of (X := cxOf (L2N.CX P w) P w K mg base N_is_painting "is_painting" (defScope s_is_painting) f cdv A outer s H E) (E := E) rfl rfl rfl rfl
  exact (dss_one (ds_ret (de_cal C_is_row (hr.mono (by decide)) tk (da_cons (de_name (pv 0)) (da_cons (de_name (pv 1)) (da_cons (de_const C_MOST_COLOUR) da_nil))))))

abbrev s_is_choice : Stmt := topS 18
abbrev N_is_choice : List Str := ["graph", "value"]
theorem sc_is_choice : FnScope N_is_choice ["graph", "value"] (defScope s_is_choice) := ⟨rfl, rfl, rfl, by decide +kernel, rfl, by decide +kernel, by decide +kernel⟩
def g_is_choice : SF := (gRet (fOwn 3 f_is_row (fCons (fName 0) (fCons (fName 1) (fCons (fC (.int 1)) fNil)))))
def f_is_choice : List DV → Sto → Res DV := runF false 2 g_is_choice
theorem ok_is_choice {P : Program} {w : World} {K : PySem.W.Frag} {mg : Str → Option Value} {base : Heap} {T : FS} {f : Addr} {fd : FuncData} (F : FnP K "is_choice" s_is_choice f fd) (bl : Blts mg) (C_is_row : Cal P w K mg base T "is_row" 3 3 false f_is_row)   : FnOk P w K mg base (L2N.CX P w) 4 f fd ["graph", "value"] (spOf mg K T false 2 f_is_choice) :=
  dl_def F sc_is_choice fun cdv hcd A outer s H E hr => by
  have tk := L2N.takes_of (X := cxOf (L2N.CX P w) P w K mg base N_is_choice "is_choice" (defScope s_is_choice) f cdv A outer s H E) (E := E) rfl rfl rfl rfl
  exact (dss_one (ds_ret (de_cal C_is_row (hr.mono (by decide)) tk (da_cons (de_name (pv 0)) (da_cons (de_name (pv 1)) (da_cons de_int da_nil))))))

abbrev s_clashing : Stmt := topS 19
abbrev N_clashing : List Str := ["graph", "painting", "found", "i", "j"]
theorem sc_clashing : FnScope N_clashing ["graph", "painting"] (defScope s_clashing) := ⟨rfl, rfl, rfl, by decide +kernel, rfl, by decide +kernel, by decide +kernel⟩
def g_clashing : SF := (gSeq (gDNew 2 (.di []))
  (gSeq (gFor (fIt (fOp2 hIx (fName 0) (fC (.int 1)))) (aTup 2 (aCons (aName 3) (aCons (aName 4) aNil)))
   (gIf (fB (fOp2 hEq (fOp2 hIx (fName 1) (fName 3)) (fOp2 hIx (fName 1) (fName 4))))
   (gSeq (gDPut 2 (fName 3) (fC (.bool true)))
  (gDPut 2 (fName 4) (fC (.bool true))))
   gNop))
  (gRet (fOpN hTuple (fCons (fSortD 2) fNil)))))
def f_clashing : List DV → Sto → Res DV := runF false 5 g_clashing
theorem ok_clashing {P : Program} {w : World} {K : PySem.W.Frag} {mg : Str → Option Value} {base : Heap} {T : FS} {f : Addr} {fd : FuncData} (F : FnP K "clashing" s_clashing f fd) (bl : Blts mg)    : FnOk P w K mg base (L2N.CX P w) 1 f fd ["graph", "painting"] (spOf mg K T false 2 f_clashing) :=
  dl_def F sc_clashing fun cdv hcd A outer s H E hr => by
  have tk := L2N.takes_of (X := cxOf (L2N.CX P w) P w K mg base N_clashing "clashing" (defScope s_clashing) f cdv A outer s H E) (E := E) rfl rfl rfl rfl
  exact (dss_cons (ds_dnewI (i := 2) (ps_set (i := 2) sc_clashing.nd rfl (Or.inl rfl) pe_dnewK))
  (dss_cons (ds_for (t := (gTup _ 2 (gCons (gName 3) (gCons (gName 4) gNil)))) (passes_of rfl) rfl (di_seq (de_ix (de_name (pv 0)) de_int (fun _ _ => rfl))) ⟨(pg_tup rfl (pgs_cons (pg_name (i := 3) sc_clashing.nd rfl (Or.inl rfl)) (pgs_cons (pg_name (i := 4) sc_clashing.nd rfl (Or.inl rfl)) pgs_nil))), (asg_tup (asgs_cons asg_name (asgs_cons asg_name asgs_nil)))⟩
   (dss_one (ds_if (dt_eq hr (de_ix (de_name (pv 1)) (de_name (pv 3)) (fun _ _ => rfl)) (de_ix (de_name (pv 1)) (de_name (pv 4)) (fun _ _ => rfl)))
   (dss_cons (ds_dput (i := 2) hr de_bl (de_name (pv 3)) (pv 2))
  (dss_one (ds_dput (i := 2) hr de_bl (de_name (pv 4)) (pv 2))))
   dss_nil)))
  (dss_one (ds_ret (de_tuple bl (da_cons (de_sortD (i := 2) bl rfl (pv 2)) da_nil))))))

abbrev s_equal_joints : Stmt := topS 20
abbrev N_equal_joints : List Str := ["graph", "painting", "i", "j"]
theorem sc_equal_joints : FnScope N_equal_joints ["graph", "painting"] (defScope s_equal_joints) := ⟨rfl, rfl, rfl, by decide +kernel, rfl, by decide +kernel, by decide +kernel⟩
def g_equal_joints : SF := (gRet (fOpN hLen (fCons (fLc (fIt (fOp2 hIx (fName 0) (fC (.int 1)))) (aTup 2 (aCons (aName 2) (aCons (aName 3) aNil))) (fB (fOp2 hEq (fOp2 hIx (fName 1) (fName 2)) (fOp2 hIx (fName 1) (fName 3)))) (fC (.int 1)) [2, 3]) fNil)))
def f_equal_joints : List DV → Sto → Res DV := runF false 4 g_equal_joints
theorem ok_equal_joints {P : Program} {w : World} {K : PySem.W.Frag} {mg : Str → Option Value} {base : Heap} {T : FS} {f : Addr} {fd : FuncData} (F : FnP K "equal_joints" s_equal_joints f fd) (bl : Blts mg)    : FnOk P w K mg base (L2N.CX P w) 1 f fd ["graph", "painting"] (spOf mg K T false 2 f_equal_joints) :=
  dl_def F sc_equal_joints fun cdv hcd A outer s H E hr => by
  have tk := L2N.takes_of (X := cxOf (L2N.CX P w) P w K mg base N_equal_joints "equal_joints" (defScope s_equal_joints) f cdv A outer s H E) (E := E) rfl rfl rfl rfl
  exact (dss_one (ds_ret (de_len bl (da_cons (de_new (do_lc (own := [("i", 2), ("j", 3)]) (t := (gTup _ 2 (gCons (gName 2) (gCons (gName 3) gNil)))) rfl sc_equal_joints.nd (di_seq (de_ix (de_name (pv 0)) de_int (fun _ _ => rfl))) (blkOk_by (own := [("i", 2), ("j", 3)]) (N := N_equal_joints) (sc := defScope s_equal_joints) (by decide +kernel)) (inner_tup (inners_cons (by decide) (inners_cons (by decide) inners_nil))) (asg_tup (asgs_cons asg_name (asgs_cons asg_name asgs_nil))) (fun _ _ _ _ _ => (pg_tup rfl (pgs_cons (pg_name (i := 2) sc_equal_joints.nd rfl (Or.inl rfl)) (pgs_cons (pg_name (i := 3) sc_equal_joints.nd rfl (Or.inl rfl)) pgs_nil)))) (fun _ _ _ _ _ => (dts_one (dt_eq hr (de_ix (de_name (pv 1)) (de_name (pv 2)) (fun _ _ => rfl)) (de_ix (de_name (pv 1)) (de_name (pv 3)) (fun _ _ => rfl))))) (fun _ _ _ _ _ => de_int))) da_nil))))

abbrev s_free_colour : Stmt := topS 21
abbrev N_free_colour : List Str := ["graph", "painting", "node", "taken", "other", "colour"]
theorem sc_free_colour : FnScope N_free_colour ["graph", "painting", "node"] (defScope s_free_colour) := ⟨rfl, rfl, rfl, by decide +kernel, rfl, by decide +kernel, by decide +kernel⟩
def g_free_colour : SF := (gSeq (gSet 3 (fLc (fIt (fOwn 2 f_joined_to (fCons (fName 0) (fCons (fName 2) fNil)))) (aName 4) fYes (fOp2 hIx (fName 1) (fName 4)) [4]))
  (gRet (fOpN hMin (fCons (fLc (fRng1 (fCons (fOp2 hAdd (fOpN hLen (fCons (fName 3) fNil)) (fC (.int 1))) fNil)) (aName 5) (fB (fOp2 hNotIn (fName 5) (fName 3))) (fName 5) [5]) fNil))))
def f_free_colour : List DV → Sto → Res DV := runF false 6 g_free_colour
theorem ok_free_colour {P : Program} {w : World} {K : PySem.W.Frag} {mg : Str → Option Value} {base : Heap} {T : FS} {f : Addr} {fd : FuncData} (F : FnP K "free_colour" s_free_colour f fd) (bl : Blts mg) (C_joined_to : Cal P w K mg base T "joined_to" 1 2 false f_joined_to)   : FnOk P w K mg base (L2N.CX P w) 2 f fd ["graph", "painting", "node"] (spOf mg K T false 3 f_free_colour) :=
  dl_def F sc_free_colour fun cdv hcd A outer s H E hr => by
  have tk := L2N.takes_of (X := cxOf (L2N.CX P w) P w K mg base N_free_colour "free_colour" (defScope s_free_colour) f cdv A outer s H E) (E := E) rfl rfl rfl rfl
  exact (dss_cons (ds_set (i := 3) (f := (fLc (fIt (fOwn 2 f_joined_to (fCons (fName 0) (fCons (fName 2) fNil)))) (aName 4) fYes (fOp2 hIx (fName 1) (fName 4)) [4])) (ps_set (i := 3) sc_free_colour.nd rfl (Or.inr rfl) (de_new (do_lc (own := [("other", 4)]) (t := (gName 4)) rfl sc_free_colour.nd (di_seq (de_cal C_joined_to (hr.mono (by decide)) tk (da_cons (de_name (pv 0)) (da_cons (de_name (pv 2)) da_nil)))) (blkOk_by (own := [("other", 4)]) (N := N_free_colour) (sc := defScope s_free_colour) (by decide +kernel)) (inner_name (by decide)) asg_name (fun _ _ _ _ _ => (pg_name (i := 4) sc_free_colour.nd rfl (Or.inl rfl))) (fun _ _ _ _ _ => dts_nil) (fun _ _ _ _ _ => (de_ix (de_name (pv 1)) (de_name (pv 4)) (fun _ _ => rfl))))).pe))
  (dss_one (ds_ret (de_min rfl bl (da_cons (de_new (do_lc (own := [("colour", 5)]) (t := (gName 5)) rfl sc_free_colour.nd (di_rng1 (by rfl) bl.range (da_cons (de_add (de_len bl (da_cons (de_name (pv 3)) da_nil)) de_int) da_nil)) (blkOk_by (own := [("colour", 5)]) (N := N_free_colour) (sc := defScope s_free_colour) (by decide +kernel)) (inner_name (by decide)) asg_name (fun _ _ _ _ _ => (pg_name (i := 5) sc_free_colour.nd rfl (Or.inl rfl))) (fun _ _ _ _ _ => (dts_one (dt_notin hr (de_name (pv 5)) (de_name (pv 3))))) (fun _ _ _ _ _ => (de_name (pv 5))))) da_nil)))))

abbrev s_repainted : Stmt := topS 22
abbrev N_repainted : List Str := ["graph", "painting", "node"]
theorem sc_repainted : FnScope N_repainted ["graph", "painting", "node"] (defScope s_repainted) := ⟨rfl, rfl, rfl, by decide +kernel, rfl, by decide +kernel, by decide +kernel⟩
def g_repainted : SF := (gSeq (gIf (fOr (fNot (fB (fOwn 3 f_is_number (fCons (fName 2) (fCons (fC (.int 0)) (fCons (fOp2 hSub (fOp2 hIx (fName 0) (fC (.int 0))) (fC (.int 1))) fNil)))))) (fB (fOp2 hNotIn (fName 2) (fOwn 2 f_clashing (fCons (fName 0) (fCons (fName 1) fNil))))))
   (gRaise "Refused")
   gNop)
  (gRet (fOp2 hAdd (fOp2 hAdd (fSl (fName 1) fNoP (fSomeP (fName 2))) (fOpN hTup (fCons (fOwn 3 f_free_colour (fCons (fName 0) (fCons (fName 1) (fCons (fName 2) fNil)))) fNil))) (fSl (fName 1) (fSomeP (fOp2 hAdd (fName 2) (fC (.int 1)))) fNoP))))
def f_repainted : List DV → Sto → Res DV := runF false 3 g_repainted
theorem ok_repainted {P : Program} {w : World} {K : PySem.W.Frag} {mg : Str → Option Value} {base : Heap} {T : FS} {f : Addr} {fd : FuncData} (F : FnP K "repainted" s_repainted f fd) (bl : Blts mg) (C_free_colour : Cal P w K mg base T "free_colour" 2 3 false f_free_colour) (C_clashing : Cal P w K mg base T "clashing" 1 2 false f_clashing) (C_is_number : Cal P w K mg base T "is_number" 1 3 false f_is_number) (R_Refused : Rs K mg "Refused")  : FnOk P w K mg base (L2N.CX P w) 3 f fd ["graph", "painting", "node"] (spOf mg K T false 3 f_repainted) :=
  dl_def F sc_repainted fun cdv hcd A outer s H E hr => by
  have tk := L2N.takes_of (X := cxOf (L2N.CX P w) P w K mg base N_repainted "repainted" (defScope s_repainted) f cdv A outer s H E) (E := E) rfl rfl rfl rfl
  exact (dss_cons (ds_if (dt_pw (dw_or (dt_not (dt_val (de_cal C_is_number (hr.mono (by decide)) tk (da_cons (de_name (pv 2)) (da_cons de_int (da_cons (de_sub (de_ix (de_name (pv 0)) de_int (fun _ _ => rfl)) de_int) da_nil)))))) (dw_or1 (dt_notin hr (de_name (pv 2)) (de_cal C_clashing (hr.mono (by decide)) tk (da_cons (de_name (pv 0)) (da_cons (de_name (pv 1)) da_nil)))))))
   (dss_one (ds_raiseT R_Refused rfl tk))
   dss_nil)
  (dss_one (ds_ret (de_add (de_add (de_slice (de_name (pv 1)) dp_none (dp_some (de_name (pv 2)))) (de_tup (da_cons (de_cal C_free_colour (hr.mono (by decide)) tk (da_cons (de_name (pv 0)) (da_cons (de_name (pv 1)) (da_cons (de_name (pv 2)) da_nil)))) da_nil))) (de_slice (de_name (pv 1)) (dp_some (de_add (de_name (pv 2)) de_int)) dp_none)))))

abbrev s_all_repainted : Stmt := topS 23
abbrev N_all_repainted : List Str := ["graph", "painting", "bad", "told", "node"]
theorem sc_all_repainted : FnScope N_all_repainted ["graph", "painting"] (defScope s_all_repainted) := ⟨rfl, rfl, rfl, by decide +kernel, rfl, by decide +kernel, by decide +kernel⟩
def g_all_repainted : SF := (gSeq (gSet 2 (fOwn 2 f_clashing (fCons (fName 0) (fCons (fName 1) fNil))))
  (gSeq (gOwn 3 (fOpN hLst fNil))
  (gSeq (gFor (fRng1 (fCons (fOp2 hIx (fName 0) (fC (.int 0))) fNil)) (aName 4)
   (gAppend 3 (fIfE (fB (fOp2 hIn (fName 4) (fName 2))) (fOwn 3 f_free_colour (fCons (fName 0) (fCons (fName 1) (fCons (fName 4) fNil)))) (fOp2 hIx (fName 1) (fName 4)))))
  (gRet (fOpN hTuple (fCons (fNameB 3) fNil))))))
def f_all_repainted : List DV → Sto → Res DV := runF false 5 g_all_repainted
theorem ok_all_repainted {P : Program} {w : World} {K : PySem.W.Frag} {mg : Str → Option Value} {base : Heap} {T : FS} {f : Addr} {fd : FuncData} (F : FnP K "all_repainted" s_all_repainted f fd) (bl : Blts mg) (C_free_colour : Cal P w K mg base T "free_colour" 2 3 false f_free_colour) (C_clashing : Cal P w K mg base T "clashing" 1 2 false f_clashing)   : FnOk P w K mg base (L2N.CX P w) 3 f fd ["graph", "painting"] (spOf mg K T false 2 f_all_repainted) :=
  dl_def F sc_all_repainted fun cdv hcd A outer s H E hr => by
  have tk := L2N.takes_of (X := cxOf (L2N.CX P w) P w K mg base N_all_repainted "all_repainted" (defScope s_all_repainted) f cdv A outer s H E) (E := E) rfl rfl rfl rfl
  exact (dss_cons (ds_set (i := 2) (f := (fOwn 2 f_clashing (fCons (fName 0) (fCons (fName 1) fNil)))) (ps_set (i := 2) sc_all_repainted.nd rfl (Or.inl rfl) (de_cal C_clashing (hr.mono (by decide)) tk (da_cons (de_name (pv 0)) (da_cons (de_name (pv 1)) da_nil))).pe))
  (dss_cons (ds_own (i := 3) (f := (fOpN hLst fNil)) (ps_set (i := 3) sc_all_repainted.nd rfl (Or.inl rfl) (do_lst da_nil).pe))
  (dss_cons (ds_for (t := (gName 4)) (passes_of rfl) rfl (di_rng1 (by rfl) bl.range (da_cons (de_ix (de_name (pv 0)) de_int (fun _ _ => rfl)) da_nil)) ⟨(pg_name (i := 4) sc_all_repainted.nd rfl (Or.inl rfl)), asg_name⟩
   (dss_one (ds_append (i := 3) (f := (fIfE (fB (fOp2 hIn (fName 4) (fName 2))) (fOwn 3 f_free_colour (fCons (fName 0) (fCons (fName 1) (fCons (fName 4) fNil)))) (fOp2 hIx (fName 1) (fName 4)))) (ps_expr (pe_bm PySem.F.plainAttrs_list PySem.F.slot_list_append PySem.F.type_list_append mt_append (pv 3) (pa_cons (de_ifE (dt_in hr (de_name (pv 4)) (de_name (pv 2))) (de_cal C_free_colour (hr.mono (by decide)) tk (da_cons (de_name (pv 0)) (da_cons (de_name (pv 1)) (da_cons (de_name (pv 4)) da_nil)))) (de_ix (de_name (pv 1)) (de_name (pv 4)) (fun _ _ => rfl))).pe pa_nil))))))
  (dss_one (ds_ret (de_tuple bl (da_cons (de_nameB (pv 3)) da_nil)))))))

abbrev s_restless : Stmt := topS 24
abbrev N_restless : List Str := ["graph", "choice", "told", "node", "beside", "other"]
theorem sc_restless : FnScope N_restless ["graph", "choice"] (defScope s_restless) := ⟨rfl, rfl, rfl, by decide +kernel, rfl, by decide +kernel, by decide +kernel⟩
def g_restless : SF := (gSeq (gOwn 2 (fOpN hLst fNil))
  (gSeq (gFor (fRng1 (fCons (fOp2 hIx (fName 0) (fC (.int 0))) fNil)) (aName 3)
   (gSeq (gSet 4 (fLc (fIt (fOwn 2 f_joined_to (fCons (fName 0) (fCons (fName 3) fNil)))) (aName 5) fYes (fOp2 hIx (fName 1) (fName 5)) [5]))
  (gIf (fB (fOp2 hEq (fOp2 hEq (fOp2 hIx (fName 1) (fName 3)) (fC (.int 1))) (fOp2 hIn (fC (.int 1)) (fName 4))))
   (gAppend 2 (fName 3))
   gNop)))
  (gRet (fOpN hTuple (fCons (fNameB 2) fNil)))))
def f_restless : List DV → Sto → Res DV := runF false 6 g_restless
theorem ok_restless {P : Program} {w : World} {K : PySem.W.Frag} {mg : Str → Option Value} {base : Heap} {T : FS} {f : Addr} {fd : FuncData} (F : FnP K "restless" s_restless f fd) (bl : Blts mg) (C_joined_to : Cal P w K mg base T "joined_to" 1 2 false f_joined_to)   : FnOk P w K mg base (L2N.CX P w) 2 f fd ["graph", "choice"] (spOf mg K T false 2 f_restless) :=
  dl_def F sc_restless fun cdv hcd A outer s H E hr => by
  have tk := L2N.takes_of (X := cxOf (L2N.CX P w) P w K mg base N_restless "restless" (defScope s_restless) f cdv A outer s H E) (E := E) rfl rfl rfl rfl
  exact (dss_cons (ds_own (i := 2) (f := (fOpN hLst fNil)) (ps_set (i := 2) sc_restless.nd rfl (Or.inl rfl) (do_lst da_nil).pe))
  (dss_cons (ds_for (t := (gName 3)) (passes_of rfl) rfl (di_rng1 (by rfl) bl.range (da_cons (de_ix (de_name (pv 0)) de_int (fun _ _ => rfl)) da_nil)) ⟨(pg_name (i := 3) sc_restless.nd rfl (Or.inl rfl)), asg_name⟩
   (dss_cons (ds_setLc (i := 4) rfl sc_restless.nd rfl rfl (sw_true rfl rfl rfl (by decide +kernel)) (own := [("other", 5)]) (t := (gName 5)) (di_seq (de_cal C_joined_to (hr.mono (by decide)) tk (da_cons (de_name (pv 0)) (da_cons (de_name (pv 3)) da_nil)))) (blkOk_by (own := [("other", 5)]) (N := N_restless) (sc := defScope s_restless) (by decide +kernel)) (inner_name (by decide)) asg_name (fun _ _ _ _ _ => (pg_name (i := 5) sc_restless.nd rfl (Or.inl rfl))) (fun _ _ _ _ _ => dts_nil) (fun _ _ _ _ _ => (de_ix (de_name (pv 1)) (de_name (pv 5)) (fun _ _ => rfl))))
  (dss_one (ds_if (dt_eq hr (de_eq hr (de_ix (de_name (pv 1)) (de_name (pv 3)) (fun _ _ => rfl)) de_int) (de_in hr de_int (de_name (pv 4))))
   (dss_one (ds_append (i := 2) (f := (fName 3)) (ps_expr (pe_bm PySem.F.plainAttrs_list PySem.F.slot_list_append PySem.F.type_list_append mt_append (pv 2) (pa_cons (de_name (pv 3)).pe pa_nil)))))
   dss_nil))))
  (dss_one (ds_ret (de_tuple bl (da_cons (de_nameB (pv 2)) da_nil))))))

abbrev s_turned : Stmt := topS 25
abbrev N_turned : List Str := ["graph", "choice", "node"]
theorem sc_turned : FnScope N_turned ["graph", "choice", "node"] (defScope s_turned) := ⟨rfl, rfl, rfl, by decide +kernel, rfl, by decide +kernel, by decide +kernel⟩
def g_turned : SF := (gSeq (gIf (fOr (fNot (fB (fOwn 3 f_is_number (fCons (fName 2) (fCons (fC (.int 0)) (fCons (fOp2 hSub (fOp2 hIx (fName 0) (fC (.int 0))) (fC (.int 1))) fNil)))))) (fB (fOp2 hNotIn (fName 2) (fOwn 2 f_restless (fCons (fName 0) (fCons (fName 1) fNil))))))
   (gRaise "Refused")
   gNop)
  (gRet (fOp2 hAdd (fOp2 hAdd (fSl (fName 1) fNoP (fSomeP (fName 2))) (fOpN hTup (fCons (fOp2 hSub (fC (.int 1)) (fOp2 hIx (fName 1) (fName 2))) fNil))) (fSl (fName 1) (fSomeP (fOp2 hAdd (fName 2) (fC (.int 1)))) fNoP))))
def f_turned : List DV → Sto → Res DV := runF false 3 g_turned
theorem ok_turned {P : Program} {w : World} {K : PySem.W.Frag} {mg : Str → Option Value} {base : Heap} {T : FS} {f : Addr} {fd : FuncData} (F : FnP K "turned" s_turned f fd) (bl : Blts mg) (C_restless : Cal P w K mg base T "restless" 2 2 false f_restless) (C_is_number : Cal P w K mg base T "is_number" 1 3 false f_is_number) (R_Refused : Rs K mg "Refused")  : FnOk P w K mg base (L2N.CX P w) 3 f fd ["graph", "choice", "node"] (spOf mg K T false 3 f_turned) :=
  dl_def F sc_turned fun cdv hcd A outer s H E hr => by
  have tk := L2N.takes_of (X := cxOf (L2N.CX P w) P w K mg base N_turned "turned" (defScope s_turned) f cdv A outer s H E) (E := E) rfl rfl rfl rfl
  exact (dss_cons (ds_if (dt_pw (dw_or (dt_not (dt_val (de_cal C_is_number (hr.mono (by decide)) tk (da_cons (de_name (pv 2)) (da_cons de_int (da_cons (de_sub (de_ix (de_name (pv 0)) de_int (fun _ _ => rfl)) de_int) da_nil)))))) (dw_or1 (dt_notin hr (de_name (pv 2)) (de_cal C_restless (hr.mono (by decide)) tk (da_cons (de_name (pv 0)) (da_cons (de_name (pv 1)) da_nil)))))))
   (dss_one (ds_raiseT R_Refused rfl tk))
   dss_nil)
  (dss_one (ds_ret (de_add (de_add (de_slice (de_name (pv 1)) dp_none (dp_some (de_name (pv 2)))) (de_tup (da_cons (de_sub de_int (de_ix (de_name (pv 1)) (de_name (pv 2)) (fun _ _ => rfl))) da_nil))) (de_slice (de_name (pv 1)) (dp_some (de_add (de_name (pv 2)) de_int)) dp_none)))))

abbrev s_is_settled : Stmt := topS 26
abbrev N_is_settled : List Str := ["graph", "choice"]
theorem sc_is_settled : FnScope N_is_settled ["graph", "choice"] (defScope s_is_settled) := ⟨rfl, rfl, rfl, by decide +kernel, rfl, by decide +kernel, by decide +kernel⟩
def g_is_settled : SF := (gRet (fOp2 hEq (fOwn 2 f_restless (fCons (fName 0) (fCons (fName 1) fNil))) (fOpN hTup fNil)))
def f_is_settled : List DV → Sto → Res DV := runF false 2 g_is_settled
theorem ok_is_settled {P : Program} {w : World} {K : PySem.W.Frag} {mg : Str → Option Value} {base : Heap} {T : FS} {f : Addr} {fd : FuncData} (F : FnP K "is_settled" s_is_settled f fd) (bl : Blts mg) (C_restless : Cal P w K mg base T "restless" 2 2 false f_restless)   : FnOk P w K mg base (L2N.CX P w) 3 f fd ["graph", "choice"] (spOf mg K T false 2 f_is_settled) :=
  dl_def F sc_is_settled fun cdv hcd A outer s H E hr => by
  have tk := L2N.takes_of (X := cxOf (L2N.CX P w) P w K mg base N_is_settled "is_settled" (defScope s_is_settled) f cdv A outer s H E) (E := E) rfl rfl rfl rfl
  exact (dss_one (ds_ret (de_eq hr (de_cal C_restless (hr.mono (by decide)) tk (da_cons (de_name (pv 0)) (da_cons (de_name (pv 1)) da_nil))) (de_tup da_nil))))

abbrev s__law_open : Stmt := topS 28
abbrev N__law_open : List Str := ["script", "cells", "cell"]
theorem sc__law_open : FnScope N__law_open ["script"] (defScope s__law_open) := ⟨rfl, rfl, rfl, by decide +kernel, rfl, by decide +kernel, by decide +kernel⟩
def g__law_open : SF := (gSeq (gSet 1 (fLc (fIt (fSl (fName 0) fNoP (fSomeP (fC (.int 63))))) (aName 2) fYes (fOpN hAbs (fCons (fOpN hIntOf (fCons (fName 2) fNil)) fNil)) [2]))
  (gRet (fOpN hLst (fCons (fC (.int 0)) (fCons (fC (.int 0)) (fCons (fOp2 hAdd (fName 1) (fOpN hLst (fCons (fC (.int 0)) fNil))) fNil))))))
def f__law_open : List DV → Sto → Res DV := runF true 3 g__law_open
theorem ok__law_open {P : Program} {w : World} {K : PySem.W.Frag} {mg : Str → Option Value} {base : Heap} {T : FS} {f : Addr} {fd : FuncData} (F : FnP K "_law_open" s__law_open f fd) (bl : Blts mg)    : FnOk P w K mg base (L2N.CX P w) 1 f fd ["script"] (spOf mg K T true 1 f__law_open) :=
  dl_def F sc__law_open fun cdv hcd A outer s H E hr => by
  have tk := L2N.takes_of (X := cxOf (L2N.CX P w) P w K mg base N__law_open "_law_open" (defScope s__law_open) f cdv A outer s H E) (E := E) rfl rfl rfl rfl
  exact (dss_cons (ds_setLc (i := 1) rfl sc__law_open.nd rfl rfl (sw_true rfl rfl rfl (by decide +kernel)) (own := [("cell", 2)]) (t := (gName 2)) (di_seq (de_slice (de_name (pv 0)) dp_none (dp_some de_int))) (blkOk_by (own := [("cell", 2)]) (N := N__law_open) (sc := defScope s__law_open) (by decide +kernel)) (inner_name (by decide)) asg_name (fun _ _ _ _ _ => (pg_name (i := 2) sc__law_open.nd rfl (Or.inl rfl))) (fun _ _ _ _ _ => dts_nil) (fun _ _ _ _ _ => (de_abs bl (da_cons (de_int_ bl (da_cons (de_name (pv 2)) da_nil)) da_nil))))
  (dss_one (ds_retNew (do_lst (da_cons de_int (da_cons de_int (da_cons (de_add (de_name (pv 1)) (de_new (do_lst (da_cons de_int da_nil)))) da_nil)))))))

abbrev s__law_mixed : Stmt := topS 29
abbrev N__law_mixed : List Str := ["cell", "turn", "number"]
theorem sc__law_mixed : FnScope N__law_mixed ["cell", "turn"] (defScope s__law_mixed) := ⟨rfl, rfl, rfl, by decide +kernel, rfl, by decide +kernel, by decide +kernel⟩
def g__law_mixed : SF := (gSeq (gSet 2 (fOp2 hMod (fOp2 hAdd (fOp2 hAdd (fOp2 hMul (fOp2 hMod (fName 0) (fOp2 hSub (fOp2 hPow (fC (.int 2)) (fC (.int 61))) (fC (.int 1)))) (fC (.int 6364136223846793005))) (fOp2 hMul (fName 1) (fC (.int 1442695040888963407)))) (fC (.int 97))) (fOp2 hPow (fC (.int 2)) (fC (.int 61)))))
  (gSeq (gSet 2 (fOp2 hMod (fOp2 hMul (fOp2 hXor (fName 2) (fOp2 hShr (fName 2) (fC (.int 29)))) (fC (.int 3935559000370003845))) (fOp2 hPow (fC (.int 2)) (fC (.int 61)))))
  (gRet (fOp2 hMod (fOp2 hMul (fOp2 hXor (fName 2) (fOp2 hShr (fName 2) (fC (.int 31)))) (fC (.int 2862933555777941757))) (fOp2 hPow (fC (.int 2)) (fC (.int 61)))))))
def f__law_mixed : List DV → Sto → Res DV := runF false 3 g__law_mixed
theorem ok__law_mixed {P : Program} {w : World} {K : PySem.W.Frag} {mg : Str → Option Value} {base : Heap} {T : FS} {f : Addr} {fd : FuncData} (F : FnP K "_law_mixed" s__law_mixed f fd) (bl : Blts mg)    : FnOk P w K mg base (L2N.CX P w) 1 f fd ["cell", "turn"] (spOf mg K T false 2 f__law_mixed) :=
  dl_def F sc__law_mixed fun cdv hcd A outer s H E hr => by
  have tk := L2N.takes_of (X := cxOf (L2N.CX P w) P w K mg base N__law_mixed "_law_mixed" (defScope s__law_mixed) f cdv A outer s H E) (E := E) rfl rfl rfl rfl
  exact (dss_cons (ds_set (i := 2) (f := (fOp2 hMod (fOp2 hAdd (fOp2 hAdd (fOp2 hMul (fOp2 hMod (fName 0) (fOp2 hSub (fOp2 hPow (fC (.int 2)) (fC (.int 61))) (fC (.int 1)))) (fC (.int 6364136223846793005))) (fOp2 hMul (fName 1) (fC (.int 1442695040888963407)))) (fC (.int 97))) (fOp2 hPow (fC (.int 2)) (fC (.int 61))))) (ps_set (i := 2) sc__law_mixed.nd rfl (Or.inl rfl) (de_mod (de_add (de_add (de_mul (de_mod (de_name (pv 0)) (de_sub (de_pow de_int de_int) de_int)) de_int) (de_mul (de_name (pv 1)) de_int)) de_int) (de_pow de_int de_int)).pe))
  (dss_cons (ds_set (i := 2) (f := (fOp2 hMod (fOp2 hMul (fOp2 hXor (fName 2) (fOp2 hShr (fName 2) (fC (.int 29)))) (fC (.int 3935559000370003845))) (fOp2 hPow (fC (.int 2)) (fC (.int 61))))) (ps_set (i := 2) sc__law_mixed.nd rfl (Or.inl rfl) (de_mod (de_mul (de_xor (de_name (pv 2)) (de_shr (de_name (pv 2)) de_int)) de_int) (de_pow de_int de_int)).pe))
  (dss_one (ds_ret (de_mod (de_mul (de_xor (de_name (pv 2)) (de_shr (de_name (pv 2)) de_int)) de_int) (de_pow de_int de_int))))))

abbrev s__law_draw : Stmt := topS 30
abbrev N__law_draw : List Str := ["draws", "size", "turn", "left", "cells", "cell"]
theorem sc__law_draw : FnScope N__law_draw ["draws", "size"] (defScope s__law_draw) := ⟨rfl, rfl, rfl, by decide +kernel, rfl, by decide +kernel, by decide +kernel⟩
def g__law_draw : SF := (gSeq (gUnpackLoc (fName 0) 3 (aCons (aName 2) (aCons (aName 3) (aCons (aName 4) aNil))))
  (gSeq (gIf (fB (fOp2 hLt (fName 3) (fName 1)))
   (gSeq (gSet 5 (fOp2 hIx (fName 4) (fOp2 hMod (fName 2) (fOpN hLen (fCons (fName 4) fNil)))))
  (gSeq (gSet 3 (fIfE (fAnd (fB (fOp2 hLt (fName 2) (fOpN hLen (fCons (fName 4) fNil)))) (fB (fOp2 hGe (fName 5) (fOp2 hPow (fC (.int 10)) (fC (.int 18)))))) (fName 5) (fOwn 2 f__law_mixed (fCons (fName 5) (fCons (fName 2) fNil)))))
  (gSet 2 (fOp2 hAdd (fName 2) (fC (.int 1))))))
   gNop)
  (gSeq (gStoreLoc 0 0 (fName 2))
  (gSeq (gStoreLoc 0 1 (fOp2 hFdiv (fName 3) (fName 1)))
  (gRet (fOp2 hMod (fName 3) (fName 1)))))))
def f__law_draw : List DV → Sto → Res DV := runF false 6 g__law_draw
theorem ok__law_draw {P : Program} {w : World} {K : PySem.W.Frag} {mg : Str → Option Value} {base : Heap} {T : FS} {f : Addr} {fd : FuncData} (F : FnP K "_law_draw" s__law_draw f fd) (bl : Blts mg) (C__law_mixed : Cal P w K mg base T "_law_mixed" 1 2 false f__law_mixed)   : FnOk P w K mg base (L2N.CX P w) 2 f fd ["draws", "size"] (spOf mg K T false 2 f__law_draw) :=
  dl_def F sc__law_draw fun cdv hcd A outer s H E hr => by
  have tk := L2N.takes_of (X := cxOf (L2N.CX P w) P w K mg base N__law_draw "_law_draw" (defScope s__law_draw) f cdv A outer s H E) (E := E) rfl rfl rfl rfl
  exact (dss_cons (ds_unpackLoc (u := (gCons (gName 2) (gCons (gName 3) (gCons (gName 4) gNil)))) rfl (de_name (pv 0)) ⟨(pgs_cons (pg_name (i := 2) sc__law_draw.nd rfl (Or.inl rfl)) (pgs_cons (pg_name (i := 3) sc__law_draw.nd rfl (Or.inl rfl)) (pgs_cons (pg_name (i := 4) sc__law_draw.nd rfl (Or.inl rfl)) pgs_nil))), (asgs_cons asg_name (asgs_cons asg_name (asgs_cons asg_name asgs_nil)))⟩)
  (dss_cons (ds_if (dt_lt hr (de_name (pv 3)) (de_name (pv 1)))
   (dss_cons (ds_set (i := 5) (f := (fOp2 hIx (fName 4) (fOp2 hMod (fName 2) (fOpN hLen (fCons (fName 4) fNil))))) (ps_set (i := 5) sc__law_draw.nd rfl (Or.inl rfl) (de_ix (de_name (pv 4)) (de_mod (de_name (pv 2)) (de_len bl (da_cons (de_name (pv 4)) da_nil))) (fun _ _ => rfl)).pe))
  (dss_cons (ds_set (i := 3) (f := (fIfE (fAnd (fB (fOp2 hLt (fName 2) (fOpN hLen (fCons (fName 4) fNil)))) (fB (fOp2 hGe (fName 5) (fOp2 hPow (fC (.int 10)) (fC (.int 18)))))) (fName 5) (fOwn 2 f__law_mixed (fCons (fName 5) (fCons (fName 2) fNil))))) (ps_set (i := 3) sc__law_draw.nd rfl (Or.inl rfl) (de_ifE (dt_pw (dw_and (dt_lt hr (de_name (pv 2)) (de_len bl (da_cons (de_name (pv 4)) da_nil))) (dw_and1 (dt_ge hr (de_name (pv 5)) (de_pow de_int de_int))))) (de_name (pv 5)) (de_cal C__law_mixed (hr.mono (by decide)) tk (da_cons (de_name (pv 5)) (da_cons (de_name (pv 2)) da_nil)))).pe))
  (dss_one (ds_set (i := 2) (f := (fOp2 hAdd (fName 2) (fC (.int 1)))) (ps_set (i := 2) sc__law_draw.nd rfl (Or.inl rfl) (de_add (de_name (pv 2)) de_int).pe)))))
   dss_nil)
  (dss_cons (ds_storeLoc (i := 0) (k := 0) (f := (fName 2)) (ps_asg (de_name (pv 2)).pe (pg_sub (pv 0) pe_int set_list)))
  (dss_cons (ds_storeLoc (i := 0) (k := 1) (f := (fOp2 hFdiv (fName 3) (fName 1))) (ps_asg (de_fdiv (de_name (pv 3)) (de_name (pv 1))).pe (pg_sub (pv 0) pe_int set_list)))
  (dss_one (ds_ret (de_mod (de_name (pv 3)) (de_name (pv 1)))))))))

abbrev s__law_told : Stmt := topS 31
abbrev N__law_told : List Str := ["error", "kinds", "names", "name", "true"]
theorem sc__law_told : FnScope N__law_told ["error"] (defScope s__law_told) := ⟨rfl, rfl, rfl, by decide +kernel, rfl, by decide +kernel, by decide +kernel⟩
def g__law_told (a : Addr) (c : Str) : SF := (gSeq (gSet 1 (fOpN hLst (fCons (fOpN hTup (fCons (fC (.str "OutOfRange")) (fCons (fIsP 0 a (decide (c = "OutOfRange"))) fNil))) (fCons (fOpN hTup (fCons (fC (.str "Malformed")) (fCons (fIsP 0 a (decide (c = "Malformed"))) fNil))) (fCons (fOpN hTup (fCons (fC (.str "NotThere")) (fCons (fIsP 0 a (decide (c = "NotThere"))) fNil))) (fCons (fOpN hTup (fCons (fC (.str "Refused")) (fCons (fIsP 0 a (decide (c = "Refused"))) fNil))) (fCons (fOpN hTup (fCons (fC (.str "TooMuch")) (fCons (fIsP 0 a (decide (c = "TooMuch"))) fNil))) fNil)))))))
  (gSeq (gSet 2 (fLc (fItL (fName 1)) (aTup 2 (aCons (aName 3) (aCons (aName 4) aNil))) (fB (fName 4)) (fName 3) [3, 4]))
  (gSeq (gIf (fOr (fB (fOp2 hNe (fOpN hLen (fCons (fName 2) fNil)) (fC (.int 1)))) (fNot (fB (fIsP 0 a true))))
   (gRet (fC (.str "several")))
   gNop)
  (gRet (fOp2 hIx (fName 2) (fC (.int 0)))))))
def told5 : Str → Option Str := fun c => if c = "OutOfRange" then some "OutOfRange" else if c = "Malformed" then some "Malformed" else if c = "NotThere" then some "NotThere" else if c = "Refused" then some "Refused" else if c = "TooMuch" then some "TooMuch" else none
theorem pt_OutOfRange (a : Addr) (sto : Sto) : g__law_told a "OutOfRange" (startP a 4) sto = .rt (.d (.str "OutOfRange")) sto := by
  have e_OutOfRange : decide (Str.ofString "OutOfRange" = Str.ofString "OutOfRange") = true := by decide +kernel
  have e_Malformed : decide (Str.ofString "OutOfRange" = Str.ofString "Malformed") = false := by decide +kernel
  have e_NotThere : decide (Str.ofString "OutOfRange" = Str.ofString "NotThere") = false := by decide +kernel
  have e_Refused : decide (Str.ofString "OutOfRange" = Str.ofString "Refused") = false := by decide +kernel
  have e_TooMuch : decide (Str.ofString "OutOfRange" = Str.ofString "TooMuch") = false := by decide +kernel
  rw [show startP a 4 = [.pin (.ref a), .un, .un, .un, .un] from rfl]
  simp -implicitDefEqProofs -dsimp only [g__law_told, lcG, decide_true, e_Malformed, e_NotThere, e_Refused, e_TooMuch, fC_ap, fOp2_ap, fOp1_ap, fNil_ap, fCons_ap, fOpN_ap, fLst_ap, fB_ap, fAnd_ap, fOr_ap, fNot_ap, fAndV_ap, fOrV_ap, fNotV_ap, fIfE_ap, fChain_ap, fNoP_ap, fSomeP_ap, fSl_ap, fOwn_ap, fItL_ap, fItT_ap, fItScr_ap, fRng1_ap, fRng2_ap, fYes_ap, fLc_ap, fAA_ap, gSeq_ap, gNop_ap, gSet_ap, gIf_ap, gRet_ap, gRaise_ap, gExpr_ap, gBreak_ap, gCont_ap, gFor_ap, bind_ok, bind_exc, bind_no, thn_ok, thn_exc, thn_no, then_nx, then_rt, then_exc, then_bk, then_ct, lift_some, lift_none, toB_b, toI_i, toL_l, toT_t, toScr_s, lstOnly_l, allD_nil, allD_cons, map_some', lcG_nil, aaG_nil, forG_nil, fName_z, fName_s, fNameB_z, fNameB_zo, fNameB_s, fIsP_z, fIsP_s, aName_ap, aNil_ap, aCons_ap, aTup_ap, wipeE_nil, wipeE_cons, hEq_ii, hNe_ii, hAdd_ii, hSub_ii, hLe_ii, hLtI_ii, hGt_ii, hGe_ii, hIs_bb, hIsNot_bb, List.set_cons_zero, List.set_cons_succ, List.map_cons, List.map_nil, List.cons_append, List.nil_append, hLen_l, hLen_t, hLen_s, hTup_ap, hLst_ap, hTuple_l, hTuple_t, hList_l, hList_t, hAbs_i, hIntOf_i, hIntOf_b, hNeg_i, hIsi_int, hIsi_bool, hIsi_tuple, hIsi_list, hIsi_str, hSl_l, hSl_t, hSl_s, hIx_l0, hIx_t0, hIx_l1, hIx_t1, hIx_l2, hIx_t2, hXor_ii, sv, Option.map_some, Option.bind_some, List.length_cons, List.length_nil, reduceIte, Nat.reduceLT, Nat.reduceLeDiff, Nat.reduceAdd, Bool.false_eq_true, Bool.not_true, Bool.not_false, gAsg_ap, gUnpackLoc_ap, gStoreLoc_ap, gPar_ap, runF_fin, finR_nx, finR_rt, finR_exc, List.replicate_succ, List.replicate_zero, Nat.reduceSub, List.getElem?_cons_zero, List.getElem?_cons_succ, hLt_ii, pInt, pBool, pTup, pList, pStr, decide_eq_true_eq, fIt_ap, toS_l, toS_t, hid_ap]
  rfl
theorem pt_Malformed (a : Addr) (sto : Sto) : g__law_told a "Malformed" (startP a 4) sto = .rt (.d (.str "Malformed")) sto := by
  have e_OutOfRange : decide (Str.ofString "Malformed" = Str.ofString "OutOfRange") = false := by decide +kernel
  have e_Malformed : decide (Str.ofString "Malformed" = Str.ofString "Malformed") = true := by decide +kernel
  have e_NotThere : decide (Str.ofString "Malformed" = Str.ofString "NotThere") = false := by decide +kernel
  have e_Refused : decide (Str.ofString "Malformed" = Str.ofString "Refused") = false := by decide +kernel
  have e_TooMuch : decide (Str.ofString "Malformed" = Str.ofString "TooMuch") = false := by decide +kernel
  rw [show startP a 4 = [.pin (.ref a), .un, .un, .un, .un] from rfl]
  simp -implicitDefEqProofs -dsimp only [g__law_told, lcG, decide_true, e_OutOfRange, e_NotThere, e_Refused, e_TooMuch, fC_ap, fOp2_ap, fOp1_ap, fNil_ap, fCons_ap, fOpN_ap, fLst_ap, fB_ap, fAnd_ap, fOr_ap, fNot_ap, fAndV_ap, fOrV_ap, fNotV_ap, fIfE_ap, fChain_ap, fNoP_ap, fSomeP_ap, fSl_ap, fOwn_ap, fItL_ap, fItT_ap, fItScr_ap, fRng1_ap, fRng2_ap, fYes_ap, fLc_ap, fAA_ap, gSeq_ap, gNop_ap, gSet_ap, gIf_ap, gRet_ap, gRaise_ap, gExpr_ap, gBreak_ap, gCont_ap, gFor_ap, bind_ok, bind_exc, bind_no, thn_ok, thn_exc, thn_no, then_nx, then_rt, then_exc, then_bk, then_ct, lift_some, lift_none, toB_b, toI_i, toL_l, toT_t, toScr_s, lstOnly_l, allD_nil, allD_cons, map_some', lcG_nil, aaG_nil, forG_nil, fName_z, fName_s, fNameB_z, fNameB_zo, fNameB_s, fIsP_z, fIsP_s, aName_ap, aNil_ap, aCons_ap, aTup_ap, wipeE_nil, wipeE_cons, hEq_ii, hNe_ii, hAdd_ii, hSub_ii, hLe_ii, hLtI_ii, hGt_ii, hGe_ii, hIs_bb, hIsNot_bb, List.set_cons_zero, List.set_cons_succ, List.map_cons, List.map_nil, List.cons_append, List.nil_append, hLen_l, hLen_t, hLen_s, hTup_ap, hLst_ap, hTuple_l, hTuple_t, hList_l, hList_t, hAbs_i, hIntOf_i, hIntOf_b, hNeg_i, hIsi_int, hIsi_bool, hIsi_tuple, hIsi_list, hIsi_str, hSl_l, hSl_t, hSl_s, hIx_l0, hIx_t0, hIx_l1, hIx_t1, hIx_l2, hIx_t2, hXor_ii, sv, Option.map_some, Option.bind_some, List.length_cons, List.length_nil, reduceIte, Nat.reduceLT, Nat.reduceLeDiff, Nat.reduceAdd, Bool.false_eq_true, Bool.not_true, Bool.not_false, gAsg_ap, gUnpackLoc_ap, gStoreLoc_ap, gPar_ap, runF_fin, finR_nx, finR_rt, finR_exc, List.replicate_succ, List.replicate_zero, Nat.reduceSub, List.getElem?_cons_zero, List.getElem?_cons_succ, hLt_ii, pInt, pBool, pTup, pList, pStr, decide_eq_true_eq, fIt_ap, toS_l, toS_t, hid_ap]
  rfl
theorem pt_NotThere (a : Addr) (sto : Sto) : g__law_told a "NotThere" (startP a 4) sto = .rt (.d (.str "NotThere")) sto := by
  have e_OutOfRange : decide (Str.ofString "NotThere" = Str.ofString "OutOfRange") = false := by decide +kernel
  have e_Malformed : decide (Str.ofString "NotThere" = Str.ofString "Malformed") = false := by decide +kernel
  have e_NotThere : decide (Str.ofString "NotThere" = Str.ofString "NotThere") = true := by decide +kernel
  have e_Refused : decide (Str.ofString "NotThere" = Str.ofString "Refused") = false := by decide +kernel
  have e_TooMuch : decide (Str.ofString "NotThere" = Str.ofString "TooMuch") = false := by decide +kernel
  rw [show startP a 4 = [.pin (.ref a), .un, .un, .un, .un] from rfl]
  simp -implicitDefEqProofs -dsimp only [g__law_told, lcG, decide_true, e_OutOfRange, e_Malformed, e_Refused, e_TooMuch, fC_ap, fOp2_ap, fOp1_ap, fNil_ap, fCons_ap, fOpN_ap, fLst_ap, fB_ap, fAnd_ap, fOr_ap, fNot_ap, fAndV_ap, fOrV_ap, fNotV_ap, fIfE_ap, fChain_ap, fNoP_ap, fSomeP_ap, fSl_ap, fOwn_ap, fItL_ap, fItT_ap, fItScr_ap, fRng1_ap, fRng2_ap, fYes_ap, fLc_ap, fAA_ap, gSeq_ap, gNop_ap, gSet_ap, gIf_ap, gRet_ap, gRaise_ap, gExpr_ap, gBreak_ap, gCont_ap, gFor_ap, bind_ok, bind_exc, bind_no, thn_ok, thn_exc, thn_no, then_nx, then_rt, then_exc, then_bk, then_ct, lift_some, lift_none, toB_b, toI_i, toL_l, toT_t, toScr_s, lstOnly_l, allD_nil, allD_cons, map_some', lcG_nil, aaG_nil, forG_nil, fName_z, fName_s, fNameB_z, fNameB_zo, fNameB_s, fIsP_z, fIsP_s, aName_ap, aNil_ap, aCons_ap, aTup_ap, wipeE_nil, wipeE_cons, hEq_ii, hNe_ii, hAdd_ii, hSub_ii, hLe_ii, hLtI_ii, hGt_ii, hGe_ii, hIs_bb, hIsNot_bb, List.set_cons_zero, List.set_cons_succ, List.map_cons, List.map_nil, List.cons_append, List.nil_append, hLen_l, hLen_t, hLen_s, hTup_ap, hLst_ap, hTuple_l, hTuple_t, hList_l, hList_t, hAbs_i, hIntOf_i, hIntOf_b, hNeg_i, hIsi_int, hIsi_bool, hIsi_tuple, hIsi_list, hIsi_str, hSl_l, hSl_t, hSl_s, hIx_l0, hIx_t0, hIx_l1, hIx_t1, hIx_l2, hIx_t2, hXor_ii, sv, Option.map_some, Option.bind_some, List.length_cons, List.length_nil, reduceIte, Nat.reduceLT, Nat.reduceLeDiff, Nat.reduceAdd, Bool.false_eq_true, Bool.not_true, Bool.not_false, gAsg_ap, gUnpackLoc_ap, gStoreLoc_ap, gPar_ap, runF_fin, finR_nx, finR_rt, finR_exc, List.replicate_succ, List.replicate_zero, Nat.reduceSub, List.getElem?_cons_zero, List.getElem?_cons_succ, hLt_ii, pInt, pBool, pTup, pList, pStr, decide_eq_true_eq, fIt_ap, toS_l, toS_t, hid_ap]
  rfl
theorem pt_Refused (a : Addr) (sto : Sto) : g__law_told a "Refused" (startP a 4) sto = .rt (.d (.str "Refused")) sto := by
  have e_OutOfRange : decide (Str.ofString "Refused" = Str.ofString "OutOfRange") = false := by decide +kernel
  have e_Malformed : decide (Str.ofString "Refused" = Str.ofString "Malformed") = false := by decide +kernel
  have e_NotThere : decide (Str.ofString "Refused" = Str.ofString "NotThere") = false := by decide +kernel
  have e_Refused : decide (Str.ofString "Refused" = Str.ofString "Refused") = true := by decide +kernel
  have e_TooMuch : decide (Str.ofString "Refused" = Str.ofString "TooMuch") = false := by decide +kernel
  rw [show startP a 4 = [.pin (.ref a), .un, .un, .un, .un] from rfl]
  simp -implicitDefEqProofs -dsimp only [g__law_told, lcG, decide_true, e_OutOfRange, e_Malformed, e_NotThere, e_TooMuch, fC_ap, fOp2_ap, fOp1_ap, fNil_ap, fCons_ap, fOpN_ap, fLst_ap, fB_ap, fAnd_ap, fOr_ap, fNot_ap, fAndV_ap, fOrV_ap, fNotV_ap, fIfE_ap, fChain_ap, fNoP_ap, fSomeP_ap, fSl_ap, fOwn_ap, fItL_ap, fItT_ap, fItScr_ap, fRng1_ap, fRng2_ap, fYes_ap, fLc_ap, fAA_ap, gSeq_ap, gNop_ap, gSet_ap, gIf_ap, gRet_ap, gRaise_ap, gExpr_ap, gBreak_ap, gCont_ap, gFor_ap, bind_ok, bind_exc, bind_no, thn_ok, thn_exc, thn_no, then_nx, then_rt, then_exc, then_bk, then_ct, lift_some, lift_none, toB_b, toI_i, toL_l, toT_t, toScr_s, lstOnly_l, allD_nil, allD_cons, map_some', lcG_nil, aaG_nil, forG_nil, fName_z, fName_s, fNameB_z, fNameB_zo, fNameB_s, fIsP_z, fIsP_s, aName_ap, aNil_ap, aCons_ap, aTup_ap, wipeE_nil, wipeE_cons, hEq_ii, hNe_ii, hAdd_ii, hSub_ii, hLe_ii, hLtI_ii, hGt_ii, hGe_ii, hIs_bb, hIsNot_bb, List.set_cons_zero, List.set_cons_succ, List.map_cons, List.map_nil, List.cons_append, List.nil_append, hLen_l, hLen_t, hLen_s, hTup_ap, hLst_ap, hTuple_l, hTuple_t, hList_l, hList_t, hAbs_i, hIntOf_i, hIntOf_b, hNeg_i, hIsi_int, hIsi_bool, hIsi_tuple, hIsi_list, hIsi_str, hSl_l, hSl_t, hSl_s, hIx_l0, hIx_t0, hIx_l1, hIx_t1, hIx_l2, hIx_t2, hXor_ii, sv, Option.map_some, Option.bind_some, List.length_cons, List.length_nil, reduceIte, Nat.reduceLT, Nat.reduceLeDiff, Nat.reduceAdd, Bool.false_eq_true, Bool.not_true, Bool.not_false, gAsg_ap, gUnpackLoc_ap, gStoreLoc_ap, gPar_ap, runF_fin, finR_nx, finR_rt, finR_exc, List.replicate_succ, List.replicate_zero, Nat.reduceSub, List.getElem?_cons_zero, List.getElem?_cons_succ, hLt_ii, pInt, pBool, pTup, pList, pStr, decide_eq_true_eq, fIt_ap, toS_l, toS_t, hid_ap]
  rfl
theorem pt_TooMuch (a : Addr) (sto : Sto) : g__law_told a "TooMuch" (startP a 4) sto = .rt (.d (.str "TooMuch")) sto := by
  have e_OutOfRange : decide (Str.ofString "TooMuch" = Str.ofString "OutOfRange") = false := by decide +kernel
  have e_Malformed : decide (Str.ofString "TooMuch" = Str.ofString "Malformed") = false := by decide +kernel
  have e_NotThere : decide (Str.ofString "TooMuch" = Str.ofString "NotThere") = false := by decide +kernel
  have e_Refused : decide (Str.ofString "TooMuch" = Str.ofString "Refused") = false := by decide +kernel
  have e_TooMuch : decide (Str.ofString "TooMuch" = Str.ofString "TooMuch") = true := by decide +kernel
  rw [show startP a 4 = [.pin (.ref a), .un, .un, .un, .un] from rfl]
  simp -implicitDefEqProofs -dsimp only [g__law_told, lcG, decide_true, e_OutOfRange, e_Malformed, e_NotThere, e_Refused, fC_ap, fOp2_ap, fOp1_ap, fNil_ap, fCons_ap, fOpN_ap, fLst_ap, fB_ap, fAnd_ap, fOr_ap, fNot_ap, fAndV_ap, fOrV_ap, fNotV_ap, fIfE_ap, fChain_ap, fNoP_ap, fSomeP_ap, fSl_ap, fOwn_ap, fItL_ap, fItT_ap, fItScr_ap, fRng1_ap, fRng2_ap, fYes_ap, fLc_ap, fAA_ap, gSeq_ap, gNop_ap, gSet_ap, gIf_ap, gRet_ap, gRaise_ap, gExpr_ap, gBreak_ap, gCont_ap, gFor_ap, bind_ok, bind_exc, bind_no, thn_ok, thn_exc, thn_no, then_nx, then_rt, then_exc, then_bk, then_ct, lift_some, lift_none, toB_b, toI_i, toL_l, toT_t, toScr_s, lstOnly_l, allD_nil, allD_cons, map_some', lcG_nil, aaG_nil, forG_nil, fName_z, fName_s, fNameB_z, fNameB_zo, fNameB_s, fIsP_z, fIsP_s, aName_ap, aNil_ap, aCons_ap, aTup_ap, wipeE_nil, wipeE_cons, hEq_ii, hNe_ii, hAdd_ii, hSub_ii, hLe_ii, hLtI_ii, hGt_ii, hGe_ii, hIs_bb, hIsNot_bb, List.set_cons_zero, List.set_cons_succ, List.map_cons, List.map_nil, List.cons_append, List.nil_append, hLen_l, hLen_t, hLen_s, hTup_ap, hLst_ap, hTuple_l, hTuple_t, hList_l, hList_t, hAbs_i, hIntOf_i, hIntOf_b, hNeg_i, hIsi_int, hIsi_bool, hIsi_tuple, hIsi_list, hIsi_str, hSl_l, hSl_t, hSl_s, hIx_l0, hIx_t0, hIx_l1, hIx_t1, hIx_l2, hIx_t2, hXor_ii, sv, Option.map_some, Option.bind_some, List.length_cons, List.length_nil, reduceIte, Nat.reduceLT, Nat.reduceLeDiff, Nat.reduceAdd, Bool.false_eq_true, Bool.not_true, Bool.not_false, gAsg_ap, gUnpackLoc_ap, gStoreLoc_ap, gPar_ap, runF_fin, finR_nx, finR_rt, finR_exc, List.replicate_succ, List.replicate_zero, Nat.reduceSub, List.getElem?_cons_zero, List.getElem?_cons_succ, hLt_ii, pInt, pBool, pTup, pList, pStr, decide_eq_true_eq, fIt_ap, toS_l, toS_t, hid_ap]
  rfl
theorem plain__law_told (a : Addr) (c t : Str) (h : told5 c = some t) (sto : Sto) : ∃ t', g__law_told a c (startP a 4) sto = .rt (.d (.str t)) sto ∧ t' = t := by
  unfold told5 at h
  by_cases h0 : c = "OutOfRange"
  · subst h0
    rw [if_pos rfl] at h
    cases h
    exact ⟨_, pt_OutOfRange a sto, rfl⟩
  rw [if_neg h0] at h
  by_cases h1 : c = "Malformed"
  · subst h1
    rw [if_pos rfl] at h
    cases h
    exact ⟨_, pt_Malformed a sto, rfl⟩
  rw [if_neg h1] at h
  by_cases h2 : c = "NotThere"
  · subst h2
    rw [if_pos rfl] at h
    cases h
    exact ⟨_, pt_NotThere a sto, rfl⟩
  rw [if_neg h2] at h
  by_cases h3 : c = "Refused"
  · subst h3
    rw [if_pos rfl] at h
    cases h
    exact ⟨_, pt_Refused a sto, rfl⟩
  rw [if_neg h3] at h
  by_cases h4 : c = "TooMuch"
  · subst h4
    rw [if_pos rfl] at h
    cases h
    exact ⟨_, pt_TooMuch a sto, rfl⟩
  rw [if_neg h4] at h
  cases h
theorem ok__law_told {P : Program} {w : World} {K : PySem.W.Frag} {mg : Str → Option Value} {base : Heap} {T : FS} {f D : Addr} {fd : FuncData} {p : Addr × Obj} {c t : Str} (F : FnP K "_law_told" s__law_told f fd) (bl : Blts mg) (EC : ExcC K D) (A_FirstError : IsC K mg D "FirstError" true) (A_TooMuch : IsC K mg D "TooMuch" (decide (c = "TooMuch"))) (A_Refused : IsC K mg D "Refused" (decide (c = "Refused"))) (A_NotThere : IsC K mg D "NotThere" (decide (c = "NotThere"))) (A_Malformed : IsC K mg D "Malformed" (decide (c = "Malformed"))) (A_OutOfRange : IsC K mg D "OutOfRange" (decide (c = "OutOfRange"))) (hz : Zc (.ref D) none p.2) (ht : told5 c = some t) : FnHE P w K mg base (L2N.CX P w) 1 f fd ["error"] p (spTold K T p t) :=
  dl_told (n := 4) (g := g__law_told p.1 c) F sc__law_told rfl rfl hz (plain__law_told p.1 c t ht) fun cdv hcd A outer s H E hr HC =>
  (dss_cons (ds_set (i := 1) (f := (fOpN hLst (fCons (fOpN hTup (fCons (fC (.str "OutOfRange")) (fCons (fIsP 0 p.1 (decide (c = "OutOfRange"))) fNil))) (fCons (fOpN hTup (fCons (fC (.str "Malformed")) (fCons (fIsP 0 p.1 (decide (c = "Malformed"))) fNil))) (fCons (fOpN hTup (fCons (fC (.str "NotThere")) (fCons (fIsP 0 p.1 (decide (c = "NotThere"))) fNil))) (fCons (fOpN hTup (fCons (fC (.str "Refused")) (fCons (fIsP 0 p.1 (decide (c = "Refused"))) fNil))) (fCons (fOpN hTup (fCons (fC (.str "TooMuch")) (fCons (fIsP 0 p.1 (decide (c = "TooMuch"))) fNil))) fNil))))))) (ps_set (i := 1) sc__law_told.nd rfl (Or.inl rfl) (de_new (do_lst (da_cons (de_tup (da_cons de_str (da_cons (de_isP HC EC bl A_OutOfRange (pv 0)) da_nil))) (da_cons (de_tup (da_cons de_str (da_cons (de_isP HC EC bl A_Malformed (pv 0)) da_nil))) (da_cons (de_tup (da_cons de_str (da_cons (de_isP HC EC bl A_NotThere (pv 0)) da_nil))) (da_cons (de_tup (da_cons de_str (da_cons (de_isP HC EC bl A_Refused (pv 0)) da_nil))) (da_cons (de_tup (da_cons de_str (da_cons (de_isP HC EC bl A_TooMuch (pv 0)) da_nil))) da_nil))))))).pe))
  (dss_cons (ds_setLcH (i := 2) HC.c sc__law_told.nd rfl rfl (sw_true rfl rfl rfl (by decide +kernel)) (own := [("name", 3), ("true", 4)]) (t := (gTup _ 2 (gCons (gName 3) (gCons (gName 4) gNil)))) (di_listH (de_name (pv 1))) (blkOk_by (own := [("name", 3), ("true", 4)]) (N := N__law_told) (sc := defScope s__law_told) (by decide +kernel)) (inner_tup (inners_cons (by decide) (inners_cons (by decide) inners_nil))) (asg_tup (asgs_cons asg_name (asgs_cons asg_name asgs_nil))) (fun _ _ _ _ _ => (pg_tupH (hblk_hot HC.c) (pgs_cons (pg_name (i := 3) sc__law_told.nd rfl (Or.inl rfl)) (pgs_cons (pg_name (i := 4) sc__law_told.nd rfl (Or.inl rfl)) pgs_nil)))) (fun _ _ _ _ _ => (dts_one (dt_val (de_name (pv 4))))) (fun _ _ _ _ _ => (de_name (pv 3))))
  (dss_cons (ds_if (dt_pw (dw_or (dt_neH hr (de_len bl (da_cons (de_name (pv 2)) da_nil)) de_int) (dw_or1 (dt_not (dt_val (de_isP HC EC bl A_FirstError (pv 0)))))))
   (dss_one (ds_ret de_str))
   dss_nil)
  (dss_one (ds_ret (de_ix (de_name (pv 2)) de_int (fun _ _ => rfl)))))))

abbrev s__law_int : Stmt := topS 32
abbrev N__law_int : List Str := ["value"]
theorem sc__law_int : FnScope N__law_int ["value"] (defScope s__law_int) := ⟨rfl, rfl, rfl, by decide +kernel, rfl, by decide +kernel, by decide +kernel⟩
def g__law_int : SF := (gRet (fAndV (fOp1 (hIsi "int") (fName 0)) (fNotV (fOp1 (hIsi "bool") (fName 0)))))
def f__law_int : List DV → Sto → Res DV := runF false 1 g__law_int
theorem ok__law_int {P : Program} {w : World} {K : PySem.W.Frag} {mg : Str → Option Value} {base : Heap} {T : FS} {f : Addr} {fd : FuncData} (F : FnP K "_law_int" s__law_int f fd) (bl : Blts mg)    : FnOk P w K mg base (L2N.CX P w) 1 f fd ["value"] (spOf mg K T false 1 f__law_int) :=
  dl_def F sc__law_int fun cdv hcd A outer s H E hr => by
  have tk := L2N.takes_of (X := cxOf (L2N.CX P w) P w K mg base N__law_int "_law_int" (defScope s__law_int) f cdv A outer s H E) (E := E) rfl rfl rfl rfl
  exact (dss_one (ds_ret (de_and (de_isinst bl bl.int (by decide +kernel) (de_name (pv 0))) (de_one (de_not (de_isinst bl bl.bool (by decide +kernel) (de_name (pv 0))))))))

abbrev s__law_same : Stmt := topS 33
abbrev N__law_same : List Str := ["told", "due"]
theorem sc__law_same : FnScope N__law_same ["told", "due"] (defScope s__law_same) := ⟨rfl, rfl, rfl, by decide +kernel, rfl, by decide +kernel, by decide +kernel⟩
def g__law_same : SF := (gRet (fIfE (fB (fName 1)) (fOp2 hIs (fName 0) (fC (.bool true))) (fOp2 hIs (fName 0) (fC (.bool false)))))
def f__law_same : List DV → Sto → Res DV := runF false 2 g__law_same
theorem ok__law_same {P : Program} {w : World} {K : PySem.W.Frag} {mg : Str → Option Value} {base : Heap} {T : FS} {f : Addr} {fd : FuncData} (F : FnP K "_law_same" s__law_same f fd) (bl : Blts mg)    : FnOk P w K mg base (L2N.CX P w) 1 f fd ["told", "due"] (spOf mg K T false 2 f__law_same) :=
  dl_def F sc__law_same fun cdv hcd A outer s H E hr => by
  have tk := L2N.takes_of (X := cxOf (L2N.CX P w) P w K mg base N__law_same "_law_same" (defScope s__law_same) f cdv A outer s H E) (E := E) rfl rfl rfl rfl
  exact (dss_one (ds_ret (de_ifE (dt_val (de_name (pv 1))) (de_is hr (de_name (pv 0)) de_bl) (de_is hr (de_name (pv 0)) de_bl))))

abbrev s__law_joints : Stmt := topS 34
abbrev N__law_joints : List Str := ["draws", "many", "hangs", "found", "node", "turn", "one", "other", "pair"]
theorem sc__law_joints : FnScope N__law_joints ["draws", "many", "hangs"] (defScope s__law_joints) := ⟨rfl, rfl, rfl, by decide +kernel, rfl, by decide +kernel, by decide +kernel⟩
def g__law_joints : SF := (gSeq (gDNew 3 (.dt []))
  (gSeq (gFor (fRng2 (fCons (fC (.int 1)) (fCons (fName 1) fNil))) (aName 4)
   (gIf (fOr (fB (fName 2)) (fB (fOp2 hGt (fOwn 2 f__law_draw (fCons (fName 0) (fCons (fC (.int 3)) fNil))) (fC (.int 0)))))
   (gDPut 3 (fOpN hTup (fCons (fOwn 2 f__law_draw (fCons (fName 0) (fCons (fName 4) fNil))) (fCons (fName 4) fNil))) (fC (.bool true)))
   gNop))
  (gSeq (gFor (fRng1 (fCons (fOwn 2 f__law_draw (fCons (fName 0) (fCons (fOp2 hAdd (fName 1) (fC (.int 1))) fNil))) fNil)) (aName 5)
   (gSeq (gPar 6 7 (fCons (fOwn 2 f__law_draw (fCons (fName 0) (fCons (fName 1) fNil))) (fCons (fOwn 2 f__law_draw (fCons (fName 0) (fCons (fName 1) fNil))) fNil)))
  (gIf (fB (fOp2 hNe (fName 6) (fName 7)))
   (gDPut 3 (fOpN hTup (fCons (fOpN hMin (fCons (fName 6) (fCons (fName 7) fNil))) (fCons (fOpN hMax (fCons (fName 6) (fCons (fName 7) fNil))) fNil))) (fC (.bool true)))
   gNop)))
  (gRet (fOpN hTuple (fCons (fOpN hSortA (fCons (fLock 3 (fLc (fKeys 3) (aName 8) fYes (fName 8) [8])) fNil)) fNil))))))
def f__law_joints : List DV → Sto → Res DV := runF false 9 g__law_joints
theorem ok__law_joints {P : Program} {w : World} {K : PySem.W.Frag} {mg : Str → Option Value} {base : Heap} {T : FS} {f : Addr} {fd : FuncData} (F : FnP K "_law_joints" s__law_joints f fd) (bl : Blts mg) (C__law_draw : Cal P w K mg base T "_law_draw" 2 2 false f__law_draw)   : FnOk P w K mg base (L2N.CX P w) 3 f fd ["draws", "many", "hangs"] (spOf mg K T false 3 f__law_joints) :=
  dl_def F sc__law_joints fun cdv hcd A outer s H E hr => by
  have tk := L2N.takes_of (X := cxOf (L2N.CX P w) P w K mg base N__law_joints "_law_joints" (defScope s__law_joints) f cdv A outer s H E) (E := E) rfl rfl rfl rfl
  exact (dss_cons (ds_dnewT (i := 3) (ps_set (i := 3) sc__law_joints.nd rfl (Or.inl rfl) pe_dnewT))
  (dss_cons (ds_for (t := (gName 4)) (passes_of rfl) rfl (di_rng2 (by rfl) bl.range (da_cons de_int (da_cons (de_name (pv 1)) da_nil))) ⟨(pg_name (i := 4) sc__law_joints.nd rfl (Or.inl rfl)), asg_name⟩
   (dss_one (ds_if (dt_pw (dw_or (dt_val (de_name (pv 2))) (dw_or1 (dt_gt hr (de_cal C__law_draw (hr.mono (by decide)) tk (da_cons (de_name (pv 0)) (da_cons de_int da_nil))) de_int))))
   (dss_one (ds_dput (i := 3) hr de_bl (de_tup (da_cons (de_cal C__law_draw (hr.mono (by decide)) tk (da_cons (de_name (pv 0)) (da_cons (de_name (pv 4)) da_nil))) (da_cons (de_name (pv 4)) da_nil))) (pv 3)))
   dss_nil)))
  (dss_cons (ds_for (t := (gName 5)) (passes_of rfl) rfl (di_rng1 (by rfl) bl.range (da_cons (de_cal C__law_draw (hr.mono (by decide)) tk (da_cons (de_name (pv 0)) (da_cons (de_add (de_name (pv 1)) de_int) da_nil))) da_nil)) ⟨(pg_name (i := 5) sc__law_joints.nd rfl (Or.inl rfl)), asg_name⟩
   (dss_cons (ds_par (i := 6) (j := 7) (fs := (fCons (fOwn 2 f__law_draw (fCons (fName 0) (fCons (fName 1) fNil))) (fCons (fOwn 2 f__law_draw (fCons (fName 0) (fCons (fName 1) fNil))) fNil))) (ps_par rfl sc__law_joints.nd rfl rfl (by decide) rfl rfl (da_cons (de_cal C__law_draw (hr.mono (by decide)) tk (da_cons (de_name (pv 0)) (da_cons (de_name (pv 1)) da_nil))) (da_cons (de_cal C__law_draw (hr.mono (by decide)) tk (da_cons (de_name (pv 0)) (da_cons (de_name (pv 1)) da_nil))) da_nil)).pa (by rfl)))
  (dss_one (ds_if (dt_ne hr (de_name (pv 6)) (de_name (pv 7)))
   (dss_one (ds_dput (i := 3) hr de_bl (de_tup (da_cons (de_min rfl bl (da_cons (de_name (pv 6)) (da_cons (de_name (pv 7)) da_nil))) (da_cons (de_max rfl bl (da_cons (de_name (pv 6)) (da_cons (de_name (pv 7)) da_nil))) da_nil))) (pv 3)))
   dss_nil))))
  (dss_one (ds_ret (de_tuple bl (da_cons (de_sortedA bl (da_cons (de_new (do_lock (i := 3) (do_lc (own := [("pair", 8)]) (t := (gName 8)) rfl sc__law_joints.nd (di_keys (i := 3) (pv 3)) (blkOk_by (own := [("pair", 8)]) (N := N__law_joints) (sc := defScope s__law_joints) (by decide +kernel)) (inner_name (by decide)) asg_name (fun _ _ _ _ _ => (pg_name (i := 8) sc__law_joints.nd rfl (Or.inl rfl))) (fun _ _ _ _ _ => dts_nil) (fun _ _ _ _ _ => (de_name (pv 8)))))) da_nil)) da_nil)))))))

abbrev s__law_beside : Stmt := topS 35
abbrev N__law_beside : List Str := ["graph", "node", "one", "other"]
theorem sc__law_beside : FnScope N__law_beside ["graph", "node"] (defScope s__law_beside) := ⟨rfl, rfl, rfl, by decide +kernel, rfl, by decide +kernel, by decide +kernel⟩
def g__law_beside : SF := (gRet (fLc (fIt (fOp2 hIx (fName 0) (fC (.int 1)))) (aTup 2 (aCons (aName 2) (aCons (aName 3) aNil))) (fB (fOp2 hIn (fName 1) (fOpN hTup (fCons (fName 2) (fCons (fName 3) fNil))))) (fOp2 hSub (fOp2 hAdd (fName 2) (fName 3)) (fName 1)) [2, 3]))
def f__law_beside : List DV → Sto → Res DV := runF false 4 g__law_beside
theorem ok__law_beside {P : Program} {w : World} {K : PySem.W.Frag} {mg : Str → Option Value} {base : Heap} {T : FS} {f : Addr} {fd : FuncData} (F : FnP K "_law_beside" s__law_beside f fd) (bl : Blts mg)    : FnOk P w K mg base (L2N.CX P w) 1 f fd ["graph", "node"] (spOf mg K T false 2 f__law_beside) :=
  dl_def F sc__law_beside fun cdv hcd A outer s H E hr => by
  have tk := L2N.takes_of (X := cxOf (L2N.CX P w) P w K mg base N__law_beside "_law_beside" (defScope s__law_beside) f cdv A outer s H E) (E := E) rfl rfl rfl rfl
  exact (dss_one (ds_ret (de_new (do_lc (own := [("one", 2), ("other", 3)]) (t := (gTup _ 2 (gCons (gName 2) (gCons (gName 3) gNil)))) rfl sc__law_beside.nd (di_seq (de_ix (de_name (pv 0)) de_int (fun _ _ => rfl))) (blkOk_by (own := [("one", 2), ("other", 3)]) (N := N__law_beside) (sc := defScope s__law_beside) (by decide +kernel)) (inner_tup (inners_cons (by decide) (inners_cons (by decide) inners_nil))) (asg_tup (asgs_cons asg_name (asgs_cons asg_name asgs_nil))) (fun _ _ _ _ _ => (pg_tup rfl (pgs_cons (pg_name (i := 2) sc__law_beside.nd rfl (Or.inl rfl)) (pgs_cons (pg_name (i := 3) sc__law_beside.nd rfl (Or.inl rfl)) pgs_nil)))) (fun _ _ _ _ _ => (dts_one (dt_in hr (de_name (pv 1)) (de_tup (da_cons (de_name (pv 2)) (da_cons (de_name (pv 3)) da_nil)))))) (fun _ _ _ _ _ => (de_sub (de_add (de_name (pv 2)) (de_name (pv 3))) (de_name (pv 1))))))))

abbrev s__law_clashing : Stmt := topS 36
abbrev N__law_clashing : List Str := ["graph", "painting", "node", "other"]
theorem sc__law_clashing : FnScope N__law_clashing ["graph", "painting"] (defScope s__law_clashing) := ⟨rfl, rfl, rfl, by decide +kernel, rfl, by decide +kernel, by decide +kernel⟩
def g__law_clashing : SF := (gRet (fOpN hTuple (fCons (fLc (fRng1 (fCons (fOp2 hIx (fName 0) (fC (.int 0))) fNil)) (aName 2) (fB (fOp2 hNe (fLc (fIt (fOwn 2 f__law_beside (fCons (fName 0) (fCons (fName 2) fNil)))) (aName 3) (fB (fOp2 hEq (fOp2 hIx (fName 1) (fName 3)) (fOp2 hIx (fName 1) (fName 2)))) (fName 3) [3]) (fOpN hLst fNil))) (fName 2) [2]) fNil)))
def f__law_clashing : List DV → Sto → Res DV := runF false 4 g__law_clashing
theorem ok__law_clashing {P : Program} {w : World} {K : PySem.W.Frag} {mg : Str → Option Value} {base : Heap} {T : FS} {f : Addr} {fd : FuncData} (F : FnP K "_law_clashing" s__law_clashing f fd) (bl : Blts mg) (C__law_beside : Cal P w K mg base T "_law_beside" 1 2 false f__law_beside)   : FnOk P w K mg base (L2N.CX P w) 2 f fd ["graph", "painting"] (spOf mg K T false 2 f__law_clashing) :=
  dl_def F sc__law_clashing fun cdv hcd A outer s H E hr => by
  have tk := L2N.takes_of (X := cxOf (L2N.CX P w) P w K mg base N__law_clashing "_law_clashing" (defScope s__law_clashing) f cdv A outer s H E) (E := E) rfl rfl rfl rfl
  exact (dss_one (ds_ret (de_tuple bl (da_cons (de_new (do_lc (own := [("node", 2)]) (t := (gName 2)) rfl sc__law_clashing.nd (di_rng1 (by rfl) bl.range (da_cons (de_ix (de_name (pv 0)) de_int (fun _ _ => rfl)) da_nil)) (blkOk_by (own := [("node", 2)]) (N := N__law_clashing) (sc := defScope s__law_clashing) (by decide +kernel)) (inner_name (by decide)) asg_name (fun _ _ _ _ _ => (pg_name (i := 2) sc__law_clashing.nd rfl (Or.inr rfl))) (fun _ _ _ _ _ => (dts_one (dt_ne hr (de_new (do_lc (own := [("other", 3)]) (t := (gName 3)) rfl sc__law_clashing.nd (di_seq (de_cal C__law_beside (hr.mono (by decide)) takes0N (da_cons (de_name (pv 0)) (da_cons (de_name (pv 2)) da_nil)))) (blkOk_by (own := [("other", 3)]) (N := N__law_clashing) (sc := _) (by rfl)) (inner_name (by decide)) asg_name (fun _ _ _ _ _ => (pg_name (i := 3) sc__law_clashing.nd rfl (Or.inl rfl))) (fun _ _ _ _ _ => (dts_one (dt_eq hr (de_ix (de_name (pv 1)) (de_name (pv 3)) (fun _ _ => rfl)) (de_ix (de_name (pv 1)) (de_name (pv 2)) (fun _ _ => rfl))))) (fun _ _ _ _ _ => (de_name (pv 3))))) (de_new (do_lst da_nil))))) (fun _ _ _ _ _ => (de_name (pv 2))))) da_nil))))

abbrev s__law_colour : Stmt := topS 37
abbrev N__law_colour : List Str := ["graph", "painting", "node", "taken", "other", "colour"]
theorem sc__law_colour : FnScope N__law_colour ["graph", "painting", "node"] (defScope s__law_colour) := ⟨rfl, rfl, rfl, by decide +kernel, rfl, by decide +kernel, by decide +kernel⟩
def g__law_colour : SF := (gSeq (gSet 3 (fLc (fIt (fOwn 2 f__law_beside (fCons (fName 0) (fCons (fName 2) fNil)))) (aName 4) fYes (fOp2 hIx (fName 1) (fName 4)) [4]))
  (gRet (fOp2 hIx (fLc (fRng1 (fCons (fC (.int 13)) fNil)) (aName 5) (fB (fOp2 hNotIn (fName 5) (fName 3))) (fName 5) [5]) (fC (.int 0)))))
def f__law_colour : List DV → Sto → Res DV := runF false 6 g__law_colour
theorem ok__law_colour {P : Program} {w : World} {K : PySem.W.Frag} {mg : Str → Option Value} {base : Heap} {T : FS} {f : Addr} {fd : FuncData} (F : FnP K "_law_colour" s__law_colour f fd) (bl : Blts mg) (C__law_beside : Cal P w K mg base T "_law_beside" 1 2 false f__law_beside)   : FnOk P w K mg base (L2N.CX P w) 2 f fd ["graph", "painting", "node"] (spOf mg K T false 3 f__law_colour) :=
  dl_def F sc__law_colour fun cdv hcd A outer s H E hr => by
  have tk := L2N.takes_of (X := cxOf (L2N.CX P w) P w K mg base N__law_colour "_law_colour" (defScope s__law_colour) f cdv A outer s H E) (E := E) rfl rfl rfl rfl
  exact (dss_cons (ds_set (i := 3) (f := (fLc (fIt (fOwn 2 f__law_beside (fCons (fName 0) (fCons (fName 2) fNil)))) (aName 4) fYes (fOp2 hIx (fName 1) (fName 4)) [4])) (ps_set (i := 3) sc__law_colour.nd rfl (Or.inr rfl) (de_new (do_lc (own := [("other", 4)]) (t := (gName 4)) rfl sc__law_colour.nd (di_seq (de_cal C__law_beside (hr.mono (by decide)) tk (da_cons (de_name (pv 0)) (da_cons (de_name (pv 2)) da_nil)))) (blkOk_by (own := [("other", 4)]) (N := N__law_colour) (sc := defScope s__law_colour) (by decide +kernel)) (inner_name (by decide)) asg_name (fun _ _ _ _ _ => (pg_name (i := 4) sc__law_colour.nd rfl (Or.inl rfl))) (fun _ _ _ _ _ => dts_nil) (fun _ _ _ _ _ => (de_ix (de_name (pv 1)) (de_name (pv 4)) (fun _ _ => rfl))))).pe))
  (dss_one (ds_ret (de_ix (de_new (do_lc (own := [("colour", 5)]) (t := (gName 5)) rfl sc__law_colour.nd (di_rng1 (by rfl) bl.range (da_cons de_int da_nil)) (blkOk_by (own := [("colour", 5)]) (N := N__law_colour) (sc := defScope s__law_colour) (by decide +kernel)) (inner_name (by decide)) asg_name (fun _ _ _ _ _ => (pg_name (i := 5) sc__law_colour.nd rfl (Or.inl rfl))) (fun _ _ _ _ _ => (dts_one (dt_notin hr (de_name (pv 5)) (de_name (pv 3))))) (fun _ _ _ _ _ => (de_name (pv 5))))) de_int (fun _ _ => rfl)))))

abbrev s__law_equal : Stmt := topS 38
abbrev N__law_equal : List Str := ["graph", "painting", "one", "other"]
theorem sc__law_equal : FnScope N__law_equal ["graph", "painting"] (defScope s__law_equal) := ⟨rfl, rfl, rfl, by decide +kernel, rfl, by decide +kernel, by decide +kernel⟩
def g__law_equal : SF := (gRet (fOpN hLen (fCons (fLc (fIt (fOp2 hIx (fName 0) (fC (.int 1)))) (aTup 2 (aCons (aName 2) (aCons (aName 3) aNil))) (fB (fOp2 hEq (fOp2 hIx (fName 1) (fName 2)) (fOp2 hIx (fName 1) (fName 3)))) (fC (.int 1)) [2, 3]) fNil)))
def f__law_equal : List DV → Sto → Res DV := runF false 4 g__law_equal
theorem ok__law_equal {P : Program} {w : World} {K : PySem.W.Frag} {mg : Str → Option Value} {base : Heap} {T : FS} {f : Addr} {fd : FuncData} (F : FnP K "_law_equal" s__law_equal f fd) (bl : Blts mg)    : FnOk P w K mg base (L2N.CX P w) 1 f fd ["graph", "painting"] (spOf mg K T false 2 f__law_equal) :=
  dl_def F sc__law_equal fun cdv hcd A outer s H E hr => by
  have tk := L2N.takes_of (X := cxOf (L2N.CX P w) P w K mg base N__law_equal "_law_equal" (defScope s__law_equal) f cdv A outer s H E) (E := E) rfl rfl rfl rfl
  exact (dss_one (ds_ret (de_len bl (da_cons (de_new (do_lc (own := [("one", 2), ("other", 3)]) (t := (gTup _ 2 (gCons (gName 2) (gCons (gName 3) gNil)))) rfl sc__law_equal.nd (di_seq (de_ix (de_name (pv 0)) de_int (fun _ _ => rfl))) (blkOk_by (own := [("one", 2), ("other", 3)]) (N := N__law_equal) (sc := defScope s__law_equal) (by decide +kernel)) (inner_tup (inners_cons (by decide) (inners_cons (by decide) inners_nil))) (asg_tup (asgs_cons asg_name (asgs_cons asg_name asgs_nil))) (fun _ _ _ _ _ => (pg_tup rfl (pgs_cons (pg_name (i := 2) sc__law_equal.nd rfl (Or.inl rfl)) (pgs_cons (pg_name (i := 3) sc__law_equal.nd rfl (Or.inl rfl)) pgs_nil)))) (fun _ _ _ _ _ => (dts_one (dt_eq hr (de_ix (de_name (pv 1)) (de_name (pv 2)) (fun _ _ => rfl)) (de_ix (de_name (pv 1)) (de_name (pv 3)) (fun _ _ => rfl))))) (fun _ _ _ _ _ => de_int))) da_nil))))

abbrev s__law_moved : Stmt := topS 39
abbrev N__law_moved : List Str := ["what", "graph", "row", "node", "error"]
theorem sc__law_moved : FnScope N__law_moved ["what", "graph", "row", "node"] (defScope s__law_moved) := ⟨rfl, rfl, rfl, by decide +kernel, rfl, by decide +kernel, by decide +kernel⟩
def g__law_moved : SF := (gTry told5 (gRet (fIfE (fB (fOp2 hEq (fName 0) (fC (.int 0)))) (fOwn 3 f_repainted (fCons (fName 1) (fCons (fName 2) (fCons (fName 3) fNil)))) (fOwn 3 f_turned (fCons (fName 1) (fCons (fName 2) (fCons (fName 3) fNil)))))))
def f__law_moved : List DV → Sto → Res DV := runF false 5 g__law_moved
theorem ok__law_moved {P : Program} {w : World} {K : PySem.W.Frag} {mg : Str → Option Value} {base : Heap} {T : FS} {f : Addr} {fd : FuncData} (F : FnP K "_law_moved" s__law_moved f fd) (bl : Blts mg) (C_repainted : Cal P w K mg base T "repainted" 3 3 false f_repainted) (C_turned : Cal P w K mg base T "turned" 3 3 false f_turned)   (K_FirstError : CatchK K mg "FirstError" told5) (T__law_told : TellK P w K mg base T 1 "_law_told" told5) : FnOk P w K mg base (L2N.CX P w) 4 f fd ["what", "graph", "row", "node"] (spOf mg K T false 4 f__law_moved) :=
  dl_def F sc__law_moved fun cdv hcd A outer s H E hr => by
  have tk := L2N.takes_of (X := cxOf (L2N.CX P w) P w K mg base N__law_moved "_law_moved" (defScope s__law_moved) f cdv A outer s H E) (E := E) rfl rfl rfl rfl
  exact (dss_one (ds_try (i := 4) rfl rfl sc__law_moved.nd rfl rfl tk (hr.mono (by decide)) K_FirstError T__law_told (fun W pn xe tk1 po =>
   (dss_one (ds_ret (de_ifE (dt_eq hr (de_name (pv 0)) de_int) (de_cal C_repainted (hr.mono (by decide)) tk1 (da_cons (de_name (pv 1)) (da_cons (de_name (pv 2)) (da_cons (de_name (pv 3)) da_nil)))) (de_cal C_turned (hr.mono (by decide)) tk1 (da_cons (de_name (pv 1)) (da_cons (de_name (pv 2)) (da_cons (de_name (pv 3)) da_nil))))))))))

abbrev s__law_wrong : Stmt := topS 40
abbrev N__law_wrong : List Str := ["graph", "painting", "choice", "many", "joints", "wrong", "value"]
theorem sc__law_wrong : FnScope N__law_wrong ["graph", "painting", "choice"] (defScope s__law_wrong) := ⟨rfl, rfl, rfl, by decide +kernel, rfl, by decide +kernel, by decide +kernel⟩
def g__law_wrong : SF := (gSeq (gAsg (fName 0) (aTup 2 (aCons (aName 3) (aCons (aName 4) aNil))))
  (gSeq (gSet 5 (fOpN hLst (fCons (fC .none) (fCons (fOpN hTup (fCons (fName 3) fNil)) (fCons (fOpN hLst (fCons (fName 3) (fCons (fName 4) fNil))) (fCons (fOpN hTup (fCons (fName 3) (fCons (fName 4) (fCons (fC (.int 0)) fNil)))) (fCons (fOpN hTup (fCons (fC (.int 0)) (fCons (fOpN hTup fNil) fNil))) (fCons (fOpN hTup (fCons (fC (.int 13)) (fCons (fName 4) fNil))) (fCons (fOpN hTup (fCons (fC (.bool true)) (fCons (fOpN hTup fNil) fNil))) (fCons (fOpN hTup (fCons (fC .none) (fCons (fName 4) fNil))) (fCons (fOpN hTup (fCons (fName 3) (fCons (fOpN hList (fCons (fName 4) fNil)) fNil))) (fCons (fOpN hTup (fCons (fName 3) (fCons (fOp2 hAdd (fName 4) (fOpN hTup (fCons (fC .none) fNil))) fNil))) (fCons (fOpN hTup (fCons (fName 3) (fCons (fOp2 hAdd (fName 4) (fOpN hTup (fCons (fOpN hTup (fCons (fC (.int 0)) (fCons (fName 3) fNil))) fNil))) fNil))) (fCons (fOpN hTup (fCons (fC (.int 2)) (fCons (fOpN hTup (fCons (fOpN hTup (fCons (fC (.int 1)) (fCons (fC (.int 0)) fNil))) fNil)) fNil))) (fCons (fOpN hTup (fCons (fC (.int 2)) (fCons (fOpN hTup (fCons (fOpN hTup (fCons (fC (.int 0)) (fCons (fC (.int 1)) fNil))) (fCons (fOpN hTup (fCons (fC (.int 0)) (fCons (fC (.int 1)) fNil))) fNil))) fNil))) (fCons (fOpN hTup (fCons (fC (.int 2)) (fCons (fOpN hTup (fCons (fOpN hTup (fCons (fC (.int 0)) (fCons (fC (.bool true)) fNil))) fNil)) fNil))) (fCons (fOpN hTup (fCons (fC (.int 2)) (fCons (fOpN hTup (fCons (fOpN hTup (fCons (fC (.int 0)) (fCons (fC (.int 1)) (fCons (fC (.int 1)) fNil)))) fNil)) fNil))) (fCons (fOpN hTup (fCons (fC (.int 2)) (fCons (fOpN hTup (fCons (fOpN hLst (fCons (fC (.int 0)) (fCons (fC (.int 1)) fNil))) fNil)) fNil))) (fCons (fOpN hTup (fCons (fC (.int 3)) (fCons (fOpN hTup (fCons (fOpN hTup (fCons (fC (.int 0)) (fCons (fC (.int 2)) fNil))) (fCons (fOpN hTup (fCons (fC (.int 0)) (fCons (fC (.int 1)) fNil))) fNil))) fNil))) (fCons (fOpN hTup (fCons (fC (.int 2)) (fCons (fOpN hTup (fCons (fOpN hTup (fCons (fC (.int 0)) (fCons (fC (.int 0)) fNil))) fNil)) fNil))) (fCons (fC (.int 5)) fNil)))))))))))))))))))))
  (gSeq (gIf (fOr (fB (fOp2 hIsNot (fOwn 1 f_is_map (fCons (fName 0) fNil)) (fC (.bool true)))) (fOr (fB (fOp2 hIsNot (fOwn 1 f_is_map (fCons (fOpN hTup (fCons (fC (.int 12)) (fCons (fOpN hTup fNil) fNil))) fNil)) (fC (.bool true)))) (fB (fOp2 hNe (fLc (fIt (fName 5)) (aName 6) (fB (fOp2 hIsNot (fOwn 1 f_is_map (fCons (fName 6) fNil)) (fC (.bool false)))) (fName 6) [6]) (fOpN hLst fNil)))))
   (gRet (fC (.bool false)))
   gNop)
  (gSeq (gSet 5 (fOpN hLst (fCons (fC .none) (fCons (fOpN hList (fCons (fName 1) fNil)) (fCons (fOp2 hAdd (fName 1) (fOpN hTup (fCons (fC (.int 0)) fNil))) (fCons (fSl (fName 1) (fSomeP (fC (.int 1))) fNoP) (fCons (fOp2 hAdd (fSl (fName 1) fNoP (fSomeP (fOp1 hNeg (fC (.int 1))))) (fOpN hTup (fCons (fC (.int 13)) fNil))) (fCons (fOp2 hAdd (fSl (fName 1) fNoP (fSomeP (fOp1 hNeg (fC (.int 1))))) (fOpN hTup (fCons (fOp1 hNeg (fC (.int 1))) fNil))) (fCons (fOp2 hAdd (fSl (fName 1) fNoP (fSomeP (fOp1 hNeg (fC (.int 1))))) (fOpN hTup (fCons (fC (.bool true)) fNil))) (fCons (fOp2 hAdd (fSl (fName 1) fNoP (fSomeP (fOp1 hNeg (fC (.int 1))))) (fOpN hTup (fCons (fC .none) fNil))) (fCons (fC (.int 0)) fNil)))))))))))
  (gSeq (gIf (fOr (fB (fOp2 hIsNot (fOwn 2 f_is_painting (fCons (fName 0) (fCons (fName 1) fNil))) (fC (.bool true)))) (fOr (fB (fOp2 hIsNot (fOwn 2 f_is_painting (fCons (fName 0) (fCons (fOp2 hMul (fOpN hTup (fCons (fC (.int 12)) fNil)) (fName 3)) fNil))) (fC (.bool true)))) (fB (fOp2 hNe (fLc (fIt (fName 5)) (aName 6) (fB (fOp2 hIsNot (fOwn 2 f_is_painting (fCons (fName 0) (fCons (fName 6) fNil))) (fC (.bool false)))) (fName 6) [6]) (fOpN hLst fNil)))))
   (gRet (fC (.bool false)))
   gNop)
  (gSeq (gSet 5 (fOpN hLst (fCons (fC .none) (fCons (fOpN hList (fCons (fName 2) fNil)) (fCons (fOp2 hAdd (fName 2) (fOpN hTup (fCons (fC (.int 0)) fNil))) (fCons (fSl (fName 2) (fSomeP (fC (.int 1))) fNoP) (fCons (fOp2 hAdd (fSl (fName 2) fNoP (fSomeP (fOp1 hNeg (fC (.int 1))))) (fOpN hTup (fCons (fC (.int 2)) fNil))) (fCons (fOp2 hAdd (fSl (fName 2) fNoP (fSomeP (fOp1 hNeg (fC (.int 1))))) (fOpN hTup (fCons (fOp1 hNeg (fC (.int 1))) fNil))) (fCons (fOp2 hAdd (fSl (fName 2) fNoP (fSomeP (fOp1 hNeg (fC (.int 1))))) (fOpN hTup (fCons (fC (.bool true)) fNil))) (fCons (fOp2 hAdd (fSl (fName 2) fNoP (fSomeP (fOp1 hNeg (fC (.int 1))))) (fOpN hTup (fCons (fC .none) fNil))) (fCons (fC (.int 0)) fNil)))))))))))
  (gRet (fAndV (fOp2 hIs (fOwn 2 f_is_choice (fCons (fName 0) (fCons (fName 2) fNil))) (fC (.bool true))) (fOp2 hEq (fLc (fIt (fName 5)) (aName 6) (fB (fOp2 hIsNot (fOwn 2 f_is_choice (fCons (fName 0) (fCons (fName 6) fNil))) (fC (.bool false)))) (fName 6) [6]) (fOpN hLst fNil))))))))))
def f__law_wrong : List DV → Sto → Res DV := runF false 7 g__law_wrong
theorem ok__law_wrong {P : Program} {w : World} {K : PySem.W.Frag} {mg : Str → Option Value} {base : Heap} {T : FS} {f : Addr} {fd : FuncData} (F : FnP K "_law_wrong" s__law_wrong f fd) (bl : Blts mg) (C_is_choice : Cal P w K mg base T "is_choice" 4 2 false f_is_choice) (C_is_painting : Cal P w K mg base T "is_painting" 4 2 false f_is_painting) (C_is_map : Cal P w K mg base T "is_map" 4 1 false f_is_map)   : FnOk P w K mg base (L2N.CX P w) 5 f fd ["graph", "painting", "choice"] (spOf mg K T false 3 f__law_wrong) :=
  dl_def F sc__law_wrong fun cdv hcd A outer s H E hr => by
  have tk := L2N.takes_of (X := cxOf (L2N.CX P w) P w K mg base N__law_wrong "_law_wrong" (defScope s__law_wrong) f cdv A outer s H E) (E := E) rfl rfl rfl rfl
  exact (dss_cons (ds_asg (t := (gTup _ 2 (gCons (gName 3) (gCons (gName 4) gNil)))) (de_name (pv 0)) ⟨(pg_tup rfl (pgs_cons (pg_name (i := 3) sc__law_wrong.nd rfl (Or.inl rfl)) (pgs_cons (pg_name (i := 4) sc__law_wrong.nd rfl (Or.inl rfl)) pgs_nil))), (asg_tup (asgs_cons asg_name (asgs_cons asg_name asgs_nil)))⟩)
  (dss_cons (ds_set (i := 5) (f := (fOpN hLst (fCons (fC .none) (fCons (fOpN hTup (fCons (fName 3) fNil)) (fCons (fOpN hLst (fCons (fName 3) (fCons (fName 4) fNil))) (fCons (fOpN hTup (fCons (fName 3) (fCons (fName 4) (fCons (fC (.int 0)) fNil)))) (fCons (fOpN hTup (fCons (fC (.int 0)) (fCons (fOpN hTup fNil) fNil))) (fCons (fOpN hTup (fCons (fC (.int 13)) (fCons (fName 4) fNil))) (fCons (fOpN hTup (fCons (fC (.bool true)) (fCons (fOpN hTup fNil) fNil))) (fCons (fOpN hTup (fCons (fC .none) (fCons (fName 4) fNil))) (fCons (fOpN hTup (fCons (fName 3) (fCons (fOpN hList (fCons (fName 4) fNil)) fNil))) (fCons (fOpN hTup (fCons (fName 3) (fCons (fOp2 hAdd (fName 4) (fOpN hTup (fCons (fC .none) fNil))) fNil))) (fCons (fOpN hTup (fCons (fName 3) (fCons (fOp2 hAdd (fName 4) (fOpN hTup (fCons (fOpN hTup (fCons (fC (.int 0)) (fCons (fName 3) fNil))) fNil))) fNil))) (fCons (fOpN hTup (fCons (fC (.int 2)) (fCons (fOpN hTup (fCons (fOpN hTup (fCons (fC (.int 1)) (fCons (fC (.int 0)) fNil))) fNil)) fNil))) (fCons (fOpN hTup (fCons (fC (.int 2)) (fCons (fOpN hTup (fCons (fOpN hTup (fCons (fC (.int 0)) (fCons (fC (.int 1)) fNil))) (fCons (fOpN hTup (fCons (fC (.int 0)) (fCons (fC (.int 1)) fNil))) fNil))) fNil))) (fCons (fOpN hTup (fCons (fC (.int 2)) (fCons (fOpN hTup (fCons (fOpN hTup (fCons (fC (.int 0)) (fCons (fC (.bool true)) fNil))) fNil)) fNil))) (fCons (fOpN hTup (fCons (fC (.int 2)) (fCons (fOpN hTup (fCons (fOpN hTup (fCons (fC (.int 0)) (fCons (fC (.int 1)) (fCons (fC (.int 1)) fNil)))) fNil)) fNil))) (fCons (fOpN hTup (fCons (fC (.int 2)) (fCons (fOpN hTup (fCons (fOpN hLst (fCons (fC (.int 0)) (fCons (fC (.int 1)) fNil))) fNil)) fNil))) (fCons (fOpN hTup (fCons (fC (.int 3)) (fCons (fOpN hTup (fCons (fOpN hTup (fCons (fC (.int 0)) (fCons (fC (.int 2)) fNil))) (fCons (fOpN hTup (fCons (fC (.int 0)) (fCons (fC (.int 1)) fNil))) fNil))) fNil))) (fCons (fOpN hTup (fCons (fC (.int 2)) (fCons (fOpN hTup (fCons (fOpN hTup (fCons (fC (.int 0)) (fCons (fC (.int 0)) fNil))) fNil)) fNil))) (fCons (fC (.int 5)) fNil))))))))))))))))))))) (ps_set (i := 5) sc__law_wrong.nd rfl (Or.inl rfl) (de_new (do_lst (da_cons de_non (da_cons (de_tup (da_cons (de_name (pv 3)) da_nil)) (da_cons (de_new (do_lst (da_cons (de_name (pv 3)) (da_cons (de_name (pv 4)) da_nil)))) (da_cons (de_tup (da_cons (de_name (pv 3)) (da_cons (de_name (pv 4)) (da_cons de_int da_nil)))) (da_cons (de_tup (da_cons de_int (da_cons (de_tup da_nil) da_nil))) (da_cons (de_tup (da_cons de_int (da_cons (de_name (pv 4)) da_nil))) (da_cons (de_tup (da_cons de_bl (da_cons (de_tup da_nil) da_nil))) (da_cons (de_tup (da_cons de_non (da_cons (de_name (pv 4)) da_nil))) (da_cons (de_tup (da_cons (de_name (pv 3)) (da_cons (de_list bl (da_cons (de_name (pv 4)) da_nil)) da_nil))) (da_cons (de_tup (da_cons (de_name (pv 3)) (da_cons (de_add (de_name (pv 4)) (de_tup (da_cons de_non da_nil))) da_nil))) (da_cons (de_tup (da_cons (de_name (pv 3)) (da_cons (de_add (de_name (pv 4)) (de_tup (da_cons (de_tup (da_cons de_int (da_cons (de_name (pv 3)) da_nil))) da_nil))) da_nil))) (da_cons (de_tup (da_cons de_int (da_cons (de_tup (da_cons (de_tup (da_cons de_int (da_cons de_int da_nil))) da_nil)) da_nil))) (da_cons (de_tup (da_cons de_int (da_cons (de_tup (da_cons (de_tup (da_cons de_int (da_cons de_int da_nil))) (da_cons (de_tup (da_cons de_int (da_cons de_int da_nil))) da_nil))) da_nil))) (da_cons (de_tup (da_cons de_int (da_cons (de_tup (da_cons (de_tup (da_cons de_int (da_cons de_bl da_nil))) da_nil)) da_nil))) (da_cons (de_tup (da_cons de_int (da_cons (de_tup (da_cons (de_tup (da_cons de_int (da_cons de_int (da_cons de_int da_nil)))) da_nil)) da_nil))) (da_cons (de_tup (da_cons de_int (da_cons (de_tup (da_cons (de_new (do_lst (da_cons de_int (da_cons de_int da_nil)))) da_nil)) da_nil))) (da_cons (de_tup (da_cons de_int (da_cons (de_tup (da_cons (de_tup (da_cons de_int (da_cons de_int da_nil))) (da_cons (de_tup (da_cons de_int (da_cons de_int da_nil))) da_nil))) da_nil))) (da_cons (de_tup (da_cons de_int (da_cons (de_tup (da_cons (de_tup (da_cons de_int (da_cons de_int da_nil))) da_nil)) da_nil))) (da_cons de_int da_nil))))))))))))))))))))).pe))
  (dss_cons (ds_if (dt_pw (dw_or (dt_isnot hr (de_cal C_is_map (hr.mono (by decide)) tk (da_cons (de_name (pv 0)) da_nil)) de_bl) (dw_or (dt_isnot hr (de_cal C_is_map (hr.mono (by decide)) tk (da_cons (de_tup (da_cons de_int (da_cons (de_tup da_nil) da_nil))) da_nil)) de_bl) (dw_or1 (dt_ne hr (de_new (do_lc (own := [("value", 6)]) (t := (gName 6)) rfl sc__law_wrong.nd (di_seq (de_name (pv 5))) (blkOk_by (own := [("value", 6)]) (N := N__law_wrong) (sc := defScope s__law_wrong) (by decide +kernel)) (inner_name (by decide)) asg_name (fun _ _ _ _ _ => (pg_name (i := 6) sc__law_wrong.nd rfl (Or.inl rfl))) (fun _ _ _ _ _ => (dts_one (dt_isnot hr (de_cal C_is_map (hr.mono (by decide)) takes0N (da_cons (de_name (pv 6)) da_nil)) de_bl))) (fun _ _ _ _ _ => (de_name (pv 6))))) (de_new (do_lst da_nil)))))))
   (dss_one (ds_ret de_bl))
   dss_nil)
  (dss_cons (ds_set (i := 5) (f := (fOpN hLst (fCons (fC .none) (fCons (fOpN hList (fCons (fName 1) fNil)) (fCons (fOp2 hAdd (fName 1) (fOpN hTup (fCons (fC (.int 0)) fNil))) (fCons (fSl (fName 1) (fSomeP (fC (.int 1))) fNoP) (fCons (fOp2 hAdd (fSl (fName 1) fNoP (fSomeP (fOp1 hNeg (fC (.int 1))))) (fOpN hTup (fCons (fC (.int 13)) fNil))) (fCons (fOp2 hAdd (fSl (fName 1) fNoP (fSomeP (fOp1 hNeg (fC (.int 1))))) (fOpN hTup (fCons (fOp1 hNeg (fC (.int 1))) fNil))) (fCons (fOp2 hAdd (fSl (fName 1) fNoP (fSomeP (fOp1 hNeg (fC (.int 1))))) (fOpN hTup (fCons (fC (.bool true)) fNil))) (fCons (fOp2 hAdd (fSl (fName 1) fNoP (fSomeP (fOp1 hNeg (fC (.int 1))))) (fOpN hTup (fCons (fC .none) fNil))) (fCons (fC (.int 0)) fNil))))))))))) (ps_set (i := 5) sc__law_wrong.nd rfl (Or.inl rfl) (de_new (do_lst (da_cons de_non (da_cons (de_list bl (da_cons (de_name (pv 1)) da_nil)) (da_cons (de_add (de_name (pv 1)) (de_tup (da_cons de_int da_nil))) (da_cons (de_slice (de_name (pv 1)) (dp_some de_int) dp_none) (da_cons (de_add (de_slice (de_name (pv 1)) dp_none (dp_some (de_neg de_int))) (de_tup (da_cons de_int da_nil))) (da_cons (de_add (de_slice (de_name (pv 1)) dp_none (dp_some (de_neg de_int))) (de_tup (da_cons (de_neg de_int) da_nil))) (da_cons (de_add (de_slice (de_name (pv 1)) dp_none (dp_some (de_neg de_int))) (de_tup (da_cons de_bl da_nil))) (da_cons (de_add (de_slice (de_name (pv 1)) dp_none (dp_some (de_neg de_int))) (de_tup (da_cons de_non da_nil))) (da_cons de_int da_nil))))))))))).pe))
  (dss_cons (ds_if (dt_pw (dw_or (dt_isnot hr (de_cal C_is_painting (hr.mono (by decide)) tk (da_cons (de_name (pv 0)) (da_cons (de_name (pv 1)) da_nil))) de_bl) (dw_or (dt_isnot hr (de_cal C_is_painting (hr.mono (by decide)) tk (da_cons (de_name (pv 0)) (da_cons (de_mul (de_tup (da_cons de_int da_nil)) (de_name (pv 3))) da_nil))) de_bl) (dw_or1 (dt_ne hr (de_new (do_lc (own := [("value", 6)]) (t := (gName 6)) rfl sc__law_wrong.nd (di_seq (de_name (pv 5))) (blkOk_by (own := [("value", 6)]) (N := N__law_wrong) (sc := defScope s__law_wrong) (by decide +kernel)) (inner_name (by decide)) asg_name (fun _ _ _ _ _ => (pg_name (i := 6) sc__law_wrong.nd rfl (Or.inl rfl))) (fun _ _ _ _ _ => (dts_one (dt_isnot hr (de_cal C_is_painting (hr.mono (by decide)) takes0N (da_cons (de_name (pv 0)) (da_cons (de_name (pv 6)) da_nil))) de_bl))) (fun _ _ _ _ _ => (de_name (pv 6))))) (de_new (do_lst da_nil)))))))
   (dss_one (ds_ret de_bl))
   dss_nil)
  (dss_cons (ds_set (i := 5) (f := (fOpN hLst (fCons (fC .none) (fCons (fOpN hList (fCons (fName 2) fNil)) (fCons (fOp2 hAdd (fName 2) (fOpN hTup (fCons (fC (.int 0)) fNil))) (fCons (fSl (fName 2) (fSomeP (fC (.int 1))) fNoP) (fCons (fOp2 hAdd (fSl (fName 2) fNoP (fSomeP (fOp1 hNeg (fC (.int 1))))) (fOpN hTup (fCons (fC (.int 2)) fNil))) (fCons (fOp2 hAdd (fSl (fName 2) fNoP (fSomeP (fOp1 hNeg (fC (.int 1))))) (fOpN hTup (fCons (fOp1 hNeg (fC (.int 1))) fNil))) (fCons (fOp2 hAdd (fSl (fName 2) fNoP (fSomeP (fOp1 hNeg (fC (.int 1))))) (fOpN hTup (fCons (fC (.bool true)) fNil))) (fCons (fOp2 hAdd (fSl (fName 2) fNoP (fSomeP (fOp1 hNeg (fC (.int 1))))) (fOpN hTup (fCons (fC .none) fNil))) (fCons (fC (.int 0)) fNil))))))))))) (ps_set (i := 5) sc__law_wrong.nd rfl (Or.inl rfl) (de_new (do_lst (da_cons de_non (da_cons (de_list bl (da_cons (de_name (pv 2)) da_nil)) (da_cons (de_add (de_name (pv 2)) (de_tup (da_cons de_int da_nil))) (da_cons (de_slice (de_name (pv 2)) (dp_some de_int) dp_none) (da_cons (de_add (de_slice (de_name (pv 2)) dp_none (dp_some (de_neg de_int))) (de_tup (da_cons de_int da_nil))) (da_cons (de_add (de_slice (de_name (pv 2)) dp_none (dp_some (de_neg de_int))) (de_tup (da_cons (de_neg de_int) da_nil))) (da_cons (de_add (de_slice (de_name (pv 2)) dp_none (dp_some (de_neg de_int))) (de_tup (da_cons de_bl da_nil))) (da_cons (de_add (de_slice (de_name (pv 2)) dp_none (dp_some (de_neg de_int))) (de_tup (da_cons de_non da_nil))) (da_cons de_int da_nil))))))))))).pe))
  (dss_one (ds_ret (de_and (de_is hr (de_cal C_is_choice (hr.mono (by decide)) tk (da_cons (de_name (pv 0)) (da_cons (de_name (pv 2)) da_nil))) de_bl) (de_one (de_eq hr (de_new (do_lc (own := [("value", 6)]) (t := (gName 6)) rfl sc__law_wrong.nd (di_seq (de_name (pv 5))) (blkOk_by (own := [("value", 6)]) (N := N__law_wrong) (sc := defScope s__law_wrong) (by decide +kernel)) (inner_name (by decide)) asg_name (fun _ _ _ _ _ => (pg_name (i := 6) sc__law_wrong.nd rfl (Or.inl rfl))) (fun _ _ _ _ _ => (dts_one (dt_isnot hr (de_cal C_is_choice (hr.mono (by decide)) takes0N (da_cons (de_name (pv 0)) (da_cons (de_name (pv 6)) da_nil))) de_bl))) (fun _ _ _ _ _ => (de_name (pv 6))))) (de_new (do_lst da_nil)))))))))))))

abbrev s__law_painted : Stmt := topS 41
abbrev N__law_painted : List Str := ["draws", "graph", "painting", "many", "left", "turn", "here", "value", "every", "node", "behind"]
theorem sc__law_painted : FnScope N__law_painted ["draws", "graph", "painting"] (defScope s__law_painted) := ⟨rfl, rfl, rfl, by decide +kernel, rfl, by decide +kernel, by decide +kernel⟩
def g__law_painted : SF := (gSeq (gSet 3 (fOp2 hIx (fName 1) (fC (.int 0))))
  (gSeq (gSet 4 (fOwn 2 f__law_equal (fCons (fName 1) (fCons (fName 2) fNil))))
  (gSeq (gFor (fRng1 (fCons (fOp2 hAdd (fName 4) (fC (.int 1))) fNil)) (aName 5)
   (gSeq (gSet 6 (fOwn 2 f__law_clashing (fCons (fName 1) (fCons (fName 2) fNil))))
  (gSeq (gIf (fOr (fB (fOp2 hNe (fOwn 2 f_clashing (fCons (fName 1) (fCons (fName 2) fNil))) (fName 6))) (fOr (fNot (fB (fOwn 1 f__law_int (fCons (fOwn 2 f_equal_joints (fCons (fName 1) (fCons (fName 2) fNil))) fNil)))) (fB (fOp2 hNe (fOwn 2 f_equal_joints (fCons (fName 1) (fCons (fName 2) fNil))) (fOwn 2 f__law_equal (fCons (fName 1) (fCons (fName 2) fNil)))))))
   (gRet (fC (.bool false)))
   gNop)
  (gSeq (gFor (fIt (fOp2 hAdd (fLc (fRng1 (fCons (fName 3) fNil)) (aName 9) (fB (fOp2 hNotIn (fName 9) (fName 6))) (fName 9) [9]) (fOpN hLst (fCons (fName 3) (fCons (fOp1 hNeg (fC (.int 1))) (fCons (fC .none) (fCons (fC (.bool true)) fNil))))))) (aName 7)
   (gIf (fB (fOp2 hNe (fOwn 4 f__law_moved (fCons (fC (.int 0)) (fCons (fName 1) (fCons (fName 2) (fCons (fName 7) fNil))))) (fC (.str "Refused"))))
   (gRet (fC (.bool false)))
   gNop))
  (gSeq (gSet 8 (fOpN hTuple (fCons (fLc (fRng1 (fCons (fName 3) fNil)) (aName 9) fYes (fIfE (fB (fOp2 hIn (fName 9) (fName 6))) (fOwn 3 f__law_colour (fCons (fName 1) (fCons (fName 2) (fCons (fName 9) fNil)))) (fOp2 hIx (fName 2) (fName 9))) [9]) fNil)))
  (gSeq (gIf (fB (fOp2 hNe (fOwn 2 f_all_repainted (fCons (fName 1) (fCons (fName 2) fNil))) (fName 8)))
   (gRet (fC (.bool false)))
   gNop)
  (gSeq (gIf (fB (fOp2 hEq (fName 6) (fOpN hTup fNil)))
   (gRet (fC (.bool true)))
   gNop)
  (gSeq (gSet 9 (fOp2 hIx (fName 6) (fOwn 2 f__law_draw (fCons (fName 0) (fCons (fOpN hLen (fCons (fName 6) fNil)) fNil)))))
  (gSeq (gSet 10 (fOwn 4 f__law_moved (fCons (fC (.int 0)) (fCons (fName 1) (fCons (fName 2) (fCons (fName 9) fNil))))))
  (gSeq (gIf (fOr (fB (fOp2 hNe (fName 10) (fOp2 hAdd (fOp2 hAdd (fSl (fName 2) fNoP (fSomeP (fName 9))) (fOpN hTup (fCons (fOwn 3 f__law_colour (fCons (fName 1) (fCons (fName 2) (fCons (fName 9) fNil)))) fNil))) (fSl (fName 2) (fSomeP (fOp2 hAdd (fName 9) (fC (.int 1)))) fNoP)))) (fOr (fB (fOp2 hGe (fOwn 2 f__law_equal (fCons (fName 1) (fCons (fName 10) fNil))) (fOwn 2 f__law_equal (fCons (fName 1) (fCons (fName 2) fNil))))) (fB (fOp2 hIsNot (fOwn 2 f_is_painting (fCons (fName 1) (fCons (fName 10) fNil))) (fC (.bool true))))))
   (gRet (fC (.bool false)))
   gNop)
  (gSet 2 (fName 10))))))))))))
  (gRet (fC (.bool false))))))
def f__law_painted : List DV → Sto → Res DV := runF false 11 g__law_painted
theorem ok__law_painted {P : Program} {w : World} {K : PySem.W.Frag} {mg : Str → Option Value} {base : Heap} {T : FS} {f : Addr} {fd : FuncData} (F : FnP K "_law_painted" s__law_painted f fd) (bl : Blts mg) (C_is_painting : Cal P w K mg base T "is_painting" 4 2 false f_is_painting) (C__law_equal : Cal P w K mg base T "_law_equal" 1 2 false f__law_equal) (C__law_colour : Cal P w K mg base T "_law_colour" 2 3 false f__law_colour) (C__law_moved : Cal P w K mg base T "_law_moved" 4 4 false f__law_moved) (C__law_draw : Cal P w K mg base T "_law_draw" 2 2 false f__law_draw) (C_all_repainted : Cal P w K mg base T "all_repainted" 3 2 false f_all_repainted) (C_equal_joints : Cal P w K mg base T "equal_joints" 1 2 false f_equal_joints) (C__law_int : Cal P w K mg base T "_law_int" 1 1 false f__law_int) (C_clashing : Cal P w K mg base T "clashing" 1 2 false f_clashing) (C__law_clashing : Cal P w K mg base T "_law_clashing" 2 2 false f__law_clashing)   : FnOk P w K mg base (L2N.CX P w) 5 f fd ["draws", "graph", "painting"] (spOf mg K T false 3 f__law_painted) :=
  dl_def F sc__law_painted fun cdv hcd A outer s H E hr => by
  have tk := L2N.takes_of (X := cxOf (L2N.CX P w) P w K mg base N__law_painted "_law_painted" (defScope s__law_painted) f cdv A outer s H E) (E := E) rfl rfl rfl rfl
  exact (dss_cons (ds_set (i := 3) (f := (fOp2 hIx (fName 1) (fC (.int 0)))) (ps_set (i := 3) sc__law_painted.nd rfl (Or.inl rfl) (de_ix (de_name (pv 1)) de_int (fun _ _ => rfl)).pe))
  (dss_cons (ds_set (i := 4) (f := (fOwn 2 f__law_equal (fCons (fName 1) (fCons (fName 2) fNil)))) (ps_set (i := 4) sc__law_painted.nd rfl (Or.inl rfl) (de_cal C__law_equal (hr.mono (by decide)) tk (da_cons (de_name (pv 1)) (da_cons (de_name (pv 2)) da_nil))).pe))
  (dss_cons (ds_for (t := (gName 5)) (passes_of rfl) rfl (di_rng1 (by rfl) bl.range (da_cons (de_add (de_name (pv 4)) de_int) da_nil)) ⟨(pg_name (i := 5) sc__law_painted.nd rfl (Or.inl rfl)), asg_name⟩
   (dss_cons (ds_set (i := 6) (f := (fOwn 2 f__law_clashing (fCons (fName 1) (fCons (fName 2) fNil)))) (ps_set (i := 6) sc__law_painted.nd rfl (Or.inr rfl) (de_cal C__law_clashing (hr.mono (by decide)) tk (da_cons (de_name (pv 1)) (da_cons (de_name (pv 2)) da_nil))).pe))
  (dss_cons (ds_if (dt_pw (dw_or (dt_ne hr (de_cal C_clashing (hr.mono (by decide)) tk (da_cons (de_name (pv 1)) (da_cons (de_name (pv 2)) da_nil))) (de_name (pv 6))) (dw_or (dt_not (dt_val (de_cal C__law_int (hr.mono (by decide)) tk (da_cons (de_cal C_equal_joints (hr.mono (by decide)) tk (da_cons (de_name (pv 1)) (da_cons (de_name (pv 2)) da_nil))) da_nil)))) (dw_or1 (dt_ne hr (de_cal C_equal_joints (hr.mono (by decide)) tk (da_cons (de_name (pv 1)) (da_cons (de_name (pv 2)) da_nil))) (de_cal C__law_equal (hr.mono (by decide)) tk (da_cons (de_name (pv 1)) (da_cons (de_name (pv 2)) da_nil))))))))
   (dss_one (ds_ret de_bl))
   dss_nil)
  (dss_cons (ds_for (t := (gName 7)) (passes_of rfl) rfl (di_seq (de_add (de_new (do_lc (own := [("node", 9)]) (t := (gName 9)) rfl sc__law_painted.nd (di_rng1 (by rfl) bl.range (da_cons (de_name (pv 3)) da_nil)) (blkOk_by (own := [("node", 9)]) (N := N__law_painted) (sc := defScope s__law_painted) (by decide +kernel)) (inner_name (by decide)) asg_name (fun _ _ _ _ _ => (pg_name (i := 9) sc__law_painted.nd rfl (Or.inl rfl))) (fun _ _ _ _ _ => (dts_one (dt_notin hr (de_name (pv 9)) (de_name (pv 6))))) (fun _ _ _ _ _ => (de_name (pv 9))))) (de_new (do_lst (da_cons (de_name (pv 3)) (da_cons (de_neg de_int) (da_cons de_non (da_cons de_bl da_nil)))))))) ⟨(pg_name (i := 7) sc__law_painted.nd rfl (Or.inl rfl)), asg_name⟩
   (dss_one (ds_if (dt_ne hr (de_cal C__law_moved (hr.mono (by decide)) tk (da_cons de_int (da_cons (de_name (pv 1)) (da_cons (de_name (pv 2)) (da_cons (de_name (pv 7)) da_nil))))) de_str)
   (dss_one (ds_ret de_bl))
   dss_nil)))
  (dss_cons (ds_set (i := 8) (f := (fOpN hTuple (fCons (fLc (fRng1 (fCons (fName 3) fNil)) (aName 9) fYes (fIfE (fB (fOp2 hIn (fName 9) (fName 6))) (fOwn 3 f__law_colour (fCons (fName 1) (fCons (fName 2) (fCons (fName 9) fNil)))) (fOp2 hIx (fName 2) (fName 9))) [9]) fNil))) (ps_set (i := 8) sc__law_painted.nd rfl (Or.inl rfl) (de_tuple bl (da_cons (de_new (do_lc (own := [("node", 9)]) (t := (gName 9)) rfl sc__law_painted.nd (di_rng1 (by rfl) bl.range (da_cons (de_name (pv 3)) da_nil)) (blkOk_by (own := [("node", 9)]) (N := N__law_painted) (sc := defScope s__law_painted) (by decide +kernel)) (inner_name (by decide)) asg_name (fun _ _ _ _ _ => (pg_name (i := 9) sc__law_painted.nd rfl (Or.inl rfl))) (fun _ _ _ _ _ => dts_nil) (fun _ _ _ _ _ => (de_ifE (dt_in hr (de_name (pv 9)) (de_name (pv 6))) (de_cal C__law_colour (hr.mono (by decide)) takes0N (da_cons (de_name (pv 1)) (da_cons (de_name (pv 2)) (da_cons (de_name (pv 9)) da_nil)))) (de_ix (de_name (pv 2)) (de_name (pv 9)) (fun _ _ => rfl)))))) da_nil)).pe))
  (dss_cons (ds_if (dt_ne hr (de_cal C_all_repainted (hr.mono (by decide)) tk (da_cons (de_name (pv 1)) (da_cons (de_name (pv 2)) da_nil))) (de_name (pv 8)))
   (dss_one (ds_ret de_bl))
   dss_nil)
  (dss_cons (ds_if (dt_eq hr (de_name (pv 6)) (de_tup da_nil))
   (dss_one (ds_ret de_bl))
   dss_nil)
  (dss_cons (ds_set (i := 9) (f := (fOp2 hIx (fName 6) (fOwn 2 f__law_draw (fCons (fName 0) (fCons (fOpN hLen (fCons (fName 6) fNil)) fNil))))) (ps_set (i := 9) sc__law_painted.nd rfl (Or.inl rfl) (de_ix (de_name (pv 6)) (de_cal C__law_draw (hr.mono (by decide)) tk (da_cons (de_name (pv 0)) (da_cons (de_len bl (da_cons (de_name (pv 6)) da_nil)) da_nil))) (fun _ _ => rfl)).pe))
  (dss_cons (ds_set (i := 10) (f := (fOwn 4 f__law_moved (fCons (fC (.int 0)) (fCons (fName 1) (fCons (fName 2) (fCons (fName 9) fNil)))))) (ps_set (i := 10) sc__law_painted.nd rfl (Or.inl rfl) (de_cal C__law_moved (hr.mono (by decide)) tk (da_cons de_int (da_cons (de_name (pv 1)) (da_cons (de_name (pv 2)) (da_cons (de_name (pv 9)) da_nil))))).pe))
  (dss_cons (ds_if (dt_pw (dw_or (dt_ne hr (de_name (pv 10)) (de_add (de_add (de_slice (de_name (pv 2)) dp_none (dp_some (de_name (pv 9)))) (de_tup (da_cons (de_cal C__law_colour (hr.mono (by decide)) tk (da_cons (de_name (pv 1)) (da_cons (de_name (pv 2)) (da_cons (de_name (pv 9)) da_nil)))) da_nil))) (de_slice (de_name (pv 2)) (dp_some (de_add (de_name (pv 9)) de_int)) dp_none))) (dw_or (dt_ge hr (de_cal C__law_equal (hr.mono (by decide)) tk (da_cons (de_name (pv 1)) (da_cons (de_name (pv 10)) da_nil))) (de_cal C__law_equal (hr.mono (by decide)) tk (da_cons (de_name (pv 1)) (da_cons (de_name (pv 2)) da_nil)))) (dw_or1 (dt_isnot hr (de_cal C_is_painting (hr.mono (by decide)) tk (da_cons (de_name (pv 1)) (da_cons (de_name (pv 10)) da_nil))) de_bl)))))
   (dss_one (ds_ret de_bl))
   dss_nil)
  (dss_one (ds_set (i := 2) (f := (fName 10)) (ps_set (i := 2) sc__law_painted.nd rfl (Or.inr rfl) (de_name (pv 10)).pe)))))))))))))
  (dss_one (ds_ret de_bl)))))

abbrev s__law_chosen : Stmt := topS 42
abbrev N__law_chosen : List Str := ["draws", "graph", "choice", "many", "moves", "turn", "here", "node", "near", "told", "value", "behind", "other"]
theorem sc__law_chosen : FnScope N__law_chosen ["draws", "graph", "choice"] (defScope s__law_chosen) := ⟨rfl, rfl, rfl, by decide +kernel, rfl, by decide +kernel, by decide +kernel⟩
def g__law_chosen : SF := (gSeq (gSet 3 (fOp2 hIx (fName 1) (fC (.int 0))))
  (gSeq (gOwn 4 (fLst (fOp2 hMul (fOpN hLst (fCons (fC (.int 0)) fNil)) (fName 3))))
  (gSeq (gFor (fRng1 (fCons (fOp2 hAdd (fOp2 hMul (fC (.int 2)) (fName 3)) (fC (.int 1))) fNil)) (aName 5)
   (gSeq (gOwn 6 (fOpN hLst fNil))
  (gSeq (gFor (fRng1 (fCons (fName 3) fNil)) (aName 7)
   (gSeq (gSet 8 (fLc (fIt (fOwn 2 f__law_beside (fCons (fName 1) (fCons (fName 7) fNil)))) (aName 12) (fB (fOp2 hEq (fOp2 hIx (fName 2) (fName 12)) (fC (.int 1)))) (fName 12) [12]))
  (gIf (fB (fOp2 hEq (fOp2 hEq (fOp2 hIx (fName 2) (fName 7)) (fC (.int 1))) (fOp2 hNe (fName 8) (fOpN hLst fNil))))
   (gAppend 6 (fName 7))
   gNop)))
  (gSeq (gSet 9 (fOwn 2 f_restless (fCons (fName 1) (fCons (fName 2) fNil))))
  (gSeq (gIf (fOr (fNot (fB (fOp1 (hIsi "tuple") (fName 9)))) (fOr (fB (fOp2 hNe (fOpN hList (fCons (fName 9) fNil)) (fNameB 6))) (fNot (fB (fOwn 2 f__law_same (fCons (fOwn 2 f_is_settled (fCons (fName 1) (fCons (fName 2) fNil))) (fCons (fOp2 hEq (fNameB 6) (fOpN hLst fNil)) fNil)))))))
   (gRet (fC (.bool false)))
   gNop)
  (gSeq (gFor (fIt (fOp2 hAdd (fLc (fRng1 (fCons (fName 3) fNil)) (aName 7) (fB (fOp2 hNotIn (fName 7) (fNameB 6))) (fName 7) [7]) (fOpN hLst (fCons (fName 3) (fCons (fOp1 hNeg (fC (.int 1))) (fCons (fC .none) (fCons (fC (.bool true)) fNil))))))) (aName 10)
   (gIf (fB (fOp2 hNe (fOwn 4 f__law_moved (fCons (fC (.int 1)) (fCons (fName 1) (fCons (fName 2) (fCons (fName 10) fNil))))) (fC (.str "Refused"))))
   (gRet (fC (.bool false)))
   gNop))
  (gSeq (gIf (fB (fOp2 hEq (fNameB 6) (fOpN hLst fNil)))
   (gRet (fOp2 hLe (fOpN hMax (fCons (fNameB 4) fNil)) (fC (.int 2))))
   gNop)
  (gSeq (gSet 7 (fOp2 hIx (fNameB 6) (fOwn 2 f__law_draw (fCons (fName 0) (fCons (fOpN hLen (fCons (fNameB 6) fNil)) fNil)))))
  (gSeq (gSet 11 (fOwn 4 f__law_moved (fCons (fC (.int 1)) (fCons (fName 1) (fCons (fName 2) (fCons (fName 7) fNil))))))
  (gSeq (gIf (fB (fOp2 hNe (fName 11) (fOp2 hAdd (fOp2 hAdd (fSl (fName 2) fNoP (fSomeP (fName 7))) (fOpN hTup (fCons (fOp2 hSub (fC (.int 1)) (fOp2 hIx (fName 2) (fName 7))) fNil))) (fSl (fName 2) (fSomeP (fOp2 hAdd (fName 7) (fC (.int 1)))) fNoP))))
   (gRet (fC (.bool false)))
   gNop)
  (gSeq (gStoreOwn 4 (fName 7) (fOp2 hAdd (fOp2 hIx (fNameB 4) (fName 7)) (fC (.int 1))))
  (gSet 2 (fName 11)))))))))))))
  (gRet (fC (.bool false))))))
def f__law_chosen : List DV → Sto → Res DV := runF false 13 g__law_chosen
theorem ok__law_chosen {P : Program} {w : World} {K : PySem.W.Frag} {mg : Str → Option Value} {base : Heap} {T : FS} {f : Addr} {fd : FuncData} (F : FnP K "_law_chosen" s__law_chosen f fd) (bl : Blts mg) (C__law_moved : Cal P w K mg base T "_law_moved" 4 4 false f__law_moved) (C__law_draw : Cal P w K mg base T "_law_draw" 2 2 false f__law_draw) (C_is_settled : Cal P w K mg base T "is_settled" 3 2 false f_is_settled) (C__law_same : Cal P w K mg base T "_law_same" 1 2 false f__law_same) (C_restless : Cal P w K mg base T "restless" 2 2 false f_restless) (C__law_beside : Cal P w K mg base T "_law_beside" 1 2 false f__law_beside)   : FnOk P w K mg base (L2N.CX P w) 5 f fd ["draws", "graph", "choice"] (spOf mg K T false 3 f__law_chosen) :=
  dl_def F sc__law_chosen fun cdv hcd A outer s H E hr => by
  have tk := L2N.takes_of (X := cxOf (L2N.CX P w) P w K mg base N__law_chosen "_law_chosen" (defScope s__law_chosen) f cdv A outer s H E) (E := E) rfl rfl rfl rfl
  exact (dss_cons (ds_set (i := 3) (f := (fOp2 hIx (fName 1) (fC (.int 0)))) (ps_set (i := 3) sc__law_chosen.nd rfl (Or.inl rfl) (de_ix (de_name (pv 1)) de_int (fun _ _ => rfl)).pe))
  (dss_cons (ds_own (i := 4) (f := (fLst (fOp2 hMul (fOpN hLst (fCons (fC (.int 0)) fNil)) (fName 3)))) (ps_set (i := 4) sc__law_chosen.nd rfl (Or.inl rfl) (do_mul (de_new (do_lst (da_cons de_int da_nil))) (de_name (pv 3))).pe))
  (dss_cons (ds_for (t := (gName 5)) (passes_of rfl) rfl (di_rng1 (by rfl) bl.range (da_cons (de_add (de_mul de_int (de_name (pv 3))) de_int) da_nil)) ⟨(pg_name (i := 5) sc__law_chosen.nd rfl (Or.inl rfl)), asg_name⟩
   (dss_cons (ds_own (i := 6) (f := (fOpN hLst fNil)) (ps_set (i := 6) sc__law_chosen.nd rfl (Or.inr rfl) (do_lst da_nil).pe))
  (dss_cons (ds_for (t := (gName 7)) (passes_of rfl) rfl (di_rng1 (by rfl) bl.range (da_cons (de_name (pv 3)) da_nil)) ⟨(pg_name (i := 7) sc__law_chosen.nd rfl (Or.inl rfl)), asg_name⟩
   (dss_cons (ds_setLc (i := 8) rfl sc__law_chosen.nd rfl rfl (sw_true rfl rfl rfl (by decide +kernel)) (own := [("other", 12)]) (t := (gName 12)) (di_seq (de_cal C__law_beside (hr.mono (by decide)) tk (da_cons (de_name (pv 1)) (da_cons (de_name (pv 7)) da_nil)))) (blkOk_by (own := [("other", 12)]) (N := N__law_chosen) (sc := defScope s__law_chosen) (by decide +kernel)) (inner_name (by decide)) asg_name (fun _ _ _ _ _ => (pg_name (i := 12) sc__law_chosen.nd rfl (Or.inl rfl))) (fun _ _ _ _ _ => (dts_one (dt_eq hr (de_ix (de_name (pv 2)) (de_name (pv 12)) (fun _ _ => rfl)) de_int))) (fun _ _ _ _ _ => (de_name (pv 12))))
  (dss_one (ds_if (dt_eq hr (de_eq hr (de_ix (de_name (pv 2)) (de_name (pv 7)) (fun _ _ => rfl)) de_int) (de_ne hr (de_name (pv 8)) (de_new (do_lst da_nil))))
   (dss_one (ds_append (i := 6) (f := (fName 7)) (ps_expr (pe_bm PySem.F.plainAttrs_list PySem.F.slot_list_append PySem.F.type_list_append mt_append (pv 6) (pa_cons (de_name (pv 7)).pe pa_nil)))))
   dss_nil))))
  (dss_cons (ds_set (i := 9) (f := (fOwn 2 f_restless (fCons (fName 1) (fCons (fName 2) fNil)))) (ps_set (i := 9) sc__law_chosen.nd rfl (Or.inl rfl) (de_cal C_restless (hr.mono (by decide)) tk (da_cons (de_name (pv 1)) (da_cons (de_name (pv 2)) da_nil))).pe))
  (dss_cons (ds_if (dt_pw (dw_or (dt_not (dt_val (de_isinst bl bl.tuple (by decide +kernel) (de_name (pv 9))))) (dw_or (dt_ne hr (de_list bl (da_cons (de_name (pv 9)) da_nil)) (de_nameB (pv 6))) (dw_or1 (dt_not (dt_val (de_cal C__law_same (hr.mono (by decide)) tk (da_cons (de_cal C_is_settled (hr.mono (by decide)) tk (da_cons (de_name (pv 1)) (da_cons (de_name (pv 2)) da_nil))) (da_cons (de_eq hr (de_nameB (pv 6)) (de_new (do_lst da_nil))) da_nil)))))))))
   (dss_one (ds_ret de_bl))
   dss_nil)
  (dss_cons (ds_for (t := (gName 10)) (passes_of rfl) rfl (di_seq (de_add (de_new (do_lc (own := [("node", 7)]) (t := (gName 7)) rfl sc__law_chosen.nd (di_rng1 (by rfl) bl.range (da_cons (de_name (pv 3)) da_nil)) (blkOk_by (own := [("node", 7)]) (N := N__law_chosen) (sc := defScope s__law_chosen) (by decide +kernel)) (inner_name (by decide)) asg_name (fun _ _ _ _ _ => (pg_name (i := 7) sc__law_chosen.nd rfl (Or.inl rfl))) (fun _ _ _ _ _ => (dts_one (dt_notin hr (de_name (pv 7)) (de_nameB (pv 6))))) (fun _ _ _ _ _ => (de_name (pv 7))))) (de_new (do_lst (da_cons (de_name (pv 3)) (da_cons (de_neg de_int) (da_cons de_non (da_cons de_bl da_nil)))))))) ⟨(pg_name (i := 10) sc__law_chosen.nd rfl (Or.inl rfl)), asg_name⟩
   (dss_one (ds_if (dt_ne hr (de_cal C__law_moved (hr.mono (by decide)) tk (da_cons de_int (da_cons (de_name (pv 1)) (da_cons (de_name (pv 2)) (da_cons (de_name (pv 10)) da_nil))))) de_str)
   (dss_one (ds_ret de_bl))
   dss_nil)))
  (dss_cons (ds_if (dt_eq hr (de_nameB (pv 6)) (de_new (do_lst da_nil)))
   (dss_one (ds_ret (de_le hr (de_max rfl bl (da_cons (de_nameB (pv 4)) da_nil)) de_int)))
   dss_nil)
  (dss_cons (ds_set (i := 7) (f := (fOp2 hIx (fNameB 6) (fOwn 2 f__law_draw (fCons (fName 0) (fCons (fOpN hLen (fCons (fNameB 6) fNil)) fNil))))) (ps_set (i := 7) sc__law_chosen.nd rfl (Or.inl rfl) (de_ix (de_nameB (pv 6)) (de_cal C__law_draw (hr.mono (by decide)) tk (da_cons (de_name (pv 0)) (da_cons (de_len bl (da_cons (de_nameB (pv 6)) da_nil)) da_nil))) (fun _ _ => rfl)).pe))
  (dss_cons (ds_set (i := 11) (f := (fOwn 4 f__law_moved (fCons (fC (.int 1)) (fCons (fName 1) (fCons (fName 2) (fCons (fName 7) fNil)))))) (ps_set (i := 11) sc__law_chosen.nd rfl (Or.inl rfl) (de_cal C__law_moved (hr.mono (by decide)) tk (da_cons de_int (da_cons (de_name (pv 1)) (da_cons (de_name (pv 2)) (da_cons (de_name (pv 7)) da_nil))))).pe))
  (dss_cons (ds_if (dt_ne hr (de_name (pv 11)) (de_add (de_add (de_slice (de_name (pv 2)) dp_none (dp_some (de_name (pv 7)))) (de_tup (da_cons (de_sub de_int (de_ix (de_name (pv 2)) (de_name (pv 7)) (fun _ _ => rfl))) da_nil))) (de_slice (de_name (pv 2)) (dp_some (de_add (de_name (pv 7)) de_int)) dp_none)))
   (dss_one (ds_ret de_bl))
   dss_nil)
  (dss_cons (ds_storeOwn (i := 4) (fk := (fName 7)) (fv := (fOp2 hAdd (fOp2 hIx (fNameB 4) (fName 7)) (fC (.int 1)))) (ps_asg (de_add (de_ix (de_nameB (pv 4)) (de_name (pv 7)) (fun _ _ => rfl)) de_int).pe (pg_sub (pv 4) (de_name (pv 7)).pe set_list)))
  (dss_one (ds_set (i := 2) (f := (fName 11)) (ps_set (i := 2) sc__law_chosen.nd rfl (Or.inr rfl) (de_name (pv 11)).pe))))))))))))))
  (dss_one (ds_ret de_bl)))))

abbrev s_law : Stmt := topS 43
abbrev N_law : List Str := ["script", "draws", "many", "graph", "painting", "choice", "pair", "colour", "told", "node"]
theorem sc_law : FnScope N_law ["script"] (defScope s_law) := ⟨rfl, rfl, rfl, by decide +kernel, rfl, by decide +kernel, by decide +kernel⟩
def g1_law : SF := (gOwn 1 (fOwn 1 f__law_open (fCons (fName 0) fNil)))
def g2_law : SF := (gSeq (gSet 2 (fOp2 hAdd (fC (.int 1)) (fOwn 2 f__law_draw (fCons (fName 1) (fCons (fC (.int 12)) fNil)))))
  (gSeq (gSet 3 (fOpN hTup (fCons (fName 2) (fCons (fOwn 3 f__law_joints (fCons (fName 1) (fCons (fName 2) (fCons (fOp2 hEq (fOwn 2 f__law_draw (fCons (fName 1) (fCons (fC (.int 2)) fNil))) (fC (.int 0))) fNil)))) fNil))))
  (gSeq (gSet 4 (fOpN hTuple (fCons (fLc (fRng1 (fCons (fName 2) fNil)) (aName 9) fYes (fOwn 2 f__law_draw (fCons (fName 1) (fCons (fOp2 hIx (fOpN hLst (fCons (fC (.int 1)) (fCons (fC (.int 2)) (fCons (fC (.int 3)) (fCons (fC (.int 13)) fNil))))) (fOwn 2 f__law_draw (fCons (fName 1) (fCons (fC (.int 4)) fNil)))) fNil))) [9]) fNil)))
  (gSeq (gSet 5 (fOpN hTuple (fCons (fLc (fRng1 (fCons (fName 2) fNil)) (aName 9) fYes (fOwn 2 f__law_draw (fCons (fName 1) (fCons (fC (.int 2)) fNil))) [9]) fNil)))
  (gSeq (gIf (fOr (fNot (fB (fOwn 3 f__law_wrong (fCons (fName 3) (fCons (fName 4) (fCons (fName 5) fNil)))))) (fOr (fNot (fB (fOwn 3 f__law_painted (fCons (fName 1) (fCons (fName 3) (fCons (fName 4) fNil)))))) (fOr (fNot (fB (fOwn 3 f__law_chosen (fCons (fName 1) (fCons (fName 3) (fCons (fName 5) fNil)))))) (fNot (fB (fOwn 3 f__law_chosen (fCons (fName 1) (fCons (fName 3) (fCons (fOp2 hMul (fOpN hTup (fCons (fC (.int 1)) fNil)) (fName 2)) fNil)))))))))
   (gRet (fC (.bool false)))
   gNop)
  (gSeq (gSet 6 (fOpN hTup (fCons (fC (.int 2)) (fCons (fOpN hTup (fCons (fOpN hTup (fCons (fC (.int 0)) (fCons (fC (.int 1)) fNil))) fNil)) fNil))))
  (gSeq (gSet 7 (fOwn 2 f__law_draw (fCons (fName 1) (fCons (fC (.int 13)) fNil))))
  (gSeq (gSet 8 (fOwn 2 f_all_repainted (fCons (fName 6) (fCons (fOpN hTup (fCons (fName 7) (fCons (fName 7) fNil))) fNil))))
  (gRet (fAndV (fOp2 hEq (fOp2 hIx (fName 8) (fC (.int 0))) (fOp2 hIx (fName 8) (fC (.int 1)))) (fOp2 hEq (fOp2 hIx (fOwn 2 f_all_repainted (fCons (fName 6) (fCons (fName 8) fNil))) (fC (.int 0))) (fOp2 hIx (fOwn 2 f_all_repainted (fCons (fName 6) (fCons (fName 8) fNil))) (fC (.int 1))))))))))))))
theorem ok_law {P : Program} {w : World} {K : PySem.W.Frag} {mg : Str → Option Value} {base : Heap} {T : FS} {f : Addr} {fd : FuncData} (F : FnP K "law" s_law f fd) (bl : Blts mg) (C__law_open : Cal P w K mg base T "_law_open" 1 1 true f__law_open) (C_all_repainted : Cal P w K mg base T "all_repainted" 3 2 false f_all_repainted) (C__law_draw : Cal P w K mg base T "_law_draw" 2 2 false f__law_draw) (C__law_chosen : Cal P w K mg base T "_law_chosen" 5 3 false f__law_chosen) (C__law_painted : Cal P w K mg base T "_law_painted" 5 3 false f__law_painted) (C__law_wrong : Cal P w K mg base T "_law_wrong" 5 3 false f__law_wrong) (C__law_joints : Cal P w K mg base T "_law_joints" 3 3 false f__law_joints) 
  (plain : ∀ ns, ScrOk ns → ∃ env ds st', g1_law ([DV.scr ns].map Slot.frz ++ List.replicate (N_law.length - 1) Slot.un) [] = .nx env [] ∧ env[1]? = some (.own (.list ds)) ∧ g2_law (env.set 1 (.frz .loc)) ds = .rt (.d (.bool true)) st') :
  FnOk P w K mg base (L2N.CX P w) 6 f fd ["script"] (spLaw K T) :=
  dl_law (i := 1) (g1 := g1_law) (g2 := g2_law) F sc_law rfl (fun cdv hcd A outer s H E hr => by
  have tk := takes0N (X := cxOf (L2N.CX P w) P w K mg base N_law "law" (defScope s_law) f cdv A outer s H E)
  exact (ds_own (i := 1) (f := (fOwn 1 f__law_open (fCons (fName 0) fNil))) (ps_set (i := 1) sc_law.nd rfl (Or.inr rfl) (do_cal C__law_open (hr.mono (by decide)) tk (da_cons (de_name (pv 0)) da_nil)).pe))) (fun cdv hcd A outer s H E hr => by
  have tk := takes0N (X := cxOf (L2N.CX P w) P w K mg base N_law "law" (defScope s_law) f cdv A outer s H E)
  exact (dss_cons (ds_set (i := 2) (f := (fOp2 hAdd (fC (.int 1)) (fOwn 2 f__law_draw (fCons (fName 1) (fCons (fC (.int 12)) fNil))))) (ps_set (i := 2) sc_law.nd rfl (Or.inl rfl) (de_add de_int (de_cal C__law_draw (hr.mono (by decide)) tk (da_cons (de_name (pv 1)) (da_cons de_int da_nil)))).pe))
  (dss_cons (ds_set (i := 3) (f := (fOpN hTup (fCons (fName 2) (fCons (fOwn 3 f__law_joints (fCons (fName 1) (fCons (fName 2) (fCons (fOp2 hEq (fOwn 2 f__law_draw (fCons (fName 1) (fCons (fC (.int 2)) fNil))) (fC (.int 0))) fNil)))) fNil)))) (ps_set (i := 3) sc_law.nd rfl (Or.inl rfl) (de_tup (da_cons (de_name (pv 2)) (da_cons (de_cal C__law_joints (hr.mono (by decide)) tk (da_cons (de_name (pv 1)) (da_cons (de_name (pv 2)) (da_cons (de_eq hr (de_cal C__law_draw (hr.mono (by decide)) tk (da_cons (de_name (pv 1)) (da_cons de_int da_nil))) de_int) da_nil)))) da_nil))).pe))
  (dss_cons (ds_set (i := 4) (f := (fOpN hTuple (fCons (fLc (fRng1 (fCons (fName 2) fNil)) (aName 9) fYes (fOwn 2 f__law_draw (fCons (fName 1) (fCons (fOp2 hIx (fOpN hLst (fCons (fC (.int 1)) (fCons (fC (.int 2)) (fCons (fC (.int 3)) (fCons (fC (.int 13)) fNil))))) (fOwn 2 f__law_draw (fCons (fName 1) (fCons (fC (.int 4)) fNil)))) fNil))) [9]) fNil))) (ps_set (i := 4) sc_law.nd rfl (Or.inl rfl) (de_tuple bl (da_cons (de_new (do_lc (own := [("node", 9)]) (t := (gName 9)) rfl sc_law.nd (di_rng1 (by rfl) bl.range (da_cons (de_name (pv 2)) da_nil)) (blkOk_by (own := [("node", 9)]) (N := N_law) (sc := defScope s_law) (by decide +kernel)) (inner_name (by decide)) asg_name (fun _ _ _ _ _ => (pg_name (i := 9) sc_law.nd rfl (Or.inl rfl))) (fun _ _ _ _ _ => dts_nil) (fun _ _ _ _ _ => (de_cal C__law_draw (hr.mono (by decide)) takes0N (da_cons (de_name (pv 1)) (da_cons (de_ix (de_new (do_lst (da_cons de_int (da_cons de_int (da_cons de_int (da_cons de_int da_nil)))))) (de_cal C__law_draw (hr.mono (by decide)) takes0N (da_cons (de_name (pv 1)) (da_cons de_int da_nil))) (fun _ _ => rfl)) da_nil)))))) da_nil)).pe))
  (dss_cons (ds_set (i := 5) (f := (fOpN hTuple (fCons (fLc (fRng1 (fCons (fName 2) fNil)) (aName 9) fYes (fOwn 2 f__law_draw (fCons (fName 1) (fCons (fC (.int 2)) fNil))) [9]) fNil))) (ps_set (i := 5) sc_law.nd rfl (Or.inl rfl) (de_tuple bl (da_cons (de_new (do_lc (own := [("node", 9)]) (t := (gName 9)) rfl sc_law.nd (di_rng1 (by rfl) bl.range (da_cons (de_name (pv 2)) da_nil)) (blkOk_by (own := [("node", 9)]) (N := N_law) (sc := defScope s_law) (by decide +kernel)) (inner_name (by decide)) asg_name (fun _ _ _ _ _ => (pg_name (i := 9) sc_law.nd rfl (Or.inl rfl))) (fun _ _ _ _ _ => dts_nil) (fun _ _ _ _ _ => (de_cal C__law_draw (hr.mono (by decide)) takes0N (da_cons (de_name (pv 1)) (da_cons de_int da_nil)))))) da_nil)).pe))
  (dss_cons (ds_if (dt_pw (dw_or (dt_not (dt_val (de_cal C__law_wrong (hr.mono (by decide)) tk (da_cons (de_name (pv 3)) (da_cons (de_name (pv 4)) (da_cons (de_name (pv 5)) da_nil)))))) (dw_or (dt_not (dt_val (de_cal C__law_painted (hr.mono (by decide)) tk (da_cons (de_name (pv 1)) (da_cons (de_name (pv 3)) (da_cons (de_name (pv 4)) da_nil)))))) (dw_or (dt_not (dt_val (de_cal C__law_chosen (hr.mono (by decide)) tk (da_cons (de_name (pv 1)) (da_cons (de_name (pv 3)) (da_cons (de_name (pv 5)) da_nil)))))) (dw_or1 (dt_not (dt_val (de_cal C__law_chosen (hr.mono (by decide)) tk (da_cons (de_name (pv 1)) (da_cons (de_name (pv 3)) (da_cons (de_mul (de_tup (da_cons de_int da_nil)) (de_name (pv 2))) da_nil)))))))))))
   (dss_one (ds_ret de_bl))
   dss_nil)
  (dss_cons (ds_set (i := 6) (f := (fOpN hTup (fCons (fC (.int 2)) (fCons (fOpN hTup (fCons (fOpN hTup (fCons (fC (.int 0)) (fCons (fC (.int 1)) fNil))) fNil)) fNil)))) (ps_set (i := 6) sc_law.nd rfl (Or.inl rfl) (de_tup (da_cons de_int (da_cons (de_tup (da_cons (de_tup (da_cons de_int (da_cons de_int da_nil))) da_nil)) da_nil))).pe))
  (dss_cons (ds_set (i := 7) (f := (fOwn 2 f__law_draw (fCons (fName 1) (fCons (fC (.int 13)) fNil)))) (ps_set (i := 7) sc_law.nd rfl (Or.inl rfl) (de_cal C__law_draw (hr.mono (by decide)) tk (da_cons (de_name (pv 1)) (da_cons de_int da_nil))).pe))
  (dss_cons (ds_set (i := 8) (f := (fOwn 2 f_all_repainted (fCons (fName 6) (fCons (fOpN hTup (fCons (fName 7) (fCons (fName 7) fNil))) fNil)))) (ps_set (i := 8) sc_law.nd rfl (Or.inl rfl) (de_cal C_all_repainted (hr.mono (by decide)) tk (da_cons (de_name (pv 6)) (da_cons (de_tup (da_cons (de_name (pv 7)) (da_cons (de_name (pv 7)) da_nil))) da_nil))).pe))
  (dss_one (ds_ret (de_and (de_eq hr (de_ix (de_name (pv 8)) de_int (fun _ _ => rfl)) (de_ix (de_name (pv 8)) de_int (fun _ _ => rfl))) (de_one (de_eq hr (de_ix (de_cal C_all_repainted (hr.mono (by decide)) tk (da_cons (de_name (pv 6)) (da_cons (de_name (pv 8)) da_nil))) de_int (fun _ _ => rfl)) (de_ix (de_cal C_all_repainted (hr.mono (by decide)) tk (da_cons (de_name (pv 6)) (da_cons (de_name (pv 8)) da_nil))) de_int (fun _ _ => rfl)))))))))))))))) plain

end K95

set_option Elab.async false
set_option linter.all false
/-! maps, paintings, choices, in plain numbers -/
namespace Map
open DL
def ga (s : List Int) (i : Int) : Int := s.getD i.toNat 0
abbrev Js := List (Int × Int)
def JOk (n : Int) (J : Js) : Prop := ∀ p ∈ J, 0 ≤ p.1 ∧ p.1 < p.2 ∧ p.2 < n
def at_ (v : Int) (p : Int × Int) : Bool := decide (v = p.1) || decide (v = p.2)
def beside (J : Js) (v : Int) : List Int := (J.filter (at_ v)).map fun p => p.1 + p.2 - v
theorem mem_beside {n : Int} {J : Js} (h : JOk n J) {v u : Int} : u ∈ beside J v ↔ (v, u) ∈ J ∨ (u, v) ∈ J := by
  unfold beside
  rw [List.mem_map]
  constructor
  · rintro ⟨⟨a, b⟩, hp, rfl⟩
    obtain ⟨h1, h2⟩ := List.mem_filter.mp hp
    simp [at_] at h2
    rcases h2 with rfl | rfl
    · left; simpa [show v + b - v = b by omega] using h1
    · right; simpa [show a + v - v = a by omega] using h1
  · rintro (h1 | h1)
    · exact ⟨_, List.mem_filter.mpr ⟨h1, by simp [at_]⟩, by simp; omega⟩
    · exact ⟨_, List.mem_filter.mpr ⟨h1, by simp [at_]⟩, by simp⟩
theorem beside_rng {n : Int} {J : Js} (h : JOk n J) {v u : Int} (hu : u ∈ beside J v) : 0 ≤ u ∧ u < n ∧ u ≠ v ∧ v ∈ beside J u := by
  have hs : v ∈ beside J u := by
    rw [mem_beside h] at hu ⊢
    exact hu.symm
  rcases (mem_beside h).mp hu with q | q <;> have := h _ q <;> simp only at this <;> exact ⟨by omega, by omega, by omega, hs⟩
theorem ga_set_self {c : List Int} {v x : Int} (h0 : 0 ≤ v) (h : v < c.length) : ga (c.set v.toNat x) v = x := by
  unfold ga
  rw [List.getD_eq_getElem?_getD, List.getElem?_set_self (by omega)]; rfl
theorem ga_set_ne {c : List Int} {v u x : Int} (hv : 0 ≤ v) (hu : 0 ≤ u) (h : v ≠ u) : ga (c.set v.toNat x) u = ga c u := by
  unfold ga
  rw [List.getD_eq_getElem?_getD, List.getElem?_set_ne (by omega), List.getD_eq_getElem?_getD]
theorem ga_mem {c : List Int} {v : Int} (h0 : 0 ≤ v) (h : v < c.length) : ga c v ∈ c := by
  unfold ga
  rw [List.getD_eq_getElem?_getD, List.getElem?_eq_getElem (by omega)]
  exact List.getElem_mem _
def sameJ (c : List Int) (p : Int × Int) : Bool := decide (ga c p.1 = ga c p.2)
def eqJ (J : Js) (c : List Int) : Nat := (J.filter (sameJ c)).length
def clash (J : Js) (c : List Int) (v : Int) : Bool := (beside J v).any fun u => decide (ga c u = ga c v)
theorem countP_lt {α : Type} {P Q : α → Bool} : ∀ {l : List α}, (∀ x ∈ l, Q x = true → P x = true) → (∃ x ∈ l, P x = true ∧ Q x = false) → l.countP Q < l.countP P
  | [], _, h => by obtain ⟨x, hx, _⟩ := h; cases hx
  | a :: l, h, hx => by
    rw [List.countP_cons, List.countP_cons]
    have le : l.countP Q ≤ l.countP P := List.countP_mono_left fun x hx => h x (List.mem_cons_of_mem _ hx)
    obtain ⟨x, h1, h2, h3⟩ := hx
    rcases List.mem_cons.mp h1 with e | e
    · subst e
      rw [h2, h3]; simp; omega
    · have := countP_lt (l := l) (fun x hx => h x (List.mem_cons_of_mem _ hx)) ⟨x, e, h2, h3⟩
      have ha := h a List.mem_cons_self
      cases q : Q a with
      | false => simp; omega
      | true => rw [ha q]; simp; omega
/-- repainted with a colour that no neighbour has: fewer equal joints -/
theorem eq_dec {n : Int} {J : Js} (h : JOk n J) {c : List Int} (hl : (c.length : Int) = n) {v m : Int} (v0 : 0 ≤ v) (vn : v < n) (hc : clash J c v = true) (hm : ∀ u ∈ beside J v, ga c u ≠ m) : eqJ J (c.set v.toNat m) < eqJ J c := by
  unfold eqJ
  rw [← List.countP_eq_length_filter, ← List.countP_eq_length_filter]
  have off : ∀ p ∈ J, at_ v p = true → sameJ (c.set v.toNat m) p = false := by
    intro p hp ha
    obtain ⟨p0, p1, p2⟩ := h p hp
    have nb : p.1 + p.2 - v ∈ beside J v := List.mem_map.mpr ⟨p, List.mem_filter.mpr ⟨hp, ha⟩, rfl⟩
    have hn := hm _ nb
    simp [at_] at ha
    unfold sameJ
    rcases ha with e | e
    · rw [← e, ga_set_self v0 (by omega), ga_set_ne v0 (by omega) (by omega)]
      rw [show p.1 + p.2 - v = p.2 by omega] at hn
      simp; exact fun z => hn z.symm
    · rw [← e, ga_set_self v0 (by omega), ga_set_ne v0 (by omega) (by omega)]
      rw [show p.1 + p.2 - v = p.1 by omega] at hn
      simp; exact hn
  have keep : ∀ p ∈ J, at_ v p = false → sameJ (c.set v.toNat m) p = sameJ c p := by
    intro p hp ha
    obtain ⟨p0, p1, p2⟩ := h p hp
    simp [at_] at ha
    unfold sameJ
    rw [ga_set_ne v0 (by omega) (by omega), ga_set_ne v0 (by omega) (by omega)]
  refine countP_lt (fun p hp hq => ?_) ?_
  · cases ha : at_ v p with
    | true => rw [off p hp ha] at hq; cases hq
    | false => rw [← keep p hp ha]; exact hq
  · unfold clash at hc
    rw [List.any_eq_true] at hc
    obtain ⟨u, hu, e⟩ := hc
    have e : ga c u = ga c v := by simpa using e
    rcases (mem_beside h).mp hu with q | q
    · exact ⟨_, q, by simp [sameJ, e], off _ q (by simp [at_])⟩
    · exact ⟨_, q, by simp [sameJ, e], off _ q (by simp [at_])⟩
/-! colours -/
theorem nodup_le : ∀ {l T : List Int}, l.Nodup → (∀ x ∈ l, x ∈ T) → l.length ≤ T.length
  | [], T, _, _ => Nat.zero_le _
  | x :: l, T, nd, h => by
    rw [List.nodup_cons] at nd
    have hx := h x List.mem_cons_self
    have := nodup_le (l := l) (T := T.erase x) nd.2 fun y hy => by
      have ne : y ≠ x := fun e => nd.1 (e ▸ hy)
      exact (List.mem_erase_of_ne ne).mpr (h y (List.mem_cons_of_mem _ hy))
    rw [List.length_erase_of_mem hx] at this
    have : 0 < T.length := List.length_pos_of_mem hx
    simp; omega
theorem nats_nodup {n : Nat} : (nats n).Nodup := by
  unfold nats
  exact List.Pairwise.map _ (fun a b h => by intro e; exact h (Int.ofNat.inj e)) List.nodup_range
theorem nats_lt {n : Nat} : (nats n).Pairwise (· < ·) := by
  unfold nats
  exact List.Pairwise.map _ (fun a b h => by show (a : Int) < (b : Int); omega) List.pairwise_lt_range
theorem nats_app {n m : Nat} (h : n ≤ m) : ∃ r, nats m = nats n ++ r := by
  obtain ⟨k, rfl⟩ : ∃ k, m = n + k := ⟨m - n, by omega⟩
  unfold nats
  rw [List.range_add, List.map_append]
  exact ⟨_, rfl⟩
theorem minI_head : ∀ {m : Int} {r : List Int}, (m :: r).Pairwise (· < ·) → minI (m :: r) = m
  | m, [], _ => rfl
  | m, b :: r, h => by
    rw [List.pairwise_cons] at h
    have := minI_head (m := b) (r := r) h.2
    show min m (minI (b :: r)) = m
    rw [this]
    have := h.1 b List.mem_cons_self
    omega
/-- the least colour that is free -/
theorem mex {T : List Int} {f : Int → Bool} (hf : ∀ x, f x = true ↔ x ∉ T) (hT : T.length ≤ 12) : ∃ m r r', (nats 13).filter f = m :: r ∧ (nats (T.length + 1)).filter f = m :: r' ∧ m ∉ T ∧ 0 ≤ m ∧ m ≤ T.length ∧ minI (m :: r') = m := by
  cases h : (nats (T.length + 1)).filter f with
  | nil =>
    exfalso
    have := nodup_le (l := nats (T.length + 1)) (T := T) nats_nodup fun x hx => by
      have h2 : ¬ f x = true := fun q => by
        have := List.mem_filter.mpr ⟨hx, q⟩
        rw [h] at this; cases this
      rw [hf] at h2
      exact Decidable.not_not.mp h2
    rw [nats_len] at this
    omega
  | cons m r' =>
    obtain ⟨q, hq⟩ := nats_app (n := T.length + 1) (m := 13) (by omega)
    have mm : m ∈ (nats (T.length + 1)).filter f := by rw [h]; exact List.mem_cons_self
    obtain ⟨m1, m2⟩ := List.mem_filter.mp mm
    obtain ⟨m3, m4⟩ := mem_nats.mp m1
    refine ⟨m, r' ++ q.filter f, r', by rw [hq, List.filter_append, h]; rfl, rfl, (hf m).mp m2, m3, by omega, ?_⟩
    refine minI_head ?_
    rw [← h]
    exact nats_lt.sublist List.filter_sublist
/-! choices -/
def inn (J : Js) (c : List Int) (v : Int) : Bool := (beside J v).any fun u => decide (ga c u = 1)
def restl (J : Js) (c : List Int) (v : Int) : Bool := decide (ga c v = 1) == inn J c v
/-- the moves that a node has left -/
def wt (J : Js) (c : List Int) (v : Int) : Nat := if ga c v = 1 then (if inn J c v = true then 2 else 0) else 1
def Wt (J : Js) (c : List Int) (l : List Int) : Nat := (l.map (wt J c)).sum
theorem wt_le {J : Js} {c : List Int} {v : Int} : wt J c v ≤ 2 := by unfold wt; split; split <;> omega; omega
theorem move_wt {n : Int} {J : Js} (h : JOk n J) {c : List Int} (hl : (c.length : Int) = n) (h01 : ∀ x ∈ c, x = 0 ∨ x = 1) {v : Int} (v0 : 0 ≤ v) (vn : v < n) (hr : restl J c v = true) :
    (∀ u, 0 ≤ u → wt J (c.set v.toNat (1 - ga c v)) u ≤ wt J c u) ∧ wt J (c.set v.toNat (1 - ga c v)) v < wt J c v := by
  have nbr : ∀ u, u ∈ beside J v → ga (c.set v.toNat (1 - ga c v)) u = ga c u := fun u hu => by
    obtain ⟨u0, _, u2, _⟩ := beside_rng h hu
    exact ga_set_ne v0 u0 (Ne.symm u2)
  have iv : inn J (c.set v.toNat (1 - ga c v)) v = inn J c v := by
    unfold inn
    rw [Bool.eq_iff_iff, List.any_eq_true, List.any_eq_true]
    constructor
    · rintro ⟨u, hu, e⟩; exact ⟨u, hu, by rw [nbr u hu] at e; exact e⟩
    · rintro ⟨u, hu, e⟩; exact ⟨u, hu, by rw [nbr u hu]; exact e⟩
  have hv := ga_set_self (c := c) (x := 1 - ga c v) v0 (by omega)
  have h2 := h01 _ (ga_mem v0 (show v < c.length by omega))
  unfold restl at hr
  by_cases one : ga c v = 1
  · have inv : inn J c v = true := by simpa [one] using hr
    have z : ga (c.set v.toNat (1 - ga c v)) v = 0 := by rw [hv]; omega
    refine ⟨fun u u0 => ?_, ?_⟩
    · by_cases e : u = v
      · subst e
        unfold wt
        rw [z, if_neg (by decide), if_pos one, if_pos inv]; omega
      · unfold wt
        rw [ga_set_ne v0 u0 (Ne.symm e)]
        split
        · -- no neighbour more
          have mono : inn J (c.set v.toNat (1 - ga c v)) u = true → inn J c u = true := by
            unfold inn
            rw [List.any_eq_true, List.any_eq_true]
            rintro ⟨x, hx, ex⟩
            by_cases xv : x = v
            · subst xv; rw [z] at ex; simp at ex
            · exact ⟨x, hx, by rw [ga_set_ne v0 (beside_rng h hx).1 (Ne.symm xv)] at ex; exact ex⟩
          split
          · rename_i q; rw [if_pos (mono q)]; omega
          · omega
        · omega
    · unfold wt
      rw [z, if_neg (by decide), if_pos one, if_pos inv]; omega
  · have c0 : ga c v = 0 := h2.elim id fun q => absurd q one
    have inv : inn J c v = false := by simpa [one] using hr
    have z : ga (c.set v.toNat (1 - ga c v)) v = 1 := by rw [hv]; omega
    refine ⟨fun u u0 => ?_, ?_⟩
    · by_cases e : u = v
      · subst e
        unfold wt
        rw [z, if_pos rfl, iv, inv]; simp
      · unfold wt
        rw [ga_set_ne v0 u0 (Ne.symm e)]
        split
        · rename_i u1
          -- v is no neighbour of u
          have nv : v ∉ beside J u := fun q => by
            have uv := (beside_rng h q).2.2.2
            have : inn J c v = true := by
              unfold inn
              rw [List.any_eq_true]
              exact ⟨u, uv, by simpa using u1⟩
            rw [inv] at this; cases this
          have mono : inn J (c.set v.toNat (1 - ga c v)) u = true → inn J c u = true := by
            unfold inn
            rw [List.any_eq_true, List.any_eq_true]
            rintro ⟨x, hx, ex⟩
            by_cases xv : x = v
            · subst xv; exact absurd hx nv
            · exact ⟨x, hx, by rw [ga_set_ne v0 (beside_rng h hx).1 (Ne.symm xv)] at ex; exact ex⟩
          split
          · rename_i q; rw [if_pos (mono q)]; omega
          · omega
        · omega
    · unfold wt
      rw [z, if_pos rfl, iv, inv, if_neg one]; simp
theorem sum_lt {f g : Int → Nat} : ∀ {l : List Int}, (∀ x ∈ l, f x ≤ g x) → (∃ x ∈ l, f x < g x) → (l.map f).sum < (l.map g).sum
  | [], _, h => by obtain ⟨x, hx, _⟩ := h; cases hx
  | a :: l, h, hx => by
    have le : ∀ {l : List Int}, (∀ x ∈ l, f x ≤ g x) → (l.map f).sum ≤ (l.map g).sum := by
      intro l
      induction l with
      | nil => intro _; simp
      | cons b l ih =>
        intro h
        have h1 := h b List.mem_cons_self
        have h2 := ih fun x hx => h x (List.mem_cons_of_mem _ hx)
        simp; omega
    obtain ⟨x, h1, h2⟩ := hx
    have ha := h a List.mem_cons_self
    have hl := le fun x hx => h x (List.mem_cons_of_mem _ hx)
    simp
    rcases List.mem_cons.mp h1 with e | e
    · subst e; omega
    · have := sum_lt (l := l) (fun x hx => h x (List.mem_cons_of_mem _ hx)) ⟨x, e, h2⟩
      omega
theorem Wt_le {J : Js} {c : List Int} : ∀ {l : List Int}, Wt J c l ≤ 2 * l.length
  | [] => by simp [Wt]
  | a :: l => by
    have := Wt_le (J := J) (c := c) (l := l)
    have h := wt_le (J := J) (c := c) (v := a)
    unfold Wt at this ⊢
    simp; omega
/-! sorted lists -/
theorem perm_nodup {l m : List Int} (hl : l.Nodup) (hm : m.Nodup) (h : ∀ x, x ∈ l ↔ x ∈ m) : l.Perm m := by
  rw [List.perm_iff_count]
  intro a
  rw [hl.count, hm.count]
  simp [h]
theorem sortI_filter {n : Nat} {P : Int → Bool} {l : List Int} (nd : l.Nodup) (h : ∀ x, x ∈ l ↔ (0 ≤ x ∧ x < n) ∧ P x = true) : sortI l = (nats n).filter P := by
  refine (sorted_eq (perm_nodup (nats_nodup.sublist List.filter_sublist) nd fun x => ?_) ?_).symm
  · rw [List.mem_filter, mem_nats, h]
  · exact (nats_lt.sublist List.filter_sublist).imp fun h => Int.le_of_lt h
end Map

set_option Elab.async false
set_option linter.all false
set_option maxRecDepth 100000
set_option maxHeartbeats 4000000
namespace K95
open PySem PySem.Spec PyProof.Rows L2 L2H DL Map
def nb (x : PyData) (a b : Int) : Bool := match x with
  | .int i => decide (a ≤ i) && decide (i ≤ b)
  | _ => false
theorem e_is_number (x : PyData) (a b : Int) (st : Sto) : f_is_number [.d x, .d (.int a), .d (.int b)] st = .ok (.d (.bool (nb x a b))) st := by
  cases x with
  | int i => by_cases h : a ≤ i <;> simp -implicitDefEqProofs -dsimp only [f_is_number, g_is_number, fC_ap, fOp2_ap, fOp1_ap, fNil_ap, fCons_ap, fOpN_ap, fLst_ap, fB_ap, fAnd_ap, fOr_ap, fNot_ap, fAndV_ap, fOrV_ap, fNotV_ap, fIfE_ap, fChain_ap, fNoP_ap, fSomeP_ap, fSl_ap, fOwn_ap, fItL_ap, fItT_ap, fItScr_ap, fRng1_ap, fRng2_ap, fYes_ap, fLc_ap, fAA_ap, gSeq_ap, gNop_ap, gSet_ap, gIf_ap, gRet_ap, gRaise_ap, gExpr_ap, gBreak_ap, gCont_ap, gFor_ap, bind_ok, bind_exc, bind_no, thn_ok, thn_exc, thn_no, then_nx, then_rt, then_exc, then_bk, then_ct, lift_some, lift_none, toB_b, toI_i, toL_l, toT_t, toScr_s, lstOnly_l, allD_nil, allD_cons, map_some', lcG_nil, aaG_nil, forG_nil, fName_z, fName_s, fNameB_z, fNameB_zo, fNameB_s, fIsP_z, fIsP_s, aName_ap, aNil_ap, aCons_ap, aTup_ap, wipeE_nil, wipeE_cons, hEq_ii, hNe_ii, hAdd_ii, hSub_ii, hLe_ii, hLtI_ii, hGt_ii, hGe_ii, hIs_bb, hIsNot_bb, List.set_cons_zero, List.set_cons_succ, List.map_cons, List.map_nil, List.cons_append, List.nil_append, hLen_l, hLen_t, hLen_s, hTup_ap, hLst_ap, hTuple_l, hTuple_t, hList_l, hList_t, hAbs_i, hIntOf_i, hIntOf_b, hNeg_i, hIsi_int, hIsi_bool, hIsi_tuple, hIsi_list, hIsi_str, hSl_l, hSl_t, hSl_s, hIx_l0, hIx_t0, hIx_l1, hIx_t1, hIx_l2, hIx_t2, hXor_ii, sv, Option.map_some, Option.bind_some, List.length_cons, List.length_nil, reduceIte, Nat.reduceLT, Nat.reduceLeDiff, Nat.reduceAdd, Bool.false_eq_true, Bool.not_true, Bool.not_false, gAsg_ap, gUnpackLoc_ap, gStoreLoc_ap, gPar_ap, runF_fin, finR_nx, finR_rt, finR_exc, List.replicate_succ, List.replicate_zero, Nat.reduceSub, List.getElem?_cons_zero, List.getElem?_cons_succ, hLt_ii, pInt, pBool, pTup, pList, pStr, decide_eq_true_eq, fIt_ap, toS_l, toS_t, hid_ap, nb, h, decide_true, decide_false, Bool.true_and, Bool.false_and]
  | _ => simp -implicitDefEqProofs -dsimp only [f_is_number, g_is_number, fC_ap, fOp2_ap, fOp1_ap, fNil_ap, fCons_ap, fOpN_ap, fLst_ap, fB_ap, fAnd_ap, fOr_ap, fNot_ap, fAndV_ap, fOrV_ap, fNotV_ap, fIfE_ap, fChain_ap, fNoP_ap, fSomeP_ap, fSl_ap, fOwn_ap, fItL_ap, fItT_ap, fItScr_ap, fRng1_ap, fRng2_ap, fYes_ap, fLc_ap, fAA_ap, gSeq_ap, gNop_ap, gSet_ap, gIf_ap, gRet_ap, gRaise_ap, gExpr_ap, gBreak_ap, gCont_ap, gFor_ap, bind_ok, bind_exc, bind_no, thn_ok, thn_exc, thn_no, then_nx, then_rt, then_exc, then_bk, then_ct, lift_some, lift_none, toB_b, toI_i, toL_l, toT_t, toScr_s, lstOnly_l, allD_nil, allD_cons, map_some', lcG_nil, aaG_nil, forG_nil, fName_z, fName_s, fNameB_z, fNameB_zo, fNameB_s, fIsP_z, fIsP_s, aName_ap, aNil_ap, aCons_ap, aTup_ap, wipeE_nil, wipeE_cons, hEq_ii, hNe_ii, hAdd_ii, hSub_ii, hLe_ii, hLtI_ii, hGt_ii, hGe_ii, hIs_bb, hIsNot_bb, List.set_cons_zero, List.set_cons_succ, List.map_cons, List.map_nil, List.cons_append, List.nil_append, hLen_l, hLen_t, hLen_s, hTup_ap, hLst_ap, hTuple_l, hTuple_t, hList_l, hList_t, hAbs_i, hIntOf_i, hIntOf_b, hNeg_i, hIsi_int, hIsi_bool, hIsi_tuple, hIsi_list, hIsi_str, hSl_l, hSl_t, hSl_s, hIx_l0, hIx_t0, hIx_l1, hIx_t1, hIx_l2, hIx_t2, hXor_ii, sv, Option.map_some, Option.bind_some, List.length_cons, List.length_nil, reduceIte, Nat.reduceLT, Nat.reduceLeDiff, Nat.reduceAdd, Bool.false_eq_true, Bool.not_true, Bool.not_false, gAsg_ap, gUnpackLoc_ap, gStoreLoc_ap, gPar_ap, runF_fin, finR_nx, finR_rt, finR_exc, List.replicate_succ, List.replicate_zero, Nat.reduceSub, List.getElem?_cons_zero, List.getElem?_cons_succ, hLt_ii, pInt, pBool, pTup, pList, pStr, decide_eq_true_eq, fIt_ap, toS_l, toS_t, hid_ap, nb]
def mD (n : Nat) (J : Js) : PyData := .tuple [.int n, .tuple (J.map jD)]
theorem in2 {v a b : Int} : hIn (.d (.int v)) (.d (.tuple [.int a, .int b])) = some (.d (.bool (at_ v (a, b)))) := by
  refine (hIn_ti (ns := [a, b])).trans ?_
  refine congrArg (fun z => some (DV.d (.bool z))) ?_
  unfold at_
  rw [Bool.eq_iff_iff]
  simp
theorem e_lbeside {n : Nat} {J : Js} (hJ : J.length ≤ 100) (v : Int) (st : Sto) : f__law_beside [.d (mD n J), .d (.int v)] st = .ok (.d (.list (iL (beside J v)))) st := by
  have lc : ∀ st, lcG (aTup 2 (aCons (aName 2) (aCons (aName 3) aNil))) (fB (fOp2 hIn (fName 1) (fOpN hTup (fCons (fName 2) (fCons (fName 3) fNil))))) (fOp2 hSub (fOp2 hAdd (fName 2) (fName 3)) (fName 1)) [.frz (.d (mD n J)), .frz (.d (.int v)), .un, .un] (J.map jD) [] st = .ok (.d (.list (iL (beside J v)))) st := fun st => by
    rw [lcP (at_ v) (fun p => .int (p.1 + p.2 - v)) (by omega)]
    · unfold beside iL; rw [List.map_map]; rfl
    · intro q hq
      refine ⟨fun st => ?_, fun st _ => ?_⟩ <;> simp -implicitDefEqProofs -dsimp only [in2, fC_ap, fOp2_ap, fOp1_ap, fNil_ap, fCons_ap, fOpN_ap, fLst_ap, fB_ap, fAnd_ap, fOr_ap, fNot_ap, fAndV_ap, fOrV_ap, fNotV_ap, fIfE_ap, fChain_ap, fNoP_ap, fSomeP_ap, fSl_ap, fOwn_ap, fItL_ap, fItT_ap, fItScr_ap, fRng1_ap, fRng2_ap, fYes_ap, fLc_ap, fAA_ap, gSeq_ap, gNop_ap, gSet_ap, gIf_ap, gRet_ap, gRaise_ap, gExpr_ap, gBreak_ap, gCont_ap, gFor_ap, bind_ok, bind_exc, bind_no, thn_ok, thn_exc, thn_no, then_nx, then_rt, then_exc, then_bk, then_ct, lift_some, lift_none, toB_b, toI_i, toL_l, toT_t, toScr_s, lstOnly_l, allD_nil, allD_cons, map_some', lcG_nil, aaG_nil, forG_nil, fName_z, fName_s, fNameB_z, fNameB_zo, fNameB_s, fIsP_z, fIsP_s, aName_ap, aNil_ap, aCons_ap, aTup_ap, wipeE_nil, wipeE_cons, hEq_ii, hNe_ii, hAdd_ii, hSub_ii, hLe_ii, hLtI_ii, hGt_ii, hGe_ii, hIs_bb, hIsNot_bb, List.set_cons_zero, List.set_cons_succ, List.map_cons, List.map_nil, List.cons_append, List.nil_append, hLen_l, hLen_t, hLen_s, hTup_ap, hLst_ap, hTuple_l, hTuple_t, hList_l, hList_t, hAbs_i, hIntOf_i, hIntOf_b, hNeg_i, hIsi_int, hIsi_bool, hIsi_tuple, hIsi_list, hIsi_str, hSl_l, hSl_t, hSl_s, hIx_l0, hIx_t0, hIx_l1, hIx_t1, hIx_l2, hIx_t2, hXor_ii, sv, Option.map_some, Option.bind_some, List.length_cons, List.length_nil, reduceIte, Nat.reduceLT, Nat.reduceLeDiff, Nat.reduceAdd, Bool.false_eq_true, Bool.not_true, Bool.not_false, gAsg_ap, gUnpackLoc_ap, gStoreLoc_ap, gPar_ap, runF_fin, finR_nx, finR_rt, finR_exc, List.replicate_succ, List.replicate_zero, Nat.reduceSub, List.getElem?_cons_zero, List.getElem?_cons_succ, hLt_ii, pInt, pBool, pTup, pList, pStr, decide_eq_true_eq, fIt_ap, toS_l, toS_t, hid_ap]
  unfold mD at lc ⊢
  simp -implicitDefEqProofs -dsimp only [f__law_beside, g__law_beside, lc, fC_ap, fOp2_ap, fOp1_ap, fNil_ap, fCons_ap, fOpN_ap, fLst_ap, fB_ap, fAnd_ap, fOr_ap, fNot_ap, fAndV_ap, fOrV_ap, fNotV_ap, fIfE_ap, fChain_ap, fNoP_ap, fSomeP_ap, fSl_ap, fOwn_ap, fItL_ap, fItT_ap, fItScr_ap, fRng1_ap, fRng2_ap, fYes_ap, fLc_ap, fAA_ap, gSeq_ap, gNop_ap, gSet_ap, gIf_ap, gRet_ap, gRaise_ap, gExpr_ap, gBreak_ap, gCont_ap, gFor_ap, bind_ok, bind_exc, bind_no, thn_ok, thn_exc, thn_no, then_nx, then_rt, then_exc, then_bk, then_ct, lift_some, lift_none, toB_b, toI_i, toL_l, toT_t, toScr_s, lstOnly_l, allD_nil, allD_cons, map_some', lcG_nil, aaG_nil, forG_nil, fName_z, fName_s, fNameB_z, fNameB_zo, fNameB_s, fIsP_z, fIsP_s, aName_ap, aNil_ap, aCons_ap, aTup_ap, wipeE_nil, wipeE_cons, hEq_ii, hNe_ii, hAdd_ii, hSub_ii, hLe_ii, hLtI_ii, hGt_ii, hGe_ii, hIs_bb, hIsNot_bb, List.set_cons_zero, List.set_cons_succ, List.map_cons, List.map_nil, List.cons_append, List.nil_append, hLen_l, hLen_t, hLen_s, hTup_ap, hLst_ap, hTuple_l, hTuple_t, hList_l, hList_t, hAbs_i, hIntOf_i, hIntOf_b, hNeg_i, hIsi_int, hIsi_bool, hIsi_tuple, hIsi_list, hIsi_str, hSl_l, hSl_t, hSl_s, hIx_l0, hIx_t0, hIx_l1, hIx_t1, hIx_l2, hIx_t2, hXor_ii, sv, Option.map_some, Option.bind_some, List.length_cons, List.length_nil, reduceIte, Nat.reduceLT, Nat.reduceLeDiff, Nat.reduceAdd, Bool.false_eq_true, Bool.not_true, Bool.not_false, gAsg_ap, gUnpackLoc_ap, gStoreLoc_ap, gPar_ap, runF_fin, finR_nx, finR_rt, finR_exc, List.replicate_succ, List.replicate_zero, Nat.reduceSub, List.getElem?_cons_zero, List.getElem?_cons_succ, hLt_ii, pInt, pBool, pTup, pList, pStr, decide_eq_true_eq, fIt_ap, toS_l, toS_t, hid_ap]
theorem e_joined {n : Nat} {J : Js} (hJ : J.length ≤ 100) (v : Int) (st : Sto) : f_joined_to [.d (mD n J), .d (.int v)] st = .ok (.d (.list (iL (sortI (beside J v))))) st := by
  have lc : ∀ st, lcG (aTup 2 (aCons (aName 2) (aCons (aName 3) aNil))) (fB (fOp2 hIn (fName 1) (fOpN hTup (fCons (fName 2) (fCons (fName 3) fNil))))) (fOp2 hSub (fOp2 hAdd (fName 2) (fName 3)) (fName 1)) [.frz (.d (mD n J)), .frz (.d (.int v)), .un, .un] (J.map jD) [] st = .ok (.d (.list (iL (beside J v)))) st := fun st => by
    rw [lcP (at_ v) (fun p => .int (p.1 + p.2 - v)) (by omega)]
    · unfold beside iL; rw [List.map_map]; rfl
    · intro q hq
      refine ⟨fun st => ?_, fun st _ => ?_⟩ <;> simp -implicitDefEqProofs -dsimp only [in2, fC_ap, fOp2_ap, fOp1_ap, fNil_ap, fCons_ap, fOpN_ap, fLst_ap, fB_ap, fAnd_ap, fOr_ap, fNot_ap, fAndV_ap, fOrV_ap, fNotV_ap, fIfE_ap, fChain_ap, fNoP_ap, fSomeP_ap, fSl_ap, fOwn_ap, fItL_ap, fItT_ap, fItScr_ap, fRng1_ap, fRng2_ap, fYes_ap, fLc_ap, fAA_ap, gSeq_ap, gNop_ap, gSet_ap, gIf_ap, gRet_ap, gRaise_ap, gExpr_ap, gBreak_ap, gCont_ap, gFor_ap, bind_ok, bind_exc, bind_no, thn_ok, thn_exc, thn_no, then_nx, then_rt, then_exc, then_bk, then_ct, lift_some, lift_none, toB_b, toI_i, toL_l, toT_t, toScr_s, lstOnly_l, allD_nil, allD_cons, map_some', lcG_nil, aaG_nil, forG_nil, fName_z, fName_s, fNameB_z, fNameB_zo, fNameB_s, fIsP_z, fIsP_s, aName_ap, aNil_ap, aCons_ap, aTup_ap, wipeE_nil, wipeE_cons, hEq_ii, hNe_ii, hAdd_ii, hSub_ii, hLe_ii, hLtI_ii, hGt_ii, hGe_ii, hIs_bb, hIsNot_bb, List.set_cons_zero, List.set_cons_succ, List.map_cons, List.map_nil, List.cons_append, List.nil_append, hLen_l, hLen_t, hLen_s, hTup_ap, hLst_ap, hTuple_l, hTuple_t, hList_l, hList_t, hAbs_i, hIntOf_i, hIntOf_b, hNeg_i, hIsi_int, hIsi_bool, hIsi_tuple, hIsi_list, hIsi_str, hSl_l, hSl_t, hSl_s, hIx_l0, hIx_t0, hIx_l1, hIx_t1, hIx_l2, hIx_t2, hXor_ii, sv, Option.map_some, Option.bind_some, List.length_cons, List.length_nil, reduceIte, Nat.reduceLT, Nat.reduceLeDiff, Nat.reduceAdd, Bool.false_eq_true, Bool.not_true, Bool.not_false, gAsg_ap, gUnpackLoc_ap, gStoreLoc_ap, gPar_ap, runF_fin, finR_nx, finR_rt, finR_exc, List.replicate_succ, List.replicate_zero, Nat.reduceSub, List.getElem?_cons_zero, List.getElem?_cons_succ, hLt_ii, pInt, pBool, pTup, pList, pStr, decide_eq_true_eq, fIt_ap, toS_l, toS_t, hid_ap]
  unfold mD at lc ⊢
  simp -implicitDefEqProofs -dsimp only [f_joined_to, g_joined_to, lc, hSortA_i, fC_ap, fOp2_ap, fOp1_ap, fNil_ap, fCons_ap, fOpN_ap, fLst_ap, fB_ap, fAnd_ap, fOr_ap, fNot_ap, fAndV_ap, fOrV_ap, fNotV_ap, fIfE_ap, fChain_ap, fNoP_ap, fSomeP_ap, fSl_ap, fOwn_ap, fItL_ap, fItT_ap, fItScr_ap, fRng1_ap, fRng2_ap, fYes_ap, fLc_ap, fAA_ap, gSeq_ap, gNop_ap, gSet_ap, gIf_ap, gRet_ap, gRaise_ap, gExpr_ap, gBreak_ap, gCont_ap, gFor_ap, bind_ok, bind_exc, bind_no, thn_ok, thn_exc, thn_no, then_nx, then_rt, then_exc, then_bk, then_ct, lift_some, lift_none, toB_b, toI_i, toL_l, toT_t, toScr_s, lstOnly_l, allD_nil, allD_cons, map_some', lcG_nil, aaG_nil, forG_nil, fName_z, fName_s, fNameB_z, fNameB_zo, fNameB_s, fIsP_z, fIsP_s, aName_ap, aNil_ap, aCons_ap, aTup_ap, wipeE_nil, wipeE_cons, hEq_ii, hNe_ii, hAdd_ii, hSub_ii, hLe_ii, hLtI_ii, hGt_ii, hGe_ii, hIs_bb, hIsNot_bb, List.set_cons_zero, List.set_cons_succ, List.map_cons, List.map_nil, List.cons_append, List.nil_append, hLen_l, hLen_t, hLen_s, hTup_ap, hLst_ap, hTuple_l, hTuple_t, hList_l, hList_t, hAbs_i, hIntOf_i, hIntOf_b, hNeg_i, hIsi_int, hIsi_bool, hIsi_tuple, hIsi_list, hIsi_str, hSl_l, hSl_t, hSl_s, hIx_l0, hIx_t0, hIx_l1, hIx_t1, hIx_l2, hIx_t2, hXor_ii, sv, Option.map_some, Option.bind_some, List.length_cons, List.length_nil, reduceIte, Nat.reduceLT, Nat.reduceLeDiff, Nat.reduceAdd, Bool.false_eq_true, Bool.not_true, Bool.not_false, gAsg_ap, gUnpackLoc_ap, gStoreLoc_ap, gPar_ap, runF_fin, finR_nx, finR_rt, finR_exc, List.replicate_succ, List.replicate_zero, Nat.reduceSub, List.getElem?_cons_zero, List.getElem?_cons_succ, hLt_ii, pInt, pBool, pTup, pList, pStr, decide_eq_true_eq, fIt_ap, toS_l, toS_t, hid_ap]
/-- an item of a tuple of numbers -/
theorem ixg {c : List Int} {i : Int} (h0 : 0 ≤ i) (h : i < c.length) : hIx (.d (.tuple (iL c))) (.d (.int i)) = some (.d (.int (ga c i))) := hIx_ti h0 h
structure G (n : Nat) (J : Js) : Prop where
  n1 : 1 ≤ n
  n12 : n ≤ 12
  ok : JOk n J
  nd : J.Nodup
  len : J.length ≤ 63
structure C (n : Nat) (m : Int) (c : List Int) : Prop where
  len : c.length = n
  rng : ∀ x ∈ c, 0 ≤ x ∧ x ≤ m
variable {n : Nat} {J : Js} {c : List Int}
theorem e_equal (g : G n J) (hc : c.length = n) (st : Sto) : f_equal_joints [.d (mD n J), .d (.tuple (iL c))] st = .ok (.d (.int (eqJ J c))) st := by
  have lc : ∀ st, lcG (aTup 2 (aCons (aName 2) (aCons (aName 3) aNil))) (fB (fOp2 hEq (fOp2 hIx (fName 1) (fName 2)) (fOp2 hIx (fName 1) (fName 3)))) (fC (.int 1)) [.frz (.d (mD n J)), .frz (.d (.tuple (iL c))), .un, .un] (J.map jD) [] st = .ok (.d (.list ((J.filter (sameJ c)).map fun _ => .int 1))) st := fun st => by
    rw [lcP (sameJ c) (fun _ => .int 1) (by have := g.len; omega)]
    intro q hq
    have := g.ok q hq
    have i1 := ixg (c := c) (i := q.1) (by omega) (by omega)
    have i2 := ixg (c := c) (i := q.2) (by omega) (by omega)
    refine ⟨fun st => ?_, fun st _ => ?_⟩ <;> simp -implicitDefEqProofs -dsimp only [i1, i2, sameJ, fC_ap, fOp2_ap, fOp1_ap, fNil_ap, fCons_ap, fOpN_ap, fLst_ap, fB_ap, fAnd_ap, fOr_ap, fNot_ap, fAndV_ap, fOrV_ap, fNotV_ap, fIfE_ap, fChain_ap, fNoP_ap, fSomeP_ap, fSl_ap, fOwn_ap, fItL_ap, fItT_ap, fItScr_ap, fRng1_ap, fRng2_ap, fYes_ap, fLc_ap, fAA_ap, gSeq_ap, gNop_ap, gSet_ap, gIf_ap, gRet_ap, gRaise_ap, gExpr_ap, gBreak_ap, gCont_ap, gFor_ap, bind_ok, bind_exc, bind_no, thn_ok, thn_exc, thn_no, then_nx, then_rt, then_exc, then_bk, then_ct, lift_some, lift_none, toB_b, toI_i, toL_l, toT_t, toScr_s, lstOnly_l, allD_nil, allD_cons, map_some', lcG_nil, aaG_nil, forG_nil, fName_z, fName_s, fNameB_z, fNameB_zo, fNameB_s, fIsP_z, fIsP_s, aName_ap, aNil_ap, aCons_ap, aTup_ap, wipeE_nil, wipeE_cons, hEq_ii, hNe_ii, hAdd_ii, hSub_ii, hLe_ii, hLtI_ii, hGt_ii, hGe_ii, hIs_bb, hIsNot_bb, List.set_cons_zero, List.set_cons_succ, List.map_cons, List.map_nil, List.cons_append, List.nil_append, hLen_l, hLen_t, hLen_s, hTup_ap, hLst_ap, hTuple_l, hTuple_t, hList_l, hList_t, hAbs_i, hIntOf_i, hIntOf_b, hNeg_i, hIsi_int, hIsi_bool, hIsi_tuple, hIsi_list, hIsi_str, hSl_l, hSl_t, hSl_s, hIx_l0, hIx_t0, hIx_l1, hIx_t1, hIx_l2, hIx_t2, hXor_ii, sv, Option.map_some, Option.bind_some, List.length_cons, List.length_nil, reduceIte, Nat.reduceLT, Nat.reduceLeDiff, Nat.reduceAdd, Bool.false_eq_true, Bool.not_true, Bool.not_false, gAsg_ap, gUnpackLoc_ap, gStoreLoc_ap, gPar_ap, runF_fin, finR_nx, finR_rt, finR_exc, List.replicate_succ, List.replicate_zero, Nat.reduceSub, List.getElem?_cons_zero, List.getElem?_cons_succ, hLt_ii, pInt, pBool, pTup, pList, pStr, decide_eq_true_eq, fIt_ap, toS_l, toS_t, hid_ap]
  unfold mD at lc ⊢
  simp -implicitDefEqProofs -dsimp only [f_equal_joints, g_equal_joints, lc, List.length_map, eqJ, fC_ap, fOp2_ap, fOp1_ap, fNil_ap, fCons_ap, fOpN_ap, fLst_ap, fB_ap, fAnd_ap, fOr_ap, fNot_ap, fAndV_ap, fOrV_ap, fNotV_ap, fIfE_ap, fChain_ap, fNoP_ap, fSomeP_ap, fSl_ap, fOwn_ap, fItL_ap, fItT_ap, fItScr_ap, fRng1_ap, fRng2_ap, fYes_ap, fLc_ap, fAA_ap, gSeq_ap, gNop_ap, gSet_ap, gIf_ap, gRet_ap, gRaise_ap, gExpr_ap, gBreak_ap, gCont_ap, gFor_ap, bind_ok, bind_exc, bind_no, thn_ok, thn_exc, thn_no, then_nx, then_rt, then_exc, then_bk, then_ct, lift_some, lift_none, toB_b, toI_i, toL_l, toT_t, toScr_s, lstOnly_l, allD_nil, allD_cons, map_some', lcG_nil, aaG_nil, forG_nil, fName_z, fName_s, fNameB_z, fNameB_zo, fNameB_s, fIsP_z, fIsP_s, aName_ap, aNil_ap, aCons_ap, aTup_ap, wipeE_nil, wipeE_cons, hEq_ii, hNe_ii, hAdd_ii, hSub_ii, hLe_ii, hLtI_ii, hGt_ii, hGe_ii, hIs_bb, hIsNot_bb, List.set_cons_zero, List.set_cons_succ, List.map_cons, List.map_nil, List.cons_append, List.nil_append, hLen_l, hLen_t, hLen_s, hTup_ap, hLst_ap, hTuple_l, hTuple_t, hList_l, hList_t, hAbs_i, hIntOf_i, hIntOf_b, hNeg_i, hIsi_int, hIsi_bool, hIsi_tuple, hIsi_list, hIsi_str, hSl_l, hSl_t, hSl_s, hIx_l0, hIx_t0, hIx_l1, hIx_t1, hIx_l2, hIx_t2, hXor_ii, sv, Option.map_some, Option.bind_some, List.length_cons, List.length_nil, reduceIte, Nat.reduceLT, Nat.reduceLeDiff, Nat.reduceAdd, Bool.false_eq_true, Bool.not_true, Bool.not_false, gAsg_ap, gUnpackLoc_ap, gStoreLoc_ap, gPar_ap, runF_fin, finR_nx, finR_rt, finR_exc, List.replicate_succ, List.replicate_zero, Nat.reduceSub, List.getElem?_cons_zero, List.getElem?_cons_succ, hLt_ii, pInt, pBool, pTup, pList, pStr, decide_eq_true_eq, fIt_ap, toS_l, toS_t, hid_ap]
theorem e_lequal (g : G n J) (hc : c.length = n) (st : Sto) : f__law_equal [.d (mD n J), .d (.tuple (iL c))] st = .ok (.d (.int (eqJ J c))) st := e_equal g hc st
theorem e_lclashing (g : G n J) (hc : c.length = n) (st : Sto) : f__law_clashing [.d (mD n J), .d (.tuple (iL c))] st = .ok (.d (.tuple (iL ((nats n).filter (clash J c))))) st := by
  have lb := fun v st => e_lbeside (n := n) (J := J) (by have := g.len; omega) v st
  have inner : ∀ v : Int, 0 ≤ v → v < n → ∀ st, lcG (aName 3) (fB (fOp2 hEq (fOp2 hIx (fName 1) (fName 3)) (fOp2 hIx (fName 1) (fName 2)))) (fName 3) [.frz (.d (mD n J)), .frz (.d (.tuple (iL c))), .frz (.d (.int v)), .un] (iL (beside J v)) [] st = .ok (.d (.list (iL ((beside J v).filter fun u => decide (ga c u = ga c v))))) st := fun v v0 vn st => by
    rw [lcN_ints (fun u => decide (ga c u = ga c v)) (fun u => .int u) (by unfold beside; have := List.length_filter_le (at_ v) J; have := g.len; simp; omega)]
    · rfl
    · intro u hu
      obtain ⟨u0, u1, _⟩ := beside_rng g.ok hu
      have i1 := ixg (c := c) (i := u) (by omega) (by omega)
      have i2 := ixg (c := c) (i := v) (by omega) (by omega)
      refine ⟨fun st => ?_, fun st _ => ?_⟩ <;> simp -implicitDefEqProofs -dsimp only [i1, i2, fC_ap, fOp2_ap, fOp1_ap, fNil_ap, fCons_ap, fOpN_ap, fLst_ap, fB_ap, fAnd_ap, fOr_ap, fNot_ap, fAndV_ap, fOrV_ap, fNotV_ap, fIfE_ap, fChain_ap, fNoP_ap, fSomeP_ap, fSl_ap, fOwn_ap, fItL_ap, fItT_ap, fItScr_ap, fRng1_ap, fRng2_ap, fYes_ap, fLc_ap, fAA_ap, gSeq_ap, gNop_ap, gSet_ap, gIf_ap, gRet_ap, gRaise_ap, gExpr_ap, gBreak_ap, gCont_ap, gFor_ap, bind_ok, bind_exc, bind_no, thn_ok, thn_exc, thn_no, then_nx, then_rt, then_exc, then_bk, then_ct, lift_some, lift_none, toB_b, toI_i, toL_l, toT_t, toScr_s, lstOnly_l, allD_nil, allD_cons, map_some', lcG_nil, aaG_nil, forG_nil, fName_z, fName_s, fNameB_z, fNameB_zo, fNameB_s, fIsP_z, fIsP_s, aName_ap, aNil_ap, aCons_ap, aTup_ap, wipeE_nil, wipeE_cons, hEq_ii, hNe_ii, hAdd_ii, hSub_ii, hLe_ii, hLtI_ii, hGt_ii, hGe_ii, hIs_bb, hIsNot_bb, List.set_cons_zero, List.set_cons_succ, List.map_cons, List.map_nil, List.cons_append, List.nil_append, hLen_l, hLen_t, hLen_s, hTup_ap, hLst_ap, hTuple_l, hTuple_t, hList_l, hList_t, hAbs_i, hIntOf_i, hIntOf_b, hNeg_i, hIsi_int, hIsi_bool, hIsi_tuple, hIsi_list, hIsi_str, hSl_l, hSl_t, hSl_s, hIx_l0, hIx_t0, hIx_l1, hIx_t1, hIx_l2, hIx_t2, hXor_ii, sv, Option.map_some, Option.bind_some, List.length_cons, List.length_nil, reduceIte, Nat.reduceLT, Nat.reduceLeDiff, Nat.reduceAdd, Bool.false_eq_true, Bool.not_true, Bool.not_false, gAsg_ap, gUnpackLoc_ap, gStoreLoc_ap, gPar_ap, runF_fin, finR_nx, finR_rt, finR_exc, List.replicate_succ, List.replicate_zero, Nat.reduceSub, List.getElem?_cons_zero, List.getElem?_cons_succ, hLt_ii, pInt, pBool, pTup, pList, pStr, decide_eq_true_eq, fIt_ap, toS_l, toS_t, hid_ap]
  have rg : ∀ st, hRng1 [.d (.int n)] st = .ok (iL (nats n)) st := fun st => by rw [hRng1_i (by have := g.n12; omega), Int.toNat_natCast, rng_nats]
  have lc : ∀ st, lcG (aName 2) (fB (fOp2 hNe (fLc (fIt (fOwn 2 f__law_beside (fCons (fName 0) (fCons (fName 2) fNil)))) (aName 3) (fB (fOp2 hEq (fOp2 hIx (fName 1) (fName 3)) (fOp2 hIx (fName 1) (fName 2)))) (fName 3) [3]) (fOpN hLst fNil))) (fName 2) [.frz (.d (mD n J)), .frz (.d (.tuple (iL c))), .un, .un] (iL (nats n)) [] st = .ok (.d (.list (iL ((nats n).filter (clash J c))))) st := fun st => by
    rw [lcN_ints (clash J c) (fun u => .int u) (by rw [nats_len]; have := g.n12; omega)]
    · rfl
    · intro v hv
      obtain ⟨v0, v1⟩ := mem_nats.mp hv
      refine ⟨fun st => ?_, fun st _ => by simp -implicitDefEqProofs -dsimp only [fC_ap, fOp2_ap, fOp1_ap, fNil_ap, fCons_ap, fOpN_ap, fLst_ap, fB_ap, fAnd_ap, fOr_ap, fNot_ap, fAndV_ap, fOrV_ap, fNotV_ap, fIfE_ap, fChain_ap, fNoP_ap, fSomeP_ap, fSl_ap, fOwn_ap, fItL_ap, fItT_ap, fItScr_ap, fRng1_ap, fRng2_ap, fYes_ap, fLc_ap, fAA_ap, gSeq_ap, gNop_ap, gSet_ap, gIf_ap, gRet_ap, gRaise_ap, gExpr_ap, gBreak_ap, gCont_ap, gFor_ap, bind_ok, bind_exc, bind_no, thn_ok, thn_exc, thn_no, then_nx, then_rt, then_exc, then_bk, then_ct, lift_some, lift_none, toB_b, toI_i, toL_l, toT_t, toScr_s, lstOnly_l, allD_nil, allD_cons, map_some', lcG_nil, aaG_nil, forG_nil, fName_z, fName_s, fNameB_z, fNameB_zo, fNameB_s, fIsP_z, fIsP_s, aName_ap, aNil_ap, aCons_ap, aTup_ap, wipeE_nil, wipeE_cons, hEq_ii, hNe_ii, hAdd_ii, hSub_ii, hLe_ii, hLtI_ii, hGt_ii, hGe_ii, hIs_bb, hIsNot_bb, List.set_cons_zero, List.set_cons_succ, List.map_cons, List.map_nil, List.cons_append, List.nil_append, hLen_l, hLen_t, hLen_s, hTup_ap, hLst_ap, hTuple_l, hTuple_t, hList_l, hList_t, hAbs_i, hIntOf_i, hIntOf_b, hNeg_i, hIsi_int, hIsi_bool, hIsi_tuple, hIsi_list, hIsi_str, hSl_l, hSl_t, hSl_s, hIx_l0, hIx_t0, hIx_l1, hIx_t1, hIx_l2, hIx_t2, hXor_ii, sv, Option.map_some, Option.bind_some, List.length_cons, List.length_nil, reduceIte, Nat.reduceLT, Nat.reduceLeDiff, Nat.reduceAdd, Bool.false_eq_true, Bool.not_true, Bool.not_false, gAsg_ap, gUnpackLoc_ap, gStoreLoc_ap, gPar_ap, runF_fin, finR_nx, finR_rt, finR_exc, List.replicate_succ, List.replicate_zero, Nat.reduceSub, List.getElem?_cons_zero, List.getElem?_cons_succ, hLt_ii, pInt, pBool, pTup, pList, pStr, decide_eq_true_eq, fIt_ap, toS_l, toS_t, hid_ap]⟩
      simp -implicitDefEqProofs -dsimp only [lb, inner v v0 v1, hNe_l0, fC_ap, fOp2_ap, fOp1_ap, fNil_ap, fCons_ap, fOpN_ap, fLst_ap, fB_ap, fAnd_ap, fOr_ap, fNot_ap, fAndV_ap, fOrV_ap, fNotV_ap, fIfE_ap, fChain_ap, fNoP_ap, fSomeP_ap, fSl_ap, fOwn_ap, fItL_ap, fItT_ap, fItScr_ap, fRng1_ap, fRng2_ap, fYes_ap, fLc_ap, fAA_ap, gSeq_ap, gNop_ap, gSet_ap, gIf_ap, gRet_ap, gRaise_ap, gExpr_ap, gBreak_ap, gCont_ap, gFor_ap, bind_ok, bind_exc, bind_no, thn_ok, thn_exc, thn_no, then_nx, then_rt, then_exc, then_bk, then_ct, lift_some, lift_none, toB_b, toI_i, toL_l, toT_t, toScr_s, lstOnly_l, allD_nil, allD_cons, map_some', lcG_nil, aaG_nil, forG_nil, fName_z, fName_s, fNameB_z, fNameB_zo, fNameB_s, fIsP_z, fIsP_s, aName_ap, aNil_ap, aCons_ap, aTup_ap, wipeE_nil, wipeE_cons, hEq_ii, hNe_ii, hAdd_ii, hSub_ii, hLe_ii, hLtI_ii, hGt_ii, hGe_ii, hIs_bb, hIsNot_bb, List.set_cons_zero, List.set_cons_succ, List.map_cons, List.map_nil, List.cons_append, List.nil_append, hLen_l, hLen_t, hLen_s, hTup_ap, hLst_ap, hTuple_l, hTuple_t, hList_l, hList_t, hAbs_i, hIntOf_i, hIntOf_b, hNeg_i, hIsi_int, hIsi_bool, hIsi_tuple, hIsi_list, hIsi_str, hSl_l, hSl_t, hSl_s, hIx_l0, hIx_t0, hIx_l1, hIx_t1, hIx_l2, hIx_t2, hXor_ii, sv, Option.map_some, Option.bind_some, List.length_cons, List.length_nil, reduceIte, Nat.reduceLT, Nat.reduceLeDiff, Nat.reduceAdd, Bool.false_eq_true, Bool.not_true, Bool.not_false, gAsg_ap, gUnpackLoc_ap, gStoreLoc_ap, gPar_ap, runF_fin, finR_nx, finR_rt, finR_exc, List.replicate_succ, List.replicate_zero, Nat.reduceSub, List.getElem?_cons_zero, List.getElem?_cons_succ, hLt_ii, pInt, pBool, pTup, pList, pStr, decide_eq_true_eq, fIt_ap, toS_l, toS_t, hid_ap]
      refine congrArg (fun z => Res.ok z st) ?_
      unfold clash
      rw [Bool.eq_iff_iff, List.any_eq_true]
      simp [List.filter_eq_nil_iff]
  unfold mD at lc ⊢
  simp -implicitDefEqProofs -dsimp only [f__law_clashing, g__law_clashing, lc, rg, fC_ap, fOp2_ap, fOp1_ap, fNil_ap, fCons_ap, fOpN_ap, fLst_ap, fB_ap, fAnd_ap, fOr_ap, fNot_ap, fAndV_ap, fOrV_ap, fNotV_ap, fIfE_ap, fChain_ap, fNoP_ap, fSomeP_ap, fSl_ap, fOwn_ap, fItL_ap, fItT_ap, fItScr_ap, fRng1_ap, fRng2_ap, fYes_ap, fLc_ap, fAA_ap, gSeq_ap, gNop_ap, gSet_ap, gIf_ap, gRet_ap, gRaise_ap, gExpr_ap, gBreak_ap, gCont_ap, gFor_ap, bind_ok, bind_exc, bind_no, thn_ok, thn_exc, thn_no, then_nx, then_rt, then_exc, then_bk, then_ct, lift_some, lift_none, toB_b, toI_i, toL_l, toT_t, toScr_s, lstOnly_l, allD_nil, allD_cons, map_some', lcG_nil, aaG_nil, forG_nil, fName_z, fName_s, fNameB_z, fNameB_zo, fNameB_s, fIsP_z, fIsP_s, aName_ap, aNil_ap, aCons_ap, aTup_ap, wipeE_nil, wipeE_cons, hEq_ii, hNe_ii, hAdd_ii, hSub_ii, hLe_ii, hLtI_ii, hGt_ii, hGe_ii, hIs_bb, hIsNot_bb, List.set_cons_zero, List.set_cons_succ, List.map_cons, List.map_nil, List.cons_append, List.nil_append, hLen_l, hLen_t, hLen_s, hTup_ap, hLst_ap, hTuple_l, hTuple_t, hList_l, hList_t, hAbs_i, hIntOf_i, hIntOf_b, hNeg_i, hIsi_int, hIsi_bool, hIsi_tuple, hIsi_list, hIsi_str, hSl_l, hSl_t, hSl_s, hIx_l0, hIx_t0, hIx_l1, hIx_t1, hIx_l2, hIx_t2, hXor_ii, sv, Option.map_some, Option.bind_some, List.length_cons, List.length_nil, reduceIte, Nat.reduceLT, Nat.reduceLeDiff, Nat.reduceAdd, Bool.false_eq_true, Bool.not_true, Bool.not_false, gAsg_ap, gUnpackLoc_ap, gStoreLoc_ap, gPar_ap, runF_fin, finR_nx, finR_rt, finR_exc, List.replicate_succ, List.replicate_zero, Nat.reduceSub, List.getElem?_cons_zero, List.getElem?_cons_succ, hLt_ii, pInt, pBool, pTup, pList, pStr, decide_eq_true_eq, fIt_ap, toS_l, toS_t, hid_ap]
/-- the keys of the found dict -/
theorem e_clashing (g : G n J) (hc : c.length = n) (st : Sto) : f_clashing [.d (mD n J), .d (.tuple (iL c))] st = .ok (.d (.tuple (iL ((nats n).filter (clash J c))))) st := by
  have key : ∀ (k : SF), (∀ kvs : List (Int × PyData), kvs.length < 64 → sortI (kvs.map (·.1)) = (nats n).filter (clash J c) → ∀ x3 x4, finR false (k [.frz (.d (mD n J)), .frz (.d (.tuple (iL c))), .obj false (.di kvs), x3, x4] st) = .ok (.d (.tuple (iL ((nats n).filter (clash J c))))) st) →
      finR false ((forG (aTup 2 (aCons (aName 3) (aCons (aName 4) aNil))) (gIf (fB (fOp2 hEq (fOp2 hIx (fName 1) (fName 3)) (fOp2 hIx (fName 1) (fName 4)))) (gSeq (gDPut 2 (fName 3) (fC (.bool true))) (gDPut 2 (fName 4) (fC (.bool true)))) gNop) (J.map jD) [.frz (.d (mD n J)), .frz (.d (.tuple (iL c))), .obj false (.di []), .un, .un] st).andThen k) = .ok (.d (.tuple (iL ((nats n).filter (clash J c))))) st := by
    intro k hk
    refine for_pre (P := fun r => finR false r = .ok (.d (.tuple (iL ((nats n).filter (clash J c))))) st) (g := jD) (I := fun pre env s => s = st ∧ (∀ p ∈ pre, p ∈ J) ∧ ∃ kvs x3 x4, env = [.frz (.d (mD n J)), .frz (.d (.tuple (iL c))), .obj false (.di kvs), x3, x4] ∧ (kvs.map (·.1)).Nodup ∧ ∀ x, x ∈ kvs.map (·.1) ↔ ∃ p ∈ pre, sameJ c p = true ∧ (x = p.1 ∨ x = p.2)) (all := J) (pre := []) rfl ⟨rfl, by simp, [], _, _, rfl, by simp, by simp⟩ ?_ ?_
    · rintro pre q post hpq env s ⟨rfl, hp, kvs, x3, x4, rfl, nd, mem⟩
      refine ⟨_, rfl, ?_⟩
      have hq := pre_mem hpq
      have := g.ok q hq
      have i1 := ixg (c := c) (i := q.1) (by omega) (by omega)
      have i2 := ixg (c := c) (i := q.2) (by omega) (by omega)
      have small : ∀ kvs : List (Int × PyData), (kvs.map (·.1)).Nodup → (∀ x ∈ kvs.map (·.1), x ∈ nats n) → kvs.length < 16777216 := fun kvs nd h => by
        have := nodup_le nd h
        rw [nats_len, List.length_map] at this
        have := g.n12
        omega
      have inN : ∀ x, x ∈ kvs.map (·.1) → x ∈ nats n := fun x hx => by
        obtain ⟨p, h1, _, h2⟩ := (mem x).mp hx
        have := g.ok p (hp p h1)
        exact mem_nats.mpr (by rcases h2 with e | e <;> omega)
      have nd2 : ∀ (kvs : List (Int × PyData)) (k : Int), (kvs.map (·.1)).Nodup → ((put kvs k (.bool true)).map (·.1)).Nodup := fun kvs k nd => by
        rw [put_keys]
        split
        · exact nd
        · rename_i h
          exact List.nodup_append.mpr ⟨nd, by simp, fun a ha b hb => by simp at hb; subst hb; intro e; exact h (e ▸ ha)⟩
      have mem2 : ∀ (kvs : List (Int × PyData)) (k x : Int), x ∈ (put kvs k (.bool true)).map (·.1) ↔ x ∈ kvs.map (·.1) ∨ x = k := fun kvs k x => by
        rw [put_keys]
        split
        · rename_i h
          exact ⟨.inl, fun q => q.elim id fun e => e ▸ h⟩
        · simp
      by_cases e : ga c q.1 = ga c q.2
      · have s1 := small kvs nd inN
        have s2 := small (put kvs q.1 (.bool true)) (nd2 _ _ nd) fun x hx => ((mem2 _ _ _).mp hx).elim (inN x) fun e => by subst e; exact mem_nats.mpr (by omega)
        simp -implicitDefEqProofs -dsimp only [i1, i2, e, gDPut_ap, dput_i s1, dput_i s2, fC_ap, fOp2_ap, fOp1_ap, fNil_ap, fCons_ap, fOpN_ap, fLst_ap, fB_ap, fAnd_ap, fOr_ap, fNot_ap, fAndV_ap, fOrV_ap, fNotV_ap, fIfE_ap, fChain_ap, fNoP_ap, fSomeP_ap, fSl_ap, fOwn_ap, fItL_ap, fItT_ap, fItScr_ap, fRng1_ap, fRng2_ap, fYes_ap, fLc_ap, fAA_ap, gSeq_ap, gNop_ap, gSet_ap, gIf_ap, gRet_ap, gRaise_ap, gExpr_ap, gBreak_ap, gCont_ap, gFor_ap, bind_ok, bind_exc, bind_no, thn_ok, thn_exc, thn_no, then_nx, then_rt, then_exc, then_bk, then_ct, lift_some, lift_none, toB_b, toI_i, toL_l, toT_t, toScr_s, lstOnly_l, allD_nil, allD_cons, map_some', lcG_nil, aaG_nil, forG_nil, fName_z, fName_s, fNameB_z, fNameB_zo, fNameB_s, fIsP_z, fIsP_s, aName_ap, aNil_ap, aCons_ap, aTup_ap, wipeE_nil, wipeE_cons, hEq_ii, hNe_ii, hAdd_ii, hSub_ii, hLe_ii, hLtI_ii, hGt_ii, hGe_ii, hIs_bb, hIsNot_bb, List.set_cons_zero, List.set_cons_succ, List.map_cons, List.map_nil, List.cons_append, List.nil_append, hLen_l, hLen_t, hLen_s, hTup_ap, hLst_ap, hTuple_l, hTuple_t, hList_l, hList_t, hAbs_i, hIntOf_i, hIntOf_b, hNeg_i, hIsi_int, hIsi_bool, hIsi_tuple, hIsi_list, hIsi_str, hSl_l, hSl_t, hSl_s, hIx_l0, hIx_t0, hIx_l1, hIx_t1, hIx_l2, hIx_t2, hXor_ii, sv, Option.map_some, Option.bind_some, List.length_cons, List.length_nil, reduceIte, Nat.reduceLT, Nat.reduceLeDiff, Nat.reduceAdd, Bool.false_eq_true, Bool.not_true, Bool.not_false, gAsg_ap, gUnpackLoc_ap, gStoreLoc_ap, gPar_ap, runF_fin, finR_nx, finR_rt, finR_exc, List.replicate_succ, List.replicate_zero, Nat.reduceSub, List.getElem?_cons_zero, List.getElem?_cons_succ, hLt_ii, pInt, pBool, pTup, pList, pStr, decide_eq_true_eq, fIt_ap, toS_l, toS_t, hid_ap]
        refine ⟨_, _, rfl, rfl, fun p hp' => ?_, _, _, _, rfl, nd2 _ _ (nd2 _ _ nd), fun x => ?_⟩
        · rcases List.mem_append.mp hp' with h | h
          · exact hp p h
          · simp at h; subst h; exact hq
        · rw [mem2, mem2, mem]
          constructor
          · rintro ((⟨p, h1, h2, h3⟩ | h) | h)
            · exact ⟨p, List.mem_append_left _ h1, h2, h3⟩
            · exact ⟨q, by simp, by simp [sameJ, e], .inl h⟩
            · exact ⟨q, by simp, by simp [sameJ, e], .inr h⟩
          · rintro ⟨p, h1, h2, h3⟩
            rcases List.mem_append.mp h1 with h | h
            · exact .inl (.inl ⟨p, h, h2, h3⟩)
            · simp at h; subst h
              exact h3.elim (fun z => .inl (.inr z)) .inr
      · simp -implicitDefEqProofs -dsimp only [i1, i2, e, fC_ap, fOp2_ap, fOp1_ap, fNil_ap, fCons_ap, fOpN_ap, fLst_ap, fB_ap, fAnd_ap, fOr_ap, fNot_ap, fAndV_ap, fOrV_ap, fNotV_ap, fIfE_ap, fChain_ap, fNoP_ap, fSomeP_ap, fSl_ap, fOwn_ap, fItL_ap, fItT_ap, fItScr_ap, fRng1_ap, fRng2_ap, fYes_ap, fLc_ap, fAA_ap, gSeq_ap, gNop_ap, gSet_ap, gIf_ap, gRet_ap, gRaise_ap, gExpr_ap, gBreak_ap, gCont_ap, gFor_ap, bind_ok, bind_exc, bind_no, thn_ok, thn_exc, thn_no, then_nx, then_rt, then_exc, then_bk, then_ct, lift_some, lift_none, toB_b, toI_i, toL_l, toT_t, toScr_s, lstOnly_l, allD_nil, allD_cons, map_some', lcG_nil, aaG_nil, forG_nil, fName_z, fName_s, fNameB_z, fNameB_zo, fNameB_s, fIsP_z, fIsP_s, aName_ap, aNil_ap, aCons_ap, aTup_ap, wipeE_nil, wipeE_cons, hEq_ii, hNe_ii, hAdd_ii, hSub_ii, hLe_ii, hLtI_ii, hGt_ii, hGe_ii, hIs_bb, hIsNot_bb, List.set_cons_zero, List.set_cons_succ, List.map_cons, List.map_nil, List.cons_append, List.nil_append, hLen_l, hLen_t, hLen_s, hTup_ap, hLst_ap, hTuple_l, hTuple_t, hList_l, hList_t, hAbs_i, hIntOf_i, hIntOf_b, hNeg_i, hIsi_int, hIsi_bool, hIsi_tuple, hIsi_list, hIsi_str, hSl_l, hSl_t, hSl_s, hIx_l0, hIx_t0, hIx_l1, hIx_t1, hIx_l2, hIx_t2, hXor_ii, sv, Option.map_some, Option.bind_some, List.length_cons, List.length_nil, reduceIte, Nat.reduceLT, Nat.reduceLeDiff, Nat.reduceAdd, Bool.false_eq_true, Bool.not_true, Bool.not_false, gAsg_ap, gUnpackLoc_ap, gStoreLoc_ap, gPar_ap, runF_fin, finR_nx, finR_rt, finR_exc, List.replicate_succ, List.replicate_zero, Nat.reduceSub, List.getElem?_cons_zero, List.getElem?_cons_succ, hLt_ii, pInt, pBool, pTup, pList, pStr, decide_eq_true_eq, fIt_ap, toS_l, toS_t, hid_ap]
        refine ⟨_, _, rfl, rfl, fun p hp' => ?_, _, _, _, rfl, nd, fun x => ?_⟩
        · rcases List.mem_append.mp hp' with h | h
          · exact hp p h
          · simp at h; subst h; exact hq
        · rw [mem]
          constructor
          · rintro ⟨p, h1, h2, h3⟩
            exact ⟨p, List.mem_append_left _ h1, h2, h3⟩
          · rintro ⟨p, h1, h2, h3⟩
            rcases List.mem_append.mp h1 with h | h
            · exact ⟨p, h, h2, h3⟩
            · simp at h; subst h
              simp [sameJ, e] at h2
    · rintro env s ⟨rfl, _, kvs, x3, x4, rfl, nd, mem⟩
      have inN : ∀ x, x ∈ kvs.map (·.1) → x ∈ nats n := fun x hx => by
        obtain ⟨p, h1, _, h2⟩ := (mem x).mp hx
        have := g.ok p (by simpa using h1)
        exact mem_nats.mpr (by rcases h2 with e | e <;> omega)
      have small := nodup_le nd inN
      rw [nats_len, List.length_map] at small
      have := g.n12
      refine hk kvs (by omega) (sortI_filter nd fun x => ?_) x3 x4
      rw [mem]
      constructor
      · rintro ⟨p, h1, h2, h3⟩
        have h1 : p ∈ J := by simpa using h1
        have := g.ok p h1
        have h2 : ga c p.1 = ga c p.2 := by simpa [sameJ] using h2
        refine ⟨by rcases h3 with e | e <;> omega, ?_⟩
        unfold clash
        rw [List.any_eq_true]
        rcases h3 with e | e
        · exact ⟨p.2, (mem_beside g.ok).mpr (.inl (by rw [e]; exact h1)), by rw [e]; simp [h2]⟩
        · exact ⟨p.1, (mem_beside g.ok).mpr (.inr (by rw [e]; exact h1)), by rw [e]; simp [h2]⟩
      · rintro ⟨_, h⟩
        unfold clash at h
        rw [List.any_eq_true] at h
        obtain ⟨u, hu, e⟩ := h
        have e : ga c u = ga c x := by simpa using e
        rcases (mem_beside g.ok).mp hu with q | q
        · exact ⟨_, by simpa using q, by simp [sameJ, e], .inl rfl⟩
        · exact ⟨_, by simpa using q, by simp [sameJ, e], .inr rfl⟩
  unfold mD at key ⊢
  simp -implicitDefEqProofs -dsimp only [f_clashing, g_clashing, gDNew_ap, fC_ap, fOp2_ap, fOp1_ap, fNil_ap, fCons_ap, fOpN_ap, fLst_ap, fB_ap, fAnd_ap, fOr_ap, fNot_ap, fAndV_ap, fOrV_ap, fNotV_ap, fIfE_ap, fChain_ap, fNoP_ap, fSomeP_ap, fSl_ap, fOwn_ap, fItL_ap, fItT_ap, fItScr_ap, fRng1_ap, fRng2_ap, fYes_ap, fLc_ap, fAA_ap, gSeq_ap, gNop_ap, gSet_ap, gIf_ap, gRet_ap, gRaise_ap, gExpr_ap, gBreak_ap, gCont_ap, gFor_ap, bind_ok, bind_exc, bind_no, thn_ok, thn_exc, thn_no, then_nx, then_rt, then_exc, then_bk, then_ct, lift_some, lift_none, toB_b, toI_i, toL_l, toT_t, toScr_s, lstOnly_l, allD_nil, allD_cons, map_some', lcG_nil, aaG_nil, forG_nil, fName_z, fName_s, fNameB_z, fNameB_zo, fNameB_s, fIsP_z, fIsP_s, aName_ap, aNil_ap, aCons_ap, aTup_ap, wipeE_nil, wipeE_cons, hEq_ii, hNe_ii, hAdd_ii, hSub_ii, hLe_ii, hLtI_ii, hGt_ii, hGe_ii, hIs_bb, hIsNot_bb, List.set_cons_zero, List.set_cons_succ, List.map_cons, List.map_nil, List.cons_append, List.nil_append, hLen_l, hLen_t, hLen_s, hTup_ap, hLst_ap, hTuple_l, hTuple_t, hList_l, hList_t, hAbs_i, hIntOf_i, hIntOf_b, hNeg_i, hIsi_int, hIsi_bool, hIsi_tuple, hIsi_list, hIsi_str, hSl_l, hSl_t, hSl_s, hIx_l0, hIx_t0, hIx_l1, hIx_t1, hIx_l2, hIx_t2, hXor_ii, sv, Option.map_some, Option.bind_some, List.length_cons, List.length_nil, reduceIte, Nat.reduceLT, Nat.reduceLeDiff, Nat.reduceAdd, Bool.false_eq_true, Bool.not_true, Bool.not_false, gAsg_ap, gUnpackLoc_ap, gStoreLoc_ap, gPar_ap, runF_fin, finR_nx, finR_rt, finR_exc, List.replicate_succ, List.replicate_zero, Nat.reduceSub, List.getElem?_cons_zero, List.getElem?_cons_succ, hLt_ii, pInt, pBool, pTup, pList, pStr, decide_eq_true_eq, fIt_ap, toS_l, toS_t, hid_ap]
  refine key _ fun kvs h1 h2 x3 x4 => ?_
  have fs := fSortD_at (i := 2) (l := false) (kvs := kvs) (env := [.frz (.d (.tuple [.int n, .tuple (J.map jD)])), .frz (.d (.tuple (iL c))), .obj false (.di kvs), x3, x4]) (st := st) rfl h1
  rw [h2] at fs
  simp -implicitDefEqProofs -dsimp only [fs, fC_ap, fOp2_ap, fOp1_ap, fNil_ap, fCons_ap, fOpN_ap, fLst_ap, fB_ap, fAnd_ap, fOr_ap, fNot_ap, fAndV_ap, fOrV_ap, fNotV_ap, fIfE_ap, fChain_ap, fNoP_ap, fSomeP_ap, fSl_ap, fOwn_ap, fItL_ap, fItT_ap, fItScr_ap, fRng1_ap, fRng2_ap, fYes_ap, fLc_ap, fAA_ap, gSeq_ap, gNop_ap, gSet_ap, gIf_ap, gRet_ap, gRaise_ap, gExpr_ap, gBreak_ap, gCont_ap, gFor_ap, bind_ok, bind_exc, bind_no, thn_ok, thn_exc, thn_no, then_nx, then_rt, then_exc, then_bk, then_ct, lift_some, lift_none, toB_b, toI_i, toL_l, toT_t, toScr_s, lstOnly_l, allD_nil, allD_cons, map_some', lcG_nil, aaG_nil, forG_nil, fName_z, fName_s, fNameB_z, fNameB_zo, fNameB_s, fIsP_z, fIsP_s, aName_ap, aNil_ap, aCons_ap, aTup_ap, wipeE_nil, wipeE_cons, hEq_ii, hNe_ii, hAdd_ii, hSub_ii, hLe_ii, hLtI_ii, hGt_ii, hGe_ii, hIs_bb, hIsNot_bb, List.set_cons_zero, List.set_cons_succ, List.map_cons, List.map_nil, List.cons_append, List.nil_append, hLen_l, hLen_t, hLen_s, hTup_ap, hLst_ap, hTuple_l, hTuple_t, hList_l, hList_t, hAbs_i, hIntOf_i, hIntOf_b, hNeg_i, hIsi_int, hIsi_bool, hIsi_tuple, hIsi_list, hIsi_str, hSl_l, hSl_t, hSl_s, hIx_l0, hIx_t0, hIx_l1, hIx_t1, hIx_l2, hIx_t2, hXor_ii, sv, Option.map_some, Option.bind_some, List.length_cons, List.length_nil, reduceIte, Nat.reduceLT, Nat.reduceLeDiff, Nat.reduceAdd, Bool.false_eq_true, Bool.not_true, Bool.not_false, gAsg_ap, gUnpackLoc_ap, gStoreLoc_ap, gPar_ap, runF_fin, finR_nx, finR_rt, finR_exc, List.replicate_succ, List.replicate_zero, Nat.reduceSub, List.getElem?_cons_zero, List.getElem?_cons_succ, hLt_ii, pInt, pBool, pTup, pList, pStr, decide_eq_true_eq, fIt_ap, toS_l, toS_t, hid_ap]
end K95


set_option Elab.async false
set_option linter.all false
set_option maxRecDepth 100000
set_option maxHeartbeats 4000000
namespace K95
open PySem PySem.Spec PyProof.Rows L2 L2H DL Map
variable {n : Nat} {J : Js} {c : List Int}
theorem G.jl (g : G n J) : J.length ≤ 100 := by have := g.len; omega
theorem beside_nodup (g : G n J) (v : Int) : (beside J v).Nodup := by
  unfold beside
  have nd := g.nd.sublist (List.filter_sublist (p := at_ v))
  have key : ∀ l : List (Int × Int), (∀ p ∈ l, p ∈ J ∧ at_ v p = true) → l.Nodup → (l.map fun p => p.1 + p.2 - v).Nodup := by
    intro l
    induction l with
    | nil => intro _ _; simp
    | cons p l ih =>
      intro h nd
      rw [List.nodup_cons] at nd
      rw [List.map_cons, List.nodup_cons]
      refine ⟨fun hm => ?_, ih (fun q hq => h q (List.mem_cons_of_mem _ hq)) nd.2⟩
      obtain ⟨q, hq, e⟩ := List.mem_map.mp hm
      obtain ⟨p1, p2⟩ := h p List.mem_cons_self
      obtain ⟨q1, q2⟩ := h q (List.mem_cons_of_mem _ hq)
      have hp := g.ok p p1
      have hq' := g.ok q q1
      simp [at_] at p2 q2
      have e1 : p.1 = q.1 ∧ p.2 = q.2 := by rcases p2 with a | a <;> rcases q2 with b | b <;> omega
      have : p = q := Prod.ext e1.1 e1.2
      exact nd.1 (this ▸ hq)
  exact key _ (fun p hp => List.mem_filter.mp hp) nd
theorem beside_len (g : G n J) (v : Int) : (beside J v).length ≤ 12 := by
  have := nodup_le (beside_nodup g v) (T := nats n) fun u hu => by
    obtain ⟨a, b, _⟩ := beside_rng g.ok hu
    exact mem_nats.mpr ⟨a, b⟩
  rw [nats_len] at this
  have := g.n12
  omega
theorem sortI_perm (l : List Int) : (sortI l).Perm l := List.mergeSort_perm _ _
/-- the colour that a node takes -/
def col (J : Js) (c : List Int) (v : Int) : Int := ((nats 13).filter fun x => !decide (x ∈ (beside J v).map (ga c))).headD 0
theorem e_colour (g : G n J) (hc : c.length = n) {v : Int} (v0 : 0 ≤ v) (vn : v < n) : (∀ st, f_free_colour [.d (mD n J), .d (.tuple (iL c)), .d (.int v)] st = .ok (.d (.int (col J c v))) st) ∧ (∀ st, f__law_colour [.d (mD n J), .d (.tuple (iL c)), .d (.int v)] st = .ok (.d (.int (col J c v))) st) ∧ 0 ≤ col J c v ∧ col J c v ≤ 12 ∧ ∀ u ∈ beside J v, ga c u ≠ col J c v := by
  have bl := beside_len g v
  obtain ⟨m, r, r', h1, h2, h3, h4, h5, h6⟩ := mex (T := (beside J v).map (ga c)) (f := fun x => !decide (x ∈ (beside J v).map (ga c))) (by intro x; simp) (by simpa using bl)
  have hm : col J c v = m := by unfold col; rw [h1]; rfl
  rw [hm]
  rw [List.length_map] at h2 h5
  have inn : ∀ u ∈ beside J v, 0 ≤ u ∧ u < (c.length : Int) := fun u hu => by
    obtain ⟨a, b, _⟩ := beside_rng g.ok hu
    exact ⟨a, by omega⟩
  have sp := sortI_perm (beside J v)
  have ms : ∀ x, x ∈ (sortI (beside J v)).map (ga c) ↔ x ∈ (beside J v).map (ga c) := fun x => (sp.map _).mem_iff
  have sl : (sortI (beside J v)).length = (beside J v).length := sp.length_eq
  refine ⟨fun st => ?_, fun st => ?_, h4, by omega, fun u hu e => h3 (List.mem_map.mpr ⟨u, hu, e⟩)⟩
  · have jo := fun st => e_joined (n := n) (J := J) g.jl v st
    have lt : ∀ st, lcG (aName 4) fYes (fOp2 hIx (fName 1) (fName 4)) [.frz (.d (mD n J)), .frz (.d (.tuple (iL c))), .frz (.d (.int v)), .un, .un, .un] (iL (sortI (beside J v))) [] st = .ok (.d (.list (iL ((sortI (beside J v)).map (ga c))))) st := fun st => by
      rw [lcN_ints' (fun u => .int (ga c u)) (by omega)]
      · unfold iL; rw [List.map_map]; rfl
      · intro u hu st
        obtain ⟨a, b⟩ := inn u (sp.mem_iff.mp hu)
        have i1 := ixg (c := c) a b
        simp -implicitDefEqProofs -dsimp only [i1, fC_ap, fOp2_ap, fOp1_ap, fNil_ap, fCons_ap, fOpN_ap, fLst_ap, fB_ap, fAnd_ap, fOr_ap, fNot_ap, fAndV_ap, fOrV_ap, fNotV_ap, fIfE_ap, fChain_ap, fNoP_ap, fSomeP_ap, fSl_ap, fOwn_ap, fItL_ap, fItT_ap, fItScr_ap, fRng1_ap, fRng2_ap, fYes_ap, fLc_ap, fAA_ap, gSeq_ap, gNop_ap, gSet_ap, gIf_ap, gRet_ap, gRaise_ap, gExpr_ap, gBreak_ap, gCont_ap, gFor_ap, bind_ok, bind_exc, bind_no, thn_ok, thn_exc, thn_no, then_nx, then_rt, then_exc, then_bk, then_ct, lift_some, lift_none, toB_b, toI_i, toL_l, toT_t, toScr_s, lstOnly_l, allD_nil, allD_cons, map_some', lcG_nil, aaG_nil, forG_nil, fName_z, fName_s, fNameB_z, fNameB_zo, fNameB_s, fIsP_z, fIsP_s, aName_ap, aNil_ap, aCons_ap, aTup_ap, wipeE_nil, wipeE_cons, hEq_ii, hNe_ii, hAdd_ii, hSub_ii, hLe_ii, hLtI_ii, hGt_ii, hGe_ii, hIs_bb, hIsNot_bb, List.set_cons_zero, List.set_cons_succ, List.map_cons, List.map_nil, List.cons_append, List.nil_append, hLen_l, hLen_t, hLen_s, hTup_ap, hLst_ap, hTuple_l, hTuple_t, hList_l, hList_t, hAbs_i, hIntOf_i, hIntOf_b, hNeg_i, hIsi_int, hIsi_bool, hIsi_tuple, hIsi_list, hIsi_str, hSl_l, hSl_t, hSl_s, hIx_l0, hIx_t0, hIx_l1, hIx_t1, hIx_l2, hIx_t2, hXor_ii, sv, Option.map_some, Option.bind_some, List.length_cons, List.length_nil, reduceIte, Nat.reduceLT, Nat.reduceLeDiff, Nat.reduceAdd, Bool.false_eq_true, Bool.not_true, Bool.not_false, gAsg_ap, gUnpackLoc_ap, gStoreLoc_ap, gPar_ap, runF_fin, finR_nx, finR_rt, finR_exc, List.replicate_succ, List.replicate_zero, Nat.reduceSub, List.getElem?_cons_zero, List.getElem?_cons_succ, hLt_ii, pInt, pBool, pTup, pList, pStr, decide_eq_true_eq, fIt_ap, toS_l, toS_t, hid_ap]
    have ll : (iL ((sortI (beside J v)).map (ga c))).length = (beside J v).length := by rw [iL_len, List.length_map, sl]
    have rg : ∀ st, hRng1 [.d (.int (((beside J v).length : Int) + 1))] st = .ok (iL (nats ((beside J v).length + 1))) st := fun st => by
      rw [hRng1_i (by omega), show (((beside J v).length : Int) + 1).toNat = (beside J v).length + 1 by omega, rng_nats]
    have lf : ∀ st, lcG (aName 5) (fB (fOp2 hNotIn (fName 5) (fName 3))) (fName 5) [.frz (.d (mD n J)), .frz (.d (.tuple (iL c))), .frz (.d (.int v)), .frz (.d (.list (iL ((sortI (beside J v)).map (ga c))))), .un, .un] (iL (nats ((beside J v).length + 1))) [] st = .ok (.d (.list (iL (m :: r')))) st := fun st => by
      rw [lcN_ints (fun x => !decide (x ∈ (beside J v).map (ga c))) (fun u => .int u) (by rw [nats_len]; omega), h2]
      · rfl
      · intro x hx
        refine ⟨fun st => ?_, fun st _ => by simp -implicitDefEqProofs -dsimp only [fC_ap, fOp2_ap, fOp1_ap, fNil_ap, fCons_ap, fOpN_ap, fLst_ap, fB_ap, fAnd_ap, fOr_ap, fNot_ap, fAndV_ap, fOrV_ap, fNotV_ap, fIfE_ap, fChain_ap, fNoP_ap, fSomeP_ap, fSl_ap, fOwn_ap, fItL_ap, fItT_ap, fItScr_ap, fRng1_ap, fRng2_ap, fYes_ap, fLc_ap, fAA_ap, gSeq_ap, gNop_ap, gSet_ap, gIf_ap, gRet_ap, gRaise_ap, gExpr_ap, gBreak_ap, gCont_ap, gFor_ap, bind_ok, bind_exc, bind_no, thn_ok, thn_exc, thn_no, then_nx, then_rt, then_exc, then_bk, then_ct, lift_some, lift_none, toB_b, toI_i, toL_l, toT_t, toScr_s, lstOnly_l, allD_nil, allD_cons, map_some', lcG_nil, aaG_nil, forG_nil, fName_z, fName_s, fNameB_z, fNameB_zo, fNameB_s, fIsP_z, fIsP_s, aName_ap, aNil_ap, aCons_ap, aTup_ap, wipeE_nil, wipeE_cons, hEq_ii, hNe_ii, hAdd_ii, hSub_ii, hLe_ii, hLtI_ii, hGt_ii, hGe_ii, hIs_bb, hIsNot_bb, List.set_cons_zero, List.set_cons_succ, List.map_cons, List.map_nil, List.cons_append, List.nil_append, hLen_l, hLen_t, hLen_s, hTup_ap, hLst_ap, hTuple_l, hTuple_t, hList_l, hList_t, hAbs_i, hIntOf_i, hIntOf_b, hNeg_i, hIsi_int, hIsi_bool, hIsi_tuple, hIsi_list, hIsi_str, hSl_l, hSl_t, hSl_s, hIx_l0, hIx_t0, hIx_l1, hIx_t1, hIx_l2, hIx_t2, hXor_ii, sv, Option.map_some, Option.bind_some, List.length_cons, List.length_nil, reduceIte, Nat.reduceLT, Nat.reduceLeDiff, Nat.reduceAdd, Bool.false_eq_true, Bool.not_true, Bool.not_false, gAsg_ap, gUnpackLoc_ap, gStoreLoc_ap, gPar_ap, runF_fin, finR_nx, finR_rt, finR_exc, List.replicate_succ, List.replicate_zero, Nat.reduceSub, List.getElem?_cons_zero, List.getElem?_cons_succ, hLt_ii, pInt, pBool, pTup, pList, pStr, decide_eq_true_eq, fIt_ap, toS_l, toS_t, hid_ap]⟩
        simp -implicitDefEqProofs -dsimp only [hNotIn_li, ms, fC_ap, fOp2_ap, fOp1_ap, fNil_ap, fCons_ap, fOpN_ap, fLst_ap, fB_ap, fAnd_ap, fOr_ap, fNot_ap, fAndV_ap, fOrV_ap, fNotV_ap, fIfE_ap, fChain_ap, fNoP_ap, fSomeP_ap, fSl_ap, fOwn_ap, fItL_ap, fItT_ap, fItScr_ap, fRng1_ap, fRng2_ap, fYes_ap, fLc_ap, fAA_ap, gSeq_ap, gNop_ap, gSet_ap, gIf_ap, gRet_ap, gRaise_ap, gExpr_ap, gBreak_ap, gCont_ap, gFor_ap, bind_ok, bind_exc, bind_no, thn_ok, thn_exc, thn_no, then_nx, then_rt, then_exc, then_bk, then_ct, lift_some, lift_none, toB_b, toI_i, toL_l, toT_t, toScr_s, lstOnly_l, allD_nil, allD_cons, map_some', lcG_nil, aaG_nil, forG_nil, fName_z, fName_s, fNameB_z, fNameB_zo, fNameB_s, fIsP_z, fIsP_s, aName_ap, aNil_ap, aCons_ap, aTup_ap, wipeE_nil, wipeE_cons, hEq_ii, hNe_ii, hAdd_ii, hSub_ii, hLe_ii, hLtI_ii, hGt_ii, hGe_ii, hIs_bb, hIsNot_bb, List.set_cons_zero, List.set_cons_succ, List.map_cons, List.map_nil, List.cons_append, List.nil_append, hLen_l, hLen_t, hLen_s, hTup_ap, hLst_ap, hTuple_l, hTuple_t, hList_l, hList_t, hAbs_i, hIntOf_i, hIntOf_b, hNeg_i, hIsi_int, hIsi_bool, hIsi_tuple, hIsi_list, hIsi_str, hSl_l, hSl_t, hSl_s, hIx_l0, hIx_t0, hIx_l1, hIx_t1, hIx_l2, hIx_t2, hXor_ii, sv, Option.map_some, Option.bind_some, List.length_cons, List.length_nil, reduceIte, Nat.reduceLT, Nat.reduceLeDiff, Nat.reduceAdd, Bool.false_eq_true, Bool.not_true, Bool.not_false, gAsg_ap, gUnpackLoc_ap, gStoreLoc_ap, gPar_ap, runF_fin, finR_nx, finR_rt, finR_exc, List.replicate_succ, List.replicate_zero, Nat.reduceSub, List.getElem?_cons_zero, List.getElem?_cons_succ, hLt_ii, pInt, pBool, pTup, pList, pStr, decide_eq_true_eq, fIt_ap, toS_l, toS_t, hid_ap]
    have mn : hMin [.d (.list (iL (m :: r')))] = some (.d (.int m)) := by
      show (match asInts (iL (m :: r')) with | some ns => if ns = [] then none else some (DV.d (.int (minI ns))) | none => none) = _
      rw [asInts_iL]
      show (if m :: r' = [] then none else some (DV.d (.int (minI (m :: r'))))) = _
      rw [if_neg (by simp), h6]
    simp -implicitDefEqProofs -dsimp only [f_free_colour, g_free_colour, jo, lt, ll, rg, lf, mn, fC_ap, fOp2_ap, fOp1_ap, fNil_ap, fCons_ap, fOpN_ap, fLst_ap, fB_ap, fAnd_ap, fOr_ap, fNot_ap, fAndV_ap, fOrV_ap, fNotV_ap, fIfE_ap, fChain_ap, fNoP_ap, fSomeP_ap, fSl_ap, fOwn_ap, fItL_ap, fItT_ap, fItScr_ap, fRng1_ap, fRng2_ap, fYes_ap, fLc_ap, fAA_ap, gSeq_ap, gNop_ap, gSet_ap, gIf_ap, gRet_ap, gRaise_ap, gExpr_ap, gBreak_ap, gCont_ap, gFor_ap, bind_ok, bind_exc, bind_no, thn_ok, thn_exc, thn_no, then_nx, then_rt, then_exc, then_bk, then_ct, lift_some, lift_none, toB_b, toI_i, toL_l, toT_t, toScr_s, lstOnly_l, allD_nil, allD_cons, map_some', lcG_nil, aaG_nil, forG_nil, fName_z, fName_s, fNameB_z, fNameB_zo, fNameB_s, fIsP_z, fIsP_s, aName_ap, aNil_ap, aCons_ap, aTup_ap, wipeE_nil, wipeE_cons, hEq_ii, hNe_ii, hAdd_ii, hSub_ii, hLe_ii, hLtI_ii, hGt_ii, hGe_ii, hIs_bb, hIsNot_bb, List.set_cons_zero, List.set_cons_succ, List.map_cons, List.map_nil, List.cons_append, List.nil_append, hLen_l, hLen_t, hLen_s, hTup_ap, hLst_ap, hTuple_l, hTuple_t, hList_l, hList_t, hAbs_i, hIntOf_i, hIntOf_b, hNeg_i, hIsi_int, hIsi_bool, hIsi_tuple, hIsi_list, hIsi_str, hSl_l, hSl_t, hSl_s, hIx_l0, hIx_t0, hIx_l1, hIx_t1, hIx_l2, hIx_t2, hXor_ii, sv, Option.map_some, Option.bind_some, List.length_cons, List.length_nil, reduceIte, Nat.reduceLT, Nat.reduceLeDiff, Nat.reduceAdd, Bool.false_eq_true, Bool.not_true, Bool.not_false, gAsg_ap, gUnpackLoc_ap, gStoreLoc_ap, gPar_ap, runF_fin, finR_nx, finR_rt, finR_exc, List.replicate_succ, List.replicate_zero, Nat.reduceSub, List.getElem?_cons_zero, List.getElem?_cons_succ, hLt_ii, pInt, pBool, pTup, pList, pStr, decide_eq_true_eq, fIt_ap, toS_l, toS_t, hid_ap]
  · have jo := fun st => e_lbeside (n := n) (J := J) g.jl v st
    have lt : ∀ st, lcG (aName 4) fYes (fOp2 hIx (fName 1) (fName 4)) [.frz (.d (mD n J)), .frz (.d (.tuple (iL c))), .frz (.d (.int v)), .un, .un, .un] (iL (beside J v)) [] st = .ok (.d (.list (iL ((beside J v).map (ga c))))) st := fun st => by
      rw [lcN_ints' (fun u => .int (ga c u)) (by omega)]
      · unfold iL; rw [List.map_map]; rfl
      · intro u hu st
        obtain ⟨a, b⟩ := inn u hu
        have i1 := ixg (c := c) a b
        simp -implicitDefEqProofs -dsimp only [i1, fC_ap, fOp2_ap, fOp1_ap, fNil_ap, fCons_ap, fOpN_ap, fLst_ap, fB_ap, fAnd_ap, fOr_ap, fNot_ap, fAndV_ap, fOrV_ap, fNotV_ap, fIfE_ap, fChain_ap, fNoP_ap, fSomeP_ap, fSl_ap, fOwn_ap, fItL_ap, fItT_ap, fItScr_ap, fRng1_ap, fRng2_ap, fYes_ap, fLc_ap, fAA_ap, gSeq_ap, gNop_ap, gSet_ap, gIf_ap, gRet_ap, gRaise_ap, gExpr_ap, gBreak_ap, gCont_ap, gFor_ap, bind_ok, bind_exc, bind_no, thn_ok, thn_exc, thn_no, then_nx, then_rt, then_exc, then_bk, then_ct, lift_some, lift_none, toB_b, toI_i, toL_l, toT_t, toScr_s, lstOnly_l, allD_nil, allD_cons, map_some', lcG_nil, aaG_nil, forG_nil, fName_z, fName_s, fNameB_z, fNameB_zo, fNameB_s, fIsP_z, fIsP_s, aName_ap, aNil_ap, aCons_ap, aTup_ap, wipeE_nil, wipeE_cons, hEq_ii, hNe_ii, hAdd_ii, hSub_ii, hLe_ii, hLtI_ii, hGt_ii, hGe_ii, hIs_bb, hIsNot_bb, List.set_cons_zero, List.set_cons_succ, List.map_cons, List.map_nil, List.cons_append, List.nil_append, hLen_l, hLen_t, hLen_s, hTup_ap, hLst_ap, hTuple_l, hTuple_t, hList_l, hList_t, hAbs_i, hIntOf_i, hIntOf_b, hNeg_i, hIsi_int, hIsi_bool, hIsi_tuple, hIsi_list, hIsi_str, hSl_l, hSl_t, hSl_s, hIx_l0, hIx_t0, hIx_l1, hIx_t1, hIx_l2, hIx_t2, hXor_ii, sv, Option.map_some, Option.bind_some, List.length_cons, List.length_nil, reduceIte, Nat.reduceLT, Nat.reduceLeDiff, Nat.reduceAdd, Bool.false_eq_true, Bool.not_true, Bool.not_false, gAsg_ap, gUnpackLoc_ap, gStoreLoc_ap, gPar_ap, runF_fin, finR_nx, finR_rt, finR_exc, List.replicate_succ, List.replicate_zero, Nat.reduceSub, List.getElem?_cons_zero, List.getElem?_cons_succ, hLt_ii, pInt, pBool, pTup, pList, pStr, decide_eq_true_eq, fIt_ap, toS_l, toS_t, hid_ap]
    have rg : ∀ st, hRng1 [.d (.int 13)] st = .ok (iL (nats 13)) st := fun st => by
      rw [hRng1_i (by omega), show ((13 : Int)).toNat = 13 from rfl, rng_nats]
    have lf : ∀ st, lcG (aName 5) (fB (fOp2 hNotIn (fName 5) (fName 3))) (fName 5) [.frz (.d (mD n J)), .frz (.d (.tuple (iL c))), .frz (.d (.int v)), .frz (.d (.list (iL ((beside J v).map (ga c))))), .un, .un] (iL (nats 13)) [] st = .ok (.d (.list (.int m :: iL r))) st := fun st => by
      rw [lcN_ints (fun x => !decide (x ∈ (beside J v).map (ga c))) (fun u => .int u) (by rw [nats_len]; omega), h1]
      · rfl
      · intro x hx
        refine ⟨fun st => ?_, fun st _ => by simp -implicitDefEqProofs -dsimp only [fC_ap, fOp2_ap, fOp1_ap, fNil_ap, fCons_ap, fOpN_ap, fLst_ap, fB_ap, fAnd_ap, fOr_ap, fNot_ap, fAndV_ap, fOrV_ap, fNotV_ap, fIfE_ap, fChain_ap, fNoP_ap, fSomeP_ap, fSl_ap, fOwn_ap, fItL_ap, fItT_ap, fItScr_ap, fRng1_ap, fRng2_ap, fYes_ap, fLc_ap, fAA_ap, gSeq_ap, gNop_ap, gSet_ap, gIf_ap, gRet_ap, gRaise_ap, gExpr_ap, gBreak_ap, gCont_ap, gFor_ap, bind_ok, bind_exc, bind_no, thn_ok, thn_exc, thn_no, then_nx, then_rt, then_exc, then_bk, then_ct, lift_some, lift_none, toB_b, toI_i, toL_l, toT_t, toScr_s, lstOnly_l, allD_nil, allD_cons, map_some', lcG_nil, aaG_nil, forG_nil, fName_z, fName_s, fNameB_z, fNameB_zo, fNameB_s, fIsP_z, fIsP_s, aName_ap, aNil_ap, aCons_ap, aTup_ap, wipeE_nil, wipeE_cons, hEq_ii, hNe_ii, hAdd_ii, hSub_ii, hLe_ii, hLtI_ii, hGt_ii, hGe_ii, hIs_bb, hIsNot_bb, List.set_cons_zero, List.set_cons_succ, List.map_cons, List.map_nil, List.cons_append, List.nil_append, hLen_l, hLen_t, hLen_s, hTup_ap, hLst_ap, hTuple_l, hTuple_t, hList_l, hList_t, hAbs_i, hIntOf_i, hIntOf_b, hNeg_i, hIsi_int, hIsi_bool, hIsi_tuple, hIsi_list, hIsi_str, hSl_l, hSl_t, hSl_s, hIx_l0, hIx_t0, hIx_l1, hIx_t1, hIx_l2, hIx_t2, hXor_ii, sv, Option.map_some, Option.bind_some, List.length_cons, List.length_nil, reduceIte, Nat.reduceLT, Nat.reduceLeDiff, Nat.reduceAdd, Bool.false_eq_true, Bool.not_true, Bool.not_false, gAsg_ap, gUnpackLoc_ap, gStoreLoc_ap, gPar_ap, runF_fin, finR_nx, finR_rt, finR_exc, List.replicate_succ, List.replicate_zero, Nat.reduceSub, List.getElem?_cons_zero, List.getElem?_cons_succ, hLt_ii, pInt, pBool, pTup, pList, pStr, decide_eq_true_eq, fIt_ap, toS_l, toS_t, hid_ap]⟩
        simp -implicitDefEqProofs -dsimp only [hNotIn_li, fC_ap, fOp2_ap, fOp1_ap, fNil_ap, fCons_ap, fOpN_ap, fLst_ap, fB_ap, fAnd_ap, fOr_ap, fNot_ap, fAndV_ap, fOrV_ap, fNotV_ap, fIfE_ap, fChain_ap, fNoP_ap, fSomeP_ap, fSl_ap, fOwn_ap, fItL_ap, fItT_ap, fItScr_ap, fRng1_ap, fRng2_ap, fYes_ap, fLc_ap, fAA_ap, gSeq_ap, gNop_ap, gSet_ap, gIf_ap, gRet_ap, gRaise_ap, gExpr_ap, gBreak_ap, gCont_ap, gFor_ap, bind_ok, bind_exc, bind_no, thn_ok, thn_exc, thn_no, then_nx, then_rt, then_exc, then_bk, then_ct, lift_some, lift_none, toB_b, toI_i, toL_l, toT_t, toScr_s, lstOnly_l, allD_nil, allD_cons, map_some', lcG_nil, aaG_nil, forG_nil, fName_z, fName_s, fNameB_z, fNameB_zo, fNameB_s, fIsP_z, fIsP_s, aName_ap, aNil_ap, aCons_ap, aTup_ap, wipeE_nil, wipeE_cons, hEq_ii, hNe_ii, hAdd_ii, hSub_ii, hLe_ii, hLtI_ii, hGt_ii, hGe_ii, hIs_bb, hIsNot_bb, List.set_cons_zero, List.set_cons_succ, List.map_cons, List.map_nil, List.cons_append, List.nil_append, hLen_l, hLen_t, hLen_s, hTup_ap, hLst_ap, hTuple_l, hTuple_t, hList_l, hList_t, hAbs_i, hIntOf_i, hIntOf_b, hNeg_i, hIsi_int, hIsi_bool, hIsi_tuple, hIsi_list, hIsi_str, hSl_l, hSl_t, hSl_s, hIx_l0, hIx_t0, hIx_l1, hIx_t1, hIx_l2, hIx_t2, hXor_ii, sv, Option.map_some, Option.bind_some, List.length_cons, List.length_nil, reduceIte, Nat.reduceLT, Nat.reduceLeDiff, Nat.reduceAdd, Bool.false_eq_true, Bool.not_true, Bool.not_false, gAsg_ap, gUnpackLoc_ap, gStoreLoc_ap, gPar_ap, runF_fin, finR_nx, finR_rt, finR_exc, List.replicate_succ, List.replicate_zero, Nat.reduceSub, List.getElem?_cons_zero, List.getElem?_cons_succ, hLt_ii, pInt, pBool, pTup, pList, pStr, decide_eq_true_eq, fIt_ap, toS_l, toS_t, hid_ap]
    simp -implicitDefEqProofs -dsimp only [f__law_colour, g__law_colour, jo, lt, rg, lf, fC_ap, fOp2_ap, fOp1_ap, fNil_ap, fCons_ap, fOpN_ap, fLst_ap, fB_ap, fAnd_ap, fOr_ap, fNot_ap, fAndV_ap, fOrV_ap, fNotV_ap, fIfE_ap, fChain_ap, fNoP_ap, fSomeP_ap, fSl_ap, fOwn_ap, fItL_ap, fItT_ap, fItScr_ap, fRng1_ap, fRng2_ap, fYes_ap, fLc_ap, fAA_ap, gSeq_ap, gNop_ap, gSet_ap, gIf_ap, gRet_ap, gRaise_ap, gExpr_ap, gBreak_ap, gCont_ap, gFor_ap, bind_ok, bind_exc, bind_no, thn_ok, thn_exc, thn_no, then_nx, then_rt, then_exc, then_bk, then_ct, lift_some, lift_none, toB_b, toI_i, toL_l, toT_t, toScr_s, lstOnly_l, allD_nil, allD_cons, map_some', lcG_nil, aaG_nil, forG_nil, fName_z, fName_s, fNameB_z, fNameB_zo, fNameB_s, fIsP_z, fIsP_s, aName_ap, aNil_ap, aCons_ap, aTup_ap, wipeE_nil, wipeE_cons, hEq_ii, hNe_ii, hAdd_ii, hSub_ii, hLe_ii, hLtI_ii, hGt_ii, hGe_ii, hIs_bb, hIsNot_bb, List.set_cons_zero, List.set_cons_succ, List.map_cons, List.map_nil, List.cons_append, List.nil_append, hLen_l, hLen_t, hLen_s, hTup_ap, hLst_ap, hTuple_l, hTuple_t, hList_l, hList_t, hAbs_i, hIntOf_i, hIntOf_b, hNeg_i, hIsi_int, hIsi_bool, hIsi_tuple, hIsi_list, hIsi_str, hSl_l, hSl_t, hSl_s, hIx_l0, hIx_t0, hIx_l1, hIx_t1, hIx_l2, hIx_t2, hXor_ii, sv, Option.map_some, Option.bind_some, List.length_cons, List.length_nil, reduceIte, Nat.reduceLT, Nat.reduceLeDiff, Nat.reduceAdd, Bool.false_eq_true, Bool.not_true, Bool.not_false, gAsg_ap, gUnpackLoc_ap, gStoreLoc_ap, gPar_ap, runF_fin, finR_nx, finR_rt, finR_exc, List.replicate_succ, List.replicate_zero, Nat.reduceSub, List.getElem?_cons_zero, List.getElem?_cons_succ, hLt_ii, pInt, pBool, pTup, pList, pStr, decide_eq_true_eq, fIt_ap, toS_l, toS_t, hid_ap]
theorem set_cut {c : List Int} {v x : Int} (v0 : 0 ≤ v) (vn : v < c.length) (hl : c.length ≤ 100) : hAdd (.d (.tuple (cutD (iL c) none (some v)))) (.d (.tuple [.int x])) = some (.d (.tuple (iL (c.take v.toNat ++ [x])))) ∧ hAdd (.d (.tuple (iL (c.take v.toNat ++ [x])))) (.d (.tuple (cutD (iL c) (some (v + 1)) none))) = some (.d (.tuple (iL (c.set v.toNat x)))) := by
  constructor
  · rw [cut_to v0, iL_take, hAdd_tt (by rw [iL_len, List.length_take]; simp; omega)]
    rw [show iL (c.take v.toNat) ++ [PyData.int x] = iL (c.take v.toNat ++ [x]) by rw [← iL_app]; rfl]
  · rw [cut_from (by omega), show (v + 1).toNat = v.toNat + 1 by omega, iL_drop, hAdd_tt (by rw [iL_len, iL_len, List.length_append, List.length_take, List.length_drop]; simp; omega), iL_app]
    rw [List.set_eq_take_append_cons_drop, if_pos (by omega), List.append_assoc]; rfl
def clN (n : Nat) (J : Js) (c : List Int) : List Int := (nats n).filter (clash J c)
theorem mem_cl {v : Int} : v ∈ clN n J c ↔ (0 ≤ v ∧ v < n) ∧ clash J c v = true := by
  unfold clN; rw [List.mem_filter, mem_nats]
/-- painted anew at v -/
def pt (J : Js) (c : List Int) (v : Int) : List Int := c.set v.toNat (col J c v)
theorem e_repainted (g : G n J) (hc : c.length = n) {v : Int} (h : v ∈ clN n J c) (st : Sto) : f_repainted [.d (mD n J), .d (.tuple (iL c)), .d (.int v)] st = .ok (.d (.tuple (iL (pt J c v)))) st := by
  obtain ⟨⟨v0, vn⟩, hv⟩ := mem_cl.mp h
  have n12 := g.n12
  obtain ⟨c1, _⟩ := e_colour g hc v0 vn
  obtain ⟨a1, a2⟩ := set_cut (c := c) (x := col J c v) v0 (by omega) (by omega)
  have b : nb (.int v) 0 ((n : Int) - 1) = true := by unfold nb; simp; omega
  have cl := fun st => e_clashing g hc st
  rw [show (nats n).filter (clash J c) = clN n J c from rfl] at cl
  unfold mD at *
  simp -implicitDefEqProofs -dsimp only [f_repainted, g_repainted, e_is_number, b, cl, hNotIn_ti, h, decide_true, c1, a1, a2, pt, fC_ap, fOp2_ap, fOp1_ap, fNil_ap, fCons_ap, fOpN_ap, fLst_ap, fB_ap, fAnd_ap, fOr_ap, fNot_ap, fAndV_ap, fOrV_ap, fNotV_ap, fIfE_ap, fChain_ap, fNoP_ap, fSomeP_ap, fSl_ap, fOwn_ap, fItL_ap, fItT_ap, fItScr_ap, fRng1_ap, fRng2_ap, fYes_ap, fLc_ap, fAA_ap, gSeq_ap, gNop_ap, gSet_ap, gIf_ap, gRet_ap, gRaise_ap, gExpr_ap, gBreak_ap, gCont_ap, gFor_ap, bind_ok, bind_exc, bind_no, thn_ok, thn_exc, thn_no, then_nx, then_rt, then_exc, then_bk, then_ct, lift_some, lift_none, toB_b, toI_i, toL_l, toT_t, toScr_s, lstOnly_l, allD_nil, allD_cons, map_some', lcG_nil, aaG_nil, forG_nil, fName_z, fName_s, fNameB_z, fNameB_zo, fNameB_s, fIsP_z, fIsP_s, aName_ap, aNil_ap, aCons_ap, aTup_ap, wipeE_nil, wipeE_cons, hEq_ii, hNe_ii, hAdd_ii, hSub_ii, hLe_ii, hLtI_ii, hGt_ii, hGe_ii, hIs_bb, hIsNot_bb, List.set_cons_zero, List.set_cons_succ, List.map_cons, List.map_nil, List.cons_append, List.nil_append, hLen_l, hLen_t, hLen_s, hTup_ap, hLst_ap, hTuple_l, hTuple_t, hList_l, hList_t, hAbs_i, hIntOf_i, hIntOf_b, hNeg_i, hIsi_int, hIsi_bool, hIsi_tuple, hIsi_list, hIsi_str, hSl_l, hSl_t, hSl_s, hIx_l0, hIx_t0, hIx_l1, hIx_t1, hIx_l2, hIx_t2, hXor_ii, sv, Option.map_some, Option.bind_some, List.length_cons, List.length_nil, reduceIte, Nat.reduceLT, Nat.reduceLeDiff, Nat.reduceAdd, Bool.false_eq_true, Bool.not_true, Bool.not_false, gAsg_ap, gUnpackLoc_ap, gStoreLoc_ap, gPar_ap, runF_fin, finR_nx, finR_rt, finR_exc, List.replicate_succ, List.replicate_zero, Nat.reduceSub, List.getElem?_cons_zero, List.getElem?_cons_succ, hLt_ii, pInt, pBool, pTup, pList, pStr, decide_eq_true_eq, fIt_ap, toS_l, toS_t, hid_ap]
theorem e_repainted_no (g : G n J) (hc : c.length = n) {v : PyData} (hv : nb v 0 ((n : Int) - 1) = false ∨ ∃ i : Int, v = .int i ∧ i ∉ clN n J c) (st : Sto) : f_repainted [.d (mD n J), .d (.tuple (iL c)), .d v] st = .exc "Refused" st := by
  have cl := fun st => e_clashing g hc st
  rw [show (nats n).filter (clash J c) = clN n J c from rfl] at cl
  unfold mD at *
  cases b : nb v 0 ((n : Int) - 1) with
  | false => simp -implicitDefEqProofs -dsimp only [f_repainted, g_repainted, e_is_number, b, fC_ap, fOp2_ap, fOp1_ap, fNil_ap, fCons_ap, fOpN_ap, fLst_ap, fB_ap, fAnd_ap, fOr_ap, fNot_ap, fAndV_ap, fOrV_ap, fNotV_ap, fIfE_ap, fChain_ap, fNoP_ap, fSomeP_ap, fSl_ap, fOwn_ap, fItL_ap, fItT_ap, fItScr_ap, fRng1_ap, fRng2_ap, fYes_ap, fLc_ap, fAA_ap, gSeq_ap, gNop_ap, gSet_ap, gIf_ap, gRet_ap, gRaise_ap, gExpr_ap, gBreak_ap, gCont_ap, gFor_ap, bind_ok, bind_exc, bind_no, thn_ok, thn_exc, thn_no, then_nx, then_rt, then_exc, then_bk, then_ct, lift_some, lift_none, toB_b, toI_i, toL_l, toT_t, toScr_s, lstOnly_l, allD_nil, allD_cons, map_some', lcG_nil, aaG_nil, forG_nil, fName_z, fName_s, fNameB_z, fNameB_zo, fNameB_s, fIsP_z, fIsP_s, aName_ap, aNil_ap, aCons_ap, aTup_ap, wipeE_nil, wipeE_cons, hEq_ii, hNe_ii, hAdd_ii, hSub_ii, hLe_ii, hLtI_ii, hGt_ii, hGe_ii, hIs_bb, hIsNot_bb, List.set_cons_zero, List.set_cons_succ, List.map_cons, List.map_nil, List.cons_append, List.nil_append, hLen_l, hLen_t, hLen_s, hTup_ap, hLst_ap, hTuple_l, hTuple_t, hList_l, hList_t, hAbs_i, hIntOf_i, hIntOf_b, hNeg_i, hIsi_int, hIsi_bool, hIsi_tuple, hIsi_list, hIsi_str, hSl_l, hSl_t, hSl_s, hIx_l0, hIx_t0, hIx_l1, hIx_t1, hIx_l2, hIx_t2, hXor_ii, sv, Option.map_some, Option.bind_some, List.length_cons, List.length_nil, reduceIte, Nat.reduceLT, Nat.reduceLeDiff, Nat.reduceAdd, Bool.false_eq_true, Bool.not_true, Bool.not_false, gAsg_ap, gUnpackLoc_ap, gStoreLoc_ap, gPar_ap, runF_fin, finR_nx, finR_rt, finR_exc, List.replicate_succ, List.replicate_zero, Nat.reduceSub, List.getElem?_cons_zero, List.getElem?_cons_succ, hLt_ii, pInt, pBool, pTup, pList, pStr, decide_eq_true_eq, fIt_ap, toS_l, toS_t, hid_ap]
  | true =>
    rcases hv with hv | ⟨i, rfl, hi⟩
    · rw [b] at hv; cases hv
    · simp -implicitDefEqProofs -dsimp only [f_repainted, g_repainted, e_is_number, b, cl, hNotIn_ti, hi, decide_false, fC_ap, fOp2_ap, fOp1_ap, fNil_ap, fCons_ap, fOpN_ap, fLst_ap, fB_ap, fAnd_ap, fOr_ap, fNot_ap, fAndV_ap, fOrV_ap, fNotV_ap, fIfE_ap, fChain_ap, fNoP_ap, fSomeP_ap, fSl_ap, fOwn_ap, fItL_ap, fItT_ap, fItScr_ap, fRng1_ap, fRng2_ap, fYes_ap, fLc_ap, fAA_ap, gSeq_ap, gNop_ap, gSet_ap, gIf_ap, gRet_ap, gRaise_ap, gExpr_ap, gBreak_ap, gCont_ap, gFor_ap, bind_ok, bind_exc, bind_no, thn_ok, thn_exc, thn_no, then_nx, then_rt, then_exc, then_bk, then_ct, lift_some, lift_none, toB_b, toI_i, toL_l, toT_t, toScr_s, lstOnly_l, allD_nil, allD_cons, map_some', lcG_nil, aaG_nil, forG_nil, fName_z, fName_s, fNameB_z, fNameB_zo, fNameB_s, fIsP_z, fIsP_s, aName_ap, aNil_ap, aCons_ap, aTup_ap, wipeE_nil, wipeE_cons, hEq_ii, hNe_ii, hAdd_ii, hSub_ii, hLe_ii, hLtI_ii, hGt_ii, hGe_ii, hIs_bb, hIsNot_bb, List.set_cons_zero, List.set_cons_succ, List.map_cons, List.map_nil, List.cons_append, List.nil_append, hLen_l, hLen_t, hLen_s, hTup_ap, hLst_ap, hTuple_l, hTuple_t, hList_l, hList_t, hAbs_i, hIntOf_i, hIntOf_b, hNeg_i, hIsi_int, hIsi_bool, hIsi_tuple, hIsi_list, hIsi_str, hSl_l, hSl_t, hSl_s, hIx_l0, hIx_t0, hIx_l1, hIx_t1, hIx_l2, hIx_t2, hXor_ii, sv, Option.map_some, Option.bind_some, List.length_cons, List.length_nil, reduceIte, Nat.reduceLT, Nat.reduceLeDiff, Nat.reduceAdd, Bool.false_eq_true, Bool.not_true, Bool.not_false, gAsg_ap, gUnpackLoc_ap, gStoreLoc_ap, gPar_ap, runF_fin, finR_nx, finR_rt, finR_exc, List.replicate_succ, List.replicate_zero, Nat.reduceSub, List.getElem?_cons_zero, List.getElem?_cons_succ, hLt_ii, pInt, pBool, pTup, pList, pStr, decide_eq_true_eq, fIt_ap, toS_l, toS_t, hid_ap]
def every (n : Nat) (J : Js) (c : List Int) : List Int := (nats n).map fun v => if clash J c v = true then col J c v else ga c v
theorem e_all (g : G n J) (hc : c.length = n) (st : Sto) : f_all_repainted [.d (mD n J), .d (.tuple (iL c))] st = .ok (.d (.tuple (iL (every n J c)))) st := by
  have n12 := g.n12
  have cl := fun st => e_clashing g hc st
  rw [show (nats n).filter (clash J c) = clN n J c from rfl] at cl
  have rg : ∀ st, hRng1 [.d (.int n)] st = .ok ((nats n).map PyData.int) st := fun st => by rw [hRng1_i (by omega), Int.toNat_natCast, rng_nats]; rfl
  have key : ∀ (k : SF), (∀ x4, finR false (k [.frz (.d (mD n J)), .frz (.d (.tuple (iL c))), .frz (.d (.tuple (iL (clN n J c)))), .own (.list (iL (every n J c))), x4] st) = .ok (.d (.tuple (iL (every n J c)))) st) →
      finR false ((forG (aName 4) (gAppend 3 (fIfE (fB (fOp2 hIn (fName 4) (fName 2))) (fOwn 3 f_free_colour (fCons (fName 0) (fCons (fName 1) (fCons (fName 4) fNil)))) (fOp2 hIx (fName 1) (fName 4)))) ((nats n).map PyData.int) [.frz (.d (mD n J)), .frz (.d (.tuple (iL c))), .frz (.d (.tuple (iL (clN n J c)))), .own (.list []), .un] st).andThen k) = .ok (.d (.tuple (iL (every n J c)))) st := by
    intro k hk
    refine for_pre (P := fun r => finR false r = .ok (.d (.tuple (iL (every n J c)))) st) (g := PyData.int) (I := fun pre env s => s = st ∧ ∃ x4, env = [.frz (.d (mD n J)), .frz (.d (.tuple (iL c))), .frz (.d (.tuple (iL (clN n J c)))), .own (.list (iL (pre.map fun v => if clash J c v = true then col J c v else ga c v))), x4]) (all := nats n) (pre := []) rfl ⟨rfl, _, rfl⟩ ?_ ?_
    · rintro pre v post hpv env s ⟨rfl, x4, rfl⟩
      refine ⟨_, rfl, ?_⟩
      have hv := pre_mem hpv
      have pl := pre_len hpv
      rw [nats_len] at pl
      obtain ⟨v0, vn⟩ := mem_nats.mp hv
      obtain ⟨c1, _⟩ := e_colour g hc v0 vn
      have i1 := ixg (c := c) v0 (by omega)
      have len : (iL (pre.map fun v => if clash J c v = true then col J c v else ga c v)).length < sizeLine := by rw [sv, iL_len, List.length_map]; omega
      have ap : ∀ x : Int, iL (pre.map fun v => if clash J c v = true then col J c v else ga c v) ++ [.int x] = iL ((pre.map fun v => if clash J c v = true then col J c v else ga c v) ++ [x]) := fun x => by rw [← iL_app]; rfl
      cases q : clash J c v with
      | true =>
        have m : v ∈ clN n J c := mem_cl.mpr ⟨⟨v0, vn⟩, q⟩
        unfold mD at *
        simp -implicitDefEqProofs -dsimp only [gAppend_ap, hIn_ti, m, decide_true, c1, if_pos (sv ▸ len), ap, fC_ap, fOp2_ap, fOp1_ap, fNil_ap, fCons_ap, fOpN_ap, fLst_ap, fB_ap, fAnd_ap, fOr_ap, fNot_ap, fAndV_ap, fOrV_ap, fNotV_ap, fIfE_ap, fChain_ap, fNoP_ap, fSomeP_ap, fSl_ap, fOwn_ap, fItL_ap, fItT_ap, fItScr_ap, fRng1_ap, fRng2_ap, fYes_ap, fLc_ap, fAA_ap, gSeq_ap, gNop_ap, gSet_ap, gIf_ap, gRet_ap, gRaise_ap, gExpr_ap, gBreak_ap, gCont_ap, gFor_ap, bind_ok, bind_exc, bind_no, thn_ok, thn_exc, thn_no, then_nx, then_rt, then_exc, then_bk, then_ct, lift_some, lift_none, toB_b, toI_i, toL_l, toT_t, toScr_s, lstOnly_l, allD_nil, allD_cons, map_some', lcG_nil, aaG_nil, forG_nil, fName_z, fName_s, fNameB_z, fNameB_zo, fNameB_s, fIsP_z, fIsP_s, aName_ap, aNil_ap, aCons_ap, aTup_ap, wipeE_nil, wipeE_cons, hEq_ii, hNe_ii, hAdd_ii, hSub_ii, hLe_ii, hLtI_ii, hGt_ii, hGe_ii, hIs_bb, hIsNot_bb, List.set_cons_zero, List.set_cons_succ, List.map_cons, List.map_nil, List.cons_append, List.nil_append, hLen_l, hLen_t, hLen_s, hTup_ap, hLst_ap, hTuple_l, hTuple_t, hList_l, hList_t, hAbs_i, hIntOf_i, hIntOf_b, hNeg_i, hIsi_int, hIsi_bool, hIsi_tuple, hIsi_list, hIsi_str, hSl_l, hSl_t, hSl_s, hIx_l0, hIx_t0, hIx_l1, hIx_t1, hIx_l2, hIx_t2, hXor_ii, sv, Option.map_some, Option.bind_some, List.length_cons, List.length_nil, reduceIte, Nat.reduceLT, Nat.reduceLeDiff, Nat.reduceAdd, Bool.false_eq_true, Bool.not_true, Bool.not_false, gAsg_ap, gUnpackLoc_ap, gStoreLoc_ap, gPar_ap, runF_fin, finR_nx, finR_rt, finR_exc, List.replicate_succ, List.replicate_zero, Nat.reduceSub, List.getElem?_cons_zero, List.getElem?_cons_succ, hLt_ii, pInt, pBool, pTup, pList, pStr, decide_eq_true_eq, fIt_ap, toS_l, toS_t, hid_ap]
        exact ⟨_, _, rfl, rfl, .frz (.d (.int v)), by rw [List.map_append]; simp [q]⟩
      | false =>
        have m : v ∉ clN n J c := fun h => by have := (mem_cl.mp h).2; rw [q] at this; cases this
        unfold mD at *
        simp -implicitDefEqProofs -dsimp only [gAppend_ap, hIn_ti, m, decide_false, i1, if_pos (sv ▸ len), ap, fC_ap, fOp2_ap, fOp1_ap, fNil_ap, fCons_ap, fOpN_ap, fLst_ap, fB_ap, fAnd_ap, fOr_ap, fNot_ap, fAndV_ap, fOrV_ap, fNotV_ap, fIfE_ap, fChain_ap, fNoP_ap, fSomeP_ap, fSl_ap, fOwn_ap, fItL_ap, fItT_ap, fItScr_ap, fRng1_ap, fRng2_ap, fYes_ap, fLc_ap, fAA_ap, gSeq_ap, gNop_ap, gSet_ap, gIf_ap, gRet_ap, gRaise_ap, gExpr_ap, gBreak_ap, gCont_ap, gFor_ap, bind_ok, bind_exc, bind_no, thn_ok, thn_exc, thn_no, then_nx, then_rt, then_exc, then_bk, then_ct, lift_some, lift_none, toB_b, toI_i, toL_l, toT_t, toScr_s, lstOnly_l, allD_nil, allD_cons, map_some', lcG_nil, aaG_nil, forG_nil, fName_z, fName_s, fNameB_z, fNameB_zo, fNameB_s, fIsP_z, fIsP_s, aName_ap, aNil_ap, aCons_ap, aTup_ap, wipeE_nil, wipeE_cons, hEq_ii, hNe_ii, hAdd_ii, hSub_ii, hLe_ii, hLtI_ii, hGt_ii, hGe_ii, hIs_bb, hIsNot_bb, List.set_cons_zero, List.set_cons_succ, List.map_cons, List.map_nil, List.cons_append, List.nil_append, hLen_l, hLen_t, hLen_s, hTup_ap, hLst_ap, hTuple_l, hTuple_t, hList_l, hList_t, hAbs_i, hIntOf_i, hIntOf_b, hNeg_i, hIsi_int, hIsi_bool, hIsi_tuple, hIsi_list, hIsi_str, hSl_l, hSl_t, hSl_s, hIx_l0, hIx_t0, hIx_l1, hIx_t1, hIx_l2, hIx_t2, hXor_ii, sv, Option.map_some, Option.bind_some, List.length_cons, List.length_nil, reduceIte, Nat.reduceLT, Nat.reduceLeDiff, Nat.reduceAdd, Bool.false_eq_true, Bool.not_true, Bool.not_false, gAsg_ap, gUnpackLoc_ap, gStoreLoc_ap, gPar_ap, runF_fin, finR_nx, finR_rt, finR_exc, List.replicate_succ, List.replicate_zero, Nat.reduceSub, List.getElem?_cons_zero, List.getElem?_cons_succ, hLt_ii, pInt, pBool, pTup, pList, pStr, decide_eq_true_eq, fIt_ap, toS_l, toS_t, hid_ap]
        exact ⟨_, _, rfl, rfl, .frz (.d (.int v)), by rw [List.map_append]; simp [q]⟩
    · rintro env s ⟨rfl, x4, rfl⟩
      exact hk x4
  unfold mD at *
  simp -implicitDefEqProofs -dsimp only [f_all_repainted, g_all_repainted, gOwn_ap', cl, rg, fC_ap, fOp2_ap, fOp1_ap, fNil_ap, fCons_ap, fOpN_ap, fLst_ap, fB_ap, fAnd_ap, fOr_ap, fNot_ap, fAndV_ap, fOrV_ap, fNotV_ap, fIfE_ap, fChain_ap, fNoP_ap, fSomeP_ap, fSl_ap, fOwn_ap, fItL_ap, fItT_ap, fItScr_ap, fRng1_ap, fRng2_ap, fYes_ap, fLc_ap, fAA_ap, gSeq_ap, gNop_ap, gSet_ap, gIf_ap, gRet_ap, gRaise_ap, gExpr_ap, gBreak_ap, gCont_ap, gFor_ap, bind_ok, bind_exc, bind_no, thn_ok, thn_exc, thn_no, then_nx, then_rt, then_exc, then_bk, then_ct, lift_some, lift_none, toB_b, toI_i, toL_l, toT_t, toScr_s, lstOnly_l, allD_nil, allD_cons, map_some', lcG_nil, aaG_nil, forG_nil, fName_z, fName_s, fNameB_z, fNameB_zo, fNameB_s, fIsP_z, fIsP_s, aName_ap, aNil_ap, aCons_ap, aTup_ap, wipeE_nil, wipeE_cons, hEq_ii, hNe_ii, hAdd_ii, hSub_ii, hLe_ii, hLtI_ii, hGt_ii, hGe_ii, hIs_bb, hIsNot_bb, List.set_cons_zero, List.set_cons_succ, List.map_cons, List.map_nil, List.cons_append, List.nil_append, hLen_l, hLen_t, hLen_s, hTup_ap, hLst_ap, hTuple_l, hTuple_t, hList_l, hList_t, hAbs_i, hIntOf_i, hIntOf_b, hNeg_i, hIsi_int, hIsi_bool, hIsi_tuple, hIsi_list, hIsi_str, hSl_l, hSl_t, hSl_s, hIx_l0, hIx_t0, hIx_l1, hIx_t1, hIx_l2, hIx_t2, hXor_ii, sv, Option.map_some, Option.bind_some, List.length_cons, List.length_nil, reduceIte, Nat.reduceLT, Nat.reduceLeDiff, Nat.reduceAdd, Bool.false_eq_true, Bool.not_true, Bool.not_false, gAsg_ap, gUnpackLoc_ap, gStoreLoc_ap, gPar_ap, runF_fin, finR_nx, finR_rt, finR_exc, List.replicate_succ, List.replicate_zero, Nat.reduceSub, List.getElem?_cons_zero, List.getElem?_cons_succ, hLt_ii, pInt, pBool, pTup, pList, pStr, decide_eq_true_eq, fIt_ap, toS_l, toS_t, hid_ap]
  refine key _ fun x4 => ?_
  simp -implicitDefEqProofs -dsimp only [fC_ap, fOp2_ap, fOp1_ap, fNil_ap, fCons_ap, fOpN_ap, fLst_ap, fB_ap, fAnd_ap, fOr_ap, fNot_ap, fAndV_ap, fOrV_ap, fNotV_ap, fIfE_ap, fChain_ap, fNoP_ap, fSomeP_ap, fSl_ap, fOwn_ap, fItL_ap, fItT_ap, fItScr_ap, fRng1_ap, fRng2_ap, fYes_ap, fLc_ap, fAA_ap, gSeq_ap, gNop_ap, gSet_ap, gIf_ap, gRet_ap, gRaise_ap, gExpr_ap, gBreak_ap, gCont_ap, gFor_ap, bind_ok, bind_exc, bind_no, thn_ok, thn_exc, thn_no, then_nx, then_rt, then_exc, then_bk, then_ct, lift_some, lift_none, toB_b, toI_i, toL_l, toT_t, toScr_s, lstOnly_l, allD_nil, allD_cons, map_some', lcG_nil, aaG_nil, forG_nil, fName_z, fName_s, fNameB_z, fNameB_zo, fNameB_s, fIsP_z, fIsP_s, aName_ap, aNil_ap, aCons_ap, aTup_ap, wipeE_nil, wipeE_cons, hEq_ii, hNe_ii, hAdd_ii, hSub_ii, hLe_ii, hLtI_ii, hGt_ii, hGe_ii, hIs_bb, hIsNot_bb, List.set_cons_zero, List.set_cons_succ, List.map_cons, List.map_nil, List.cons_append, List.nil_append, hLen_l, hLen_t, hLen_s, hTup_ap, hLst_ap, hTuple_l, hTuple_t, hList_l, hList_t, hAbs_i, hIntOf_i, hIntOf_b, hNeg_i, hIsi_int, hIsi_bool, hIsi_tuple, hIsi_list, hIsi_str, hSl_l, hSl_t, hSl_s, hIx_l0, hIx_t0, hIx_l1, hIx_t1, hIx_l2, hIx_t2, hXor_ii, sv, Option.map_some, Option.bind_some, List.length_cons, List.length_nil, reduceIte, Nat.reduceLT, Nat.reduceLeDiff, Nat.reduceAdd, Bool.false_eq_true, Bool.not_true, Bool.not_false, gAsg_ap, gUnpackLoc_ap, gStoreLoc_ap, gPar_ap, runF_fin, finR_nx, finR_rt, finR_exc, List.replicate_succ, List.replicate_zero, Nat.reduceSub, List.getElem?_cons_zero, List.getElem?_cons_succ, hLt_ii, pInt, pBool, pTup, pList, pStr, decide_eq_true_eq, fIt_ap, toS_l, toS_t, hid_ap]
/-! choices -/
def rsN (n : Nat) (J : Js) (c : List Int) : List Int := (nats n).filter (restl J c)
theorem mem_rs {v : Int} : v ∈ rsN n J c ↔ (0 ≤ v ∧ v < n) ∧ restl J c v = true := by
  unfold rsN; rw [List.mem_filter, mem_nats]
theorem inn_map (v : Int) : inn J c v = decide ((1 : Int) ∈ (beside J v).map (ga c)) := by
  unfold inn
  rw [Bool.eq_iff_iff, List.any_eq_true, decide_eq_true_eq, List.mem_map]
  exact ⟨fun ⟨u, h1, h2⟩ => ⟨u, h1, of_decide_eq_true h2⟩, fun ⟨u, h1, h2⟩ => ⟨u, h1, decide_eq_true h2⟩⟩
theorem rest_eq (v : Int) : decide (decide (ga c v = 1) = inn J c v) = restl J c v := by
  unfold restl
  rw [Bool.eq_iff_iff, decide_eq_true_eq, beq_iff_eq]
theorem e_restless (g : G n J) (hc : c.length = n) (st : Sto) : f_restless [.d (mD n J), .d (.tuple (iL c))] st = .ok (.d (.tuple (iL (rsN n J c)))) st := by
  have n12 := g.n12
  have rg : ∀ st, hRng1 [.d (.int n)] st = .ok ((nats n).map PyData.int) st := fun st => by rw [hRng1_i (by omega), Int.toNat_natCast, rng_nats]; rfl
  have jo := fun v st => e_joined (n := n) (J := J) g.jl v st
  have lt : ∀ (v : Int) (xs x4 : DL.Slot) st, lcG (aName 5) fYes (fOp2 hIx (fName 1) (fName 5)) [.frz (.d (mD n J)), .frz (.d (.tuple (iL c))), xs, .frz (.d (.int v)), x4, .un] (iL (sortI (beside J v))) [] st = .ok (.d (.list (iL ((sortI (beside J v)).map (ga c))))) st := fun v xs x4 st => by
    have bl := beside_len g v
    have sp := sortI_perm (beside J v)
    rw [lcN_ints' (fun u => .int (ga c u)) (by have := sp.length_eq; omega)]
    · unfold iL; rw [List.map_map]; rfl
    · intro u hu st
      obtain ⟨a, b, _⟩ := beside_rng g.ok (sp.mem_iff.mp hu)
      have i1 := ixg (c := c) (i := u) a (by omega)
      simp -implicitDefEqProofs -dsimp only [i1, fC_ap, fOp2_ap, fOp1_ap, fNil_ap, fCons_ap, fOpN_ap, fLst_ap, fB_ap, fAnd_ap, fOr_ap, fNot_ap, fAndV_ap, fOrV_ap, fNotV_ap, fIfE_ap, fChain_ap, fNoP_ap, fSomeP_ap, fSl_ap, fOwn_ap, fItL_ap, fItT_ap, fItScr_ap, fRng1_ap, fRng2_ap, fYes_ap, fLc_ap, fAA_ap, gSeq_ap, gNop_ap, gSet_ap, gIf_ap, gRet_ap, gRaise_ap, gExpr_ap, gBreak_ap, gCont_ap, gFor_ap, bind_ok, bind_exc, bind_no, thn_ok, thn_exc, thn_no, then_nx, then_rt, then_exc, then_bk, then_ct, lift_some, lift_none, toB_b, toI_i, toL_l, toT_t, toScr_s, lstOnly_l, allD_nil, allD_cons, map_some', lcG_nil, aaG_nil, forG_nil, fName_z, fName_s, fNameB_z, fNameB_zo, fNameB_s, fIsP_z, fIsP_s, aName_ap, aNil_ap, aCons_ap, aTup_ap, wipeE_nil, wipeE_cons, hEq_ii, hNe_ii, hAdd_ii, hSub_ii, hLe_ii, hLtI_ii, hGt_ii, hGe_ii, hIs_bb, hIsNot_bb, List.set_cons_zero, List.set_cons_succ, List.map_cons, List.map_nil, List.cons_append, List.nil_append, hLen_l, hLen_t, hLen_s, hTup_ap, hLst_ap, hTuple_l, hTuple_t, hList_l, hList_t, hAbs_i, hIntOf_i, hIntOf_b, hNeg_i, hIsi_int, hIsi_bool, hIsi_tuple, hIsi_list, hIsi_str, hSl_l, hSl_t, hSl_s, hIx_l0, hIx_t0, hIx_l1, hIx_t1, hIx_l2, hIx_t2, hXor_ii, sv, Option.map_some, Option.bind_some, List.length_cons, List.length_nil, reduceIte, Nat.reduceLT, Nat.reduceLeDiff, Nat.reduceAdd, Bool.false_eq_true, Bool.not_true, Bool.not_false, gAsg_ap, gUnpackLoc_ap, gStoreLoc_ap, gPar_ap, runF_fin, finR_nx, finR_rt, finR_exc, List.replicate_succ, List.replicate_zero, Nat.reduceSub, List.getElem?_cons_zero, List.getElem?_cons_succ, hLt_ii, pInt, pBool, pTup, pList, pStr, decide_eq_true_eq, fIt_ap, toS_l, toS_t, hid_ap]
  have key : ∀ (k : SF), (∀ x3 x4 x5, finR false (k [.frz (.d (mD n J)), .frz (.d (.tuple (iL c))), .own (.list (iL (rsN n J c))), x3, x4, x5] st) = .ok (.d (.tuple (iL (rsN n J c)))) st) →
      finR false ((forG (aName 3) (gSeq (gSet 4 (fLc (fIt (fOwn 2 f_joined_to (fCons (fName 0) (fCons (fName 3) fNil)))) (aName 5) fYes (fOp2 hIx (fName 1) (fName 5)) [5])) (gIf (fB (fOp2 hEq (fOp2 hEq (fOp2 hIx (fName 1) (fName 3)) (fC (.int 1))) (fOp2 hIn (fC (.int 1)) (fName 4)))) (gAppend 2 (fName 3)) gNop)) ((nats n).map PyData.int) [.frz (.d (mD n J)), .frz (.d (.tuple (iL c))), .own (.list []), .un, .un, .un] st).andThen k) = .ok (.d (.tuple (iL (rsN n J c)))) st := by
    intro k hk
    refine for_pre (P := fun r => finR false r = .ok (.d (.tuple (iL (rsN n J c)))) st) (g := PyData.int) (I := fun pre env s => s = st ∧ ∃ x3 x4 x5, env = [.frz (.d (mD n J)), .frz (.d (.tuple (iL c))), .own (.list (iL (pre.filter (restl J c)))), x3, x4, x5]) (all := nats n) (pre := []) rfl ⟨rfl, _, _, _, rfl⟩ ?_ ?_
    · rintro pre v post hpv env s ⟨rfl, x3, x4, x5, rfl⟩
      refine ⟨_, rfl, ?_⟩
      have pl := pre_len hpv
      rw [nats_len] at pl
      obtain ⟨v0, vn⟩ := mem_nats.mp (pre_mem hpv)
      have i1 := ixg (c := c) v0 (by omega)
      have len : (iL (pre.filter (restl J c))).length < sizeLine := by rw [sv, iL_len]; have := List.length_filter_le (restl J c) pre; omega
      have ap : iL (pre.filter (restl J c)) ++ [.int v] = iL (pre.filter (restl J c) ++ [v]) := by rw [← iL_app]; rfl
      have ms : ∀ x, x ∈ (sortI (beside J v)).map (ga c) ↔ x ∈ (beside J v).map (ga c) := fun x => ((sortI_perm (beside J v)).map _).mem_iff
      have re := rest_eq (J := J) (c := c) v
      rw [inn_map] at re
      unfold mD at *
      cases q : restl J c v with
      | true =>
        rw [q, decide_eq_true_eq] at re
        simp -implicitDefEqProofs -dsimp only [jo, lt, i1, hIn_li, ms, hEq_bb, re, decide_true, gAppend_ap, if_pos (sv ▸ len), ap, fC_ap, fOp2_ap, fOp1_ap, fNil_ap, fCons_ap, fOpN_ap, fLst_ap, fB_ap, fAnd_ap, fOr_ap, fNot_ap, fAndV_ap, fOrV_ap, fNotV_ap, fIfE_ap, fChain_ap, fNoP_ap, fSomeP_ap, fSl_ap, fOwn_ap, fItL_ap, fItT_ap, fItScr_ap, fRng1_ap, fRng2_ap, fYes_ap, fLc_ap, fAA_ap, gSeq_ap, gNop_ap, gSet_ap, gIf_ap, gRet_ap, gRaise_ap, gExpr_ap, gBreak_ap, gCont_ap, gFor_ap, bind_ok, bind_exc, bind_no, thn_ok, thn_exc, thn_no, then_nx, then_rt, then_exc, then_bk, then_ct, lift_some, lift_none, toB_b, toI_i, toL_l, toT_t, toScr_s, lstOnly_l, allD_nil, allD_cons, map_some', lcG_nil, aaG_nil, forG_nil, fName_z, fName_s, fNameB_z, fNameB_zo, fNameB_s, fIsP_z, fIsP_s, aName_ap, aNil_ap, aCons_ap, aTup_ap, wipeE_nil, wipeE_cons, hEq_ii, hNe_ii, hAdd_ii, hSub_ii, hLe_ii, hLtI_ii, hGt_ii, hGe_ii, hIs_bb, hIsNot_bb, List.set_cons_zero, List.set_cons_succ, List.map_cons, List.map_nil, List.cons_append, List.nil_append, hLen_l, hLen_t, hLen_s, hTup_ap, hLst_ap, hTuple_l, hTuple_t, hList_l, hList_t, hAbs_i, hIntOf_i, hIntOf_b, hNeg_i, hIsi_int, hIsi_bool, hIsi_tuple, hIsi_list, hIsi_str, hSl_l, hSl_t, hSl_s, hIx_l0, hIx_t0, hIx_l1, hIx_t1, hIx_l2, hIx_t2, hXor_ii, sv, Option.map_some, Option.bind_some, List.length_cons, List.length_nil, reduceIte, Nat.reduceLT, Nat.reduceLeDiff, Nat.reduceAdd, Bool.false_eq_true, Bool.not_true, Bool.not_false, gAsg_ap, gUnpackLoc_ap, gStoreLoc_ap, gPar_ap, runF_fin, finR_nx, finR_rt, finR_exc, List.replicate_succ, List.replicate_zero, Nat.reduceSub, List.getElem?_cons_zero, List.getElem?_cons_succ, hLt_ii, pInt, pBool, pTup, pList, pStr, decide_eq_true_eq, fIt_ap, toS_l, toS_t, hid_ap]
        exact ⟨_, _, rfl, rfl, .frz (.d (.int v)), .frz (.d (.list (iL ((sortI (beside J v)).map (ga c))))), x5, by rw [List.filter_append]; simp [q]⟩
      | false =>
        rw [q] at re
        have re : ¬ (decide (ga c v = 1) = decide ((1 : Int) ∈ (beside J v).map (ga c))) := of_decide_eq_false re
        simp -implicitDefEqProofs -dsimp only [jo, lt, i1, hIn_li, ms, hEq_bb, re, decide_false, fC_ap, fOp2_ap, fOp1_ap, fNil_ap, fCons_ap, fOpN_ap, fLst_ap, fB_ap, fAnd_ap, fOr_ap, fNot_ap, fAndV_ap, fOrV_ap, fNotV_ap, fIfE_ap, fChain_ap, fNoP_ap, fSomeP_ap, fSl_ap, fOwn_ap, fItL_ap, fItT_ap, fItScr_ap, fRng1_ap, fRng2_ap, fYes_ap, fLc_ap, fAA_ap, gSeq_ap, gNop_ap, gSet_ap, gIf_ap, gRet_ap, gRaise_ap, gExpr_ap, gBreak_ap, gCont_ap, gFor_ap, bind_ok, bind_exc, bind_no, thn_ok, thn_exc, thn_no, then_nx, then_rt, then_exc, then_bk, then_ct, lift_some, lift_none, toB_b, toI_i, toL_l, toT_t, toScr_s, lstOnly_l, allD_nil, allD_cons, map_some', lcG_nil, aaG_nil, forG_nil, fName_z, fName_s, fNameB_z, fNameB_zo, fNameB_s, fIsP_z, fIsP_s, aName_ap, aNil_ap, aCons_ap, aTup_ap, wipeE_nil, wipeE_cons, hEq_ii, hNe_ii, hAdd_ii, hSub_ii, hLe_ii, hLtI_ii, hGt_ii, hGe_ii, hIs_bb, hIsNot_bb, List.set_cons_zero, List.set_cons_succ, List.map_cons, List.map_nil, List.cons_append, List.nil_append, hLen_l, hLen_t, hLen_s, hTup_ap, hLst_ap, hTuple_l, hTuple_t, hList_l, hList_t, hAbs_i, hIntOf_i, hIntOf_b, hNeg_i, hIsi_int, hIsi_bool, hIsi_tuple, hIsi_list, hIsi_str, hSl_l, hSl_t, hSl_s, hIx_l0, hIx_t0, hIx_l1, hIx_t1, hIx_l2, hIx_t2, hXor_ii, sv, Option.map_some, Option.bind_some, List.length_cons, List.length_nil, reduceIte, Nat.reduceLT, Nat.reduceLeDiff, Nat.reduceAdd, Bool.false_eq_true, Bool.not_true, Bool.not_false, gAsg_ap, gUnpackLoc_ap, gStoreLoc_ap, gPar_ap, runF_fin, finR_nx, finR_rt, finR_exc, List.replicate_succ, List.replicate_zero, Nat.reduceSub, List.getElem?_cons_zero, List.getElem?_cons_succ, hLt_ii, pInt, pBool, pTup, pList, pStr, decide_eq_true_eq, fIt_ap, toS_l, toS_t, hid_ap]
        exact ⟨_, _, rfl, rfl, .frz (.d (.int v)), .frz (.d (.list (iL ((sortI (beside J v)).map (ga c))))), x5, by rw [List.filter_append]; simp [q]⟩
    · rintro env s ⟨rfl, x3, x4, x5, rfl⟩
      exact hk x3 x4 x5
  unfold mD at *
  simp -implicitDefEqProofs -dsimp only [f_restless, g_restless, gOwn_ap', rg, fC_ap, fOp2_ap, fOp1_ap, fNil_ap, fCons_ap, fOpN_ap, fLst_ap, fB_ap, fAnd_ap, fOr_ap, fNot_ap, fAndV_ap, fOrV_ap, fNotV_ap, fIfE_ap, fChain_ap, fNoP_ap, fSomeP_ap, fSl_ap, fOwn_ap, fItL_ap, fItT_ap, fItScr_ap, fRng1_ap, fRng2_ap, fYes_ap, fLc_ap, fAA_ap, gSeq_ap, gNop_ap, gSet_ap, gIf_ap, gRet_ap, gRaise_ap, gExpr_ap, gBreak_ap, gCont_ap, gFor_ap, bind_ok, bind_exc, bind_no, thn_ok, thn_exc, thn_no, then_nx, then_rt, then_exc, then_bk, then_ct, lift_some, lift_none, toB_b, toI_i, toL_l, toT_t, toScr_s, lstOnly_l, allD_nil, allD_cons, map_some', lcG_nil, aaG_nil, forG_nil, fName_z, fName_s, fNameB_z, fNameB_zo, fNameB_s, fIsP_z, fIsP_s, aName_ap, aNil_ap, aCons_ap, aTup_ap, wipeE_nil, wipeE_cons, hEq_ii, hNe_ii, hAdd_ii, hSub_ii, hLe_ii, hLtI_ii, hGt_ii, hGe_ii, hIs_bb, hIsNot_bb, List.set_cons_zero, List.set_cons_succ, List.map_cons, List.map_nil, List.cons_append, List.nil_append, hLen_l, hLen_t, hLen_s, hTup_ap, hLst_ap, hTuple_l, hTuple_t, hList_l, hList_t, hAbs_i, hIntOf_i, hIntOf_b, hNeg_i, hIsi_int, hIsi_bool, hIsi_tuple, hIsi_list, hIsi_str, hSl_l, hSl_t, hSl_s, hIx_l0, hIx_t0, hIx_l1, hIx_t1, hIx_l2, hIx_t2, hXor_ii, sv, Option.map_some, Option.bind_some, List.length_cons, List.length_nil, reduceIte, Nat.reduceLT, Nat.reduceLeDiff, Nat.reduceAdd, Bool.false_eq_true, Bool.not_true, Bool.not_false, gAsg_ap, gUnpackLoc_ap, gStoreLoc_ap, gPar_ap, runF_fin, finR_nx, finR_rt, finR_exc, List.replicate_succ, List.replicate_zero, Nat.reduceSub, List.getElem?_cons_zero, List.getElem?_cons_succ, hLt_ii, pInt, pBool, pTup, pList, pStr, decide_eq_true_eq, fIt_ap, toS_l, toS_t, hid_ap]
  refine key _ fun x3 x4 x5 => ?_
  simp -implicitDefEqProofs -dsimp only [fC_ap, fOp2_ap, fOp1_ap, fNil_ap, fCons_ap, fOpN_ap, fLst_ap, fB_ap, fAnd_ap, fOr_ap, fNot_ap, fAndV_ap, fOrV_ap, fNotV_ap, fIfE_ap, fChain_ap, fNoP_ap, fSomeP_ap, fSl_ap, fOwn_ap, fItL_ap, fItT_ap, fItScr_ap, fRng1_ap, fRng2_ap, fYes_ap, fLc_ap, fAA_ap, gSeq_ap, gNop_ap, gSet_ap, gIf_ap, gRet_ap, gRaise_ap, gExpr_ap, gBreak_ap, gCont_ap, gFor_ap, bind_ok, bind_exc, bind_no, thn_ok, thn_exc, thn_no, then_nx, then_rt, then_exc, then_bk, then_ct, lift_some, lift_none, toB_b, toI_i, toL_l, toT_t, toScr_s, lstOnly_l, allD_nil, allD_cons, map_some', lcG_nil, aaG_nil, forG_nil, fName_z, fName_s, fNameB_z, fNameB_zo, fNameB_s, fIsP_z, fIsP_s, aName_ap, aNil_ap, aCons_ap, aTup_ap, wipeE_nil, wipeE_cons, hEq_ii, hNe_ii, hAdd_ii, hSub_ii, hLe_ii, hLtI_ii, hGt_ii, hGe_ii, hIs_bb, hIsNot_bb, List.set_cons_zero, List.set_cons_succ, List.map_cons, List.map_nil, List.cons_append, List.nil_append, hLen_l, hLen_t, hLen_s, hTup_ap, hLst_ap, hTuple_l, hTuple_t, hList_l, hList_t, hAbs_i, hIntOf_i, hIntOf_b, hNeg_i, hIsi_int, hIsi_bool, hIsi_tuple, hIsi_list, hIsi_str, hSl_l, hSl_t, hSl_s, hIx_l0, hIx_t0, hIx_l1, hIx_t1, hIx_l2, hIx_t2, hXor_ii, sv, Option.map_some, Option.bind_some, List.length_cons, List.length_nil, reduceIte, Nat.reduceLT, Nat.reduceLeDiff, Nat.reduceAdd, Bool.false_eq_true, Bool.not_true, Bool.not_false, gAsg_ap, gUnpackLoc_ap, gStoreLoc_ap, gPar_ap, runF_fin, finR_nx, finR_rt, finR_exc, List.replicate_succ, List.replicate_zero, Nat.reduceSub, List.getElem?_cons_zero, List.getElem?_cons_succ, hLt_ii, pInt, pBool, pTup, pList, pStr, decide_eq_true_eq, fIt_ap, toS_l, toS_t, hid_ap]
def tn (c : List Int) (v : Int) : List Int := c.set v.toNat (1 - ga c v)
theorem e_turned (g : G n J) (hc : c.length = n) {v : Int} (h : v ∈ rsN n J c) (st : Sto) : f_turned [.d (mD n J), .d (.tuple (iL c)), .d (.int v)] st = .ok (.d (.tuple (iL (tn c v)))) st := by
  obtain ⟨⟨v0, vn⟩, hv⟩ := mem_rs.mp h
  have n12 := g.n12
  have i1 := ixg (c := c) v0 (by omega)
  obtain ⟨a1, a2⟩ := set_cut (c := c) (x := 1 - ga c v) v0 (by omega) (by omega)
  have b : nb (.int v) 0 ((n : Int) - 1) = true := by unfold nb; simp; omega
  have rs := fun st => e_restless g hc st
  unfold mD at *
  simp -implicitDefEqProofs -dsimp only [f_turned, g_turned, e_is_number, b, rs, hNotIn_ti, h, decide_true, i1, a1, a2, tn, fC_ap, fOp2_ap, fOp1_ap, fNil_ap, fCons_ap, fOpN_ap, fLst_ap, fB_ap, fAnd_ap, fOr_ap, fNot_ap, fAndV_ap, fOrV_ap, fNotV_ap, fIfE_ap, fChain_ap, fNoP_ap, fSomeP_ap, fSl_ap, fOwn_ap, fItL_ap, fItT_ap, fItScr_ap, fRng1_ap, fRng2_ap, fYes_ap, fLc_ap, fAA_ap, gSeq_ap, gNop_ap, gSet_ap, gIf_ap, gRet_ap, gRaise_ap, gExpr_ap, gBreak_ap, gCont_ap, gFor_ap, bind_ok, bind_exc, bind_no, thn_ok, thn_exc, thn_no, then_nx, then_rt, then_exc, then_bk, then_ct, lift_some, lift_none, toB_b, toI_i, toL_l, toT_t, toScr_s, lstOnly_l, allD_nil, allD_cons, map_some', lcG_nil, aaG_nil, forG_nil, fName_z, fName_s, fNameB_z, fNameB_zo, fNameB_s, fIsP_z, fIsP_s, aName_ap, aNil_ap, aCons_ap, aTup_ap, wipeE_nil, wipeE_cons, hEq_ii, hNe_ii, hAdd_ii, hSub_ii, hLe_ii, hLtI_ii, hGt_ii, hGe_ii, hIs_bb, hIsNot_bb, List.set_cons_zero, List.set_cons_succ, List.map_cons, List.map_nil, List.cons_append, List.nil_append, hLen_l, hLen_t, hLen_s, hTup_ap, hLst_ap, hTuple_l, hTuple_t, hList_l, hList_t, hAbs_i, hIntOf_i, hIntOf_b, hNeg_i, hIsi_int, hIsi_bool, hIsi_tuple, hIsi_list, hIsi_str, hSl_l, hSl_t, hSl_s, hIx_l0, hIx_t0, hIx_l1, hIx_t1, hIx_l2, hIx_t2, hXor_ii, sv, Option.map_some, Option.bind_some, List.length_cons, List.length_nil, reduceIte, Nat.reduceLT, Nat.reduceLeDiff, Nat.reduceAdd, Bool.false_eq_true, Bool.not_true, Bool.not_false, gAsg_ap, gUnpackLoc_ap, gStoreLoc_ap, gPar_ap, runF_fin, finR_nx, finR_rt, finR_exc, List.replicate_succ, List.replicate_zero, Nat.reduceSub, List.getElem?_cons_zero, List.getElem?_cons_succ, hLt_ii, pInt, pBool, pTup, pList, pStr, decide_eq_true_eq, fIt_ap, toS_l, toS_t, hid_ap]
theorem e_turned_no (g : G n J) (hc : c.length = n) {v : PyData} (hv : nb v 0 ((n : Int) - 1) = false ∨ ∃ i : Int, v = .int i ∧ i ∉ rsN n J c) (st : Sto) : f_turned [.d (mD n J), .d (.tuple (iL c)), .d v] st = .exc "Refused" st := by
  have rs := fun st => e_restless g hc st
  unfold mD at *
  cases b : nb v 0 ((n : Int) - 1) with
  | false => simp -implicitDefEqProofs -dsimp only [f_turned, g_turned, e_is_number, b, fC_ap, fOp2_ap, fOp1_ap, fNil_ap, fCons_ap, fOpN_ap, fLst_ap, fB_ap, fAnd_ap, fOr_ap, fNot_ap, fAndV_ap, fOrV_ap, fNotV_ap, fIfE_ap, fChain_ap, fNoP_ap, fSomeP_ap, fSl_ap, fOwn_ap, fItL_ap, fItT_ap, fItScr_ap, fRng1_ap, fRng2_ap, fYes_ap, fLc_ap, fAA_ap, gSeq_ap, gNop_ap, gSet_ap, gIf_ap, gRet_ap, gRaise_ap, gExpr_ap, gBreak_ap, gCont_ap, gFor_ap, bind_ok, bind_exc, bind_no, thn_ok, thn_exc, thn_no, then_nx, then_rt, then_exc, then_bk, then_ct, lift_some, lift_none, toB_b, toI_i, toL_l, toT_t, toScr_s, lstOnly_l, allD_nil, allD_cons, map_some', lcG_nil, aaG_nil, forG_nil, fName_z, fName_s, fNameB_z, fNameB_zo, fNameB_s, fIsP_z, fIsP_s, aName_ap, aNil_ap, aCons_ap, aTup_ap, wipeE_nil, wipeE_cons, hEq_ii, hNe_ii, hAdd_ii, hSub_ii, hLe_ii, hLtI_ii, hGt_ii, hGe_ii, hIs_bb, hIsNot_bb, List.set_cons_zero, List.set_cons_succ, List.map_cons, List.map_nil, List.cons_append, List.nil_append, hLen_l, hLen_t, hLen_s, hTup_ap, hLst_ap, hTuple_l, hTuple_t, hList_l, hList_t, hAbs_i, hIntOf_i, hIntOf_b, hNeg_i, hIsi_int, hIsi_bool, hIsi_tuple, hIsi_list, hIsi_str, hSl_l, hSl_t, hSl_s, hIx_l0, hIx_t0, hIx_l1, hIx_t1, hIx_l2, hIx_t2, hXor_ii, sv, Option.map_some, Option.bind_some, List.length_cons, List.length_nil, reduceIte, Nat.reduceLT, Nat.reduceLeDiff, Nat.reduceAdd, Bool.false_eq_true, Bool.not_true, Bool.not_false, gAsg_ap, gUnpackLoc_ap, gStoreLoc_ap, gPar_ap, runF_fin, finR_nx, finR_rt, finR_exc, List.replicate_succ, List.replicate_zero, Nat.reduceSub, List.getElem?_cons_zero, List.getElem?_cons_succ, hLt_ii, pInt, pBool, pTup, pList, pStr, decide_eq_true_eq, fIt_ap, toS_l, toS_t, hid_ap]
  | true =>
    rcases hv with hv | ⟨i, rfl, hi⟩
    · rw [b] at hv; cases hv
    · simp -implicitDefEqProofs -dsimp only [f_turned, g_turned, e_is_number, b, rs, hNotIn_ti, hi, decide_false, fC_ap, fOp2_ap, fOp1_ap, fNil_ap, fCons_ap, fOpN_ap, fLst_ap, fB_ap, fAnd_ap, fOr_ap, fNot_ap, fAndV_ap, fOrV_ap, fNotV_ap, fIfE_ap, fChain_ap, fNoP_ap, fSomeP_ap, fSl_ap, fOwn_ap, fItL_ap, fItT_ap, fItScr_ap, fRng1_ap, fRng2_ap, fYes_ap, fLc_ap, fAA_ap, gSeq_ap, gNop_ap, gSet_ap, gIf_ap, gRet_ap, gRaise_ap, gExpr_ap, gBreak_ap, gCont_ap, gFor_ap, bind_ok, bind_exc, bind_no, thn_ok, thn_exc, thn_no, then_nx, then_rt, then_exc, then_bk, then_ct, lift_some, lift_none, toB_b, toI_i, toL_l, toT_t, toScr_s, lstOnly_l, allD_nil, allD_cons, map_some', lcG_nil, aaG_nil, forG_nil, fName_z, fName_s, fNameB_z, fNameB_zo, fNameB_s, fIsP_z, fIsP_s, aName_ap, aNil_ap, aCons_ap, aTup_ap, wipeE_nil, wipeE_cons, hEq_ii, hNe_ii, hAdd_ii, hSub_ii, hLe_ii, hLtI_ii, hGt_ii, hGe_ii, hIs_bb, hIsNot_bb, List.set_cons_zero, List.set_cons_succ, List.map_cons, List.map_nil, List.cons_append, List.nil_append, hLen_l, hLen_t, hLen_s, hTup_ap, hLst_ap, hTuple_l, hTuple_t, hList_l, hList_t, hAbs_i, hIntOf_i, hIntOf_b, hNeg_i, hIsi_int, hIsi_bool, hIsi_tuple, hIsi_list, hIsi_str, hSl_l, hSl_t, hSl_s, hIx_l0, hIx_t0, hIx_l1, hIx_t1, hIx_l2, hIx_t2, hXor_ii, sv, Option.map_some, Option.bind_some, List.length_cons, List.length_nil, reduceIte, Nat.reduceLT, Nat.reduceLeDiff, Nat.reduceAdd, Bool.false_eq_true, Bool.not_true, Bool.not_false, gAsg_ap, gUnpackLoc_ap, gStoreLoc_ap, gPar_ap, runF_fin, finR_nx, finR_rt, finR_exc, List.replicate_succ, List.replicate_zero, Nat.reduceSub, List.getElem?_cons_zero, List.getElem?_cons_succ, hLt_ii, pInt, pBool, pTup, pList, pStr, decide_eq_true_eq, fIt_ap, toS_l, toS_t, hid_ap]
theorem e_settled (g : G n J) (hc : c.length = n) (st : Sto) : f_is_settled [.d (mD n J), .d (.tuple (iL c))] st = .ok (.d (.bool (decide (rsN n J c = [])))) st := by
  have rs := fun st => e_restless g hc st
  simp -implicitDefEqProofs -dsimp only [f_is_settled, g_is_settled, rs, hEq_t0, fC_ap, fOp2_ap, fOp1_ap, fNil_ap, fCons_ap, fOpN_ap, fLst_ap, fB_ap, fAnd_ap, fOr_ap, fNot_ap, fAndV_ap, fOrV_ap, fNotV_ap, fIfE_ap, fChain_ap, fNoP_ap, fSomeP_ap, fSl_ap, fOwn_ap, fItL_ap, fItT_ap, fItScr_ap, fRng1_ap, fRng2_ap, fYes_ap, fLc_ap, fAA_ap, gSeq_ap, gNop_ap, gSet_ap, gIf_ap, gRet_ap, gRaise_ap, gExpr_ap, gBreak_ap, gCont_ap, gFor_ap, bind_ok, bind_exc, bind_no, thn_ok, thn_exc, thn_no, then_nx, then_rt, then_exc, then_bk, then_ct, lift_some, lift_none, toB_b, toI_i, toL_l, toT_t, toScr_s, lstOnly_l, allD_nil, allD_cons, map_some', lcG_nil, aaG_nil, forG_nil, fName_z, fName_s, fNameB_z, fNameB_zo, fNameB_s, fIsP_z, fIsP_s, aName_ap, aNil_ap, aCons_ap, aTup_ap, wipeE_nil, wipeE_cons, hEq_ii, hNe_ii, hAdd_ii, hSub_ii, hLe_ii, hLtI_ii, hGt_ii, hGe_ii, hIs_bb, hIsNot_bb, List.set_cons_zero, List.set_cons_succ, List.map_cons, List.map_nil, List.cons_append, List.nil_append, hLen_l, hLen_t, hLen_s, hTup_ap, hLst_ap, hTuple_l, hTuple_t, hList_l, hList_t, hAbs_i, hIntOf_i, hIntOf_b, hNeg_i, hIsi_int, hIsi_bool, hIsi_tuple, hIsi_list, hIsi_str, hSl_l, hSl_t, hSl_s, hIx_l0, hIx_t0, hIx_l1, hIx_t1, hIx_l2, hIx_t2, hXor_ii, sv, Option.map_some, Option.bind_some, List.length_cons, List.length_nil, reduceIte, Nat.reduceLT, Nat.reduceLeDiff, Nat.reduceAdd, Bool.false_eq_true, Bool.not_true, Bool.not_false, gAsg_ap, gUnpackLoc_ap, gStoreLoc_ap, gPar_ap, runF_fin, finR_nx, finR_rt, finR_exc, List.replicate_succ, List.replicate_zero, Nat.reduceSub, List.getElem?_cons_zero, List.getElem?_cons_succ, hLt_ii, pInt, pBool, pTup, pList, pStr, decide_eq_true_eq, fIt_ap, toS_l, toS_t, hid_ap]
theorem e_same (a b : Bool) (st : Sto) : f__law_same [.d (.bool a), .d (.bool b)] st = .ok (.d (.bool (decide (a = b)))) st := by
  cases a <;> cases b <;> simp -implicitDefEqProofs -dsimp only [f__law_same, g__law_same, hIs_bb, fC_ap, fOp2_ap, fOp1_ap, fNil_ap, fCons_ap, fOpN_ap, fLst_ap, fB_ap, fAnd_ap, fOr_ap, fNot_ap, fAndV_ap, fOrV_ap, fNotV_ap, fIfE_ap, fChain_ap, fNoP_ap, fSomeP_ap, fSl_ap, fOwn_ap, fItL_ap, fItT_ap, fItScr_ap, fRng1_ap, fRng2_ap, fYes_ap, fLc_ap, fAA_ap, gSeq_ap, gNop_ap, gSet_ap, gIf_ap, gRet_ap, gRaise_ap, gExpr_ap, gBreak_ap, gCont_ap, gFor_ap, bind_ok, bind_exc, bind_no, thn_ok, thn_exc, thn_no, then_nx, then_rt, then_exc, then_bk, then_ct, lift_some, lift_none, toB_b, toI_i, toL_l, toT_t, toScr_s, lstOnly_l, allD_nil, allD_cons, map_some', lcG_nil, aaG_nil, forG_nil, fName_z, fName_s, fNameB_z, fNameB_zo, fNameB_s, fIsP_z, fIsP_s, aName_ap, aNil_ap, aCons_ap, aTup_ap, wipeE_nil, wipeE_cons, hEq_ii, hNe_ii, hAdd_ii, hSub_ii, hLe_ii, hLtI_ii, hGt_ii, hGe_ii, hIs_bb, hIsNot_bb, List.set_cons_zero, List.set_cons_succ, List.map_cons, List.map_nil, List.cons_append, List.nil_append, hLen_l, hLen_t, hLen_s, hTup_ap, hLst_ap, hTuple_l, hTuple_t, hList_l, hList_t, hAbs_i, hIntOf_i, hIntOf_b, hNeg_i, hIsi_int, hIsi_bool, hIsi_tuple, hIsi_list, hIsi_str, hSl_l, hSl_t, hSl_s, hIx_l0, hIx_t0, hIx_l1, hIx_t1, hIx_l2, hIx_t2, hXor_ii, sv, Option.map_some, Option.bind_some, List.length_cons, List.length_nil, reduceIte, Nat.reduceLT, Nat.reduceLeDiff, Nat.reduceAdd, Bool.false_eq_true, Bool.not_true, Bool.not_false, gAsg_ap, gUnpackLoc_ap, gStoreLoc_ap, gPar_ap, runF_fin, finR_nx, finR_rt, finR_exc, List.replicate_succ, List.replicate_zero, Nat.reduceSub, List.getElem?_cons_zero, List.getElem?_cons_succ, hLt_ii, pInt, pBool, pTup, pList, pStr, decide_eq_true_eq, fIt_ap, toS_l, toS_t, hid_ap] <;> rfl
theorem e_int (x : PyData) (st : Sto) : f__law_int [.d x] st = .ok (.d (.bool (pInt x && !pBool x))) st := by
  cases x <;> simp -implicitDefEqProofs -dsimp only [f__law_int, g__law_int, fC_ap, fOp2_ap, fOp1_ap, fNil_ap, fCons_ap, fOpN_ap, fLst_ap, fB_ap, fAnd_ap, fOr_ap, fNot_ap, fAndV_ap, fOrV_ap, fNotV_ap, fIfE_ap, fChain_ap, fNoP_ap, fSomeP_ap, fSl_ap, fOwn_ap, fItL_ap, fItT_ap, fItScr_ap, fRng1_ap, fRng2_ap, fYes_ap, fLc_ap, fAA_ap, gSeq_ap, gNop_ap, gSet_ap, gIf_ap, gRet_ap, gRaise_ap, gExpr_ap, gBreak_ap, gCont_ap, gFor_ap, bind_ok, bind_exc, bind_no, thn_ok, thn_exc, thn_no, then_nx, then_rt, then_exc, then_bk, then_ct, lift_some, lift_none, toB_b, toI_i, toL_l, toT_t, toScr_s, lstOnly_l, allD_nil, allD_cons, map_some', lcG_nil, aaG_nil, forG_nil, fName_z, fName_s, fNameB_z, fNameB_zo, fNameB_s, fIsP_z, fIsP_s, aName_ap, aNil_ap, aCons_ap, aTup_ap, wipeE_nil, wipeE_cons, hEq_ii, hNe_ii, hAdd_ii, hSub_ii, hLe_ii, hLtI_ii, hGt_ii, hGe_ii, hIs_bb, hIsNot_bb, List.set_cons_zero, List.set_cons_succ, List.map_cons, List.map_nil, List.cons_append, List.nil_append, hLen_l, hLen_t, hLen_s, hTup_ap, hLst_ap, hTuple_l, hTuple_t, hList_l, hList_t, hAbs_i, hIntOf_i, hIntOf_b, hNeg_i, hIsi_int, hIsi_bool, hIsi_tuple, hIsi_list, hIsi_str, hSl_l, hSl_t, hSl_s, hIx_l0, hIx_t0, hIx_l1, hIx_t1, hIx_l2, hIx_t2, hXor_ii, sv, Option.map_some, Option.bind_some, List.length_cons, List.length_nil, reduceIte, Nat.reduceLT, Nat.reduceLeDiff, Nat.reduceAdd, Bool.false_eq_true, Bool.not_true, Bool.not_false, gAsg_ap, gUnpackLoc_ap, gStoreLoc_ap, gPar_ap, runF_fin, finR_nx, finR_rt, finR_exc, List.replicate_succ, List.replicate_zero, Nat.reduceSub, List.getElem?_cons_zero, List.getElem?_cons_succ, hLt_ii, pInt, pBool, pTup, pList, pStr, decide_eq_true_eq, fIt_ap, toS_l, toS_t, hid_ap] <;> rfl
theorem t_ref : told5 "Refused" = some (Str.ofString "Refused") := by decide +kernel
theorem e_moved0 (g : G n J) (hc : c.length = n) {v : Int} (h : v ∈ clN n J c) (st : Sto) : f__law_moved [.d (.int 0), .d (mD n J), .d (.tuple (iL c)), .d (.int v)] st = .ok (.d (.tuple (iL (pt J c v)))) st := by
  have r := fun st => e_repainted g hc h st
  simp -implicitDefEqProofs -dsimp only [f__law_moved, g__law_moved, gTry_ap, r, fC_ap, fOp2_ap, fOp1_ap, fNil_ap, fCons_ap, fOpN_ap, fLst_ap, fB_ap, fAnd_ap, fOr_ap, fNot_ap, fAndV_ap, fOrV_ap, fNotV_ap, fIfE_ap, fChain_ap, fNoP_ap, fSomeP_ap, fSl_ap, fOwn_ap, fItL_ap, fItT_ap, fItScr_ap, fRng1_ap, fRng2_ap, fYes_ap, fLc_ap, fAA_ap, gSeq_ap, gNop_ap, gSet_ap, gIf_ap, gRet_ap, gRaise_ap, gExpr_ap, gBreak_ap, gCont_ap, gFor_ap, bind_ok, bind_exc, bind_no, thn_ok, thn_exc, thn_no, then_nx, then_rt, then_exc, then_bk, then_ct, lift_some, lift_none, toB_b, toI_i, toL_l, toT_t, toScr_s, lstOnly_l, allD_nil, allD_cons, map_some', lcG_nil, aaG_nil, forG_nil, fName_z, fName_s, fNameB_z, fNameB_zo, fNameB_s, fIsP_z, fIsP_s, aName_ap, aNil_ap, aCons_ap, aTup_ap, wipeE_nil, wipeE_cons, hEq_ii, hNe_ii, hAdd_ii, hSub_ii, hLe_ii, hLtI_ii, hGt_ii, hGe_ii, hIs_bb, hIsNot_bb, List.set_cons_zero, List.set_cons_succ, List.map_cons, List.map_nil, List.cons_append, List.nil_append, hLen_l, hLen_t, hLen_s, hTup_ap, hLst_ap, hTuple_l, hTuple_t, hList_l, hList_t, hAbs_i, hIntOf_i, hIntOf_b, hNeg_i, hIsi_int, hIsi_bool, hIsi_tuple, hIsi_list, hIsi_str, hSl_l, hSl_t, hSl_s, hIx_l0, hIx_t0, hIx_l1, hIx_t1, hIx_l2, hIx_t2, hXor_ii, sv, Option.map_some, Option.bind_some, List.length_cons, List.length_nil, reduceIte, Nat.reduceLT, Nat.reduceLeDiff, Nat.reduceAdd, Bool.false_eq_true, Bool.not_true, Bool.not_false, gAsg_ap, gUnpackLoc_ap, gStoreLoc_ap, gPar_ap, runF_fin, finR_nx, finR_rt, finR_exc, List.replicate_succ, List.replicate_zero, Nat.reduceSub, List.getElem?_cons_zero, List.getElem?_cons_succ, hLt_ii, pInt, pBool, pTup, pList, pStr, decide_eq_true_eq, fIt_ap, toS_l, toS_t, hid_ap]
theorem e_moved0_no (g : G n J) (hc : c.length = n) {v : PyData} (hv : nb v 0 ((n : Int) - 1) = false ∨ ∃ i : Int, v = .int i ∧ i ∉ clN n J c) (st : Sto) : f__law_moved [.d (.int 0), .d (mD n J), .d (.tuple (iL c)), .d v] st = .ok (.d (.str "Refused")) st := by
  have r := fun st => e_repainted_no g hc hv st
  simp -implicitDefEqProofs -dsimp only [f__law_moved, g__law_moved, gTry_ap, r, t_ref, fC_ap, fOp2_ap, fOp1_ap, fNil_ap, fCons_ap, fOpN_ap, fLst_ap, fB_ap, fAnd_ap, fOr_ap, fNot_ap, fAndV_ap, fOrV_ap, fNotV_ap, fIfE_ap, fChain_ap, fNoP_ap, fSomeP_ap, fSl_ap, fOwn_ap, fItL_ap, fItT_ap, fItScr_ap, fRng1_ap, fRng2_ap, fYes_ap, fLc_ap, fAA_ap, gSeq_ap, gNop_ap, gSet_ap, gIf_ap, gRet_ap, gRaise_ap, gExpr_ap, gBreak_ap, gCont_ap, gFor_ap, bind_ok, bind_exc, bind_no, thn_ok, thn_exc, thn_no, then_nx, then_rt, then_exc, then_bk, then_ct, lift_some, lift_none, toB_b, toI_i, toL_l, toT_t, toScr_s, lstOnly_l, allD_nil, allD_cons, map_some', lcG_nil, aaG_nil, forG_nil, fName_z, fName_s, fNameB_z, fNameB_zo, fNameB_s, fIsP_z, fIsP_s, aName_ap, aNil_ap, aCons_ap, aTup_ap, wipeE_nil, wipeE_cons, hEq_ii, hNe_ii, hAdd_ii, hSub_ii, hLe_ii, hLtI_ii, hGt_ii, hGe_ii, hIs_bb, hIsNot_bb, List.set_cons_zero, List.set_cons_succ, List.map_cons, List.map_nil, List.cons_append, List.nil_append, hLen_l, hLen_t, hLen_s, hTup_ap, hLst_ap, hTuple_l, hTuple_t, hList_l, hList_t, hAbs_i, hIntOf_i, hIntOf_b, hNeg_i, hIsi_int, hIsi_bool, hIsi_tuple, hIsi_list, hIsi_str, hSl_l, hSl_t, hSl_s, hIx_l0, hIx_t0, hIx_l1, hIx_t1, hIx_l2, hIx_t2, hXor_ii, sv, Option.map_some, Option.bind_some, List.length_cons, List.length_nil, reduceIte, Nat.reduceLT, Nat.reduceLeDiff, Nat.reduceAdd, Bool.false_eq_true, Bool.not_true, Bool.not_false, gAsg_ap, gUnpackLoc_ap, gStoreLoc_ap, gPar_ap, runF_fin, finR_nx, finR_rt, finR_exc, List.replicate_succ, List.replicate_zero, Nat.reduceSub, List.getElem?_cons_zero, List.getElem?_cons_succ, hLt_ii, pInt, pBool, pTup, pList, pStr, decide_eq_true_eq, fIt_ap, toS_l, toS_t, hid_ap]
theorem e_moved1 (g : G n J) (hc : c.length = n) {v : Int} (h : v ∈ rsN n J c) (st : Sto) : f__law_moved [.d (.int 1), .d (mD n J), .d (.tuple (iL c)), .d (.int v)] st = .ok (.d (.tuple (iL (tn c v)))) st := by
  have r := fun st => e_turned g hc h st
  simp -implicitDefEqProofs -dsimp only [f__law_moved, g__law_moved, gTry_ap, r, Int.reduceEq, fC_ap, fOp2_ap, fOp1_ap, fNil_ap, fCons_ap, fOpN_ap, fLst_ap, fB_ap, fAnd_ap, fOr_ap, fNot_ap, fAndV_ap, fOrV_ap, fNotV_ap, fIfE_ap, fChain_ap, fNoP_ap, fSomeP_ap, fSl_ap, fOwn_ap, fItL_ap, fItT_ap, fItScr_ap, fRng1_ap, fRng2_ap, fYes_ap, fLc_ap, fAA_ap, gSeq_ap, gNop_ap, gSet_ap, gIf_ap, gRet_ap, gRaise_ap, gExpr_ap, gBreak_ap, gCont_ap, gFor_ap, bind_ok, bind_exc, bind_no, thn_ok, thn_exc, thn_no, then_nx, then_rt, then_exc, then_bk, then_ct, lift_some, lift_none, toB_b, toI_i, toL_l, toT_t, toScr_s, lstOnly_l, allD_nil, allD_cons, map_some', lcG_nil, aaG_nil, forG_nil, fName_z, fName_s, fNameB_z, fNameB_zo, fNameB_s, fIsP_z, fIsP_s, aName_ap, aNil_ap, aCons_ap, aTup_ap, wipeE_nil, wipeE_cons, hEq_ii, hNe_ii, hAdd_ii, hSub_ii, hLe_ii, hLtI_ii, hGt_ii, hGe_ii, hIs_bb, hIsNot_bb, List.set_cons_zero, List.set_cons_succ, List.map_cons, List.map_nil, List.cons_append, List.nil_append, hLen_l, hLen_t, hLen_s, hTup_ap, hLst_ap, hTuple_l, hTuple_t, hList_l, hList_t, hAbs_i, hIntOf_i, hIntOf_b, hNeg_i, hIsi_int, hIsi_bool, hIsi_tuple, hIsi_list, hIsi_str, hSl_l, hSl_t, hSl_s, hIx_l0, hIx_t0, hIx_l1, hIx_t1, hIx_l2, hIx_t2, hXor_ii, sv, Option.map_some, Option.bind_some, List.length_cons, List.length_nil, reduceIte, Nat.reduceLT, Nat.reduceLeDiff, Nat.reduceAdd, Bool.false_eq_true, Bool.not_true, Bool.not_false, gAsg_ap, gUnpackLoc_ap, gStoreLoc_ap, gPar_ap, runF_fin, finR_nx, finR_rt, finR_exc, List.replicate_succ, List.replicate_zero, Nat.reduceSub, List.getElem?_cons_zero, List.getElem?_cons_succ, hLt_ii, pInt, pBool, pTup, pList, pStr, decide_eq_true_eq, fIt_ap, toS_l, toS_t, hid_ap]
theorem e_moved1_no (g : G n J) (hc : c.length = n) {v : PyData} (hv : nb v 0 ((n : Int) - 1) = false ∨ ∃ i : Int, v = .int i ∧ i ∉ rsN n J c) (st : Sto) : f__law_moved [.d (.int 1), .d (mD n J), .d (.tuple (iL c)), .d v] st = .ok (.d (.str "Refused")) st := by
  have r := fun st => e_turned_no g hc hv st
  simp -implicitDefEqProofs -dsimp only [f__law_moved, g__law_moved, gTry_ap, r, t_ref, Int.reduceEq, fC_ap, fOp2_ap, fOp1_ap, fNil_ap, fCons_ap, fOpN_ap, fLst_ap, fB_ap, fAnd_ap, fOr_ap, fNot_ap, fAndV_ap, fOrV_ap, fNotV_ap, fIfE_ap, fChain_ap, fNoP_ap, fSomeP_ap, fSl_ap, fOwn_ap, fItL_ap, fItT_ap, fItScr_ap, fRng1_ap, fRng2_ap, fYes_ap, fLc_ap, fAA_ap, gSeq_ap, gNop_ap, gSet_ap, gIf_ap, gRet_ap, gRaise_ap, gExpr_ap, gBreak_ap, gCont_ap, gFor_ap, bind_ok, bind_exc, bind_no, thn_ok, thn_exc, thn_no, then_nx, then_rt, then_exc, then_bk, then_ct, lift_some, lift_none, toB_b, toI_i, toL_l, toT_t, toScr_s, lstOnly_l, allD_nil, allD_cons, map_some', lcG_nil, aaG_nil, forG_nil, fName_z, fName_s, fNameB_z, fNameB_zo, fNameB_s, fIsP_z, fIsP_s, aName_ap, aNil_ap, aCons_ap, aTup_ap, wipeE_nil, wipeE_cons, hEq_ii, hNe_ii, hAdd_ii, hSub_ii, hLe_ii, hLtI_ii, hGt_ii, hGe_ii, hIs_bb, hIsNot_bb, List.set_cons_zero, List.set_cons_succ, List.map_cons, List.map_nil, List.cons_append, List.nil_append, hLen_l, hLen_t, hLen_s, hTup_ap, hLst_ap, hTuple_l, hTuple_t, hList_l, hList_t, hAbs_i, hIntOf_i, hIntOf_b, hNeg_i, hIsi_int, hIsi_bool, hIsi_tuple, hIsi_list, hIsi_str, hSl_l, hSl_t, hSl_s, hIx_l0, hIx_t0, hIx_l1, hIx_t1, hIx_l2, hIx_t2, hXor_ii, sv, Option.map_some, Option.bind_some, List.length_cons, List.length_nil, reduceIte, Nat.reduceLT, Nat.reduceLeDiff, Nat.reduceAdd, Bool.false_eq_true, Bool.not_true, Bool.not_false, gAsg_ap, gUnpackLoc_ap, gStoreLoc_ap, gPar_ap, runF_fin, finR_nx, finR_rt, finR_exc, List.replicate_succ, List.replicate_zero, Nat.reduceSub, List.getElem?_cons_zero, List.getElem?_cons_succ, hLt_ii, pInt, pBool, pTup, pList, pStr, decide_eq_true_eq, fIt_ap, toS_l, toS_t, hid_ap]
end K95


set_option Elab.async false
set_option linter.all false
set_option maxRecDepth 100000
set_option maxHeartbeats 4000000
namespace K95
open PySem PySem.Spec PyProof.Rows L2 L2H DL Map
theorem dr {st : Sto} {n : Int} (g : Draws st) (h0 : 0 < n) (h1 : n < 1073741824) : ∃ (r : Int) (st' : Sto), f__law_draw [.loc, .d (.int n)] st = .ok (.d (.int r)) st' ∧ 0 ≤ r ∧ r < n ∧ Draws st' := e_draw g h0 h1
theorem e_open' {ns : List Int} (h : ScrOk ns) (st : Sto) : ∃ ds, f__law_open [.scr ns] st = .ok (.d (.list ds)) st ∧ Draws ds := e_open h st
/-! joints that are drawn -/
def KK (n : Int) (cnt : Nat) (kvs : List (List Int × PyData)) : Prop := (kvs.map (·.1)).Nodup ∧ kvs.length ≤ cnt ∧ ∀ k ∈ kvs.map (·.1), ∃ a b, k = [a, b] ∧ 0 ≤ a ∧ a < b ∧ b < n
theorem KK.put {n : Int} {cnt : Nat} {kvs : List (List Int × PyData)} (h : KK n cnt kvs) {a b : Int} (h0 : 0 ≤ a) (h1 : a < b) (h2 : b < n) : KK n (cnt + 1) (put kvs [a, b] (.bool true)) := by
  obtain ⟨nd, len, ok⟩ := h
  have pk := put_keys (kvs := kvs) (k := [a, b]) (v := PyData.bool true)
  refine ⟨?_, ?_, fun k hk => ?_⟩
  · rw [pk]
    split
    · exact nd
    · rename_i hn
      exact List.nodup_append.mpr ⟨nd, by simp, fun x hx y hy => by simp at hy; subst hy; intro e; exact hn (e ▸ hx)⟩
  · have := congrArg List.length pk
    rw [List.length_map] at this
    rw [this]
    split
    · rw [List.length_map]; omega
    · simp; omega
  · rw [pk] at hk
    split at hk
    · exact ok k hk
    · rcases List.mem_append.mp hk with h | h
      · exact ok k h
      · simp at h
        exact ⟨a, b, h, h0, h1, h2⟩
theorem KK.mono {n : Int} {a b : Nat} {kvs : List (List Int × PyData)} (h : KK n a kvs) (l : a ≤ b) : KK n b kvs := ⟨h.1, Nat.le_trans h.2.1 l, h.2.2⟩
theorem asPairs_some {L : List (List Int)} (h : ∀ l ∈ L, ∃ a b, l = [a, b] ∧ 0 ≤ a ∧ a < sB ∧ 0 ≤ b ∧ b < sB) : asPairs (L.map ptD) = some L := by
  induction L with
  | nil => rfl
  | cons l L ih =>
    obtain ⟨a, b, rfl, h1⟩ := h l (by simp)
    show (asPair (ptD [a, b])).bind (fun x => (asPairs (L.map ptD)).map (x :: ·)) = _
    rw [ih fun l hl => h l (by simp [hl])]
    have : asPair (ptD [a, b]) = some [a, b] := if_pos h1
    rw [this]; rfl
theorem hSortA_p {L : List (List Int)} (h : ∀ l ∈ L, ∃ a b, l = [a, b] ∧ 0 ≤ a ∧ a < sB ∧ 0 ≤ b ∧ b < sB) (hl : L.length < 64) : hSortA [.d (.list (L.map ptD))] = some (.d (.list ((sortP L).map ptD))) := by
  cases L with
  | nil =>
    show hSortA [.d (.list (iL []))] = _
    rw [hSortA_i]
    simp [sortI, sortP, iL]
  | cons l L =>
    have h0 : hSorted [.d (.list ((l :: L).map ptD))] = none := by
      show (asInts ((l :: L).map ptD)).map (fun ns => DV.d (.list ((sortI ns).map PyData.int))) = none
      have : asInts ((l :: L).map ptD) = none := rfl
      rw [this]; rfl
    unfold hSortA
    rw [h0]
    show (if ((l :: L).map ptD).length < 64 then (asPairs ((l :: L).map ptD)).map (fun L => DV.d (.list ((sortP L).map ptD))) else none) = _
    rw [if_pos (by simpa using hl), asPairs_some h]; rfl
def pr (l : List Int) : Int × Int := (l.getD 0 0, l.getD 1 0)
def JS (J : Js) : Prop := J.Pairwise fun p q => p.1 < q.1 ∨ (p.1 = q.1 ∧ p.2 < q.2)
theorem JS.nodup {J : Js} (h : JS J) : J.Nodup := h.imp fun {p q} z e => by subst e; omega
theorem joints_of {n : Int} {cnt : Nat} {kvs : List (List Int × PyData)} (hn : n ≤ 12) (h : KK n cnt kvs) : (sortP (kvs.map (·.1))).map ptD = ((sortP (kvs.map (·.1))).map pr).map jD ∧ JOk n ((sortP (kvs.map (·.1))).map pr) ∧ JS ((sortP (kvs.map (·.1))).map pr) ∧ ((sortP (kvs.map (·.1))).map pr).length ≤ cnt := by
  obtain ⟨nd, len, ok⟩ := h
  have pm : (sortP (kvs.map (·.1))).Perm (kvs.map (·.1)) := List.mergeSort_perm _ _
  have ok' : ∀ l ∈ sortP (kvs.map (·.1)), ∃ a b, l = [a, b] ∧ 0 ≤ a ∧ a < b ∧ b < n := fun l hl => ok l (pm.mem_iff.mp hl)
  refine ⟨?_, ?_, ?_, by rw [List.length_map, pm.length_eq, List.length_map]; exact len⟩
  · rw [List.map_map]
    apply List.map_congr_left
    intro l hl
    obtain ⟨a, b, rfl, _⟩ := ok' l hl
    rfl
  · intro p hp
    obtain ⟨l, hl, rfl⟩ := List.mem_map.mp hp
    obtain ⟨a, b, rfl, h⟩ := ok' l hl
    exact h
  · have t : (sortP (kvs.map (·.1))).Pairwise (fun a b => decide (cd a ≤ cd b) = true) := List.pairwise_mergeSort (fun a b c h1 h2 => by simp at *; omega) (fun a b => by simp; omega) _
    have nd' : (sortP (kvs.map (·.1))).Nodup := pm.nodup_iff.mpr nd
    unfold JS
    rw [List.pairwise_map]
    refine (t.and nd').imp_of_mem fun {x y} hx hy ⟨h1, h2⟩ => ?_
    obtain ⟨a, b, rfl, ha⟩ := ok' x hx
    obtain ⟨c, d, rfl, hc⟩ := ok' y hy
    have h1 : a * sB ^ 1 + (b * sB ^ 0 + 0) ≤ c * sB ^ 1 + (d * sB ^ 0 + 0) := of_decide_eq_true h1
    rw [show sB ^ 1 = sB from rfl, show sB ^ 0 = 1 from rfl] at h1
    unfold sB at h1
    show a < c ∨ (a = c ∧ b < d)
    have : ¬ (a = c ∧ b = d) := fun ⟨e1, e2⟩ => h2 (by rw [e1, e2])
    omega
theorem e_joints {n : Nat} (hn : 1 ≤ n ∧ n ≤ 12) (hg : Bool) {st : Sto} (g : Draws st) : ∃ J st', f__law_joints [.loc, .d (.int n), .d (.bool hg)] st = .ok (.d (.tuple (J.map jD))) st' ∧ JOk n J ∧ JS J ∧ J.length ≤ 24 ∧ Draws st' := by
  have r1 : ∀ st, hRng2 [.d (.int 1), .d (.int n)] st = .ok (((List.range (n - 1)).map fun k => (1 : Int) + Int.ofNat k).map PyData.int) st := fun st => by
    rw [hRng2_i (by omega), show ((n : Int) - 1).toNat = n - 1 by omega, rng_map]; rfl
  simp -implicitDefEqProofs -dsimp only [f__law_joints, g__law_joints, gDNew_ap, r1, fC_ap, fOp2_ap, fOp1_ap, fNil_ap, fCons_ap, fOpN_ap, fLst_ap, fB_ap, fAnd_ap, fOr_ap, fNot_ap, fAndV_ap, fOrV_ap, fNotV_ap, fIfE_ap, fChain_ap, fNoP_ap, fSomeP_ap, fSl_ap, fOwn_ap, fItL_ap, fItT_ap, fItScr_ap, fRng1_ap, fRng2_ap, fYes_ap, fLc_ap, fAA_ap, gSeq_ap, gNop_ap, gSet_ap, gIf_ap, gRet_ap, gRaise_ap, gExpr_ap, gBreak_ap, gCont_ap, gFor_ap, bind_ok, bind_exc, bind_no, thn_ok, thn_exc, thn_no, then_nx, then_rt, then_exc, then_bk, then_ct, lift_some, lift_none, toB_b, toI_i, toL_l, toT_t, toScr_s, lstOnly_l, allD_nil, allD_cons, map_some', lcG_nil, aaG_nil, forG_nil, fName_z, fName_s, fNameB_z, fNameB_zo, fNameB_s, fIsP_z, fIsP_s, aName_ap, aNil_ap, aCons_ap, aTup_ap, wipeE_nil, wipeE_cons, hEq_ii, hNe_ii, hAdd_ii, hSub_ii, hLe_ii, hLtI_ii, hGt_ii, hGe_ii, hIs_bb, hIsNot_bb, List.set_cons_zero, List.set_cons_succ, List.map_cons, List.map_nil, List.cons_append, List.nil_append, hLen_l, hLen_t, hLen_s, hTup_ap, hLst_ap, hTuple_l, hTuple_t, hList_l, hList_t, hAbs_i, hIntOf_i, hIntOf_b, hNeg_i, hIsi_int, hIsi_bool, hIsi_tuple, hIsi_list, hIsi_str, hSl_l, hSl_t, hSl_s, hIx_l0, hIx_t0, hIx_l1, hIx_t1, hIx_l2, hIx_t2, hXor_ii, sv, Option.map_some, Option.bind_some, List.length_cons, List.length_nil, reduceIte, Nat.reduceLT, Nat.reduceLeDiff, Nat.reduceAdd, Bool.false_eq_true, Bool.not_true, Bool.not_false, gAsg_ap, gUnpackLoc_ap, gStoreLoc_ap, gPar_ap, runF_fin, finR_nx, finR_rt, finR_exc, List.replicate_succ, List.replicate_zero, Nat.reduceSub, List.getElem?_cons_zero, List.getElem?_cons_succ, hLt_ii, pInt, pBool, pTup, pList, pStr, decide_eq_true_eq, fIt_ap, toS_l, toS_t, hid_ap]
  refine for_pre (P := fun r => ∃ J st', finR false r = .ok (.d (.tuple (J.map jD))) st' ∧ JOk n J ∧ JS J ∧ J.length ≤ 24 ∧ Draws st') (g := PyData.int) (I := fun pre env s => Draws s ∧ ∃ kvs x4 x5 x6 x7 x8, env = [.frz .loc, .frz (.d (.int n)), .frz (.d (.bool hg)), .obj false (.dt kvs), x4, x5, x6, x7, x8] ∧ KK n pre.length kvs) (all := (List.range (n - 1)).map fun k => (1 : Int) + Int.ofNat k) (pre := []) rfl ⟨g, [], _, _, _, _, _, rfl, by simp [KK]⟩ ?_ ?_
  · rintro pre v post hpv env s ⟨gs, kvs, x4, x5, x6, x7, x8, rfl, kk⟩
    refine ⟨_, rfl, ?_⟩
    have pl := pre_len hpv
    rw [List.length_map, List.length_range] at pl
    obtain ⟨j, hj, rfl⟩ := List.mem_map.mp (pre_mem hpv)
    have hj := List.mem_range.mp hj
    have jj : (1 : Int) + Int.ofNat j = ((j + 1 : Nat) : Int) := by show (1 : Int) + (j : Int) = _; omega
    rw [jj]
    have dp : ∀ a, dput (.dt kvs) (.d (.tuple [.int a, .int ((j + 1 : Nat) : Int)])) (.d (.bool true)) = some (.dt (put kvs [a, ((j + 1 : Nat) : Int)] (.bool true))) := fun a => dput_t (ns := [a, _]) (by have := kk.2.1; omega)
    cases hg with
    | true =>
      obtain ⟨a, s2, d2, a0, a1, g2⟩ := dr (n := ((j + 1 : Nat) : Int)) gs (by omega) (by omega)
      simp -implicitDefEqProofs -dsimp only [gDPut_ap, d2, dp, fC_ap, fOp2_ap, fOp1_ap, fNil_ap, fCons_ap, fOpN_ap, fLst_ap, fB_ap, fAnd_ap, fOr_ap, fNot_ap, fAndV_ap, fOrV_ap, fNotV_ap, fIfE_ap, fChain_ap, fNoP_ap, fSomeP_ap, fSl_ap, fOwn_ap, fItL_ap, fItT_ap, fItScr_ap, fRng1_ap, fRng2_ap, fYes_ap, fLc_ap, fAA_ap, gSeq_ap, gNop_ap, gSet_ap, gIf_ap, gRet_ap, gRaise_ap, gExpr_ap, gBreak_ap, gCont_ap, gFor_ap, bind_ok, bind_exc, bind_no, thn_ok, thn_exc, thn_no, then_nx, then_rt, then_exc, then_bk, then_ct, lift_some, lift_none, toB_b, toI_i, toL_l, toT_t, toScr_s, lstOnly_l, allD_nil, allD_cons, map_some', lcG_nil, aaG_nil, forG_nil, fName_z, fName_s, fNameB_z, fNameB_zo, fNameB_s, fIsP_z, fIsP_s, aName_ap, aNil_ap, aCons_ap, aTup_ap, wipeE_nil, wipeE_cons, hEq_ii, hNe_ii, hAdd_ii, hSub_ii, hLe_ii, hLtI_ii, hGt_ii, hGe_ii, hIs_bb, hIsNot_bb, List.set_cons_zero, List.set_cons_succ, List.map_cons, List.map_nil, List.cons_append, List.nil_append, hLen_l, hLen_t, hLen_s, hTup_ap, hLst_ap, hTuple_l, hTuple_t, hList_l, hList_t, hAbs_i, hIntOf_i, hIntOf_b, hNeg_i, hIsi_int, hIsi_bool, hIsi_tuple, hIsi_list, hIsi_str, hSl_l, hSl_t, hSl_s, hIx_l0, hIx_t0, hIx_l1, hIx_t1, hIx_l2, hIx_t2, hXor_ii, sv, Option.map_some, Option.bind_some, List.length_cons, List.length_nil, reduceIte, Nat.reduceLT, Nat.reduceLeDiff, Nat.reduceAdd, Bool.false_eq_true, Bool.not_true, Bool.not_false, gAsg_ap, gUnpackLoc_ap, gStoreLoc_ap, gPar_ap, runF_fin, finR_nx, finR_rt, finR_exc, List.replicate_succ, List.replicate_zero, Nat.reduceSub, List.getElem?_cons_zero, List.getElem?_cons_succ, hLt_ii, pInt, pBool, pTup, pList, pStr, decide_eq_true_eq, fIt_ap, toS_l, toS_t, hid_ap]
      exact ⟨_, _, rfl, g2, _, .frz (.d (.int ((j + 1 : Nat) : Int))), x5, x6, x7, x8, rfl, by rw [List.length_append]; exact kk.put a0 a1 (by omega)⟩
    | false =>
      obtain ⟨b, s1, d1, b0, b1, g1⟩ := dr (n := 3) gs (by decide) (by decide)
      by_cases q : 0 < b
      · obtain ⟨a, s2, d2, a0, a1, g2⟩ := dr (n := ((j + 1 : Nat) : Int)) g1 (by omega) (by omega)
        simp -implicitDefEqProofs -dsimp only [gDPut_ap, d1, q, d2, dp, decide_true, fC_ap, fOp2_ap, fOp1_ap, fNil_ap, fCons_ap, fOpN_ap, fLst_ap, fB_ap, fAnd_ap, fOr_ap, fNot_ap, fAndV_ap, fOrV_ap, fNotV_ap, fIfE_ap, fChain_ap, fNoP_ap, fSomeP_ap, fSl_ap, fOwn_ap, fItL_ap, fItT_ap, fItScr_ap, fRng1_ap, fRng2_ap, fYes_ap, fLc_ap, fAA_ap, gSeq_ap, gNop_ap, gSet_ap, gIf_ap, gRet_ap, gRaise_ap, gExpr_ap, gBreak_ap, gCont_ap, gFor_ap, bind_ok, bind_exc, bind_no, thn_ok, thn_exc, thn_no, then_nx, then_rt, then_exc, then_bk, then_ct, lift_some, lift_none, toB_b, toI_i, toL_l, toT_t, toScr_s, lstOnly_l, allD_nil, allD_cons, map_some', lcG_nil, aaG_nil, forG_nil, fName_z, fName_s, fNameB_z, fNameB_zo, fNameB_s, fIsP_z, fIsP_s, aName_ap, aNil_ap, aCons_ap, aTup_ap, wipeE_nil, wipeE_cons, hEq_ii, hNe_ii, hAdd_ii, hSub_ii, hLe_ii, hLtI_ii, hGt_ii, hGe_ii, hIs_bb, hIsNot_bb, List.set_cons_zero, List.set_cons_succ, List.map_cons, List.map_nil, List.cons_append, List.nil_append, hLen_l, hLen_t, hLen_s, hTup_ap, hLst_ap, hTuple_l, hTuple_t, hList_l, hList_t, hAbs_i, hIntOf_i, hIntOf_b, hNeg_i, hIsi_int, hIsi_bool, hIsi_tuple, hIsi_list, hIsi_str, hSl_l, hSl_t, hSl_s, hIx_l0, hIx_t0, hIx_l1, hIx_t1, hIx_l2, hIx_t2, hXor_ii, sv, Option.map_some, Option.bind_some, List.length_cons, List.length_nil, reduceIte, Nat.reduceLT, Nat.reduceLeDiff, Nat.reduceAdd, Bool.false_eq_true, Bool.not_true, Bool.not_false, gAsg_ap, gUnpackLoc_ap, gStoreLoc_ap, gPar_ap, runF_fin, finR_nx, finR_rt, finR_exc, List.replicate_succ, List.replicate_zero, Nat.reduceSub, List.getElem?_cons_zero, List.getElem?_cons_succ, hLt_ii, pInt, pBool, pTup, pList, pStr, decide_eq_true_eq, fIt_ap, toS_l, toS_t, hid_ap]
        exact ⟨_, _, rfl, g2, _, .frz (.d (.int ((j + 1 : Nat) : Int))), x5, x6, x7, x8, rfl, by rw [List.length_append]; exact kk.put a0 a1 (by omega)⟩
      · simp -implicitDefEqProofs -dsimp only [gDPut_ap, d1, q, decide_false, fC_ap, fOp2_ap, fOp1_ap, fNil_ap, fCons_ap, fOpN_ap, fLst_ap, fB_ap, fAnd_ap, fOr_ap, fNot_ap, fAndV_ap, fOrV_ap, fNotV_ap, fIfE_ap, fChain_ap, fNoP_ap, fSomeP_ap, fSl_ap, fOwn_ap, fItL_ap, fItT_ap, fItScr_ap, fRng1_ap, fRng2_ap, fYes_ap, fLc_ap, fAA_ap, gSeq_ap, gNop_ap, gSet_ap, gIf_ap, gRet_ap, gRaise_ap, gExpr_ap, gBreak_ap, gCont_ap, gFor_ap, bind_ok, bind_exc, bind_no, thn_ok, thn_exc, thn_no, then_nx, then_rt, then_exc, then_bk, then_ct, lift_some, lift_none, toB_b, toI_i, toL_l, toT_t, toScr_s, lstOnly_l, allD_nil, allD_cons, map_some', lcG_nil, aaG_nil, forG_nil, fName_z, fName_s, fNameB_z, fNameB_zo, fNameB_s, fIsP_z, fIsP_s, aName_ap, aNil_ap, aCons_ap, aTup_ap, wipeE_nil, wipeE_cons, hEq_ii, hNe_ii, hAdd_ii, hSub_ii, hLe_ii, hLtI_ii, hGt_ii, hGe_ii, hIs_bb, hIsNot_bb, List.set_cons_zero, List.set_cons_succ, List.map_cons, List.map_nil, List.cons_append, List.nil_append, hLen_l, hLen_t, hLen_s, hTup_ap, hLst_ap, hTuple_l, hTuple_t, hList_l, hList_t, hAbs_i, hIntOf_i, hIntOf_b, hNeg_i, hIsi_int, hIsi_bool, hIsi_tuple, hIsi_list, hIsi_str, hSl_l, hSl_t, hSl_s, hIx_l0, hIx_t0, hIx_l1, hIx_t1, hIx_l2, hIx_t2, hXor_ii, sv, Option.map_some, Option.bind_some, List.length_cons, List.length_nil, reduceIte, Nat.reduceLT, Nat.reduceLeDiff, Nat.reduceAdd, Bool.false_eq_true, Bool.not_true, Bool.not_false, gAsg_ap, gUnpackLoc_ap, gStoreLoc_ap, gPar_ap, runF_fin, finR_nx, finR_rt, finR_exc, List.replicate_succ, List.replicate_zero, Nat.reduceSub, List.getElem?_cons_zero, List.getElem?_cons_succ, hLt_ii, pInt, pBool, pTup, pList, pStr, decide_eq_true_eq, fIt_ap, toS_l, toS_t, hid_ap]
        exact ⟨_, _, rfl, g1, _, .frz (.d (.int ((j + 1 : Nat) : Int))), x5, x6, x7, x8, rfl, kk.mono (by simp)⟩
  · rintro env s ⟨gs, kvs, x4, x5, x6, x7, x8, rfl, kk⟩
    rw [List.length_map, List.length_range] at kk
    obtain ⟨m, s1, d1, m0, m1, g1⟩ := dr (n := (n : Int) + 1) gs (by omega) (by omega)
    have r2 : ∀ st, hRng1 [.d (.int m)] st = .ok ((nats m.toNat).map PyData.int) st := fun st => by
      rw [hRng1_i (by omega), rng_nats]; rfl
    simp -implicitDefEqProofs -dsimp only [d1, r2, fC_ap, fOp2_ap, fOp1_ap, fNil_ap, fCons_ap, fOpN_ap, fLst_ap, fB_ap, fAnd_ap, fOr_ap, fNot_ap, fAndV_ap, fOrV_ap, fNotV_ap, fIfE_ap, fChain_ap, fNoP_ap, fSomeP_ap, fSl_ap, fOwn_ap, fItL_ap, fItT_ap, fItScr_ap, fRng1_ap, fRng2_ap, fYes_ap, fLc_ap, fAA_ap, gSeq_ap, gNop_ap, gSet_ap, gIf_ap, gRet_ap, gRaise_ap, gExpr_ap, gBreak_ap, gCont_ap, gFor_ap, bind_ok, bind_exc, bind_no, thn_ok, thn_exc, thn_no, then_nx, then_rt, then_exc, then_bk, then_ct, lift_some, lift_none, toB_b, toI_i, toL_l, toT_t, toScr_s, lstOnly_l, allD_nil, allD_cons, map_some', lcG_nil, aaG_nil, forG_nil, fName_z, fName_s, fNameB_z, fNameB_zo, fNameB_s, fIsP_z, fIsP_s, aName_ap, aNil_ap, aCons_ap, aTup_ap, wipeE_nil, wipeE_cons, hEq_ii, hNe_ii, hAdd_ii, hSub_ii, hLe_ii, hLtI_ii, hGt_ii, hGe_ii, hIs_bb, hIsNot_bb, List.set_cons_zero, List.set_cons_succ, List.map_cons, List.map_nil, List.cons_append, List.nil_append, hLen_l, hLen_t, hLen_s, hTup_ap, hLst_ap, hTuple_l, hTuple_t, hList_l, hList_t, hAbs_i, hIntOf_i, hIntOf_b, hNeg_i, hIsi_int, hIsi_bool, hIsi_tuple, hIsi_list, hIsi_str, hSl_l, hSl_t, hSl_s, hIx_l0, hIx_t0, hIx_l1, hIx_t1, hIx_l2, hIx_t2, hXor_ii, sv, Option.map_some, Option.bind_some, List.length_cons, List.length_nil, reduceIte, Nat.reduceLT, Nat.reduceLeDiff, Nat.reduceAdd, Bool.false_eq_true, Bool.not_true, Bool.not_false, gAsg_ap, gUnpackLoc_ap, gStoreLoc_ap, gPar_ap, runF_fin, finR_nx, finR_rt, finR_exc, List.replicate_succ, List.replicate_zero, Nat.reduceSub, List.getElem?_cons_zero, List.getElem?_cons_succ, hLt_ii, pInt, pBool, pTup, pList, pStr, decide_eq_true_eq, fIt_ap, toS_l, toS_t, hid_ap]
    refine for_pre (P := fun r => ∃ J st', finR false r = .ok (.d (.tuple (J.map jD))) st' ∧ JOk n J ∧ JS J ∧ J.length ≤ 24 ∧ Draws st') (g := PyData.int) (I := fun pre env s => Draws s ∧ ∃ kvs x4 x5 x6 x7 x8, env = [.frz .loc, .frz (.d (.int n)), .frz (.d (.bool hg)), .obj false (.dt kvs), x4, x5, x6, x7, x8] ∧ KK n (n - 1 + pre.length) kvs) (all := nats m.toNat) (pre := []) rfl ⟨g1, kvs, _, _, _, _, _, rfl, kk⟩ ?_ ?_
    · clear kk
      rintro pre v post hpv env s ⟨gs, kvs, x4, x5, x6, x7, x8, rfl, kk⟩
      refine ⟨_, rfl, ?_⟩
      have pl := pre_len hpv
      rw [nats_len] at pl
      obtain ⟨a, s2, d2, a0, a1, g2⟩ := dr (n := (n : Int)) gs (by omega) (by omega)
      obtain ⟨b, s3, d3, b0, b1, g3⟩ := dr (n := (n : Int)) g2 (by omega) (by omega)
      have mi : hMin [.d (.int a), .d (.int b)] = some (.d (.int (if b < a then b else a))) := rfl
      have ma : hMax [.d (.int a), .d (.int b)] = some (.d (.int (if b > a then b else a))) := rfl
      have dp : ∀ x y, dput (.dt kvs) (.d (.tuple [.int x, .int y])) (.d (.bool true)) = some (.dt (put kvs [x, y] (.bool true))) := fun x y => dput_t (ns := [x, y]) (by have := kk.2.1; omega)
      by_cases q : a = b
      · simp -implicitDefEqProofs -dsimp only [gDPut_ap, d2, d3, q, decide_true, fC_ap, fOp2_ap, fOp1_ap, fNil_ap, fCons_ap, fOpN_ap, fLst_ap, fB_ap, fAnd_ap, fOr_ap, fNot_ap, fAndV_ap, fOrV_ap, fNotV_ap, fIfE_ap, fChain_ap, fNoP_ap, fSomeP_ap, fSl_ap, fOwn_ap, fItL_ap, fItT_ap, fItScr_ap, fRng1_ap, fRng2_ap, fYes_ap, fLc_ap, fAA_ap, gSeq_ap, gNop_ap, gSet_ap, gIf_ap, gRet_ap, gRaise_ap, gExpr_ap, gBreak_ap, gCont_ap, gFor_ap, bind_ok, bind_exc, bind_no, thn_ok, thn_exc, thn_no, then_nx, then_rt, then_exc, then_bk, then_ct, lift_some, lift_none, toB_b, toI_i, toL_l, toT_t, toScr_s, lstOnly_l, allD_nil, allD_cons, map_some', lcG_nil, aaG_nil, forG_nil, fName_z, fName_s, fNameB_z, fNameB_zo, fNameB_s, fIsP_z, fIsP_s, aName_ap, aNil_ap, aCons_ap, aTup_ap, wipeE_nil, wipeE_cons, hEq_ii, hNe_ii, hAdd_ii, hSub_ii, hLe_ii, hLtI_ii, hGt_ii, hGe_ii, hIs_bb, hIsNot_bb, List.set_cons_zero, List.set_cons_succ, List.map_cons, List.map_nil, List.cons_append, List.nil_append, hLen_l, hLen_t, hLen_s, hTup_ap, hLst_ap, hTuple_l, hTuple_t, hList_l, hList_t, hAbs_i, hIntOf_i, hIntOf_b, hNeg_i, hIsi_int, hIsi_bool, hIsi_tuple, hIsi_list, hIsi_str, hSl_l, hSl_t, hSl_s, hIx_l0, hIx_t0, hIx_l1, hIx_t1, hIx_l2, hIx_t2, hXor_ii, sv, Option.map_some, Option.bind_some, List.length_cons, List.length_nil, reduceIte, Nat.reduceLT, Nat.reduceLeDiff, Nat.reduceAdd, Bool.false_eq_true, Bool.not_true, Bool.not_false, gAsg_ap, gUnpackLoc_ap, gStoreLoc_ap, gPar_ap, runF_fin, finR_nx, finR_rt, finR_exc, List.replicate_succ, List.replicate_zero, Nat.reduceSub, List.getElem?_cons_zero, List.getElem?_cons_succ, hLt_ii, pInt, pBool, pTup, pList, pStr, decide_eq_true_eq, fIt_ap, toS_l, toS_t, hid_ap]
        exact ⟨_, _, rfl, g3, _, x4, .frz (.d (.int v)), .frz (.d (.int b)), .frz (.d (.int b)), x8, rfl, kk.mono (by simp)⟩
      · simp -implicitDefEqProofs -dsimp only [gDPut_ap, d2, d3, q, mi, ma, dp, decide_false, fC_ap, fOp2_ap, fOp1_ap, fNil_ap, fCons_ap, fOpN_ap, fLst_ap, fB_ap, fAnd_ap, fOr_ap, fNot_ap, fAndV_ap, fOrV_ap, fNotV_ap, fIfE_ap, fChain_ap, fNoP_ap, fSomeP_ap, fSl_ap, fOwn_ap, fItL_ap, fItT_ap, fItScr_ap, fRng1_ap, fRng2_ap, fYes_ap, fLc_ap, fAA_ap, gSeq_ap, gNop_ap, gSet_ap, gIf_ap, gRet_ap, gRaise_ap, gExpr_ap, gBreak_ap, gCont_ap, gFor_ap, bind_ok, bind_exc, bind_no, thn_ok, thn_exc, thn_no, then_nx, then_rt, then_exc, then_bk, then_ct, lift_some, lift_none, toB_b, toI_i, toL_l, toT_t, toScr_s, lstOnly_l, allD_nil, allD_cons, map_some', lcG_nil, aaG_nil, forG_nil, fName_z, fName_s, fNameB_z, fNameB_zo, fNameB_s, fIsP_z, fIsP_s, aName_ap, aNil_ap, aCons_ap, aTup_ap, wipeE_nil, wipeE_cons, hEq_ii, hNe_ii, hAdd_ii, hSub_ii, hLe_ii, hLtI_ii, hGt_ii, hGe_ii, hIs_bb, hIsNot_bb, List.set_cons_zero, List.set_cons_succ, List.map_cons, List.map_nil, List.cons_append, List.nil_append, hLen_l, hLen_t, hLen_s, hTup_ap, hLst_ap, hTuple_l, hTuple_t, hList_l, hList_t, hAbs_i, hIntOf_i, hIntOf_b, hNeg_i, hIsi_int, hIsi_bool, hIsi_tuple, hIsi_list, hIsi_str, hSl_l, hSl_t, hSl_s, hIx_l0, hIx_t0, hIx_l1, hIx_t1, hIx_l2, hIx_t2, hXor_ii, sv, Option.map_some, Option.bind_some, List.length_cons, List.length_nil, reduceIte, Nat.reduceLT, Nat.reduceLeDiff, Nat.reduceAdd, Bool.false_eq_true, Bool.not_true, Bool.not_false, gAsg_ap, gUnpackLoc_ap, gStoreLoc_ap, gPar_ap, runF_fin, finR_nx, finR_rt, finR_exc, List.replicate_succ, List.replicate_zero, Nat.reduceSub, List.getElem?_cons_zero, List.getElem?_cons_succ, hLt_ii, pInt, pBool, pTup, pList, pStr, decide_eq_true_eq, fIt_ap, toS_l, toS_t, hid_ap]
        refine ⟨_, _, rfl, g3, _, x4, .frz (.d (.int v)), .frz (.d (.int a)), .frz (.d (.int b)), x8, rfl, ?_⟩
        rw [List.length_append, ← Nat.add_assoc]
        exact kk.put (by split <;> omega) (by split <;> split <;> omega) (by split <;> omega)
    · clear kk
      rintro env s ⟨gs, kvs, x4, x5, x6, x7, x8, rfl, kk⟩
      rw [nats_len] at kk
      have kk := kk.mono (b := 24) (by omega)
      obtain ⟨j1, j2, j3, j4⟩ := joints_of (by omega) kk
      have fl : ∀ st, fLock 3 (fLc (fKeys 3) (aName 8) fYes (fName 8) [8]) [.frz .loc, .frz (.d (.int n)), .frz (.d (.bool hg)), .obj false (.dt kvs), x4, x5, x6, x7, x8] st = .ok (.d (.list ((kvs.map (·.1)).map ptD))) st := fun st => by
        have in_ : fLc (fKeys 3) (aName 8) fYes (fName 8) [8] [.frz .loc, .frz (.d (.int n)), .frz (.d (.bool hg)), .obj true (.dt kvs), x4, x5, x6, x7, x8] st = .ok (.d (.list ((kvs.map (·.1)).map ptD))) st := by
          have fk : fKeys 3 [.frz .loc, .frz (.d (.int n)), .frz (.d (.bool hg)), .obj true (.dt kvs), x4, x5, x6, x7, x8] st = .ok ((kvs.map (·.1)).map ptD) st := by
            show Res.ok (kvs.map fun p => PyData.tuple (p.1.map PyData.int)) st = _
            rw [List.map_map]; rfl
          have le : ((kvs.map (·.1)).map ptD).length ≤ 16777216 := by simp; have := kk.2.1; omega
          have lm : lcG (aName 8) fYes (fName 8) [.frz .loc, .frz (.d (.int n)), .frz (.d (.bool hg)), .obj true (.dt kvs), x4, x5, x6, x7, .un] ((kvs.map (·.1)).map ptD) [] st = .ok (.d (.list ((kvs.map (·.1)).map ptD))) st := by
            rw [lcN_map id le, List.map_id]
            intro d hd st
            simp -implicitDefEqProofs -dsimp only [id, fC_ap, fOp2_ap, fOp1_ap, fNil_ap, fCons_ap, fOpN_ap, fLst_ap, fB_ap, fAnd_ap, fOr_ap, fNot_ap, fAndV_ap, fOrV_ap, fNotV_ap, fIfE_ap, fChain_ap, fNoP_ap, fSomeP_ap, fSl_ap, fOwn_ap, fItL_ap, fItT_ap, fItScr_ap, fRng1_ap, fRng2_ap, fYes_ap, fLc_ap, fAA_ap, gSeq_ap, gNop_ap, gSet_ap, gIf_ap, gRet_ap, gRaise_ap, gExpr_ap, gBreak_ap, gCont_ap, gFor_ap, bind_ok, bind_exc, bind_no, thn_ok, thn_exc, thn_no, then_nx, then_rt, then_exc, then_bk, then_ct, lift_some, lift_none, toB_b, toI_i, toL_l, toT_t, toScr_s, lstOnly_l, allD_nil, allD_cons, map_some', lcG_nil, aaG_nil, forG_nil, fName_z, fName_s, fNameB_z, fNameB_zo, fNameB_s, fIsP_z, fIsP_s, aName_ap, aNil_ap, aCons_ap, aTup_ap, wipeE_nil, wipeE_cons, hEq_ii, hNe_ii, hAdd_ii, hSub_ii, hLe_ii, hLtI_ii, hGt_ii, hGe_ii, hIs_bb, hIsNot_bb, List.set_cons_zero, List.set_cons_succ, List.map_cons, List.map_nil, List.cons_append, List.nil_append, hLen_l, hLen_t, hLen_s, hTup_ap, hLst_ap, hTuple_l, hTuple_t, hList_l, hList_t, hAbs_i, hIntOf_i, hIntOf_b, hNeg_i, hIsi_int, hIsi_bool, hIsi_tuple, hIsi_list, hIsi_str, hSl_l, hSl_t, hSl_s, hIx_l0, hIx_t0, hIx_l1, hIx_t1, hIx_l2, hIx_t2, hXor_ii, sv, Option.map_some, Option.bind_some, List.length_cons, List.length_nil, reduceIte, Nat.reduceLT, Nat.reduceLeDiff, Nat.reduceAdd, Bool.false_eq_true, Bool.not_true, Bool.not_false, gAsg_ap, gUnpackLoc_ap, gStoreLoc_ap, gPar_ap, runF_fin, finR_nx, finR_rt, finR_exc, List.replicate_succ, List.replicate_zero, Nat.reduceSub, List.getElem?_cons_zero, List.getElem?_cons_succ, hLt_ii, pInt, pBool, pTup, pList, pStr, decide_eq_true_eq, fIt_ap, toS_l, toS_t, hid_ap]
          simp -implicitDefEqProofs -dsimp only [fk, lm, fC_ap, fOp2_ap, fOp1_ap, fNil_ap, fCons_ap, fOpN_ap, fLst_ap, fB_ap, fAnd_ap, fOr_ap, fNot_ap, fAndV_ap, fOrV_ap, fNotV_ap, fIfE_ap, fChain_ap, fNoP_ap, fSomeP_ap, fSl_ap, fOwn_ap, fItL_ap, fItT_ap, fItScr_ap, fRng1_ap, fRng2_ap, fYes_ap, fLc_ap, fAA_ap, gSeq_ap, gNop_ap, gSet_ap, gIf_ap, gRet_ap, gRaise_ap, gExpr_ap, gBreak_ap, gCont_ap, gFor_ap, bind_ok, bind_exc, bind_no, thn_ok, thn_exc, thn_no, then_nx, then_rt, then_exc, then_bk, then_ct, lift_some, lift_none, toB_b, toI_i, toL_l, toT_t, toScr_s, lstOnly_l, allD_nil, allD_cons, map_some', lcG_nil, aaG_nil, forG_nil, fName_z, fName_s, fNameB_z, fNameB_zo, fNameB_s, fIsP_z, fIsP_s, aName_ap, aNil_ap, aCons_ap, aTup_ap, wipeE_nil, wipeE_cons, hEq_ii, hNe_ii, hAdd_ii, hSub_ii, hLe_ii, hLtI_ii, hGt_ii, hGe_ii, hIs_bb, hIsNot_bb, List.set_cons_zero, List.set_cons_succ, List.map_cons, List.map_nil, List.cons_append, List.nil_append, hLen_l, hLen_t, hLen_s, hTup_ap, hLst_ap, hTuple_l, hTuple_t, hList_l, hList_t, hAbs_i, hIntOf_i, hIntOf_b, hNeg_i, hIsi_int, hIsi_bool, hIsi_tuple, hIsi_list, hIsi_str, hSl_l, hSl_t, hSl_s, hIx_l0, hIx_t0, hIx_l1, hIx_t1, hIx_l2, hIx_t2, hXor_ii, sv, Option.map_some, Option.bind_some, List.length_cons, List.length_nil, reduceIte, Nat.reduceLT, Nat.reduceLeDiff, Nat.reduceAdd, Bool.false_eq_true, Bool.not_true, Bool.not_false, gAsg_ap, gUnpackLoc_ap, gStoreLoc_ap, gPar_ap, runF_fin, finR_nx, finR_rt, finR_exc, List.replicate_succ, List.replicate_zero, Nat.reduceSub, List.getElem?_cons_zero, List.getElem?_cons_succ, hLt_ii, pInt, pBool, pTup, pList, pStr, decide_eq_true_eq, fIt_ap, toS_l, toS_t, hid_ap]
        show (match fLc (fKeys 3) (aName 8) fYes (fName 8) [8] [.frz .loc, .frz (.d (.int n)), .frz (.d (.bool hg)), .obj true (.dt kvs), x4, x5, x6, x7, x8] st with | .ok d st' => Res.ok d st' | _ => .no) = _
        rw [in_]
      have so := hSortA_p (L := kvs.map (·.1)) (fun l hl => by
        obtain ⟨a, b, rfl, h⟩ := kk.2.2 l hl
        exact ⟨a, b, rfl, by unfold sB; omega⟩) (by have := kk.2.1; simp; omega)
      simp -implicitDefEqProofs -dsimp only [fl, so, fC_ap, fOp2_ap, fOp1_ap, fNil_ap, fCons_ap, fOpN_ap, fLst_ap, fB_ap, fAnd_ap, fOr_ap, fNot_ap, fAndV_ap, fOrV_ap, fNotV_ap, fIfE_ap, fChain_ap, fNoP_ap, fSomeP_ap, fSl_ap, fOwn_ap, fItL_ap, fItT_ap, fItScr_ap, fRng1_ap, fRng2_ap, fYes_ap, fLc_ap, fAA_ap, gSeq_ap, gNop_ap, gSet_ap, gIf_ap, gRet_ap, gRaise_ap, gExpr_ap, gBreak_ap, gCont_ap, gFor_ap, bind_ok, bind_exc, bind_no, thn_ok, thn_exc, thn_no, then_nx, then_rt, then_exc, then_bk, then_ct, lift_some, lift_none, toB_b, toI_i, toL_l, toT_t, toScr_s, lstOnly_l, allD_nil, allD_cons, map_some', lcG_nil, aaG_nil, forG_nil, fName_z, fName_s, fNameB_z, fNameB_zo, fNameB_s, fIsP_z, fIsP_s, aName_ap, aNil_ap, aCons_ap, aTup_ap, wipeE_nil, wipeE_cons, hEq_ii, hNe_ii, hAdd_ii, hSub_ii, hLe_ii, hLtI_ii, hGt_ii, hGe_ii, hIs_bb, hIsNot_bb, List.set_cons_zero, List.set_cons_succ, List.map_cons, List.map_nil, List.cons_append, List.nil_append, hLen_l, hLen_t, hLen_s, hTup_ap, hLst_ap, hTuple_l, hTuple_t, hList_l, hList_t, hAbs_i, hIntOf_i, hIntOf_b, hNeg_i, hIsi_int, hIsi_bool, hIsi_tuple, hIsi_list, hIsi_str, hSl_l, hSl_t, hSl_s, hIx_l0, hIx_t0, hIx_l1, hIx_t1, hIx_l2, hIx_t2, hXor_ii, sv, Option.map_some, Option.bind_some, List.length_cons, List.length_nil, reduceIte, Nat.reduceLT, Nat.reduceLeDiff, Nat.reduceAdd, Bool.false_eq_true, Bool.not_true, Bool.not_false, gAsg_ap, gUnpackLoc_ap, gStoreLoc_ap, gPar_ap, runF_fin, finR_nx, finR_rt, finR_exc, List.replicate_succ, List.replicate_zero, Nat.reduceSub, List.getElem?_cons_zero, List.getElem?_cons_succ, hLt_ii, pInt, pBool, pTup, pList, pStr, decide_eq_true_eq, fIt_ap, toS_l, toS_t, hid_ap]
      exact ⟨_, _, by rw [j1], j2, j3, j4, gs⟩
end K95


set_option Elab.async false
set_option linter.all false
set_option maxRecDepth 100000
set_option maxHeartbeats 4000000
namespace K95
open PySem PySem.Spec PyProof.Rows L2 L2H DL Map
variable {n : Nat} {J : Js} {c : List Int}
/-! the judges -/
def rowB (n : Nat) (m : Int) (v : PyData) : Bool := match v with
  | .tuple ds => decide (ds.length = n) && ds.all fun d => nb d 0 m
  | _ => false
theorem e_row (m : Int) (v : PyData) (st : Sto) : f_is_row [.d (mD n J), .d v, .d (.int m)] st = .ok (.d (.bool (rowB n m v))) st := by
  cases v with
  | tuple ds =>
    have aa : ∀ st, aaG true (aName 3) fYes (fOwn 3 f_is_number (fCons (fName 3) (fCons (fC (.int 0)) (fCons (fName 2) fNil)))) [.frz (.d (mD n J)), .frz (.d (.tuple ds)), .frz (.d (.int m)), .un] ds st = .ok (.d (.bool (ds.all fun d => nb d 0 m))) st := fun st => by
      rw [aaG_all (a := aName 3) fun d => nb d 0 m]
      intro d hd
      exact ⟨_, rfl, fun st => by simp -implicitDefEqProofs -dsimp only [e_is_number, fC_ap, fOp2_ap, fOp1_ap, fNil_ap, fCons_ap, fOpN_ap, fLst_ap, fB_ap, fAnd_ap, fOr_ap, fNot_ap, fAndV_ap, fOrV_ap, fNotV_ap, fIfE_ap, fChain_ap, fNoP_ap, fSomeP_ap, fSl_ap, fOwn_ap, fItL_ap, fItT_ap, fItScr_ap, fRng1_ap, fRng2_ap, fYes_ap, fLc_ap, fAA_ap, gSeq_ap, gNop_ap, gSet_ap, gIf_ap, gRet_ap, gRaise_ap, gExpr_ap, gBreak_ap, gCont_ap, gFor_ap, bind_ok, bind_exc, bind_no, thn_ok, thn_exc, thn_no, then_nx, then_rt, then_exc, then_bk, then_ct, lift_some, lift_none, toB_b, toI_i, toL_l, toT_t, toScr_s, lstOnly_l, allD_nil, allD_cons, map_some', lcG_nil, aaG_nil, forG_nil, fName_z, fName_s, fNameB_z, fNameB_zo, fNameB_s, fIsP_z, fIsP_s, aName_ap, aNil_ap, aCons_ap, aTup_ap, wipeE_nil, wipeE_cons, hEq_ii, hNe_ii, hAdd_ii, hSub_ii, hLe_ii, hLtI_ii, hGt_ii, hGe_ii, hIs_bb, hIsNot_bb, List.set_cons_zero, List.set_cons_succ, List.map_cons, List.map_nil, List.cons_append, List.nil_append, hLen_l, hLen_t, hLen_s, hTup_ap, hLst_ap, hTuple_l, hTuple_t, hList_l, hList_t, hAbs_i, hIntOf_i, hIntOf_b, hNeg_i, hIsi_int, hIsi_bool, hIsi_tuple, hIsi_list, hIsi_str, hSl_l, hSl_t, hSl_s, hIx_l0, hIx_t0, hIx_l1, hIx_t1, hIx_l2, hIx_t2, hXor_ii, sv, Option.map_some, Option.bind_some, List.length_cons, List.length_nil, reduceIte, Nat.reduceLT, Nat.reduceLeDiff, Nat.reduceAdd, Bool.false_eq_true, Bool.not_true, Bool.not_false, gAsg_ap, gUnpackLoc_ap, gStoreLoc_ap, gPar_ap, runF_fin, finR_nx, finR_rt, finR_exc, List.replicate_succ, List.replicate_zero, Nat.reduceSub, List.getElem?_cons_zero, List.getElem?_cons_succ, hLt_ii, pInt, pBool, pTup, pList, pStr, decide_eq_true_eq, fIt_ap, toS_l, toS_t, hid_ap]⟩
    unfold mD at *
    by_cases h1 : ds.length = n
    · simp -implicitDefEqProofs -dsimp only [f_is_row, g_is_row, rowB, h1, aa, decide_true, Bool.true_and, fC_ap, fOp2_ap, fOp1_ap, fNil_ap, fCons_ap, fOpN_ap, fLst_ap, fB_ap, fAnd_ap, fOr_ap, fNot_ap, fAndV_ap, fOrV_ap, fNotV_ap, fIfE_ap, fChain_ap, fNoP_ap, fSomeP_ap, fSl_ap, fOwn_ap, fItL_ap, fItT_ap, fItScr_ap, fRng1_ap, fRng2_ap, fYes_ap, fLc_ap, fAA_ap, gSeq_ap, gNop_ap, gSet_ap, gIf_ap, gRet_ap, gRaise_ap, gExpr_ap, gBreak_ap, gCont_ap, gFor_ap, bind_ok, bind_exc, bind_no, thn_ok, thn_exc, thn_no, then_nx, then_rt, then_exc, then_bk, then_ct, lift_some, lift_none, toB_b, toI_i, toL_l, toT_t, toScr_s, lstOnly_l, allD_nil, allD_cons, map_some', lcG_nil, aaG_nil, forG_nil, fName_z, fName_s, fNameB_z, fNameB_zo, fNameB_s, fIsP_z, fIsP_s, aName_ap, aNil_ap, aCons_ap, aTup_ap, wipeE_nil, wipeE_cons, hEq_ii, hNe_ii, hAdd_ii, hSub_ii, hLe_ii, hLtI_ii, hGt_ii, hGe_ii, hIs_bb, hIsNot_bb, List.set_cons_zero, List.set_cons_succ, List.map_cons, List.map_nil, List.cons_append, List.nil_append, hLen_l, hLen_t, hLen_s, hTup_ap, hLst_ap, hTuple_l, hTuple_t, hList_l, hList_t, hAbs_i, hIntOf_i, hIntOf_b, hNeg_i, hIsi_int, hIsi_bool, hIsi_tuple, hIsi_list, hIsi_str, hSl_l, hSl_t, hSl_s, hIx_l0, hIx_t0, hIx_l1, hIx_t1, hIx_l2, hIx_t2, hXor_ii, sv, Option.map_some, Option.bind_some, List.length_cons, List.length_nil, reduceIte, Nat.reduceLT, Nat.reduceLeDiff, Nat.reduceAdd, Bool.false_eq_true, Bool.not_true, Bool.not_false, gAsg_ap, gUnpackLoc_ap, gStoreLoc_ap, gPar_ap, runF_fin, finR_nx, finR_rt, finR_exc, List.replicate_succ, List.replicate_zero, Nat.reduceSub, List.getElem?_cons_zero, List.getElem?_cons_succ, hLt_ii, pInt, pBool, pTup, pList, pStr, decide_eq_true_eq, fIt_ap, toS_l, toS_t, hid_ap]
    · have h2 : ¬ ((ds.length : Int) = n) := by omega
      simp -implicitDefEqProofs -dsimp only [f_is_row, g_is_row, rowB, h1, h2, decide_false, Bool.false_and, fC_ap, fOp2_ap, fOp1_ap, fNil_ap, fCons_ap, fOpN_ap, fLst_ap, fB_ap, fAnd_ap, fOr_ap, fNot_ap, fAndV_ap, fOrV_ap, fNotV_ap, fIfE_ap, fChain_ap, fNoP_ap, fSomeP_ap, fSl_ap, fOwn_ap, fItL_ap, fItT_ap, fItScr_ap, fRng1_ap, fRng2_ap, fYes_ap, fLc_ap, fAA_ap, gSeq_ap, gNop_ap, gSet_ap, gIf_ap, gRet_ap, gRaise_ap, gExpr_ap, gBreak_ap, gCont_ap, gFor_ap, bind_ok, bind_exc, bind_no, thn_ok, thn_exc, thn_no, then_nx, then_rt, then_exc, then_bk, then_ct, lift_some, lift_none, toB_b, toI_i, toL_l, toT_t, toScr_s, lstOnly_l, allD_nil, allD_cons, map_some', lcG_nil, aaG_nil, forG_nil, fName_z, fName_s, fNameB_z, fNameB_zo, fNameB_s, fIsP_z, fIsP_s, aName_ap, aNil_ap, aCons_ap, aTup_ap, wipeE_nil, wipeE_cons, hEq_ii, hNe_ii, hAdd_ii, hSub_ii, hLe_ii, hLtI_ii, hGt_ii, hGe_ii, hIs_bb, hIsNot_bb, List.set_cons_zero, List.set_cons_succ, List.map_cons, List.map_nil, List.cons_append, List.nil_append, hLen_l, hLen_t, hLen_s, hTup_ap, hLst_ap, hTuple_l, hTuple_t, hList_l, hList_t, hAbs_i, hIntOf_i, hIntOf_b, hNeg_i, hIsi_int, hIsi_bool, hIsi_tuple, hIsi_list, hIsi_str, hSl_l, hSl_t, hSl_s, hIx_l0, hIx_t0, hIx_l1, hIx_t1, hIx_l2, hIx_t2, hXor_ii, sv, Option.map_some, Option.bind_some, List.length_cons, List.length_nil, reduceIte, Nat.reduceLT, Nat.reduceLeDiff, Nat.reduceAdd, Bool.false_eq_true, Bool.not_true, Bool.not_false, gAsg_ap, gUnpackLoc_ap, gStoreLoc_ap, gPar_ap, runF_fin, finR_nx, finR_rt, finR_exc, List.replicate_succ, List.replicate_zero, Nat.reduceSub, List.getElem?_cons_zero, List.getElem?_cons_succ, hLt_ii, pInt, pBool, pTup, pList, pStr, decide_eq_true_eq, fIt_ap, toS_l, toS_t, hid_ap]
  | _ => simp -implicitDefEqProofs -dsimp only [f_is_row, g_is_row, rowB, fC_ap, fOp2_ap, fOp1_ap, fNil_ap, fCons_ap, fOpN_ap, fLst_ap, fB_ap, fAnd_ap, fOr_ap, fNot_ap, fAndV_ap, fOrV_ap, fNotV_ap, fIfE_ap, fChain_ap, fNoP_ap, fSomeP_ap, fSl_ap, fOwn_ap, fItL_ap, fItT_ap, fItScr_ap, fRng1_ap, fRng2_ap, fYes_ap, fLc_ap, fAA_ap, gSeq_ap, gNop_ap, gSet_ap, gIf_ap, gRet_ap, gRaise_ap, gExpr_ap, gBreak_ap, gCont_ap, gFor_ap, bind_ok, bind_exc, bind_no, thn_ok, thn_exc, thn_no, then_nx, then_rt, then_exc, then_bk, then_ct, lift_some, lift_none, toB_b, toI_i, toL_l, toT_t, toScr_s, lstOnly_l, allD_nil, allD_cons, map_some', lcG_nil, aaG_nil, forG_nil, fName_z, fName_s, fNameB_z, fNameB_zo, fNameB_s, fIsP_z, fIsP_s, aName_ap, aNil_ap, aCons_ap, aTup_ap, wipeE_nil, wipeE_cons, hEq_ii, hNe_ii, hAdd_ii, hSub_ii, hLe_ii, hLtI_ii, hGt_ii, hGe_ii, hIs_bb, hIsNot_bb, List.set_cons_zero, List.set_cons_succ, List.map_cons, List.map_nil, List.cons_append, List.nil_append, hLen_l, hLen_t, hLen_s, hTup_ap, hLst_ap, hTuple_l, hTuple_t, hList_l, hList_t, hAbs_i, hIntOf_i, hIntOf_b, hNeg_i, hIsi_int, hIsi_bool, hIsi_tuple, hIsi_list, hIsi_str, hSl_l, hSl_t, hSl_s, hIx_l0, hIx_t0, hIx_l1, hIx_t1, hIx_l2, hIx_t2, hXor_ii, sv, Option.map_some, Option.bind_some, List.length_cons, List.length_nil, reduceIte, Nat.reduceLT, Nat.reduceLeDiff, Nat.reduceAdd, Bool.false_eq_true, Bool.not_true, Bool.not_false, gAsg_ap, gUnpackLoc_ap, gStoreLoc_ap, gPar_ap, runF_fin, finR_nx, finR_rt, finR_exc, List.replicate_succ, List.replicate_zero, Nat.reduceSub, List.getElem?_cons_zero, List.getElem?_cons_succ, hLt_ii, pInt, pBool, pTup, pList, pStr, decide_eq_true_eq, fIt_ap, toS_l, toS_t, hid_ap]
theorem e_painting (v : PyData) (st : Sto) : f_is_painting [.d (mD n J), .d v] st = .ok (.d (.bool (rowB n 12 v))) st := by
  simp -implicitDefEqProofs -dsimp only [f_is_painting, g_is_painting, e_row, fC_ap, fOp2_ap, fOp1_ap, fNil_ap, fCons_ap, fOpN_ap, fLst_ap, fB_ap, fAnd_ap, fOr_ap, fNot_ap, fAndV_ap, fOrV_ap, fNotV_ap, fIfE_ap, fChain_ap, fNoP_ap, fSomeP_ap, fSl_ap, fOwn_ap, fItL_ap, fItT_ap, fItScr_ap, fRng1_ap, fRng2_ap, fYes_ap, fLc_ap, fAA_ap, gSeq_ap, gNop_ap, gSet_ap, gIf_ap, gRet_ap, gRaise_ap, gExpr_ap, gBreak_ap, gCont_ap, gFor_ap, bind_ok, bind_exc, bind_no, thn_ok, thn_exc, thn_no, then_nx, then_rt, then_exc, then_bk, then_ct, lift_some, lift_none, toB_b, toI_i, toL_l, toT_t, toScr_s, lstOnly_l, allD_nil, allD_cons, map_some', lcG_nil, aaG_nil, forG_nil, fName_z, fName_s, fNameB_z, fNameB_zo, fNameB_s, fIsP_z, fIsP_s, aName_ap, aNil_ap, aCons_ap, aTup_ap, wipeE_nil, wipeE_cons, hEq_ii, hNe_ii, hAdd_ii, hSub_ii, hLe_ii, hLtI_ii, hGt_ii, hGe_ii, hIs_bb, hIsNot_bb, List.set_cons_zero, List.set_cons_succ, List.map_cons, List.map_nil, List.cons_append, List.nil_append, hLen_l, hLen_t, hLen_s, hTup_ap, hLst_ap, hTuple_l, hTuple_t, hList_l, hList_t, hAbs_i, hIntOf_i, hIntOf_b, hNeg_i, hIsi_int, hIsi_bool, hIsi_tuple, hIsi_list, hIsi_str, hSl_l, hSl_t, hSl_s, hIx_l0, hIx_t0, hIx_l1, hIx_t1, hIx_l2, hIx_t2, hXor_ii, sv, Option.map_some, Option.bind_some, List.length_cons, List.length_nil, reduceIte, Nat.reduceLT, Nat.reduceLeDiff, Nat.reduceAdd, Bool.false_eq_true, Bool.not_true, Bool.not_false, gAsg_ap, gUnpackLoc_ap, gStoreLoc_ap, gPar_ap, runF_fin, finR_nx, finR_rt, finR_exc, List.replicate_succ, List.replicate_zero, Nat.reduceSub, List.getElem?_cons_zero, List.getElem?_cons_succ, hLt_ii, pInt, pBool, pTup, pList, pStr, decide_eq_true_eq, fIt_ap, toS_l, toS_t, hid_ap]
theorem e_choice (v : PyData) (st : Sto) : f_is_choice [.d (mD n J), .d v] st = .ok (.d (.bool (rowB n 1 v))) st := by
  simp -implicitDefEqProofs -dsimp only [f_is_choice, g_is_choice, e_row, fC_ap, fOp2_ap, fOp1_ap, fNil_ap, fCons_ap, fOpN_ap, fLst_ap, fB_ap, fAnd_ap, fOr_ap, fNot_ap, fAndV_ap, fOrV_ap, fNotV_ap, fIfE_ap, fChain_ap, fNoP_ap, fSomeP_ap, fSl_ap, fOwn_ap, fItL_ap, fItT_ap, fItScr_ap, fRng1_ap, fRng2_ap, fYes_ap, fLc_ap, fAA_ap, gSeq_ap, gNop_ap, gSet_ap, gIf_ap, gRet_ap, gRaise_ap, gExpr_ap, gBreak_ap, gCont_ap, gFor_ap, bind_ok, bind_exc, bind_no, thn_ok, thn_exc, thn_no, then_nx, then_rt, then_exc, then_bk, then_ct, lift_some, lift_none, toB_b, toI_i, toL_l, toT_t, toScr_s, lstOnly_l, allD_nil, allD_cons, map_some', lcG_nil, aaG_nil, forG_nil, fName_z, fName_s, fNameB_z, fNameB_zo, fNameB_s, fIsP_z, fIsP_s, aName_ap, aNil_ap, aCons_ap, aTup_ap, wipeE_nil, wipeE_cons, hEq_ii, hNe_ii, hAdd_ii, hSub_ii, hLe_ii, hLtI_ii, hGt_ii, hGe_ii, hIs_bb, hIsNot_bb, List.set_cons_zero, List.set_cons_succ, List.map_cons, List.map_nil, List.cons_append, List.nil_append, hLen_l, hLen_t, hLen_s, hTup_ap, hLst_ap, hTuple_l, hTuple_t, hList_l, hList_t, hAbs_i, hIntOf_i, hIntOf_b, hNeg_i, hIsi_int, hIsi_bool, hIsi_tuple, hIsi_list, hIsi_str, hSl_l, hSl_t, hSl_s, hIx_l0, hIx_t0, hIx_l1, hIx_t1, hIx_l2, hIx_t2, hXor_ii, sv, Option.map_some, Option.bind_some, List.length_cons, List.length_nil, reduceIte, Nat.reduceLT, Nat.reduceLeDiff, Nat.reduceAdd, Bool.false_eq_true, Bool.not_true, Bool.not_false, gAsg_ap, gUnpackLoc_ap, gStoreLoc_ap, gPar_ap, runF_fin, finR_nx, finR_rt, finR_exc, List.replicate_succ, List.replicate_zero, Nat.reduceSub, List.getElem?_cons_zero, List.getElem?_cons_succ, hLt_ii, pInt, pBool, pTup, pList, pStr, decide_eq_true_eq, fIt_ap, toS_l, toS_t, hid_ap]
def goodJ (m : Int) (d : PyData) : Bool := match d with
  | .tuple [.int a, .int b] => nb (.int a) 0 (m - 1) && (nb (.int b) 0 (m - 1) && decide (a < b))
  | _ => false
def bodyJ : SF := (gSeq (gIf (fOr (fNot (fB (fOp1 (hIsi "tuple") (fName 2)))) (fOr (fB (fOp2 hNe (fOpN hLen (fCons (fName 2) fNil)) (fC (.int 2)))) (fNot (fB (fAA true (fIt (fName 2)) (aName 3) fYes (fOwn 3 f_is_number (fCons (fName 3) (fCons (fC (.int 0)) (fCons (fOp2 hSub (fName 1) (fC (.int 1))) fNil)))) [3])))))
   (gRet (fC (.bool false)))
   gNop)
  (gIf (fB (fOp2 hGe (fOp2 hIx (fName 2) (fC (.int 0))) (fOp2 hIx (fName 2) (fC (.int 1)))))
   (gRet (fC (.bool false)))
   gNop))
theorem body_eq (v : PyData) (m : Int) (d : PyData) (x3 x4 : DL.Slot) (st : Sto) : bodyJ [.frz (.d v), .frz (.d (.int m)), .frz (.d d), x3, x4] st = if goodJ m d = true then .nx [.frz (.d v), .frz (.d (.int m)), .frz (.d d), x3, x4] st else .rt (.d (.bool false)) st := by
  have aa : ∀ (ds : List PyData) (x2 : DL.Slot) st, aaG true (aName 3) fYes (fOwn 3 f_is_number (fCons (fName 3) (fCons (fC (.int 0)) (fCons (fOp2 hSub (fName 1) (fC (.int 1))) fNil)))) [.frz (.d v), .frz (.d (.int m)), x2, .un, x4] ds st = .ok (.d (.bool (ds.all fun d => nb d 0 (m - 1)))) st := fun ds x2 st => by
    rw [aaG_all (a := aName 3) fun d => nb d 0 (m - 1)]
    intro d hd
    exact ⟨_, rfl, fun st => by simp -implicitDefEqProofs -dsimp only [e_is_number, fC_ap, fOp2_ap, fOp1_ap, fNil_ap, fCons_ap, fOpN_ap, fLst_ap, fB_ap, fAnd_ap, fOr_ap, fNot_ap, fAndV_ap, fOrV_ap, fNotV_ap, fIfE_ap, fChain_ap, fNoP_ap, fSomeP_ap, fSl_ap, fOwn_ap, fItL_ap, fItT_ap, fItScr_ap, fRng1_ap, fRng2_ap, fYes_ap, fLc_ap, fAA_ap, gSeq_ap, gNop_ap, gSet_ap, gIf_ap, gRet_ap, gRaise_ap, gExpr_ap, gBreak_ap, gCont_ap, gFor_ap, bind_ok, bind_exc, bind_no, thn_ok, thn_exc, thn_no, then_nx, then_rt, then_exc, then_bk, then_ct, lift_some, lift_none, toB_b, toI_i, toL_l, toT_t, toScr_s, lstOnly_l, allD_nil, allD_cons, map_some', lcG_nil, aaG_nil, forG_nil, fName_z, fName_s, fNameB_z, fNameB_zo, fNameB_s, fIsP_z, fIsP_s, aName_ap, aNil_ap, aCons_ap, aTup_ap, wipeE_nil, wipeE_cons, hEq_ii, hNe_ii, hAdd_ii, hSub_ii, hLe_ii, hLtI_ii, hGt_ii, hGe_ii, hIs_bb, hIsNot_bb, List.set_cons_zero, List.set_cons_succ, List.map_cons, List.map_nil, List.cons_append, List.nil_append, hLen_l, hLen_t, hLen_s, hTup_ap, hLst_ap, hTuple_l, hTuple_t, hList_l, hList_t, hAbs_i, hIntOf_i, hIntOf_b, hNeg_i, hIsi_int, hIsi_bool, hIsi_tuple, hIsi_list, hIsi_str, hSl_l, hSl_t, hSl_s, hIx_l0, hIx_t0, hIx_l1, hIx_t1, hIx_l2, hIx_t2, hXor_ii, sv, Option.map_some, Option.bind_some, List.length_cons, List.length_nil, reduceIte, Nat.reduceLT, Nat.reduceLeDiff, Nat.reduceAdd, Bool.false_eq_true, Bool.not_true, Bool.not_false, gAsg_ap, gUnpackLoc_ap, gStoreLoc_ap, gPar_ap, runF_fin, finR_nx, finR_rt, finR_exc, List.replicate_succ, List.replicate_zero, Nat.reduceSub, List.getElem?_cons_zero, List.getElem?_cons_succ, hLt_ii, pInt, pBool, pTup, pList, pStr, decide_eq_true_eq, fIt_ap, toS_l, toS_t, hid_ap]⟩
  cases d with
  | tuple ds =>
    match ds with
    | [] => simp -implicitDefEqProofs -dsimp only [bodyJ, goodJ, Int.natCast_zero, Int.reduceEq, decide_false, fC_ap, fOp2_ap, fOp1_ap, fNil_ap, fCons_ap, fOpN_ap, fLst_ap, fB_ap, fAnd_ap, fOr_ap, fNot_ap, fAndV_ap, fOrV_ap, fNotV_ap, fIfE_ap, fChain_ap, fNoP_ap, fSomeP_ap, fSl_ap, fOwn_ap, fItL_ap, fItT_ap, fItScr_ap, fRng1_ap, fRng2_ap, fYes_ap, fLc_ap, fAA_ap, gSeq_ap, gNop_ap, gSet_ap, gIf_ap, gRet_ap, gRaise_ap, gExpr_ap, gBreak_ap, gCont_ap, gFor_ap, bind_ok, bind_exc, bind_no, thn_ok, thn_exc, thn_no, then_nx, then_rt, then_exc, then_bk, then_ct, lift_some, lift_none, toB_b, toI_i, toL_l, toT_t, toScr_s, lstOnly_l, allD_nil, allD_cons, map_some', lcG_nil, aaG_nil, forG_nil, fName_z, fName_s, fNameB_z, fNameB_zo, fNameB_s, fIsP_z, fIsP_s, aName_ap, aNil_ap, aCons_ap, aTup_ap, wipeE_nil, wipeE_cons, hEq_ii, hNe_ii, hAdd_ii, hSub_ii, hLe_ii, hLtI_ii, hGt_ii, hGe_ii, hIs_bb, hIsNot_bb, List.set_cons_zero, List.set_cons_succ, List.map_cons, List.map_nil, List.cons_append, List.nil_append, hLen_l, hLen_t, hLen_s, hTup_ap, hLst_ap, hTuple_l, hTuple_t, hList_l, hList_t, hAbs_i, hIntOf_i, hIntOf_b, hNeg_i, hIsi_int, hIsi_bool, hIsi_tuple, hIsi_list, hIsi_str, hSl_l, hSl_t, hSl_s, hIx_l0, hIx_t0, hIx_l1, hIx_t1, hIx_l2, hIx_t2, hXor_ii, sv, Option.map_some, Option.bind_some, List.length_cons, List.length_nil, reduceIte, Nat.reduceLT, Nat.reduceLeDiff, Nat.reduceAdd, Bool.false_eq_true, Bool.not_true, Bool.not_false, gAsg_ap, gUnpackLoc_ap, gStoreLoc_ap, gPar_ap, runF_fin, finR_nx, finR_rt, finR_exc, List.replicate_succ, List.replicate_zero, Nat.reduceSub, List.getElem?_cons_zero, List.getElem?_cons_succ, hLt_ii, pInt, pBool, pTup, pList, pStr, decide_eq_true_eq, fIt_ap, toS_l, toS_t, hid_ap]
    | [x] => simp -implicitDefEqProofs -dsimp only [bodyJ, goodJ, Int.reduceEq, decide_false, fC_ap, fOp2_ap, fOp1_ap, fNil_ap, fCons_ap, fOpN_ap, fLst_ap, fB_ap, fAnd_ap, fOr_ap, fNot_ap, fAndV_ap, fOrV_ap, fNotV_ap, fIfE_ap, fChain_ap, fNoP_ap, fSomeP_ap, fSl_ap, fOwn_ap, fItL_ap, fItT_ap, fItScr_ap, fRng1_ap, fRng2_ap, fYes_ap, fLc_ap, fAA_ap, gSeq_ap, gNop_ap, gSet_ap, gIf_ap, gRet_ap, gRaise_ap, gExpr_ap, gBreak_ap, gCont_ap, gFor_ap, bind_ok, bind_exc, bind_no, thn_ok, thn_exc, thn_no, then_nx, then_rt, then_exc, then_bk, then_ct, lift_some, lift_none, toB_b, toI_i, toL_l, toT_t, toScr_s, lstOnly_l, allD_nil, allD_cons, map_some', lcG_nil, aaG_nil, forG_nil, fName_z, fName_s, fNameB_z, fNameB_zo, fNameB_s, fIsP_z, fIsP_s, aName_ap, aNil_ap, aCons_ap, aTup_ap, wipeE_nil, wipeE_cons, hEq_ii, hNe_ii, hAdd_ii, hSub_ii, hLe_ii, hLtI_ii, hGt_ii, hGe_ii, hIs_bb, hIsNot_bb, List.set_cons_zero, List.set_cons_succ, List.map_cons, List.map_nil, List.cons_append, List.nil_append, hLen_l, hLen_t, hLen_s, hTup_ap, hLst_ap, hTuple_l, hTuple_t, hList_l, hList_t, hAbs_i, hIntOf_i, hIntOf_b, hNeg_i, hIsi_int, hIsi_bool, hIsi_tuple, hIsi_list, hIsi_str, hSl_l, hSl_t, hSl_s, hIx_l0, hIx_t0, hIx_l1, hIx_t1, hIx_l2, hIx_t2, hXor_ii, sv, Option.map_some, Option.bind_some, List.length_cons, List.length_nil, reduceIte, Nat.reduceLT, Nat.reduceLeDiff, Nat.reduceAdd, Bool.false_eq_true, Bool.not_true, Bool.not_false, gAsg_ap, gUnpackLoc_ap, gStoreLoc_ap, gPar_ap, runF_fin, finR_nx, finR_rt, finR_exc, List.replicate_succ, List.replicate_zero, Nat.reduceSub, List.getElem?_cons_zero, List.getElem?_cons_succ, hLt_ii, pInt, pBool, pTup, pList, pStr, decide_eq_true_eq, fIt_ap, toS_l, toS_t, hid_ap]; rfl
    | x :: y :: z :: r =>
      have h2 : ¬ (((r.length + 1 + 1 + 1 : Nat) : Int) = 2) := by omega
      simp -implicitDefEqProofs -dsimp only [bodyJ, goodJ, h2, decide_false, fC_ap, fOp2_ap, fOp1_ap, fNil_ap, fCons_ap, fOpN_ap, fLst_ap, fB_ap, fAnd_ap, fOr_ap, fNot_ap, fAndV_ap, fOrV_ap, fNotV_ap, fIfE_ap, fChain_ap, fNoP_ap, fSomeP_ap, fSl_ap, fOwn_ap, fItL_ap, fItT_ap, fItScr_ap, fRng1_ap, fRng2_ap, fYes_ap, fLc_ap, fAA_ap, gSeq_ap, gNop_ap, gSet_ap, gIf_ap, gRet_ap, gRaise_ap, gExpr_ap, gBreak_ap, gCont_ap, gFor_ap, bind_ok, bind_exc, bind_no, thn_ok, thn_exc, thn_no, then_nx, then_rt, then_exc, then_bk, then_ct, lift_some, lift_none, toB_b, toI_i, toL_l, toT_t, toScr_s, lstOnly_l, allD_nil, allD_cons, map_some', lcG_nil, aaG_nil, forG_nil, fName_z, fName_s, fNameB_z, fNameB_zo, fNameB_s, fIsP_z, fIsP_s, aName_ap, aNil_ap, aCons_ap, aTup_ap, wipeE_nil, wipeE_cons, hEq_ii, hNe_ii, hAdd_ii, hSub_ii, hLe_ii, hLtI_ii, hGt_ii, hGe_ii, hIs_bb, hIsNot_bb, List.set_cons_zero, List.set_cons_succ, List.map_cons, List.map_nil, List.cons_append, List.nil_append, hLen_l, hLen_t, hLen_s, hTup_ap, hLst_ap, hTuple_l, hTuple_t, hList_l, hList_t, hAbs_i, hIntOf_i, hIntOf_b, hNeg_i, hIsi_int, hIsi_bool, hIsi_tuple, hIsi_list, hIsi_str, hSl_l, hSl_t, hSl_s, hIx_l0, hIx_t0, hIx_l1, hIx_t1, hIx_l2, hIx_t2, hXor_ii, sv, Option.map_some, Option.bind_some, List.length_cons, List.length_nil, reduceIte, Nat.reduceLT, Nat.reduceLeDiff, Nat.reduceAdd, Bool.false_eq_true, Bool.not_true, Bool.not_false, gAsg_ap, gUnpackLoc_ap, gStoreLoc_ap, gPar_ap, runF_fin, finR_nx, finR_rt, finR_exc, List.replicate_succ, List.replicate_zero, Nat.reduceSub, List.getElem?_cons_zero, List.getElem?_cons_succ, hLt_ii, pInt, pBool, pTup, pList, pStr, decide_eq_true_eq, fIt_ap, toS_l, toS_t, hid_ap]
    | [x, y] =>
      have h2 : (((0 + 1 + 1 : Nat) : Int) = 2) := by omega
      have al : ([x, y].all fun d => nb d 0 (m - 1)) = (nb x 0 (m - 1) && nb y 0 (m - 1)) := by simp
      cases hx : nb x 0 (m - 1) with
      | false =>
        have : goodJ m (.tuple [x, y]) = false := by
          unfold goodJ
          cases x <;> cases y <;> first | rfl | (simp only [hx]; rfl)
        simp -implicitDefEqProofs -dsimp only [bodyJ, this, aa, al, hx, Bool.false_and, Int.reduceEq, Int.cast_ofNat_Int, decide_true, fC_ap, fOp2_ap, fOp1_ap, fNil_ap, fCons_ap, fOpN_ap, fLst_ap, fB_ap, fAnd_ap, fOr_ap, fNot_ap, fAndV_ap, fOrV_ap, fNotV_ap, fIfE_ap, fChain_ap, fNoP_ap, fSomeP_ap, fSl_ap, fOwn_ap, fItL_ap, fItT_ap, fItScr_ap, fRng1_ap, fRng2_ap, fYes_ap, fLc_ap, fAA_ap, gSeq_ap, gNop_ap, gSet_ap, gIf_ap, gRet_ap, gRaise_ap, gExpr_ap, gBreak_ap, gCont_ap, gFor_ap, bind_ok, bind_exc, bind_no, thn_ok, thn_exc, thn_no, then_nx, then_rt, then_exc, then_bk, then_ct, lift_some, lift_none, toB_b, toI_i, toL_l, toT_t, toScr_s, lstOnly_l, allD_nil, allD_cons, map_some', lcG_nil, aaG_nil, forG_nil, fName_z, fName_s, fNameB_z, fNameB_zo, fNameB_s, fIsP_z, fIsP_s, aName_ap, aNil_ap, aCons_ap, aTup_ap, wipeE_nil, wipeE_cons, hEq_ii, hNe_ii, hAdd_ii, hSub_ii, hLe_ii, hLtI_ii, hGt_ii, hGe_ii, hIs_bb, hIsNot_bb, List.set_cons_zero, List.set_cons_succ, List.map_cons, List.map_nil, List.cons_append, List.nil_append, hLen_l, hLen_t, hLen_s, hTup_ap, hLst_ap, hTuple_l, hTuple_t, hList_l, hList_t, hAbs_i, hIntOf_i, hIntOf_b, hNeg_i, hIsi_int, hIsi_bool, hIsi_tuple, hIsi_list, hIsi_str, hSl_l, hSl_t, hSl_s, hIx_l0, hIx_t0, hIx_l1, hIx_t1, hIx_l2, hIx_t2, hXor_ii, sv, Option.map_some, Option.bind_some, List.length_cons, List.length_nil, reduceIte, Nat.reduceLT, Nat.reduceLeDiff, Nat.reduceAdd, Bool.false_eq_true, Bool.not_true, Bool.not_false, gAsg_ap, gUnpackLoc_ap, gStoreLoc_ap, gPar_ap, runF_fin, finR_nx, finR_rt, finR_exc, List.replicate_succ, List.replicate_zero, Nat.reduceSub, List.getElem?_cons_zero, List.getElem?_cons_succ, hLt_ii, pInt, pBool, pTup, pList, pStr, decide_eq_true_eq, fIt_ap, toS_l, toS_t, hid_ap]
      | true =>
        cases hy : nb y 0 (m - 1) with
        | false =>
          have : goodJ m (.tuple [x, y]) = false := by
            unfold goodJ
            cases x <;> cases y <;> first | rfl | (simp only [hx, hy]; rfl)
          simp -implicitDefEqProofs -dsimp only [bodyJ, this, aa, al, hx, hy, Bool.and_false, Int.reduceEq, Int.cast_ofNat_Int, decide_true, fC_ap, fOp2_ap, fOp1_ap, fNil_ap, fCons_ap, fOpN_ap, fLst_ap, fB_ap, fAnd_ap, fOr_ap, fNot_ap, fAndV_ap, fOrV_ap, fNotV_ap, fIfE_ap, fChain_ap, fNoP_ap, fSomeP_ap, fSl_ap, fOwn_ap, fItL_ap, fItT_ap, fItScr_ap, fRng1_ap, fRng2_ap, fYes_ap, fLc_ap, fAA_ap, gSeq_ap, gNop_ap, gSet_ap, gIf_ap, gRet_ap, gRaise_ap, gExpr_ap, gBreak_ap, gCont_ap, gFor_ap, bind_ok, bind_exc, bind_no, thn_ok, thn_exc, thn_no, then_nx, then_rt, then_exc, then_bk, then_ct, lift_some, lift_none, toB_b, toI_i, toL_l, toT_t, toScr_s, lstOnly_l, allD_nil, allD_cons, map_some', lcG_nil, aaG_nil, forG_nil, fName_z, fName_s, fNameB_z, fNameB_zo, fNameB_s, fIsP_z, fIsP_s, aName_ap, aNil_ap, aCons_ap, aTup_ap, wipeE_nil, wipeE_cons, hEq_ii, hNe_ii, hAdd_ii, hSub_ii, hLe_ii, hLtI_ii, hGt_ii, hGe_ii, hIs_bb, hIsNot_bb, List.set_cons_zero, List.set_cons_succ, List.map_cons, List.map_nil, List.cons_append, List.nil_append, hLen_l, hLen_t, hLen_s, hTup_ap, hLst_ap, hTuple_l, hTuple_t, hList_l, hList_t, hAbs_i, hIntOf_i, hIntOf_b, hNeg_i, hIsi_int, hIsi_bool, hIsi_tuple, hIsi_list, hIsi_str, hSl_l, hSl_t, hSl_s, hIx_l0, hIx_t0, hIx_l1, hIx_t1, hIx_l2, hIx_t2, hXor_ii, sv, Option.map_some, Option.bind_some, List.length_cons, List.length_nil, reduceIte, Nat.reduceLT, Nat.reduceLeDiff, Nat.reduceAdd, Bool.false_eq_true, Bool.not_true, Bool.not_false, gAsg_ap, gUnpackLoc_ap, gStoreLoc_ap, gPar_ap, runF_fin, finR_nx, finR_rt, finR_exc, List.replicate_succ, List.replicate_zero, Nat.reduceSub, List.getElem?_cons_zero, List.getElem?_cons_succ, hLt_ii, pInt, pBool, pTup, pList, pStr, decide_eq_true_eq, fIt_ap, toS_l, toS_t, hid_ap]
        | true =>
          cases x with
          | int a =>
            cases y with
            | int b =>
              by_cases q : a < b
              · have : goodJ m (.tuple [.int a, .int b]) = true := by unfold goodJ; simp [hx, hy, q]
                have q2 : ¬ b ≤ a := by omega
                simp -implicitDefEqProofs -dsimp only [bodyJ, this, aa, al, hx, hy, q2, Bool.and_true, Int.reduceEq, Int.cast_ofNat_Int, decide_true, decide_false, fC_ap, fOp2_ap, fOp1_ap, fNil_ap, fCons_ap, fOpN_ap, fLst_ap, fB_ap, fAnd_ap, fOr_ap, fNot_ap, fAndV_ap, fOrV_ap, fNotV_ap, fIfE_ap, fChain_ap, fNoP_ap, fSomeP_ap, fSl_ap, fOwn_ap, fItL_ap, fItT_ap, fItScr_ap, fRng1_ap, fRng2_ap, fYes_ap, fLc_ap, fAA_ap, gSeq_ap, gNop_ap, gSet_ap, gIf_ap, gRet_ap, gRaise_ap, gExpr_ap, gBreak_ap, gCont_ap, gFor_ap, bind_ok, bind_exc, bind_no, thn_ok, thn_exc, thn_no, then_nx, then_rt, then_exc, then_bk, then_ct, lift_some, lift_none, toB_b, toI_i, toL_l, toT_t, toScr_s, lstOnly_l, allD_nil, allD_cons, map_some', lcG_nil, aaG_nil, forG_nil, fName_z, fName_s, fNameB_z, fNameB_zo, fNameB_s, fIsP_z, fIsP_s, aName_ap, aNil_ap, aCons_ap, aTup_ap, wipeE_nil, wipeE_cons, hEq_ii, hNe_ii, hAdd_ii, hSub_ii, hLe_ii, hLtI_ii, hGt_ii, hGe_ii, hIs_bb, hIsNot_bb, List.set_cons_zero, List.set_cons_succ, List.map_cons, List.map_nil, List.cons_append, List.nil_append, hLen_l, hLen_t, hLen_s, hTup_ap, hLst_ap, hTuple_l, hTuple_t, hList_l, hList_t, hAbs_i, hIntOf_i, hIntOf_b, hNeg_i, hIsi_int, hIsi_bool, hIsi_tuple, hIsi_list, hIsi_str, hSl_l, hSl_t, hSl_s, hIx_l0, hIx_t0, hIx_l1, hIx_t1, hIx_l2, hIx_t2, hXor_ii, sv, Option.map_some, Option.bind_some, List.length_cons, List.length_nil, reduceIte, Nat.reduceLT, Nat.reduceLeDiff, Nat.reduceAdd, Bool.false_eq_true, Bool.not_true, Bool.not_false, gAsg_ap, gUnpackLoc_ap, gStoreLoc_ap, gPar_ap, runF_fin, finR_nx, finR_rt, finR_exc, List.replicate_succ, List.replicate_zero, Nat.reduceSub, List.getElem?_cons_zero, List.getElem?_cons_succ, hLt_ii, pInt, pBool, pTup, pList, pStr, decide_eq_true_eq, fIt_ap, toS_l, toS_t, hid_ap]
              · have : goodJ m (.tuple [.int a, .int b]) = false := by unfold goodJ; simp [hx, hy, q]
                have q2 : b ≤ a := by omega
                simp -implicitDefEqProofs -dsimp only [bodyJ, this, aa, al, hx, hy, q2, Bool.and_true, Int.reduceEq, Int.cast_ofNat_Int, decide_true, fC_ap, fOp2_ap, fOp1_ap, fNil_ap, fCons_ap, fOpN_ap, fLst_ap, fB_ap, fAnd_ap, fOr_ap, fNot_ap, fAndV_ap, fOrV_ap, fNotV_ap, fIfE_ap, fChain_ap, fNoP_ap, fSomeP_ap, fSl_ap, fOwn_ap, fItL_ap, fItT_ap, fItScr_ap, fRng1_ap, fRng2_ap, fYes_ap, fLc_ap, fAA_ap, gSeq_ap, gNop_ap, gSet_ap, gIf_ap, gRet_ap, gRaise_ap, gExpr_ap, gBreak_ap, gCont_ap, gFor_ap, bind_ok, bind_exc, bind_no, thn_ok, thn_exc, thn_no, then_nx, then_rt, then_exc, then_bk, then_ct, lift_some, lift_none, toB_b, toI_i, toL_l, toT_t, toScr_s, lstOnly_l, allD_nil, allD_cons, map_some', lcG_nil, aaG_nil, forG_nil, fName_z, fName_s, fNameB_z, fNameB_zo, fNameB_s, fIsP_z, fIsP_s, aName_ap, aNil_ap, aCons_ap, aTup_ap, wipeE_nil, wipeE_cons, hEq_ii, hNe_ii, hAdd_ii, hSub_ii, hLe_ii, hLtI_ii, hGt_ii, hGe_ii, hIs_bb, hIsNot_bb, List.set_cons_zero, List.set_cons_succ, List.map_cons, List.map_nil, List.cons_append, List.nil_append, hLen_l, hLen_t, hLen_s, hTup_ap, hLst_ap, hTuple_l, hTuple_t, hList_l, hList_t, hAbs_i, hIntOf_i, hIntOf_b, hNeg_i, hIsi_int, hIsi_bool, hIsi_tuple, hIsi_list, hIsi_str, hSl_l, hSl_t, hSl_s, hIx_l0, hIx_t0, hIx_l1, hIx_t1, hIx_l2, hIx_t2, hXor_ii, sv, Option.map_some, Option.bind_some, List.length_cons, List.length_nil, reduceIte, Nat.reduceLT, Nat.reduceLeDiff, Nat.reduceAdd, Bool.false_eq_true, Bool.not_true, Bool.not_false, gAsg_ap, gUnpackLoc_ap, gStoreLoc_ap, gPar_ap, runF_fin, finR_nx, finR_rt, finR_exc, List.replicate_succ, List.replicate_zero, Nat.reduceSub, List.getElem?_cons_zero, List.getElem?_cons_succ, hLt_ii, pInt, pBool, pTup, pList, pStr, decide_eq_true_eq, fIt_ap, toS_l, toS_t, hid_ap]
            | _ => cases hy
          | _ => cases hx
  | _ => simp -implicitDefEqProofs -dsimp only [bodyJ, goodJ, fC_ap, fOp2_ap, fOp1_ap, fNil_ap, fCons_ap, fOpN_ap, fLst_ap, fB_ap, fAnd_ap, fOr_ap, fNot_ap, fAndV_ap, fOrV_ap, fNotV_ap, fIfE_ap, fChain_ap, fNoP_ap, fSomeP_ap, fSl_ap, fOwn_ap, fItL_ap, fItT_ap, fItScr_ap, fRng1_ap, fRng2_ap, fYes_ap, fLc_ap, fAA_ap, gSeq_ap, gNop_ap, gSet_ap, gIf_ap, gRet_ap, gRaise_ap, gExpr_ap, gBreak_ap, gCont_ap, gFor_ap, bind_ok, bind_exc, bind_no, thn_ok, thn_exc, thn_no, then_nx, then_rt, then_exc, then_bk, then_ct, lift_some, lift_none, toB_b, toI_i, toL_l, toT_t, toScr_s, lstOnly_l, allD_nil, allD_cons, map_some', lcG_nil, aaG_nil, forG_nil, fName_z, fName_s, fNameB_z, fNameB_zo, fNameB_s, fIsP_z, fIsP_s, aName_ap, aNil_ap, aCons_ap, aTup_ap, wipeE_nil, wipeE_cons, hEq_ii, hNe_ii, hAdd_ii, hSub_ii, hLe_ii, hLtI_ii, hGt_ii, hGe_ii, hIs_bb, hIsNot_bb, List.set_cons_zero, List.set_cons_succ, List.map_cons, List.map_nil, List.cons_append, List.nil_append, hLen_l, hLen_t, hLen_s, hTup_ap, hLst_ap, hTuple_l, hTuple_t, hList_l, hList_t, hAbs_i, hIntOf_i, hIntOf_b, hNeg_i, hIsi_int, hIsi_bool, hIsi_tuple, hIsi_list, hIsi_str, hSl_l, hSl_t, hSl_s, hIx_l0, hIx_t0, hIx_l1, hIx_t1, hIx_l2, hIx_t2, hXor_ii, sv, Option.map_some, Option.bind_some, List.length_cons, List.length_nil, reduceIte, Nat.reduceLT, Nat.reduceLeDiff, Nat.reduceAdd, Bool.false_eq_true, Bool.not_true, Bool.not_false, gAsg_ap, gUnpackLoc_ap, gStoreLoc_ap, gPar_ap, runF_fin, finR_nx, finR_rt, finR_exc, List.replicate_succ, List.replicate_zero, Nat.reduceSub, List.getElem?_cons_zero, List.getElem?_cons_succ, hLt_ii, pInt, pBool, pTup, pList, pStr, decide_eq_true_eq, fIt_ap, toS_l, toS_t, hid_ap]
theorem loop_eq (v : PyData) (m : Int) (x3 x4 : DL.Slot) (st : Sto) : ∀ (ds : List PyData) (x2 : DL.Slot), ∃ x2', forG (aName 2) bodyJ ds [.frz (.d v), .frz (.d (.int m)), x2, x3, x4] st = if ds.all (goodJ m) = true then .nx [.frz (.d v), .frz (.d (.int m)), x2', x3, x4] st else .rt (.d (.bool false)) st
  | [], x2 => ⟨x2, rfl⟩
  | d :: ds, x2 => by
    obtain ⟨x2', ih⟩ := loop_eq v m x3 x4 st ds (.frz (.d d))
    refine ⟨x2', ?_⟩
    have b := body_eq v m d x3 x4 st
    show (match bodyJ [.frz (.d v), .frz (.d (.int m)), .frz (.d d), x3, x4] st with | .nx e s => forG (aName 2) bodyJ ds e s | .ct e s => forG (aName 2) bodyJ ds e s | .bk e s => .nx e s | r => r) = _
    rw [b]
    cases q : goodJ m d with
    | true => simp only [if_pos, ih, List.all_cons, q, Bool.true_and]
    | false => simp [List.all_cons, q]
theorem e_are_bad {ds : List PyData} {m : Int} (h : ds.all (goodJ m) = false) (st : Sto) : f_are_joints [.d (.tuple ds), .d (.int m)] st = .ok (.d (.bool false)) st := by
  obtain ⟨x2, lo⟩ := loop_eq (.tuple ds) m .un .un st ds .un
  rw [h, if_neg (by decide)] at lo
  unfold bodyJ at lo
  simp -implicitDefEqProofs -dsimp only [f_are_joints, g_are_joints, lo, fC_ap, fOp2_ap, fOp1_ap, fNil_ap, fCons_ap, fOpN_ap, fLst_ap, fB_ap, fAnd_ap, fOr_ap, fNot_ap, fAndV_ap, fOrV_ap, fNotV_ap, fIfE_ap, fChain_ap, fNoP_ap, fSomeP_ap, fSl_ap, fOwn_ap, fItL_ap, fItT_ap, fItScr_ap, fRng1_ap, fRng2_ap, fYes_ap, fLc_ap, fAA_ap, gSeq_ap, gNop_ap, gSet_ap, gIf_ap, gRet_ap, gRaise_ap, gExpr_ap, gBreak_ap, gCont_ap, gFor_ap, bind_ok, bind_exc, bind_no, thn_ok, thn_exc, thn_no, then_nx, then_rt, then_exc, then_bk, then_ct, lift_some, lift_none, toB_b, toI_i, toL_l, toT_t, toScr_s, lstOnly_l, allD_nil, allD_cons, map_some', lcG_nil, aaG_nil, forG_nil, fName_z, fName_s, fNameB_z, fNameB_zo, fNameB_s, fIsP_z, fIsP_s, aName_ap, aNil_ap, aCons_ap, aTup_ap, wipeE_nil, wipeE_cons, hEq_ii, hNe_ii, hAdd_ii, hSub_ii, hLe_ii, hLtI_ii, hGt_ii, hGe_ii, hIs_bb, hIsNot_bb, List.set_cons_zero, List.set_cons_succ, List.map_cons, List.map_nil, List.cons_append, List.nil_append, hLen_l, hLen_t, hLen_s, hTup_ap, hLst_ap, hTuple_l, hTuple_t, hList_l, hList_t, hAbs_i, hIntOf_i, hIntOf_b, hNeg_i, hIsi_int, hIsi_bool, hIsi_tuple, hIsi_list, hIsi_str, hSl_l, hSl_t, hSl_s, hIx_l0, hIx_t0, hIx_l1, hIx_t1, hIx_l2, hIx_t2, hXor_ii, sv, Option.map_some, Option.bind_some, List.length_cons, List.length_nil, reduceIte, Nat.reduceLT, Nat.reduceLeDiff, Nat.reduceAdd, Bool.false_eq_true, Bool.not_true, Bool.not_false, gAsg_ap, gUnpackLoc_ap, gStoreLoc_ap, gPar_ap, runF_fin, finR_nx, finR_rt, finR_exc, List.replicate_succ, List.replicate_zero, Nat.reduceSub, List.getElem?_cons_zero, List.getElem?_cons_succ, hLt_ii, pInt, pBool, pTup, pList, pStr, decide_eq_true_eq, fIt_ap, toS_l, toS_t, hid_ap]
theorem e_are_nt {v : PyData} {m : Int} (h : pTup v = false) (st : Sto) : f_are_joints [.d v, .d (.int m)] st = .ok (.d (.bool false)) st := by
  cases v with
  | tuple => cases h
  | _ => simp -implicitDefEqProofs -dsimp only [f_are_joints, g_are_joints, fC_ap, fOp2_ap, fOp1_ap, fNil_ap, fCons_ap, fOpN_ap, fLst_ap, fB_ap, fAnd_ap, fOr_ap, fNot_ap, fAndV_ap, fOrV_ap, fNotV_ap, fIfE_ap, fChain_ap, fNoP_ap, fSomeP_ap, fSl_ap, fOwn_ap, fItL_ap, fItT_ap, fItScr_ap, fRng1_ap, fRng2_ap, fYes_ap, fLc_ap, fAA_ap, gSeq_ap, gNop_ap, gSet_ap, gIf_ap, gRet_ap, gRaise_ap, gExpr_ap, gBreak_ap, gCont_ap, gFor_ap, bind_ok, bind_exc, bind_no, thn_ok, thn_exc, thn_no, then_nx, then_rt, then_exc, then_bk, then_ct, lift_some, lift_none, toB_b, toI_i, toL_l, toT_t, toScr_s, lstOnly_l, allD_nil, allD_cons, map_some', lcG_nil, aaG_nil, forG_nil, fName_z, fName_s, fNameB_z, fNameB_zo, fNameB_s, fIsP_z, fIsP_s, aName_ap, aNil_ap, aCons_ap, aTup_ap, wipeE_nil, wipeE_cons, hEq_ii, hNe_ii, hAdd_ii, hSub_ii, hLe_ii, hLtI_ii, hGt_ii, hGe_ii, hIs_bb, hIsNot_bb, List.set_cons_zero, List.set_cons_succ, List.map_cons, List.map_nil, List.cons_append, List.nil_append, hLen_l, hLen_t, hLen_s, hTup_ap, hLst_ap, hTuple_l, hTuple_t, hList_l, hList_t, hAbs_i, hIntOf_i, hIntOf_b, hNeg_i, hIsi_int, hIsi_bool, hIsi_tuple, hIsi_list, hIsi_str, hSl_l, hSl_t, hSl_s, hIx_l0, hIx_t0, hIx_l1, hIx_t1, hIx_l2, hIx_t2, hXor_ii, sv, Option.map_some, Option.bind_some, List.length_cons, List.length_nil, reduceIte, Nat.reduceLT, Nat.reduceLeDiff, Nat.reduceAdd, Bool.false_eq_true, Bool.not_true, Bool.not_false, gAsg_ap, gUnpackLoc_ap, gStoreLoc_ap, gPar_ap, runF_fin, finR_nx, finR_rt, finR_exc, List.replicate_succ, List.replicate_zero, Nat.reduceSub, List.getElem?_cons_zero, List.getElem?_cons_succ, hLt_ii, pInt, pBool, pTup, pList, pStr, decide_eq_true_eq, fIt_ap, toS_l, toS_t, hid_ap]
def lexB (p q : Int × Int) : Bool := HT.lexLt [p.1, p.2] [q.1, q.2]
theorem lt_jD {p q : Int × Int} : hLt (.d (jD p)) (.d (jD q)) = some (.d (.bool (lexB p q))) := rfl
theorem lexB_of {p q : Int × Int} (h : p.1 < q.1 ∨ (p.1 = q.1 ∧ p.2 < q.2)) : lexB p q = true := by
  unfold lexB
  show (if p.1 = q.1 then (if p.2 = q.2 then false else decide (p.2 < q.2)) else decide (p.1 < q.1)) = true
  split
  · rw [if_neg (by omega)]; simp; omega
  · simp; omega
theorem all_good {m : Int} (h : JOk m J) : (J.map jD).all (goodJ m) = true := by
  rw [List.all_eq_true]
  intro d hd
  obtain ⟨p, hp, rfl⟩ := List.mem_map.mp hd
  have := h p hp
  show (nb (.int p.1) 0 (m - 1) && (nb (.int p.2) 0 (m - 1) && decide (p.1 < p.2))) = true
  unfold nb
  simp; omega
theorem e_are {m : Int} (h : JOk m J) (b : Bool) (hb : ∀ st (x2 : DL.Slot), aaG true (aName 4) fYes (fOp2 hLt (fOp2 hIx (fName 0) (fName 4)) (fOp2 hIx (fName 0) (fOp2 hAdd (fName 4) (fC (.int 1))))) [.frz (.d (.tuple (J.map jD))), .frz (.d (.int m)), x2, .un, .un] (rngL 0 ((J.length : Int) - 1).toNat) st = .ok (.d (.bool b)) st) (hl : J.length ≤ 100) (st : Sto) : f_are_joints [.d (.tuple (J.map jD)), .d (.int m)] st = .ok (.d (.bool b)) st := by
  obtain ⟨x2, lo⟩ := loop_eq (.tuple (J.map jD)) m .un .un st (J.map jD) .un
  rw [all_good h, if_pos rfl] at lo
  unfold bodyJ at lo
  have rg : ∀ st, hRng1 [.d (.int ((J.length : Int) - 1))] st = .ok (rngL 0 ((J.length : Int) - 1).toNat) st := fun st => hRng1_i (by omega)
  simp -implicitDefEqProofs -dsimp only [f_are_joints, g_are_joints, lo, List.length_map, rg, hb, fC_ap, fOp2_ap, fOp1_ap, fNil_ap, fCons_ap, fOpN_ap, fLst_ap, fB_ap, fAnd_ap, fOr_ap, fNot_ap, fAndV_ap, fOrV_ap, fNotV_ap, fIfE_ap, fChain_ap, fNoP_ap, fSomeP_ap, fSl_ap, fOwn_ap, fItL_ap, fItT_ap, fItScr_ap, fRng1_ap, fRng2_ap, fYes_ap, fLc_ap, fAA_ap, gSeq_ap, gNop_ap, gSet_ap, gIf_ap, gRet_ap, gRaise_ap, gExpr_ap, gBreak_ap, gCont_ap, gFor_ap, bind_ok, bind_exc, bind_no, thn_ok, thn_exc, thn_no, then_nx, then_rt, then_exc, then_bk, then_ct, lift_some, lift_none, toB_b, toI_i, toL_l, toT_t, toScr_s, lstOnly_l, allD_nil, allD_cons, map_some', lcG_nil, aaG_nil, forG_nil, fName_z, fName_s, fNameB_z, fNameB_zo, fNameB_s, fIsP_z, fIsP_s, aName_ap, aNil_ap, aCons_ap, aTup_ap, wipeE_nil, wipeE_cons, hEq_ii, hNe_ii, hAdd_ii, hSub_ii, hLe_ii, hLtI_ii, hGt_ii, hGe_ii, hIs_bb, hIsNot_bb, List.set_cons_zero, List.set_cons_succ, List.map_cons, List.map_nil, List.cons_append, List.nil_append, hLen_l, hLen_t, hLen_s, hTup_ap, hLst_ap, hTuple_l, hTuple_t, hList_l, hList_t, hAbs_i, hIntOf_i, hIntOf_b, hNeg_i, hIsi_int, hIsi_bool, hIsi_tuple, hIsi_list, hIsi_str, hSl_l, hSl_t, hSl_s, hIx_l0, hIx_t0, hIx_l1, hIx_t1, hIx_l2, hIx_t2, hXor_ii, sv, Option.map_some, Option.bind_some, List.length_cons, List.length_nil, reduceIte, Nat.reduceLT, Nat.reduceLeDiff, Nat.reduceAdd, Bool.false_eq_true, Bool.not_true, Bool.not_false, gAsg_ap, gUnpackLoc_ap, gStoreLoc_ap, gPar_ap, runF_fin, finR_nx, finR_rt, finR_exc, List.replicate_succ, List.replicate_zero, Nat.reduceSub, List.getElem?_cons_zero, List.getElem?_cons_succ, hLt_ii, pInt, pBool, pTup, pList, pStr, decide_eq_true_eq, fIt_ap, toS_l, toS_t, hid_ap]
theorem ixJ {i : Nat} (h : i < J.length) {k : Int} (hk : k = i) : hIx (.d (.tuple (J.map jD))) (.d (.int k)) = some (.d (jD J[i])) := by
  subst hk
  rw [hIx_t (by omega) (by rw [List.length_map]; omega)]
  refine congrArg (fun z => some (DV.d z)) ?_
  rw [Int.toNat_natCast, List.getD_eq_getElem?_getD, List.getElem?_map, List.getElem?_eq_getElem h]; rfl
theorem e_are_ok {m : Int} (h : JOk m J) (s : JS J) (hl : J.length ≤ 100) (st : Sto) : f_are_joints [.d (.tuple (J.map jD)), .d (.int m)] st = .ok (.d (.bool true)) st := by
  refine e_are h true (fun st x2 => ?_) hl st
  rw [rng_nats, aaG_all (a := aName 4) fun _ => true]
  · simp
  · intro d hd
    obtain ⟨i, hi, rfl⟩ := List.mem_map.mp hd
    obtain ⟨i0, i1⟩ := mem_nats.mp hi
    have i2 := ixJ (J := J) (i := i.toNat) (k := i) (by omega) (by omega)
    have i3 := ixJ (J := J) (i := i.toNat + 1) (k := i + 1) (by omega) (by omega)
    have lt : lexB J[i.toNat] J[i.toNat + 1] = true := lexB_of ((List.pairwise_iff_getElem.mp s) i.toNat (i.toNat + 1) (by omega) (by omega) (by omega))
    exact ⟨_, rfl, fun st => by simp -implicitDefEqProofs -dsimp only [i2, i3, lt_jD, lt, fC_ap, fOp2_ap, fOp1_ap, fNil_ap, fCons_ap, fOpN_ap, fLst_ap, fB_ap, fAnd_ap, fOr_ap, fNot_ap, fAndV_ap, fOrV_ap, fNotV_ap, fIfE_ap, fChain_ap, fNoP_ap, fSomeP_ap, fSl_ap, fOwn_ap, fItL_ap, fItT_ap, fItScr_ap, fRng1_ap, fRng2_ap, fYes_ap, fLc_ap, fAA_ap, gSeq_ap, gNop_ap, gSet_ap, gIf_ap, gRet_ap, gRaise_ap, gExpr_ap, gBreak_ap, gCont_ap, gFor_ap, bind_ok, bind_exc, bind_no, thn_ok, thn_exc, thn_no, then_nx, then_rt, then_exc, then_bk, then_ct, lift_some, lift_none, toB_b, toI_i, toL_l, toT_t, toScr_s, lstOnly_l, allD_nil, allD_cons, map_some', lcG_nil, aaG_nil, forG_nil, fName_z, fName_s, fNameB_z, fNameB_zo, fNameB_s, fIsP_z, fIsP_s, aName_ap, aNil_ap, aCons_ap, aTup_ap, wipeE_nil, wipeE_cons, hEq_ii, hNe_ii, hAdd_ii, hSub_ii, hLe_ii, hLtI_ii, hGt_ii, hGe_ii, hIs_bb, hIsNot_bb, List.set_cons_zero, List.set_cons_succ, List.map_cons, List.map_nil, List.cons_append, List.nil_append, hLen_l, hLen_t, hLen_s, hTup_ap, hLst_ap, hTuple_l, hTuple_t, hList_l, hList_t, hAbs_i, hIntOf_i, hIntOf_b, hNeg_i, hIsi_int, hIsi_bool, hIsi_tuple, hIsi_list, hIsi_str, hSl_l, hSl_t, hSl_s, hIx_l0, hIx_t0, hIx_l1, hIx_t1, hIx_l2, hIx_t2, hXor_ii, sv, Option.map_some, Option.bind_some, List.length_cons, List.length_nil, reduceIte, Nat.reduceLT, Nat.reduceLeDiff, Nat.reduceAdd, Bool.false_eq_true, Bool.not_true, Bool.not_false, gAsg_ap, gUnpackLoc_ap, gStoreLoc_ap, gPar_ap, runF_fin, finR_nx, finR_rt, finR_exc, List.replicate_succ, List.replicate_zero, Nat.reduceSub, List.getElem?_cons_zero, List.getElem?_cons_succ, hLt_ii, pInt, pBool, pTup, pList, pStr, decide_eq_true_eq, fIt_ap, toS_l, toS_t, hid_ap]⟩
theorem e_map2 {a b : PyData} (ha : nb a 1 12 = false) (st : Sto) : f_is_map [.d (.tuple [a, b])] st = .ok (.d (.bool false)) st := by
  simp -implicitDefEqProofs -dsimp only [f_is_map, g_is_map, e_is_number, ha, Int.reduceEq, Int.cast_ofNat_Int, decide_true, fC_ap, fOp2_ap, fOp1_ap, fNil_ap, fCons_ap, fOpN_ap, fLst_ap, fB_ap, fAnd_ap, fOr_ap, fNot_ap, fAndV_ap, fOrV_ap, fNotV_ap, fIfE_ap, fChain_ap, fNoP_ap, fSomeP_ap, fSl_ap, fOwn_ap, fItL_ap, fItT_ap, fItScr_ap, fRng1_ap, fRng2_ap, fYes_ap, fLc_ap, fAA_ap, gSeq_ap, gNop_ap, gSet_ap, gIf_ap, gRet_ap, gRaise_ap, gExpr_ap, gBreak_ap, gCont_ap, gFor_ap, bind_ok, bind_exc, bind_no, thn_ok, thn_exc, thn_no, then_nx, then_rt, then_exc, then_bk, then_ct, lift_some, lift_none, toB_b, toI_i, toL_l, toT_t, toScr_s, lstOnly_l, allD_nil, allD_cons, map_some', lcG_nil, aaG_nil, forG_nil, fName_z, fName_s, fNameB_z, fNameB_zo, fNameB_s, fIsP_z, fIsP_s, aName_ap, aNil_ap, aCons_ap, aTup_ap, wipeE_nil, wipeE_cons, hEq_ii, hNe_ii, hAdd_ii, hSub_ii, hLe_ii, hLtI_ii, hGt_ii, hGe_ii, hIs_bb, hIsNot_bb, List.set_cons_zero, List.set_cons_succ, List.map_cons, List.map_nil, List.cons_append, List.nil_append, hLen_l, hLen_t, hLen_s, hTup_ap, hLst_ap, hTuple_l, hTuple_t, hList_l, hList_t, hAbs_i, hIntOf_i, hIntOf_b, hNeg_i, hIsi_int, hIsi_bool, hIsi_tuple, hIsi_list, hIsi_str, hSl_l, hSl_t, hSl_s, hIx_l0, hIx_t0, hIx_l1, hIx_t1, hIx_l2, hIx_t2, hXor_ii, sv, Option.map_some, Option.bind_some, List.length_cons, List.length_nil, reduceIte, Nat.reduceLT, Nat.reduceLeDiff, Nat.reduceAdd, Bool.false_eq_true, Bool.not_true, Bool.not_false, gAsg_ap, gUnpackLoc_ap, gStoreLoc_ap, gPar_ap, runF_fin, finR_nx, finR_rt, finR_exc, List.replicate_succ, List.replicate_zero, Nat.reduceSub, List.getElem?_cons_zero, List.getElem?_cons_succ, hLt_ii, pInt, pBool, pTup, pList, pStr, decide_eq_true_eq, fIt_ap, toS_l, toS_t, hid_ap]
theorem e_map3 {b : PyData} {r : Bool} {m : Int} (hm : 1 ≤ m ∧ m ≤ 12) (hb : ∀ st, f_are_joints [.d b, .d (.int m)] st = .ok (.d (.bool r)) st) (st : Sto) : f_is_map [.d (.tuple [.int m, b])] st = .ok (.d (.bool r)) st := by
  have h : nb (.int m) 1 12 = true := by unfold nb; simp; omega
  simp -implicitDefEqProofs -dsimp only [f_is_map, g_is_map, e_is_number, h, hb, Int.reduceEq, Int.cast_ofNat_Int, decide_true, fC_ap, fOp2_ap, fOp1_ap, fNil_ap, fCons_ap, fOpN_ap, fLst_ap, fB_ap, fAnd_ap, fOr_ap, fNot_ap, fAndV_ap, fOrV_ap, fNotV_ap, fIfE_ap, fChain_ap, fNoP_ap, fSomeP_ap, fSl_ap, fOwn_ap, fItL_ap, fItT_ap, fItScr_ap, fRng1_ap, fRng2_ap, fYes_ap, fLc_ap, fAA_ap, gSeq_ap, gNop_ap, gSet_ap, gIf_ap, gRet_ap, gRaise_ap, gExpr_ap, gBreak_ap, gCont_ap, gFor_ap, bind_ok, bind_exc, bind_no, thn_ok, thn_exc, thn_no, then_nx, then_rt, then_exc, then_bk, then_ct, lift_some, lift_none, toB_b, toI_i, toL_l, toT_t, toScr_s, lstOnly_l, allD_nil, allD_cons, map_some', lcG_nil, aaG_nil, forG_nil, fName_z, fName_s, fNameB_z, fNameB_zo, fNameB_s, fIsP_z, fIsP_s, aName_ap, aNil_ap, aCons_ap, aTup_ap, wipeE_nil, wipeE_cons, hEq_ii, hNe_ii, hAdd_ii, hSub_ii, hLe_ii, hLtI_ii, hGt_ii, hGe_ii, hIs_bb, hIsNot_bb, List.set_cons_zero, List.set_cons_succ, List.map_cons, List.map_nil, List.cons_append, List.nil_append, hLen_l, hLen_t, hLen_s, hTup_ap, hLst_ap, hTuple_l, hTuple_t, hList_l, hList_t, hAbs_i, hIntOf_i, hIntOf_b, hNeg_i, hIsi_int, hIsi_bool, hIsi_tuple, hIsi_list, hIsi_str, hSl_l, hSl_t, hSl_s, hIx_l0, hIx_t0, hIx_l1, hIx_t1, hIx_l2, hIx_t2, hXor_ii, sv, Option.map_some, Option.bind_some, List.length_cons, List.length_nil, reduceIte, Nat.reduceLT, Nat.reduceLeDiff, Nat.reduceAdd, Bool.false_eq_true, Bool.not_true, Bool.not_false, gAsg_ap, gUnpackLoc_ap, gStoreLoc_ap, gPar_ap, runF_fin, finR_nx, finR_rt, finR_exc, List.replicate_succ, List.replicate_zero, Nat.reduceSub, List.getElem?_cons_zero, List.getElem?_cons_succ, hLt_ii, pInt, pBool, pTup, pList, pStr, decide_eq_true_eq, fIt_ap, toS_l, toS_t, hid_ap]
theorem e_map_nt {v : PyData} (h : pTup v = false) (st : Sto) : f_is_map [.d v] st = .ok (.d (.bool false)) st := by
  cases v with
  | tuple => cases h
  | _ => simp -implicitDefEqProofs -dsimp only [f_is_map, g_is_map, fC_ap, fOp2_ap, fOp1_ap, fNil_ap, fCons_ap, fOpN_ap, fLst_ap, fB_ap, fAnd_ap, fOr_ap, fNot_ap, fAndV_ap, fOrV_ap, fNotV_ap, fIfE_ap, fChain_ap, fNoP_ap, fSomeP_ap, fSl_ap, fOwn_ap, fItL_ap, fItT_ap, fItScr_ap, fRng1_ap, fRng2_ap, fYes_ap, fLc_ap, fAA_ap, gSeq_ap, gNop_ap, gSet_ap, gIf_ap, gRet_ap, gRaise_ap, gExpr_ap, gBreak_ap, gCont_ap, gFor_ap, bind_ok, bind_exc, bind_no, thn_ok, thn_exc, thn_no, then_nx, then_rt, then_exc, then_bk, then_ct, lift_some, lift_none, toB_b, toI_i, toL_l, toT_t, toScr_s, lstOnly_l, allD_nil, allD_cons, map_some', lcG_nil, aaG_nil, forG_nil, fName_z, fName_s, fNameB_z, fNameB_zo, fNameB_s, fIsP_z, fIsP_s, aName_ap, aNil_ap, aCons_ap, aTup_ap, wipeE_nil, wipeE_cons, hEq_ii, hNe_ii, hAdd_ii, hSub_ii, hLe_ii, hLtI_ii, hGt_ii, hGe_ii, hIs_bb, hIsNot_bb, List.set_cons_zero, List.set_cons_succ, List.map_cons, List.map_nil, List.cons_append, List.nil_append, hLen_l, hLen_t, hLen_s, hTup_ap, hLst_ap, hTuple_l, hTuple_t, hList_l, hList_t, hAbs_i, hIntOf_i, hIntOf_b, hNeg_i, hIsi_int, hIsi_bool, hIsi_tuple, hIsi_list, hIsi_str, hSl_l, hSl_t, hSl_s, hIx_l0, hIx_t0, hIx_l1, hIx_t1, hIx_l2, hIx_t2, hXor_ii, sv, Option.map_some, Option.bind_some, List.length_cons, List.length_nil, reduceIte, Nat.reduceLT, Nat.reduceLeDiff, Nat.reduceAdd, Bool.false_eq_true, Bool.not_true, Bool.not_false, gAsg_ap, gUnpackLoc_ap, gStoreLoc_ap, gPar_ap, runF_fin, finR_nx, finR_rt, finR_exc, List.replicate_succ, List.replicate_zero, Nat.reduceSub, List.getElem?_cons_zero, List.getElem?_cons_succ, hLt_ii, pInt, pBool, pTup, pList, pStr, decide_eq_true_eq, fIt_ap, toS_l, toS_t, hid_ap]
theorem e_map_len {ds : List PyData} (h : ds.length ≠ 2) (st : Sto) : f_is_map [.d (.tuple ds)] st = .ok (.d (.bool false)) st := by
  have h2 : ¬ ((ds.length : Int) = 2) := by omega
  simp -implicitDefEqProofs -dsimp only [f_is_map, g_is_map, h2, decide_false, fC_ap, fOp2_ap, fOp1_ap, fNil_ap, fCons_ap, fOpN_ap, fLst_ap, fB_ap, fAnd_ap, fOr_ap, fNot_ap, fAndV_ap, fOrV_ap, fNotV_ap, fIfE_ap, fChain_ap, fNoP_ap, fSomeP_ap, fSl_ap, fOwn_ap, fItL_ap, fItT_ap, fItScr_ap, fRng1_ap, fRng2_ap, fYes_ap, fLc_ap, fAA_ap, gSeq_ap, gNop_ap, gSet_ap, gIf_ap, gRet_ap, gRaise_ap, gExpr_ap, gBreak_ap, gCont_ap, gFor_ap, bind_ok, bind_exc, bind_no, thn_ok, thn_exc, thn_no, then_nx, then_rt, then_exc, then_bk, then_ct, lift_some, lift_none, toB_b, toI_i, toL_l, toT_t, toScr_s, lstOnly_l, allD_nil, allD_cons, map_some', lcG_nil, aaG_nil, forG_nil, fName_z, fName_s, fNameB_z, fNameB_zo, fNameB_s, fIsP_z, fIsP_s, aName_ap, aNil_ap, aCons_ap, aTup_ap, wipeE_nil, wipeE_cons, hEq_ii, hNe_ii, hAdd_ii, hSub_ii, hLe_ii, hLtI_ii, hGt_ii, hGe_ii, hIs_bb, hIsNot_bb, List.set_cons_zero, List.set_cons_succ, List.map_cons, List.map_nil, List.cons_append, List.nil_append, hLen_l, hLen_t, hLen_s, hTup_ap, hLst_ap, hTuple_l, hTuple_t, hList_l, hList_t, hAbs_i, hIntOf_i, hIntOf_b, hNeg_i, hIsi_int, hIsi_bool, hIsi_tuple, hIsi_list, hIsi_str, hSl_l, hSl_t, hSl_s, hIx_l0, hIx_t0, hIx_l1, hIx_t1, hIx_l2, hIx_t2, hXor_ii, sv, Option.map_some, Option.bind_some, List.length_cons, List.length_nil, reduceIte, Nat.reduceLT, Nat.reduceLeDiff, Nat.reduceAdd, Bool.false_eq_true, Bool.not_true, Bool.not_false, gAsg_ap, gUnpackLoc_ap, gStoreLoc_ap, gPar_ap, runF_fin, finR_nx, finR_rt, finR_exc, List.replicate_succ, List.replicate_zero, Nat.reduceSub, List.getElem?_cons_zero, List.getElem?_cons_succ, hLt_ii, pInt, pBool, pTup, pList, pStr, decide_eq_true_eq, fIt_ap, toS_l, toS_t, hid_ap]
theorem e_map (g : G n J) (s : JS J) (st : Sto) : f_is_map [.d (mD n J)] st = .ok (.d (.bool true)) st := by
  have n1 := g.n1; have n12 := g.n12
  exact e_map3 (by omega) (fun st => e_are_ok g.ok s g.jl st) st
/-- what is no map -/
def wm (n : Nat) (J : Js) : List PyData := [.none, .tuple [.int n], .list [.int n, .tuple (J.map jD)], .tuple [.int n, .tuple (J.map jD), .int 0], .tuple [.int 0, .tuple []], .tuple [.int 13, .tuple (J.map jD)], .tuple [.bool true, .tuple []], .tuple [.none, .tuple (J.map jD)], .tuple [.int n, .list (J.map jD)], .tuple [.int n, .tuple (J.map jD ++ [.none])], .tuple [.int n, .tuple (J.map jD ++ [.tuple [.int 0, .int n]])],
  .tuple [.int 2, .tuple [.tuple [.int 1, .int 0]]], .tuple [.int 2, .tuple [.tuple [.int 0, .int 1], .tuple [.int 0, .int 1]]], .tuple [.int 2, .tuple [.tuple [.int 0, .bool true]]], .tuple [.int 2, .tuple [.tuple [.int 0, .int 1, .int 1]]], .tuple [.int 2, .tuple [.list [.int 0, .int 1]]], .tuple [.int 3, .tuple [.tuple [.int 0, .int 2], .tuple [.int 0, .int 1]]], .tuple [.int 2, .tuple [.tuple [.int 0, .int 0]]], .int 5]
theorem wm_no (g : G n J) : ∀ d ∈ wm n J, ∀ st, f_is_map [.d d] st = .ok (.d (.bool false)) st := by
  have n1 := g.n1; have n12 := g.n12
  intro d hd
  unfold wm at hd
  simp only [List.mem_cons, List.not_mem_nil, or_false] at hd
  have two : ∀ J2 : Js, JOk 2 J2 ∨ JOk 3 J2 → True := fun _ _ => trivial
  rcases hd with rfl | rfl | rfl | rfl | rfl | rfl | rfl | rfl | rfl | rfl | rfl | rfl | rfl | rfl | rfl | rfl | rfl | rfl | rfl
  · exact e_map_nt rfl
  · exact e_map_len (by simp)
  · exact e_map_nt rfl
  · exact e_map_len (by simp)
  · exact e_map2 rfl
  · exact e_map2 rfl
  · exact e_map2 rfl
  · exact e_map2 rfl
  · exact e_map3 (by omega) fun st => e_are_nt rfl st
  · refine e_map3 (by omega) fun st => e_are_bad ?_ st
    rw [List.all_append]; simp [goodJ]
  · refine e_map3 (by omega) fun st => e_are_bad ?_ st
    have bad : goodJ n (.tuple [.int 0, .int n]) = false := by
      show (nb (.int 0) 0 ((n : Int) - 1) && (nb (.int n) 0 ((n : Int) - 1) && decide ((0 : Int) < n))) = false
      rw [show nb (.int n) 0 ((n : Int) - 1) = false by unfold nb; simp; omega, Bool.false_and, Bool.and_false]
    rw [List.all_append]; simp [bad]
  · exact e_map3 (by omega) fun st => e_are_bad rfl st
  · refine e_map3 (by omega) fun st => e_are (J := [(0, 1), (0, 1)]) (m := 2) (by intro p hp; simp at hp; subst hp; decide) false (fun st x2 => ?_) (by simp) st
    show aaG true (aName 4) fYes _ _ [.int 0] st = _
    have i0 : hIx (.d (.tuple [jD (0, 1), jD (0, 1)])) (.d (.int 0)) = some (.d (jD (0, 1))) := hIx_t0
    have i1 : hIx (.d (.tuple [jD (0, 1), jD (0, 1)])) (.d (.int (0 + 1))) = some (.d (jD (0, 1))) := hIx_t1
    rw [aaG_cons (env1 := [.frz (.d (.tuple [jD (0, 1), jD (0, 1)])), .frz (.d (.int 2)), x2, .un, .frz (.d (.int 0))]) (r := false) (st2 := st) (st' := st) rfl rfl (by
      simp -implicitDefEqProofs -dsimp only [i0, i1, lt_jD, show lexB (0, 1) (0, 1) = false from rfl, List.map_cons, List.map_nil, fC_ap, fOp2_ap, fOp1_ap, fNil_ap, fCons_ap, fOpN_ap, fLst_ap, fB_ap, fAnd_ap, fOr_ap, fNot_ap, fAndV_ap, fOrV_ap, fNotV_ap, fIfE_ap, fChain_ap, fNoP_ap, fSomeP_ap, fSl_ap, fOwn_ap, fItL_ap, fItT_ap, fItScr_ap, fRng1_ap, fRng2_ap, fYes_ap, fLc_ap, fAA_ap, gSeq_ap, gNop_ap, gSet_ap, gIf_ap, gRet_ap, gRaise_ap, gExpr_ap, gBreak_ap, gCont_ap, gFor_ap, bind_ok, bind_exc, bind_no, thn_ok, thn_exc, thn_no, then_nx, then_rt, then_exc, then_bk, then_ct, lift_some, lift_none, toB_b, toI_i, toL_l, toT_t, toScr_s, lstOnly_l, allD_nil, allD_cons, map_some', lcG_nil, aaG_nil, forG_nil, fName_z, fName_s, fNameB_z, fNameB_zo, fNameB_s, fIsP_z, fIsP_s, aName_ap, aNil_ap, aCons_ap, aTup_ap, wipeE_nil, wipeE_cons, hEq_ii, hNe_ii, hAdd_ii, hSub_ii, hLe_ii, hLtI_ii, hGt_ii, hGe_ii, hIs_bb, hIsNot_bb, List.set_cons_zero, List.set_cons_succ, List.map_cons, List.map_nil, List.cons_append, List.nil_append, hLen_l, hLen_t, hLen_s, hTup_ap, hLst_ap, hTuple_l, hTuple_t, hList_l, hList_t, hAbs_i, hIntOf_i, hIntOf_b, hNeg_i, hIsi_int, hIsi_bool, hIsi_tuple, hIsi_list, hIsi_str, hSl_l, hSl_t, hSl_s, hIx_l0, hIx_t0, hIx_l1, hIx_t1, hIx_l2, hIx_t2, hXor_ii, sv, Option.map_some, Option.bind_some, List.length_cons, List.length_nil, reduceIte, Nat.reduceLT, Nat.reduceLeDiff, Nat.reduceAdd, Bool.false_eq_true, Bool.not_true, Bool.not_false, gAsg_ap, gUnpackLoc_ap, gStoreLoc_ap, gPar_ap, runF_fin, finR_nx, finR_rt, finR_exc, List.replicate_succ, List.replicate_zero, Nat.reduceSub, List.getElem?_cons_zero, List.getElem?_cons_succ, hLt_ii, pInt, pBool, pTup, pList, pStr, decide_eq_true_eq, fIt_ap, toS_l, toS_t, hid_ap])]
    rfl
  · exact e_map3 (by omega) fun st => e_are_bad rfl st
  · exact e_map3 (by omega) fun st => e_are_bad rfl st
  · exact e_map3 (by omega) fun st => e_are_bad rfl st
  · refine e_map3 (by omega) fun st => e_are (J := [(0, 2), (0, 1)]) (m := 3) (by intro p hp; simp at hp; rcases hp with rfl | rfl <;> decide) false (fun st x2 => ?_) (by simp) st
    show aaG true (aName 4) fYes _ _ [.int 0] st = _
    have i0 : hIx (.d (.tuple [jD (0, 2), jD (0, 1)])) (.d (.int 0)) = some (.d (jD (0, 2))) := hIx_t0
    have i1 : hIx (.d (.tuple [jD (0, 2), jD (0, 1)])) (.d (.int (0 + 1))) = some (.d (jD (0, 1))) := hIx_t1
    rw [aaG_cons (env1 := [.frz (.d (.tuple [jD (0, 2), jD (0, 1)])), .frz (.d (.int 3)), x2, .un, .frz (.d (.int 0))]) (r := false) (st2 := st) (st' := st) rfl rfl (by
      simp -implicitDefEqProofs -dsimp only [i0, i1, lt_jD, show lexB (0, 2) (0, 1) = false from rfl, List.map_cons, List.map_nil, fC_ap, fOp2_ap, fOp1_ap, fNil_ap, fCons_ap, fOpN_ap, fLst_ap, fB_ap, fAnd_ap, fOr_ap, fNot_ap, fAndV_ap, fOrV_ap, fNotV_ap, fIfE_ap, fChain_ap, fNoP_ap, fSomeP_ap, fSl_ap, fOwn_ap, fItL_ap, fItT_ap, fItScr_ap, fRng1_ap, fRng2_ap, fYes_ap, fLc_ap, fAA_ap, gSeq_ap, gNop_ap, gSet_ap, gIf_ap, gRet_ap, gRaise_ap, gExpr_ap, gBreak_ap, gCont_ap, gFor_ap, bind_ok, bind_exc, bind_no, thn_ok, thn_exc, thn_no, then_nx, then_rt, then_exc, then_bk, then_ct, lift_some, lift_none, toB_b, toI_i, toL_l, toT_t, toScr_s, lstOnly_l, allD_nil, allD_cons, map_some', lcG_nil, aaG_nil, forG_nil, fName_z, fName_s, fNameB_z, fNameB_zo, fNameB_s, fIsP_z, fIsP_s, aName_ap, aNil_ap, aCons_ap, aTup_ap, wipeE_nil, wipeE_cons, hEq_ii, hNe_ii, hAdd_ii, hSub_ii, hLe_ii, hLtI_ii, hGt_ii, hGe_ii, hIs_bb, hIsNot_bb, List.set_cons_zero, List.set_cons_succ, List.map_cons, List.map_nil, List.cons_append, List.nil_append, hLen_l, hLen_t, hLen_s, hTup_ap, hLst_ap, hTuple_l, hTuple_t, hList_l, hList_t, hAbs_i, hIntOf_i, hIntOf_b, hNeg_i, hIsi_int, hIsi_bool, hIsi_tuple, hIsi_list, hIsi_str, hSl_l, hSl_t, hSl_s, hIx_l0, hIx_t0, hIx_l1, hIx_t1, hIx_l2, hIx_t2, hXor_ii, sv, Option.map_some, Option.bind_some, List.length_cons, List.length_nil, reduceIte, Nat.reduceLT, Nat.reduceLeDiff, Nat.reduceAdd, Bool.false_eq_true, Bool.not_true, Bool.not_false, gAsg_ap, gUnpackLoc_ap, gStoreLoc_ap, gPar_ap, runF_fin, finR_nx, finR_rt, finR_exc, List.replicate_succ, List.replicate_zero, Nat.reduceSub, List.getElem?_cons_zero, List.getElem?_cons_succ, hLt_ii, pInt, pBool, pTup, pList, pStr, decide_eq_true_eq, fIt_ap, toS_l, toS_t, hid_ap])]
    rfl
  · exact e_map3 (by omega) fun st => e_are_bad rfl st
  · exact e_map_nt rfl
theorem row_ok {m : Int} (h : C n m c) : rowB n m (.tuple (iL c)) = true := by
  show (decide ((iL c).length = n) && (iL c).all fun d => nb d 0 m) = true
  rw [Bool.and_eq_true, iL_len]
  refine ⟨by simp [h.len], List.all_eq_true.mpr fun d hd => ?_⟩
  obtain ⟨i, hi, rfl⟩ := List.mem_map.mp hd
  have := h.rng i hi
  show (decide ((0 : Int) ≤ i) && decide (i ≤ m)) = true
  simp; omega
/-- what is no row -/
def wr (m : Int) (c : List Int) : List PyData := [.none, .list (iL c), .tuple (iL c ++ [.int 0]), .tuple (cutD (iL c) (some 1) none), .tuple (iL c.dropLast ++ [.int (m + 1)]), .tuple (iL c.dropLast ++ [.int (-1)]), .tuple (iL c.dropLast ++ [.bool true]), .tuple (iL c.dropLast ++ [.none]), .int 0]
theorem wr_no {m : Int} (h : C n m c) (h1 : 1 ≤ n) : ∀ d ∈ wr m c, rowB n m d = false := by
  intro d hd
  have hl := h.len
  have len : ∀ ds : List PyData, ds.length ≠ n → rowB n m (.tuple ds) = false := fun ds q => by
    show (decide (ds.length = n) && _) = false
    rw [decide_eq_false q]; rfl
  have mem : ∀ x : PyData, nb x 0 m = false → rowB n m (.tuple (iL c.dropLast ++ [x])) = false := fun x q => by
    show (_ && (iL c.dropLast ++ [x]).all fun d => nb d 0 m) = false
    rw [show ((iL c.dropLast ++ [x]).all fun d => nb d 0 m) = false by rw [List.all_append]; simp [q], Bool.and_false]
  unfold wr at hd
  simp only [List.mem_cons, List.not_mem_nil, or_false] at hd
  rcases hd with rfl | rfl | rfl | rfl | rfl | rfl | rfl | rfl | rfl
  · rfl
  · rfl
  · exact len _ (by rw [List.length_append, iL_len]; simp; omega)
  · exact len _ (by rw [cut_from (by decide), List.length_drop, iL_len]; simp; omega)
  · exact mem _ (by unfold nb; simp; omega)
  · exact mem _ (by unfold nb; simp)
  · exact mem _ rfl
  · exact mem _ rfl
  · rfl
theorem rowB_int (m : Int) : True := trivial
end K95


set_option Elab.async false
set_option linter.all false
set_option maxRecDepth 100000
set_option maxHeartbeats 4000000
namespace K95
open PySem PySem.Spec PyProof.Rows L2 L2H DL Map
variable {n : Nat} {J : Js} {c p : List Int}
theorem rep_iL {k : Nat} {x : Int} (h : 1 ≤ k ∧ k ≤ 2000) : hMul (.d (.tuple [.int x])) (.d (.int k)) = some (.d (.tuple (iL (List.replicate k x)))) := by
  have e : (List.replicate ((k : Int)).toNat [PyData.int x]).flatten = iL (List.replicate k x) := by
    rw [Int.toNat_natCast]
    clear h
    induction k with
    | zero => rfl
    | succ k ih => rw [List.replicate_succ, List.flatten_cons, ih, List.replicate_succ]; rfl
  show (if [PyData.int x] ≠ [] ∧ 1 ≤ (k : Int) ∧ (k : Int) ≤ 2000 ∧ [PyData.int x].length ≤ 500 then some (DV.d (.tuple (List.replicate ((k : Int)).toNat [PyData.int x]).flatten)) else none) = _
  rw [if_pos ⟨by simp, by omega, by omega, by simp⟩, e]
theorem C_rep {m x : Int} (h0 : 0 ≤ x) (h1 : x ≤ m) : C n m (List.replicate n x) := ⟨by simp, fun y hy => by rw [List.eq_of_mem_replicate hy]; exact ⟨h0, h1⟩⟩
theorem dl_eq {c : List Int} : (iL c).dropLast = iL c.dropLast := by unfold iL; rw [List.map_dropLast]
theorem e_wrong (g : G n J) (s : JS J) (hp : C n 12 p) (hc : C n 1 c) (st : Sto) : f__law_wrong [.d (mD n J), .d (.tuple (iL p)), .d (.tuple (iL c))] st = .ok (.d (.bool true)) st := by
  have n1 := g.n1; have n12 := g.n12; have jl := g.len; have pl := hp.len; have cl := hc.len
  have em := fun st => e_map g s st
  have em2 : ∀ st, f_is_map [.d (.tuple [.int 12, .tuple []])] st = .ok (.d (.bool true)) st := fun st => e_map3 (by omega) (fun st => e_are_ok (J := []) (m := 12) (by intro p hp; cases hp) .nil (by simp) st) st
  have aj : ∀ x, hAdd (.d (.tuple (J.map jD))) (.d (.tuple [x])) = some (.d (.tuple (J.map jD ++ [x]))) := fun x => hAdd_tt (by simp; omega)
  have ap : ∀ x, hAdd (.d (.tuple (iL p))) (.d (.tuple [x])) = some (.d (.tuple (iL p ++ [x]))) := fun x => hAdd_tt (by rw [iL_len]; simp; omega)
  have ac : ∀ x, hAdd (.d (.tuple (iL c))) (.d (.tuple [x])) = some (.d (.tuple (iL c ++ [x]))) := fun x => hAdd_tt (by rw [iL_len]; simp; omega)
  have ap2 : ∀ x, hAdd (.d (.tuple (cutD (iL p) none (some (-1))))) (.d (.tuple [x])) = some (.d (.tuple (iL p.dropLast ++ [x]))) := fun x => by
    rw [cut_last, dl_eq, hAdd_tt (by rw [iL_len]; simp; omega)]
  have ac2 : ∀ x, hAdd (.d (.tuple (cutD (iL c) none (some (-1))))) (.d (.tuple [x])) = some (.d (.tuple (iL c.dropLast ++ [x]))) := fun x => by
    rw [cut_last, dl_eq, hAdd_tt (by rw [iL_len]; simp; omega)]
  have w1 : ∀ (x5 : DL.Slot) st, lcG (aName 6) (fB (fOp2 hIsNot (fOwn 1 f_is_map (fCons (fName 6) fNil)) (fC (.bool false)))) (fName 6) [.frz (.d (mD n J)), .frz (.d (.tuple (iL p))), .frz (.d (.tuple (iL c))), .frz (.d (.int n)), .frz (.d (.tuple (J.map jD))), x5, .un] (wm n J) [] st = .ok (.d (.list [])) st := fun x5 st => by
    rw [lcN_filter (fun _ => false) id (by unfold wm; simp)]
    · rw [List.filter_eq_nil_iff.mpr (fun _ _ => by decide)]; rfl
    · intro d hd
      refine ⟨fun st => ?_, fun st h => by cases h⟩
      simp -implicitDefEqProofs -dsimp only [wm_no g d hd, hIsNot_bb, decide_true, fC_ap, fOp2_ap, fOp1_ap, fNil_ap, fCons_ap, fOpN_ap, fLst_ap, fB_ap, fAnd_ap, fOr_ap, fNot_ap, fAndV_ap, fOrV_ap, fNotV_ap, fIfE_ap, fChain_ap, fNoP_ap, fSomeP_ap, fSl_ap, fOwn_ap, fItL_ap, fItT_ap, fItScr_ap, fRng1_ap, fRng2_ap, fYes_ap, fLc_ap, fAA_ap, gSeq_ap, gNop_ap, gSet_ap, gIf_ap, gRet_ap, gRaise_ap, gExpr_ap, gBreak_ap, gCont_ap, gFor_ap, bind_ok, bind_exc, bind_no, thn_ok, thn_exc, thn_no, then_nx, then_rt, then_exc, then_bk, then_ct, lift_some, lift_none, toB_b, toI_i, toL_l, toT_t, toScr_s, lstOnly_l, allD_nil, allD_cons, map_some', lcG_nil, aaG_nil, forG_nil, fName_z, fName_s, fNameB_z, fNameB_zo, fNameB_s, fIsP_z, fIsP_s, aName_ap, aNil_ap, aCons_ap, aTup_ap, wipeE_nil, wipeE_cons, hEq_ii, hNe_ii, hAdd_ii, hSub_ii, hLe_ii, hLtI_ii, hGt_ii, hGe_ii, hIs_bb, hIsNot_bb, List.set_cons_zero, List.set_cons_succ, List.map_cons, List.map_nil, List.cons_append, List.nil_append, hLen_l, hLen_t, hLen_s, hTup_ap, hLst_ap, hTuple_l, hTuple_t, hList_l, hList_t, hAbs_i, hIntOf_i, hIntOf_b, hNeg_i, hIsi_int, hIsi_bool, hIsi_tuple, hIsi_list, hIsi_str, hSl_l, hSl_t, hSl_s, hIx_l0, hIx_t0, hIx_l1, hIx_t1, hIx_l2, hIx_t2, hXor_ii, sv, Option.map_some, Option.bind_some, List.length_cons, List.length_nil, reduceIte, Nat.reduceLT, Nat.reduceLeDiff, Nat.reduceAdd, Bool.false_eq_true, Bool.not_true, Bool.not_false, gAsg_ap, gUnpackLoc_ap, gStoreLoc_ap, gPar_ap, runF_fin, finR_nx, finR_rt, finR_exc, List.replicate_succ, List.replicate_zero, Nat.reduceSub, List.getElem?_cons_zero, List.getElem?_cons_succ, hLt_ii, pInt, pBool, pTup, pList, pStr, decide_eq_true_eq, fIt_ap, toS_l, toS_t, hid_ap]
  have w2 : ∀ (x5 : DL.Slot) st, lcG (aName 6) (fB (fOp2 hIsNot (fOwn 2 f_is_painting (fCons (fName 0) (fCons (fName 6) fNil))) (fC (.bool false)))) (fName 6) [.frz (.d (mD n J)), .frz (.d (.tuple (iL p))), .frz (.d (.tuple (iL c))), .frz (.d (.int n)), .frz (.d (.tuple (J.map jD))), x5, .un] (wr 12 p) [] st = .ok (.d (.list [])) st := fun x5 st => by
    rw [lcN_filter (fun _ => false) id (by unfold wr; simp)]
    · rw [List.filter_eq_nil_iff.mpr (fun _ _ => by decide)]; rfl
    · intro d hd
      refine ⟨fun st => ?_, fun st h => by cases h⟩
      simp -implicitDefEqProofs -dsimp only [e_painting, wr_no hp n1 d hd, hIsNot_bb, decide_true, fC_ap, fOp2_ap, fOp1_ap, fNil_ap, fCons_ap, fOpN_ap, fLst_ap, fB_ap, fAnd_ap, fOr_ap, fNot_ap, fAndV_ap, fOrV_ap, fNotV_ap, fIfE_ap, fChain_ap, fNoP_ap, fSomeP_ap, fSl_ap, fOwn_ap, fItL_ap, fItT_ap, fItScr_ap, fRng1_ap, fRng2_ap, fYes_ap, fLc_ap, fAA_ap, gSeq_ap, gNop_ap, gSet_ap, gIf_ap, gRet_ap, gRaise_ap, gExpr_ap, gBreak_ap, gCont_ap, gFor_ap, bind_ok, bind_exc, bind_no, thn_ok, thn_exc, thn_no, then_nx, then_rt, then_exc, then_bk, then_ct, lift_some, lift_none, toB_b, toI_i, toL_l, toT_t, toScr_s, lstOnly_l, allD_nil, allD_cons, map_some', lcG_nil, aaG_nil, forG_nil, fName_z, fName_s, fNameB_z, fNameB_zo, fNameB_s, fIsP_z, fIsP_s, aName_ap, aNil_ap, aCons_ap, aTup_ap, wipeE_nil, wipeE_cons, hEq_ii, hNe_ii, hAdd_ii, hSub_ii, hLe_ii, hLtI_ii, hGt_ii, hGe_ii, hIs_bb, hIsNot_bb, List.set_cons_zero, List.set_cons_succ, List.map_cons, List.map_nil, List.cons_append, List.nil_append, hLen_l, hLen_t, hLen_s, hTup_ap, hLst_ap, hTuple_l, hTuple_t, hList_l, hList_t, hAbs_i, hIntOf_i, hIntOf_b, hNeg_i, hIsi_int, hIsi_bool, hIsi_tuple, hIsi_list, hIsi_str, hSl_l, hSl_t, hSl_s, hIx_l0, hIx_t0, hIx_l1, hIx_t1, hIx_l2, hIx_t2, hXor_ii, sv, Option.map_some, Option.bind_some, List.length_cons, List.length_nil, reduceIte, Nat.reduceLT, Nat.reduceLeDiff, Nat.reduceAdd, Bool.false_eq_true, Bool.not_true, Bool.not_false, gAsg_ap, gUnpackLoc_ap, gStoreLoc_ap, gPar_ap, runF_fin, finR_nx, finR_rt, finR_exc, List.replicate_succ, List.replicate_zero, Nat.reduceSub, List.getElem?_cons_zero, List.getElem?_cons_succ, hLt_ii, pInt, pBool, pTup, pList, pStr, decide_eq_true_eq, fIt_ap, toS_l, toS_t, hid_ap]
  have w3 : ∀ (x5 : DL.Slot) st, lcG (aName 6) (fB (fOp2 hIsNot (fOwn 2 f_is_choice (fCons (fName 0) (fCons (fName 6) fNil))) (fC (.bool false)))) (fName 6) [.frz (.d (mD n J)), .frz (.d (.tuple (iL p))), .frz (.d (.tuple (iL c))), .frz (.d (.int n)), .frz (.d (.tuple (J.map jD))), x5, .un] (wr 1 c) [] st = .ok (.d (.list [])) st := fun x5 st => by
    rw [lcN_filter (fun _ => false) id (by unfold wr; simp)]
    · rw [List.filter_eq_nil_iff.mpr (fun _ _ => by decide)]; rfl
    · intro d hd
      refine ⟨fun st => ?_, fun st h => by cases h⟩
      simp -implicitDefEqProofs -dsimp only [e_choice, wr_no hc n1 d hd, hIsNot_bb, decide_true, fC_ap, fOp2_ap, fOp1_ap, fNil_ap, fCons_ap, fOpN_ap, fLst_ap, fB_ap, fAnd_ap, fOr_ap, fNot_ap, fAndV_ap, fOrV_ap, fNotV_ap, fIfE_ap, fChain_ap, fNoP_ap, fSomeP_ap, fSl_ap, fOwn_ap, fItL_ap, fItT_ap, fItScr_ap, fRng1_ap, fRng2_ap, fYes_ap, fLc_ap, fAA_ap, gSeq_ap, gNop_ap, gSet_ap, gIf_ap, gRet_ap, gRaise_ap, gExpr_ap, gBreak_ap, gCont_ap, gFor_ap, bind_ok, bind_exc, bind_no, thn_ok, thn_exc, thn_no, then_nx, then_rt, then_exc, then_bk, then_ct, lift_some, lift_none, toB_b, toI_i, toL_l, toT_t, toScr_s, lstOnly_l, allD_nil, allD_cons, map_some', lcG_nil, aaG_nil, forG_nil, fName_z, fName_s, fNameB_z, fNameB_zo, fNameB_s, fIsP_z, fIsP_s, aName_ap, aNil_ap, aCons_ap, aTup_ap, wipeE_nil, wipeE_cons, hEq_ii, hNe_ii, hAdd_ii, hSub_ii, hLe_ii, hLtI_ii, hGt_ii, hGe_ii, hIs_bb, hIsNot_bb, List.set_cons_zero, List.set_cons_succ, List.map_cons, List.map_nil, List.cons_append, List.nil_append, hLen_l, hLen_t, hLen_s, hTup_ap, hLst_ap, hTuple_l, hTuple_t, hList_l, hList_t, hAbs_i, hIntOf_i, hIntOf_b, hNeg_i, hIsi_int, hIsi_bool, hIsi_tuple, hIsi_list, hIsi_str, hSl_l, hSl_t, hSl_s, hIx_l0, hIx_t0, hIx_l1, hIx_t1, hIx_l2, hIx_t2, hXor_ii, sv, Option.map_some, Option.bind_some, List.length_cons, List.length_nil, reduceIte, Nat.reduceLT, Nat.reduceLeDiff, Nat.reduceAdd, Bool.false_eq_true, Bool.not_true, Bool.not_false, gAsg_ap, gUnpackLoc_ap, gStoreLoc_ap, gPar_ap, runF_fin, finR_nx, finR_rt, finR_exc, List.replicate_succ, List.replicate_zero, Nat.reduceSub, List.getElem?_cons_zero, List.getElem?_cons_succ, hLt_ii, pInt, pBool, pTup, pList, pStr, decide_eq_true_eq, fIt_ap, toS_l, toS_t, hid_ap]
  have r12 := rep_iL (k := n) (x := 12) (by omega)
  have ro := row_ok (C_rep (n := n) (m := 12) (x := 12) (by decide) (by decide))
  have l1 : (wm n J).length = 19 := rfl
  have l2 : (wr 12 p).length = 9 := rfl
  have l3 : (wr 1 c).length = 9 := rfl
  have fold1 : [PyData.none, .tuple [.int n], .list [.int n, .tuple (J.map jD)], .tuple [.int n, .tuple (J.map jD), .int 0], .tuple [.int 0, .tuple []], .tuple [.int 13, .tuple (J.map jD)], .tuple [.bool true, .tuple []], .tuple [.none, .tuple (J.map jD)], .tuple [.int n, .list (J.map jD)], .tuple [.int n, .tuple (J.map jD ++ [.none])], .tuple [.int n, .tuple (J.map jD ++ [.tuple [.int 0, .int n]])], .tuple [.int 2, .tuple [.tuple [.int 1, .int 0]]], .tuple [.int 2, .tuple [.tuple [.int 0, .int 1], .tuple [.int 0, .int 1]]], .tuple [.int 2, .tuple [.tuple [.int 0, .bool true]]], .tuple [.int 2, .tuple [.tuple [.int 0, .int 1, .int 1]]], .tuple [.int 2, .tuple [.list [.int 0, .int 1]]], .tuple [.int 3, .tuple [.tuple [.int 0, .int 2], .tuple [.int 0, .int 1]]], .tuple [.int 2, .tuple [.tuple [.int 0, .int 0]]], .int 5] = wm n J := rfl
  have fold2 : [PyData.none, .list (iL p), .tuple (iL p ++ [.int 0]), .tuple (cutD (iL p) (some 1) none), .tuple (iL p.dropLast ++ [.int 13]), .tuple (iL p.dropLast ++ [.int (-1)]), .tuple (iL p.dropLast ++ [.bool true]), .tuple (iL p.dropLast ++ [.none]), .int 0] = wr 12 p := rfl
  have fold3 : [PyData.none, .list (iL c), .tuple (iL c ++ [.int 0]), .tuple (cutD (iL c) (some 1) none), .tuple (iL c.dropLast ++ [.int 2]), .tuple (iL c.dropLast ++ [.int (-1)]), .tuple (iL c.dropLast ++ [.bool true]), .tuple (iL c.dropLast ++ [.none]), .int 0] = wr 1 c := rfl
  have ep := fun (v : PyData) st => e_painting (n := n) (J := J) v st
  have ec := fun (v : PyData) st => e_choice (n := n) (J := J) v st
  unfold mD at em w1 w2 w3 ep ec ⊢
  simp -implicitDefEqProofs -dsimp only [f__law_wrong, g__law_wrong, em, em2, aj, ap, ac, ap2, ac2, fold1, fold2, fold3, l1, l2, l3, w1, w2, w3, r12, ep, ec, ro, row_ok hp, row_ok hc, hNe_00, hEq_00, hIsNot_bb, hIs_bb, decide_true, fC_ap, fOp2_ap, fOp1_ap, fNil_ap, fCons_ap, fOpN_ap, fLst_ap, fB_ap, fAnd_ap, fOr_ap, fNot_ap, fAndV_ap, fOrV_ap, fNotV_ap, fIfE_ap, fChain_ap, fNoP_ap, fSomeP_ap, fSl_ap, fOwn_ap, fItL_ap, fItT_ap, fItScr_ap, fRng1_ap, fRng2_ap, fYes_ap, fLc_ap, fAA_ap, gSeq_ap, gNop_ap, gSet_ap, gIf_ap, gRet_ap, gRaise_ap, gExpr_ap, gBreak_ap, gCont_ap, gFor_ap, bind_ok, bind_exc, bind_no, thn_ok, thn_exc, thn_no, then_nx, then_rt, then_exc, then_bk, then_ct, lift_some, lift_none, toB_b, toI_i, toL_l, toT_t, toScr_s, lstOnly_l, allD_nil, allD_cons, map_some', lcG_nil, aaG_nil, forG_nil, fName_z, fName_s, fNameB_z, fNameB_zo, fNameB_s, fIsP_z, fIsP_s, aName_ap, aNil_ap, aCons_ap, aTup_ap, wipeE_nil, wipeE_cons, hEq_ii, hNe_ii, hAdd_ii, hSub_ii, hLe_ii, hLtI_ii, hGt_ii, hGe_ii, hIs_bb, hIsNot_bb, List.set_cons_zero, List.set_cons_succ, List.map_cons, List.map_nil, List.cons_append, List.nil_append, hLen_l, hLen_t, hLen_s, hTup_ap, hLst_ap, hTuple_l, hTuple_t, hList_l, hList_t, hAbs_i, hIntOf_i, hIntOf_b, hNeg_i, hIsi_int, hIsi_bool, hIsi_tuple, hIsi_list, hIsi_str, hSl_l, hSl_t, hSl_s, hIx_l0, hIx_t0, hIx_l1, hIx_t1, hIx_l2, hIx_t2, hXor_ii, sv, Option.map_some, Option.bind_some, List.length_cons, List.length_nil, reduceIte, Nat.reduceLT, Nat.reduceLeDiff, Nat.reduceAdd, Bool.false_eq_true, Bool.not_true, Bool.not_false, gAsg_ap, gUnpackLoc_ap, gStoreLoc_ap, gPar_ap, runF_fin, finR_nx, finR_rt, finR_exc, List.replicate_succ, List.replicate_zero, Nat.reduceSub, List.getElem?_cons_zero, List.getElem?_cons_succ, hLt_ii, pInt, pBool, pTup, pList, pStr, decide_eq_true_eq, fIt_ap, toS_l, toS_t, hid_ap]
end K95


set_option Elab.async false
set_option linter.all false
set_option maxRecDepth 100000
set_option maxHeartbeats 4000000
namespace K95
open PySem PySem.Spec PyProof.Rows L2 L2H DL Map
variable {n : Nat} {J : Js} {c p : List Int}
theorem ne_ref : hNe (.d (.str "Refused")) (.d (.str "Refused")) = some (.d (.bool false)) := by
  rw [hNe_ss (by decide +kernel) (by decide +kernel)]
  exact congrArg (fun b => some (DV.d (.bool b))) (by decide +kernel)
/-- a value that is not in l -/
theorem no_of {l : List Int} {n : Nat} {v : PyData} (h : v ∈ iL ((nats n).filter fun i => !decide (i ∈ l)) ++ [.int n, .int (-1), .none, .bool true]) : nb v 0 ((n : Int) - 1) = false ∨ ∃ i : Int, v = .int i ∧ i ∉ l := by
  rcases List.mem_append.mp h with h | h
  · obtain ⟨i, hi, rfl⟩ := List.mem_map.mp h
    have := (List.mem_filter.mp hi).2
    exact .inr ⟨i, rfl, by simpa using this⟩
  · simp only [List.mem_cons, List.not_mem_nil, or_false] at h
    rcases h with rfl | rfl | rfl | rfl
    · left; unfold nb; simp; omega
    · left; unfold nb; simp
    · left; rfl
    · left; rfl
theorem pt_C (g : G n J) (hc : C n 12 c) {v : Int} (v0 : 0 ≤ v) (vn : v < n) : C n 12 (pt J c v) := by
  obtain ⟨_, _, c0, c1, _⟩ := e_colour g hc.len v0 vn
  refine ⟨by unfold pt; rw [List.length_set]; exact hc.len, fun x hx => ?_⟩
  rcases List.mem_or_eq_of_mem_set hx with h | h
  · exact hc.rng x h
  · rw [h]; exact ⟨c0, c1⟩
def PInv (n : Nat) (J : Js) (m : Nat) (env : DEnv) (s : Sto) : Prop := Draws s ∧ ∃ c x4 x5 x6 x7 x8 x9 x10, env = [.frz .loc, .frz (.d (mD n J)), .frz (.d (.tuple (iL c))), .frz (.d (.int n)), x4, x5, x6, x7, x8, x9, x10] ∧ C n 12 c ∧ eqJ J c ≤ m
def TrueR (r : SRes) : Prop := ∃ st', finR false r = .ok (.d (.bool true)) st' ∧ Draws st'
theorem TrueR.rt {s : Sto} (h : Draws s) : TrueR (.rt (.d (.bool true)) s) := ⟨s, rfl, h⟩
theorem e_painted (g : G n J) (hc : C n 12 c) {st : Sto} (gs : Draws st) : ∃ st', f__law_painted [.loc, .d (mD n J), .d (.tuple (iL c))] st = .ok (.d (.bool true)) st' ∧ Draws st' := by
  have n1 := g.n1; have n12 := g.n12
  have le := fun st => e_lequal g hc.len st
  have m0 : hIx (.d (mD n J)) (.d (.int 0)) = some (.d (.int n)) := hIx_t0
  have eb : ∀ c : List Int, eqJ J c ≤ 63 := fun c => Nat.le_trans (List.length_filter_le _ _) g.len
  have rg0 : ∀ st, hRng1 [.d (.int ((eqJ J c : Int) + 1))] st = .ok (rngL 0 (eqJ J c + 1)) st := fun st => by
    rw [hRng1_i (by have := eb c; omega), show ((eqJ J c : Int) + 1).toNat = eqJ J c + 1 by omega]
  have rg : ∀ st, hRng1 [.d (.int n)] st = .ok (iL (nats n)) st := fun st => by rw [hRng1_i (by omega), Int.toNat_natCast, rng_nats]
  show ∃ st', finR false (g__law_painted [.frz .loc, .frz (.d (mD n J)), .frz (.d (.tuple (iL c))), .un, .un, .un, .un, .un, .un, .un, .un] st) = .ok (.d (.bool true)) st' ∧ Draws st'
  suffices h : TrueR (g__law_painted [.frz .loc, .frz (.d (mD n J)), .frz (.d (.tuple (iL c))), .un, .un, .un, .un, .un, .un, .un, .un] st) from h
  simp -implicitDefEqProofs -dsimp only [g__law_painted, m0, le, rg0, fC_ap, fOp2_ap, fOp1_ap, fNil_ap, fCons_ap, fOpN_ap, fLst_ap, fB_ap, fAnd_ap, fOr_ap, fNot_ap, fAndV_ap, fOrV_ap, fNotV_ap, fIfE_ap, fChain_ap, fNoP_ap, fSomeP_ap, fSl_ap, fOwn_ap, fItL_ap, fItT_ap, fItScr_ap, fRng1_ap, fRng2_ap, fYes_ap, fLc_ap, fAA_ap, gSeq_ap, gNop_ap, gSet_ap, gIf_ap, gRet_ap, gRaise_ap, gExpr_ap, gBreak_ap, gCont_ap, gFor_ap, bind_ok, bind_exc, bind_no, thn_ok, thn_exc, thn_no, then_nx, then_rt, then_exc, then_bk, then_ct, lift_some, lift_none, toB_b, toI_i, toL_l, toT_t, toScr_s, lstOnly_l, allD_nil, allD_cons, map_some', lcG_nil, aaG_nil, forG_nil, fName_z, fName_s, fNameB_z, fNameB_zo, fNameB_s, fIsP_z, fIsP_s, aName_ap, aNil_ap, aCons_ap, aTup_ap, wipeE_nil, wipeE_cons, hEq_ii, hNe_ii, hAdd_ii, hSub_ii, hLe_ii, hLtI_ii, hGt_ii, hGe_ii, hIs_bb, hIsNot_bb, List.set_cons_zero, List.set_cons_succ, List.map_cons, List.map_nil, List.cons_append, List.nil_append, hLen_l, hLen_t, hLen_s, hTup_ap, hLst_ap, hTuple_l, hTuple_t, hList_l, hList_t, hAbs_i, hIntOf_i, hIntOf_b, hNeg_i, hIsi_int, hIsi_bool, hIsi_tuple, hIsi_list, hIsi_str, hSl_l, hSl_t, hSl_s, hIx_l0, hIx_t0, hIx_l1, hIx_t1, hIx_l2, hIx_t2, hXor_ii, sv, Option.map_some, Option.bind_some, List.length_cons, List.length_nil, reduceIte, Nat.reduceLT, Nat.reduceLeDiff, Nat.reduceAdd, Bool.false_eq_true, Bool.not_true, Bool.not_false, gAsg_ap, gUnpackLoc_ap, gStoreLoc_ap, gPar_ap, runF_fin, finR_nx, finR_rt, finR_exc, List.replicate_succ, List.replicate_zero, Nat.reduceSub, List.getElem?_cons_zero, List.getElem?_cons_succ, hLt_ii, pInt, pBool, pTup, pList, pStr, decide_eq_true_eq, fIt_ap, toS_l, toS_t, hid_ap]
  refine for_find (I := PInv n J) (P := TrueR) (n := eqJ J c) ⟨gs, c, _, _, _, _, _, _, _, rfl, hc, Nat.le_refl _⟩ (by rw [rng_nats, iL_len, nats_len]; omega) ?_
  clear le rg0 gs hc
  rintro d hd m env s ⟨gs, c, x4, x5, x6, x7, x8, x9, x10, rfl, hc, hm⟩
  refine ⟨_, rfl, ?_⟩
  have hl := hc.len
  have lcl := fun st => e_lclashing g hl st
  have cl := fun st => e_clashing g hl st
  rw [show (nats n).filter (clash J c) = clN n J c from rfl] at lcl cl
  have eq1 := fun st => e_equal g hl st
  have eq2 := fun st => e_lequal g hl st
  have cll : (clN n J c).length ≤ 12 := by unfold clN; have := List.length_filter_le (clash J c) (nats n); rw [nats_len] at this; omega
  have lf : ∀ (y7 y8 y10 : DL.Slot) st, lcG (aName 9) (fB (fOp2 hNotIn (fName 9) (fName 6))) (fName 9) [.frz .loc, .frz (.d (mD n J)), .frz (.d (.tuple (iL c))), .frz (.d (.int n)), x4, .frz (.d d), .frz (.d (.tuple (iL (clN n J c)))), y7, y8, .un, y10] (iL (nats n)) [] st = .ok (.d (.list (iL ((nats n).filter fun i => !decide (i ∈ clN n J c))))) st := fun y7 y8 y10 st => by
    rw [lcN_ints (fun i => !decide (i ∈ clN n J c)) (fun i => .int i) (by rw [nats_len]; omega)]
    · rfl
    · intro x hx
      refine ⟨fun st => ?_, fun st _ => ?_⟩ <;> simp -implicitDefEqProofs -dsimp only [hNotIn_ti, fC_ap, fOp2_ap, fOp1_ap, fNil_ap, fCons_ap, fOpN_ap, fLst_ap, fB_ap, fAnd_ap, fOr_ap, fNot_ap, fAndV_ap, fOrV_ap, fNotV_ap, fIfE_ap, fChain_ap, fNoP_ap, fSomeP_ap, fSl_ap, fOwn_ap, fItL_ap, fItT_ap, fItScr_ap, fRng1_ap, fRng2_ap, fYes_ap, fLc_ap, fAA_ap, gSeq_ap, gNop_ap, gSet_ap, gIf_ap, gRet_ap, gRaise_ap, gExpr_ap, gBreak_ap, gCont_ap, gFor_ap, bind_ok, bind_exc, bind_no, thn_ok, thn_exc, thn_no, then_nx, then_rt, then_exc, then_bk, then_ct, lift_some, lift_none, toB_b, toI_i, toL_l, toT_t, toScr_s, lstOnly_l, allD_nil, allD_cons, map_some', lcG_nil, aaG_nil, forG_nil, fName_z, fName_s, fNameB_z, fNameB_zo, fNameB_s, fIsP_z, fIsP_s, aName_ap, aNil_ap, aCons_ap, aTup_ap, wipeE_nil, wipeE_cons, hEq_ii, hNe_ii, hAdd_ii, hSub_ii, hLe_ii, hLtI_ii, hGt_ii, hGe_ii, hIs_bb, hIsNot_bb, List.set_cons_zero, List.set_cons_succ, List.map_cons, List.map_nil, List.cons_append, List.nil_append, hLen_l, hLen_t, hLen_s, hTup_ap, hLst_ap, hTuple_l, hTuple_t, hList_l, hList_t, hAbs_i, hIntOf_i, hIntOf_b, hNeg_i, hIsi_int, hIsi_bool, hIsi_tuple, hIsi_list, hIsi_str, hSl_l, hSl_t, hSl_s, hIx_l0, hIx_t0, hIx_l1, hIx_t1, hIx_l2, hIx_t2, hXor_ii, sv, Option.map_some, Option.bind_some, List.length_cons, List.length_nil, reduceIte, Nat.reduceLT, Nat.reduceLeDiff, Nat.reduceAdd, Bool.false_eq_true, Bool.not_true, Bool.not_false, gAsg_ap, gUnpackLoc_ap, gStoreLoc_ap, gPar_ap, runF_fin, finR_nx, finR_rt, finR_exc, List.replicate_succ, List.replicate_zero, Nat.reduceSub, List.getElem?_cons_zero, List.getElem?_cons_succ, hLt_ii, pInt, pBool, pTup, pList, pStr, decide_eq_true_eq, fIt_ap, toS_l, toS_t, hid_ap]
  have al : hAdd (.d (.list (iL ((nats n).filter fun i => !decide (i ∈ clN n J c))))) (.d (.list [.int n, .int (-1), .none, .bool true])) = some (.d (.list (iL ((nats n).filter fun i => !decide (i ∈ clN n J c)) ++ [.int n, .int (-1), .none, .bool true]))) := hAdd_ll (by
    have := List.length_filter_le (fun i => !decide (i ∈ clN n J c)) (nats n)
    rw [nats_len] at this
    rw [iL_len]; simp; omega)
  simp -implicitDefEqProofs -dsimp only [lcl, cl, hNe_tt, eq1, eq2, e_int, rg, lf, al, Bool.true_and, decide_true, fC_ap, fOp2_ap, fOp1_ap, fNil_ap, fCons_ap, fOpN_ap, fLst_ap, fB_ap, fAnd_ap, fOr_ap, fNot_ap, fAndV_ap, fOrV_ap, fNotV_ap, fIfE_ap, fChain_ap, fNoP_ap, fSomeP_ap, fSl_ap, fOwn_ap, fItL_ap, fItT_ap, fItScr_ap, fRng1_ap, fRng2_ap, fYes_ap, fLc_ap, fAA_ap, gSeq_ap, gNop_ap, gSet_ap, gIf_ap, gRet_ap, gRaise_ap, gExpr_ap, gBreak_ap, gCont_ap, gFor_ap, bind_ok, bind_exc, bind_no, thn_ok, thn_exc, thn_no, then_nx, then_rt, then_exc, then_bk, then_ct, lift_some, lift_none, toB_b, toI_i, toL_l, toT_t, toScr_s, lstOnly_l, allD_nil, allD_cons, map_some', lcG_nil, aaG_nil, forG_nil, fName_z, fName_s, fNameB_z, fNameB_zo, fNameB_s, fIsP_z, fIsP_s, aName_ap, aNil_ap, aCons_ap, aTup_ap, wipeE_nil, wipeE_cons, hEq_ii, hNe_ii, hAdd_ii, hSub_ii, hLe_ii, hLtI_ii, hGt_ii, hGe_ii, hIs_bb, hIsNot_bb, List.set_cons_zero, List.set_cons_succ, List.map_cons, List.map_nil, List.cons_append, List.nil_append, hLen_l, hLen_t, hLen_s, hTup_ap, hLst_ap, hTuple_l, hTuple_t, hList_l, hList_t, hAbs_i, hIntOf_i, hIntOf_b, hNeg_i, hIsi_int, hIsi_bool, hIsi_tuple, hIsi_list, hIsi_str, hSl_l, hSl_t, hSl_s, hIx_l0, hIx_t0, hIx_l1, hIx_t1, hIx_l2, hIx_t2, hXor_ii, sv, Option.map_some, Option.bind_some, List.length_cons, List.length_nil, reduceIte, Nat.reduceLT, Nat.reduceLeDiff, Nat.reduceAdd, Bool.false_eq_true, Bool.not_true, Bool.not_false, gAsg_ap, gUnpackLoc_ap, gStoreLoc_ap, gPar_ap, runF_fin, finR_nx, finR_rt, finR_exc, List.replicate_succ, List.replicate_zero, Nat.reduceSub, List.getElem?_cons_zero, List.getElem?_cons_succ, hLt_ii, pInt, pBool, pTup, pList, pStr, decide_eq_true_eq, fIt_ap, toS_l, toS_t, hid_ap]
  refine for_seq (I := fun env s' => s' = s ∧ ∃ y7, env = [.frz .loc, .frz (.d (mD n J)), .frz (.d (.tuple (iL c))), .frz (.d (.int n)), x4, .frz (.d d), .frz (.d (.tuple (iL (clN n J c)))), y7, x8, x9, x10]) ⟨rfl, _, rfl⟩ ?_ ?_
  · rintro v hv env s' ⟨rfl, y7, rfl⟩
    refine ⟨_, rfl, ?_⟩
    have no := fun st => e_moved0_no g hl (no_of hv) st
    simp -implicitDefEqProofs -dsimp only [no, ne_ref, fC_ap, fOp2_ap, fOp1_ap, fNil_ap, fCons_ap, fOpN_ap, fLst_ap, fB_ap, fAnd_ap, fOr_ap, fNot_ap, fAndV_ap, fOrV_ap, fNotV_ap, fIfE_ap, fChain_ap, fNoP_ap, fSomeP_ap, fSl_ap, fOwn_ap, fItL_ap, fItT_ap, fItScr_ap, fRng1_ap, fRng2_ap, fYes_ap, fLc_ap, fAA_ap, gSeq_ap, gNop_ap, gSet_ap, gIf_ap, gRet_ap, gRaise_ap, gExpr_ap, gBreak_ap, gCont_ap, gFor_ap, bind_ok, bind_exc, bind_no, thn_ok, thn_exc, thn_no, then_nx, then_rt, then_exc, then_bk, then_ct, lift_some, lift_none, toB_b, toI_i, toL_l, toT_t, toScr_s, lstOnly_l, allD_nil, allD_cons, map_some', lcG_nil, aaG_nil, forG_nil, fName_z, fName_s, fNameB_z, fNameB_zo, fNameB_s, fIsP_z, fIsP_s, aName_ap, aNil_ap, aCons_ap, aTup_ap, wipeE_nil, wipeE_cons, hEq_ii, hNe_ii, hAdd_ii, hSub_ii, hLe_ii, hLtI_ii, hGt_ii, hGe_ii, hIs_bb, hIsNot_bb, List.set_cons_zero, List.set_cons_succ, List.map_cons, List.map_nil, List.cons_append, List.nil_append, hLen_l, hLen_t, hLen_s, hTup_ap, hLst_ap, hTuple_l, hTuple_t, hList_l, hList_t, hAbs_i, hIntOf_i, hIntOf_b, hNeg_i, hIsi_int, hIsi_bool, hIsi_tuple, hIsi_list, hIsi_str, hSl_l, hSl_t, hSl_s, hIx_l0, hIx_t0, hIx_l1, hIx_t1, hIx_l2, hIx_t2, hXor_ii, sv, Option.map_some, Option.bind_some, List.length_cons, List.length_nil, reduceIte, Nat.reduceLT, Nat.reduceLeDiff, Nat.reduceAdd, Bool.false_eq_true, Bool.not_true, Bool.not_false, gAsg_ap, gUnpackLoc_ap, gStoreLoc_ap, gPar_ap, runF_fin, finR_nx, finR_rt, finR_exc, List.replicate_succ, List.replicate_zero, Nat.reduceSub, List.getElem?_cons_zero, List.getElem?_cons_succ, hLt_ii, pInt, pBool, pTup, pList, pStr, decide_eq_true_eq, fIt_ap, toS_l, toS_t, hid_ap]
    exact ⟨_, _, rfl, rfl, _, rfl⟩
  · rintro env s' ⟨rfl, y7, rfl⟩
    have lev : ∀ st, lcG (aName 9) fYes (fIfE (fB (fOp2 hIn (fName 9) (fName 6))) (fOwn 3 f__law_colour (fCons (fName 1) (fCons (fName 2) (fCons (fName 9) fNil)))) (fOp2 hIx (fName 2) (fName 9))) [.frz .loc, .frz (.d (mD n J)), .frz (.d (.tuple (iL c))), .frz (.d (.int n)), x4, .frz (.d d), .frz (.d (.tuple (iL (clN n J c)))), y7, x8, .un, x10] (iL (nats n)) [] st = .ok (.d (.list (iL (every n J c)))) st := fun st => by
      rw [lcN_ints' (fun v => .int (if clash J c v = true then col J c v else ga c v)) (by rw [nats_len]; omega)]
      · unfold every iL; rw [List.map_map]; rfl
      · intro v hv st
        obtain ⟨v0, vn⟩ := mem_nats.mp hv
        obtain ⟨_, c2, _⟩ := e_colour g hl v0 vn
        have i1 := ixg (c := c) v0 (by omega)
        cases q : clash J c v with
        | true =>
          have mm : v ∈ clN n J c := mem_cl.mpr ⟨⟨v0, vn⟩, q⟩
          simp -implicitDefEqProofs -dsimp only [hIn_ti, mm, c2, decide_true, fC_ap, fOp2_ap, fOp1_ap, fNil_ap, fCons_ap, fOpN_ap, fLst_ap, fB_ap, fAnd_ap, fOr_ap, fNot_ap, fAndV_ap, fOrV_ap, fNotV_ap, fIfE_ap, fChain_ap, fNoP_ap, fSomeP_ap, fSl_ap, fOwn_ap, fItL_ap, fItT_ap, fItScr_ap, fRng1_ap, fRng2_ap, fYes_ap, fLc_ap, fAA_ap, gSeq_ap, gNop_ap, gSet_ap, gIf_ap, gRet_ap, gRaise_ap, gExpr_ap, gBreak_ap, gCont_ap, gFor_ap, bind_ok, bind_exc, bind_no, thn_ok, thn_exc, thn_no, then_nx, then_rt, then_exc, then_bk, then_ct, lift_some, lift_none, toB_b, toI_i, toL_l, toT_t, toScr_s, lstOnly_l, allD_nil, allD_cons, map_some', lcG_nil, aaG_nil, forG_nil, fName_z, fName_s, fNameB_z, fNameB_zo, fNameB_s, fIsP_z, fIsP_s, aName_ap, aNil_ap, aCons_ap, aTup_ap, wipeE_nil, wipeE_cons, hEq_ii, hNe_ii, hAdd_ii, hSub_ii, hLe_ii, hLtI_ii, hGt_ii, hGe_ii, hIs_bb, hIsNot_bb, List.set_cons_zero, List.set_cons_succ, List.map_cons, List.map_nil, List.cons_append, List.nil_append, hLen_l, hLen_t, hLen_s, hTup_ap, hLst_ap, hTuple_l, hTuple_t, hList_l, hList_t, hAbs_i, hIntOf_i, hIntOf_b, hNeg_i, hIsi_int, hIsi_bool, hIsi_tuple, hIsi_list, hIsi_str, hSl_l, hSl_t, hSl_s, hIx_l0, hIx_t0, hIx_l1, hIx_t1, hIx_l2, hIx_t2, hXor_ii, sv, Option.map_some, Option.bind_some, List.length_cons, List.length_nil, reduceIte, Nat.reduceLT, Nat.reduceLeDiff, Nat.reduceAdd, Bool.false_eq_true, Bool.not_true, Bool.not_false, gAsg_ap, gUnpackLoc_ap, gStoreLoc_ap, gPar_ap, runF_fin, finR_nx, finR_rt, finR_exc, List.replicate_succ, List.replicate_zero, Nat.reduceSub, List.getElem?_cons_zero, List.getElem?_cons_succ, hLt_ii, pInt, pBool, pTup, pList, pStr, decide_eq_true_eq, fIt_ap, toS_l, toS_t, hid_ap]
        | false =>
          have mm : v ∉ clN n J c := fun h => by have := (mem_cl.mp h).2; rw [q] at this; cases this
          simp -implicitDefEqProofs -dsimp only [hIn_ti, mm, i1, decide_false, fC_ap, fOp2_ap, fOp1_ap, fNil_ap, fCons_ap, fOpN_ap, fLst_ap, fB_ap, fAnd_ap, fOr_ap, fNot_ap, fAndV_ap, fOrV_ap, fNotV_ap, fIfE_ap, fChain_ap, fNoP_ap, fSomeP_ap, fSl_ap, fOwn_ap, fItL_ap, fItT_ap, fItScr_ap, fRng1_ap, fRng2_ap, fYes_ap, fLc_ap, fAA_ap, gSeq_ap, gNop_ap, gSet_ap, gIf_ap, gRet_ap, gRaise_ap, gExpr_ap, gBreak_ap, gCont_ap, gFor_ap, bind_ok, bind_exc, bind_no, thn_ok, thn_exc, thn_no, then_nx, then_rt, then_exc, then_bk, then_ct, lift_some, lift_none, toB_b, toI_i, toL_l, toT_t, toScr_s, lstOnly_l, allD_nil, allD_cons, map_some', lcG_nil, aaG_nil, forG_nil, fName_z, fName_s, fNameB_z, fNameB_zo, fNameB_s, fIsP_z, fIsP_s, aName_ap, aNil_ap, aCons_ap, aTup_ap, wipeE_nil, wipeE_cons, hEq_ii, hNe_ii, hAdd_ii, hSub_ii, hLe_ii, hLtI_ii, hGt_ii, hGe_ii, hIs_bb, hIsNot_bb, List.set_cons_zero, List.set_cons_succ, List.map_cons, List.map_nil, List.cons_append, List.nil_append, hLen_l, hLen_t, hLen_s, hTup_ap, hLst_ap, hTuple_l, hTuple_t, hList_l, hList_t, hAbs_i, hIntOf_i, hIntOf_b, hNeg_i, hIsi_int, hIsi_bool, hIsi_tuple, hIsi_list, hIsi_str, hSl_l, hSl_t, hSl_s, hIx_l0, hIx_t0, hIx_l1, hIx_t1, hIx_l2, hIx_t2, hXor_ii, sv, Option.map_some, Option.bind_some, List.length_cons, List.length_nil, reduceIte, Nat.reduceLT, Nat.reduceLeDiff, Nat.reduceAdd, Bool.false_eq_true, Bool.not_true, Bool.not_false, gAsg_ap, gUnpackLoc_ap, gStoreLoc_ap, gPar_ap, runF_fin, finR_nx, finR_rt, finR_exc, List.replicate_succ, List.replicate_zero, Nat.reduceSub, List.getElem?_cons_zero, List.getElem?_cons_succ, hLt_ii, pInt, pBool, pTup, pList, pStr, decide_eq_true_eq, fIt_ap, toS_l, toS_t, hid_ap]
    have ea := fun st => e_all g hl st
    have ml : (iL (clN n J c)).length = (clN n J c).length := iL_len
    by_cases e : clN n J c = []
    · simp -implicitDefEqProofs -dsimp only [rg, lev, ea, hNe_tt, hEq_t0, eq_true e, decide_true, fC_ap, fOp2_ap, fOp1_ap, fNil_ap, fCons_ap, fOpN_ap, fLst_ap, fB_ap, fAnd_ap, fOr_ap, fNot_ap, fAndV_ap, fOrV_ap, fNotV_ap, fIfE_ap, fChain_ap, fNoP_ap, fSomeP_ap, fSl_ap, fOwn_ap, fItL_ap, fItT_ap, fItScr_ap, fRng1_ap, fRng2_ap, fYes_ap, fLc_ap, fAA_ap, gSeq_ap, gNop_ap, gSet_ap, gIf_ap, gRet_ap, gRaise_ap, gExpr_ap, gBreak_ap, gCont_ap, gFor_ap, bind_ok, bind_exc, bind_no, thn_ok, thn_exc, thn_no, then_nx, then_rt, then_exc, then_bk, then_ct, lift_some, lift_none, toB_b, toI_i, toL_l, toT_t, toScr_s, lstOnly_l, allD_nil, allD_cons, map_some', lcG_nil, aaG_nil, forG_nil, fName_z, fName_s, fNameB_z, fNameB_zo, fNameB_s, fIsP_z, fIsP_s, aName_ap, aNil_ap, aCons_ap, aTup_ap, wipeE_nil, wipeE_cons, hEq_ii, hNe_ii, hAdd_ii, hSub_ii, hLe_ii, hLtI_ii, hGt_ii, hGe_ii, hIs_bb, hIsNot_bb, List.set_cons_zero, List.set_cons_succ, List.map_cons, List.map_nil, List.cons_append, List.nil_append, hLen_l, hLen_t, hLen_s, hTup_ap, hLst_ap, hTuple_l, hTuple_t, hList_l, hList_t, hAbs_i, hIntOf_i, hIntOf_b, hNeg_i, hIsi_int, hIsi_bool, hIsi_tuple, hIsi_list, hIsi_str, hSl_l, hSl_t, hSl_s, hIx_l0, hIx_t0, hIx_l1, hIx_t1, hIx_l2, hIx_t2, hXor_ii, sv, Option.map_some, Option.bind_some, List.length_cons, List.length_nil, reduceIte, Nat.reduceLT, Nat.reduceLeDiff, Nat.reduceAdd, Bool.false_eq_true, Bool.not_true, Bool.not_false, gAsg_ap, gUnpackLoc_ap, gStoreLoc_ap, gPar_ap, runF_fin, finR_nx, finR_rt, finR_exc, List.replicate_succ, List.replicate_zero, Nat.reduceSub, List.getElem?_cons_zero, List.getElem?_cons_succ, hLt_ii, pInt, pBool, pTup, pList, pStr, decide_eq_true_eq, fIt_ap, toS_l, toS_t, hid_ap]
      exact .inl ⟨_, _, rfl, TrueR.rt gs⟩
    · obtain ⟨r, s2, d2, r0, r1, g2⟩ := dr (n := ((clN n J c).length : Int)) gs (by have := List.length_pos_iff.mpr e; omega) (by omega)
      obtain ⟨v, hv⟩ : ∃ v, (clN n J c).getD r.toNat 0 = v := ⟨_, rfl⟩
      have ix : hIx (.d (.tuple (iL (clN n J c)))) (.d (.int r)) = some (.d (.int v)) := by rw [hIx_ti r0 r1, hv]
      have mv : v ∈ clN n J c := by
        rw [← hv, List.getD_eq_getElem?_getD, List.getElem?_eq_getElem (by omega)]
        exact List.getElem_mem _
      obtain ⟨⟨v0, vn⟩, hcl⟩ := mem_cl.mp mv
      obtain ⟨_, c2, _, _, cn⟩ := e_colour g hl v0 vn
      have mo := fun st => e_moved0 g hl mv st
      obtain ⟨a1, a2⟩ := set_cut (c := c) (x := col J c v) v0 (by omega) (by omega)
      have hpC := pt_C g hc v0 vn
      have dec : eqJ J (pt J c v) < eqJ J c := eq_dec g.ok (by omega) v0 vn hcl cn
      have eq3 := fun st => e_lequal g hpC.len st
      have ge : ¬ ((eqJ J c : Int) ≤ eqJ J (pt J c v)) := by omega
      have ep := fun st => e_painting (n := n) (J := J) (.tuple (iL (pt J c v))) st
      have fold : c.set v.toNat (col J c v) = pt J c v := rfl
      simp -implicitDefEqProofs -dsimp only [rg, lev, ea, hNe_tt, hEq_t0, e, ml, d2, ix, mo, c2, a1, a2, fold, eq2, eq3, ge, ep, row_ok hpC, hIsNot_bb, decide_true, decide_false, fC_ap, fOp2_ap, fOp1_ap, fNil_ap, fCons_ap, fOpN_ap, fLst_ap, fB_ap, fAnd_ap, fOr_ap, fNot_ap, fAndV_ap, fOrV_ap, fNotV_ap, fIfE_ap, fChain_ap, fNoP_ap, fSomeP_ap, fSl_ap, fOwn_ap, fItL_ap, fItT_ap, fItScr_ap, fRng1_ap, fRng2_ap, fYes_ap, fLc_ap, fAA_ap, gSeq_ap, gNop_ap, gSet_ap, gIf_ap, gRet_ap, gRaise_ap, gExpr_ap, gBreak_ap, gCont_ap, gFor_ap, bind_ok, bind_exc, bind_no, thn_ok, thn_exc, thn_no, then_nx, then_rt, then_exc, then_bk, then_ct, lift_some, lift_none, toB_b, toI_i, toL_l, toT_t, toScr_s, lstOnly_l, allD_nil, allD_cons, map_some', lcG_nil, aaG_nil, forG_nil, fName_z, fName_s, fNameB_z, fNameB_zo, fNameB_s, fIsP_z, fIsP_s, aName_ap, aNil_ap, aCons_ap, aTup_ap, wipeE_nil, wipeE_cons, hEq_ii, hNe_ii, hAdd_ii, hSub_ii, hLe_ii, hLtI_ii, hGt_ii, hGe_ii, hIs_bb, hIsNot_bb, List.set_cons_zero, List.set_cons_succ, List.map_cons, List.map_nil, List.cons_append, List.nil_append, hLen_l, hLen_t, hLen_s, hTup_ap, hLst_ap, hTuple_l, hTuple_t, hList_l, hList_t, hAbs_i, hIntOf_i, hIntOf_b, hNeg_i, hIsi_int, hIsi_bool, hIsi_tuple, hIsi_list, hIsi_str, hSl_l, hSl_t, hSl_s, hIx_l0, hIx_t0, hIx_l1, hIx_t1, hIx_l2, hIx_t2, hXor_ii, sv, Option.map_some, Option.bind_some, List.length_cons, List.length_nil, reduceIte, Nat.reduceLT, Nat.reduceLeDiff, Nat.reduceAdd, Bool.false_eq_true, Bool.not_true, Bool.not_false, gAsg_ap, gUnpackLoc_ap, gStoreLoc_ap, gPar_ap, runF_fin, finR_nx, finR_rt, finR_exc, List.replicate_succ, List.replicate_zero, Nat.reduceSub, List.getElem?_cons_zero, List.getElem?_cons_succ, hLt_ii, pInt, pBool, pTup, pList, pStr, decide_eq_true_eq, fIt_ap, toS_l, toS_t, hid_ap]
      exact .inr ⟨eqJ J (pt J c v), _, _, by omega, rfl, g2, pt J c v, _, _, _, _, _, _, _, rfl, hpC, Nat.le_refl _⟩
end K95


set_option Elab.async false
set_option linter.all false
set_option maxRecDepth 100000
set_option maxHeartbeats 4000000
namespace K95
open PySem PySem.Spec PyProof.Rows L2 L2H DL Map
variable {n : Nat} {J : Js} {c p : List Int}
theorem tn_C (hc : C n 1 c) {v : Int} (v0 : 0 ≤ v) (vn : v < n) : C n 1 (tn c v) := by
  have := hc.rng _ (ga_mem v0 (show v < c.length by have := hc.len; omega))
  refine ⟨by unfold tn; rw [List.length_set]; exact hc.len, fun x hx => ?_⟩
  rcases List.mem_or_eq_of_mem_set hx with h | h
  · exact hc.rng x h
  · rw [h]; omega
def CInv (n : Nat) (J : Js) (m : Nat) (env : DEnv) (s : Sto) : Prop := Draws s ∧ ∃ c mv x5 x6 x7 x8 x9 x10 x11 x12, env = [.frz .loc, .frz (.d (mD n J)), .frz (.d (.tuple (iL c))), .frz (.d (.int n)), .own (.list (iL mv)), x5, x6, x7, x8, x9, x10, x11, x12] ∧ C n 1 c ∧ mv.length = n ∧ (∀ v : Int, 0 ≤ v → v < n → 0 ≤ ga mv v ∧ ga mv v + wt J c v ≤ 2) ∧ Wt J c (nats n) ≤ m
theorem maxI_le : ∀ {l : List Int}, l ≠ [] → (∀ x ∈ l, x ≤ 2) → maxI l ≤ 2 := fun {l} h k => k _ (maxI_spec l h).1
theorem e_chosen (g : G n J) (hc : C n 1 c) {st : Sto} (gs : Draws st) : ∃ st', f__law_chosen [.loc, .d (mD n J), .d (.tuple (iL c))] st = .ok (.d (.bool true)) st' ∧ Draws st' := by
  have n1 := g.n1; have n12 := g.n12
  have m0 : hIx (.d (mD n J)) (.d (.int 0)) = some (.d (.int n)) := hIx_t0
  have z0 : hMul (.d (.list [.int 0])) (.d (.int n)) = some (.d (.list (iL (List.replicate n 0)))) := by
    rw [hMul_l (by simp; omega) (by omega)]
    refine congrArg (fun z => some (DV.d (.list z))) ?_
    clear g n1 n12 gs hc m0
    induction n with
    | zero => rfl
    | succ k ih => rw [List.replicate_succ, List.flatten_cons, ih, List.replicate_succ]; rfl
  have two : hMul (.d (.int 2)) (.d (.int n)) = some (.d (.int (2 * n))) := hMul_ii (.inl (by decide))
  have rg0 : ∀ st, hRng1 [.d (.int (2 * (n : Int) + 1))] st = .ok (rngL 0 (2 * n + 1)) st := fun st => by
    rw [hRng1_i (by omega), show (2 * (n : Int) + 1).toNat = 2 * n + 1 by omega]
  have rg : ∀ st, hRng1 [.d (.int n)] st = .ok (iL (nats n)) st := fun st => by rw [hRng1_i (by omega), Int.toNat_natCast, rng_nats]
  have run : ∀ r, f__law_chosen [.loc, .d (mD n J), .d (.tuple (iL c))] st = r ↔ finR false (g__law_chosen [.frz .loc, .frz (.d (mD n J)), .frz (.d (.tuple (iL c))), .un, .un, .un, .un, .un, .un, .un, .un, .un, .un] st) = r := fun r => by
    unfold f__law_chosen
    rw [runF_fin]
    simp only [List.map_cons, List.map_nil, List.length_cons, List.length_nil, Nat.reduceAdd, Nat.reduceSub, List.replicate_succ, List.replicate_zero, List.cons_append, List.nil_append]
  simp only [run]
  suffices h : TrueR (g__law_chosen [.frz .loc, .frz (.d (mD n J)), .frz (.d (.tuple (iL c))), .un, .un, .un, .un, .un, .un, .un, .un, .un, .un] st) from h
  have fl : ∀ (xs : List PyData) st, lstOnly (.d (.list xs)) st = .ok (.d (.list xs)) st := fun _ _ => rfl
  simp -implicitDefEqProofs -dsimp only [g__law_chosen, m0, z0, two, rg0, fl, gOwn_ap', fC_ap, fOp2_ap, fOp1_ap, fNil_ap, fCons_ap, fOpN_ap, fLst_ap, fB_ap, fAnd_ap, fOr_ap, fNot_ap, fAndV_ap, fOrV_ap, fNotV_ap, fIfE_ap, fChain_ap, fNoP_ap, fSomeP_ap, fSl_ap, fOwn_ap, fItL_ap, fItT_ap, fItScr_ap, fRng1_ap, fRng2_ap, fYes_ap, fLc_ap, fAA_ap, gSeq_ap, gNop_ap, gSet_ap, gIf_ap, gRet_ap, gRaise_ap, gExpr_ap, gBreak_ap, gCont_ap, gFor_ap, bind_ok, bind_exc, bind_no, thn_ok, thn_exc, thn_no, then_nx, then_rt, then_exc, then_bk, then_ct, lift_some, lift_none, toB_b, toI_i, toL_l, toT_t, toScr_s, lstOnly_l, allD_nil, allD_cons, map_some', lcG_nil, aaG_nil, forG_nil, fName_z, fName_s, fNameB_z, fNameB_zo, fNameB_s, fIsP_z, fIsP_s, aName_ap, aNil_ap, aCons_ap, aTup_ap, wipeE_nil, wipeE_cons, hEq_ii, hNe_ii, hAdd_ii, hSub_ii, hLe_ii, hLtI_ii, hGt_ii, hGe_ii, hIs_bb, hIsNot_bb, List.set_cons_zero, List.set_cons_succ, List.map_cons, List.map_nil, List.cons_append, List.nil_append, hLen_l, hLen_t, hLen_s, hTup_ap, hLst_ap, hTuple_l, hTuple_t, hList_l, hList_t, hAbs_i, hIntOf_i, hIntOf_b, hNeg_i, hIsi_int, hIsi_bool, hIsi_tuple, hIsi_list, hIsi_str, hSl_l, hSl_t, hSl_s, hIx_l0, hIx_t0, hIx_l1, hIx_t1, hIx_l2, hIx_t2, hXor_ii, sv, Option.map_some, Option.bind_some, List.length_cons, List.length_nil, reduceIte, Nat.reduceLT, Nat.reduceLeDiff, Nat.reduceAdd, Bool.false_eq_true, Bool.not_true, Bool.not_false, gAsg_ap, gUnpackLoc_ap, gStoreLoc_ap, gPar_ap, runF_fin, finR_nx, finR_rt, finR_exc, List.replicate_succ, List.replicate_zero, Nat.reduceSub, List.getElem?_cons_zero, List.getElem?_cons_succ, hLt_ii, pInt, pBool, pTup, pList, pStr, decide_eq_true_eq, fIt_ap, toS_l, toS_t, hid_ap]
  refine for_find (I := CInv n J) (P := TrueR) (n := 2 * n) ⟨gs, c, List.replicate n 0, _, _, _, _, _, _, _, _, rfl, hc, by simp, fun v v0 vn => ?_, ?_⟩ (by rw [rng_nats, iL_len, nats_len]; omega) ?_
  · have : ga (List.replicate n 0) v = 0 := by
      unfold ga
      rw [List.getD_eq_getElem?_getD, List.getElem?_replicate]
      split <;> rfl
    rw [this]
    have := wt_le (J := J) (c := c) (v := v)
    omega
  · have := Wt_le (J := J) (c := c) (l := nats n)
    rw [nats_len] at this
    exact this
  clear rg0 gs hc z0 two
  rintro d hd m env s ⟨gs, c, mv, x5, x6, x7, x8, x9, x10, x11, x12, rfl, hc, ml, mb, hm⟩
  refine ⟨_, rfl, ?_⟩
  have hl := hc.len
  have rs := fun st => e_restless g hl st
  have se := fun st => e_settled g hl st
  have rl : (rsN n J c).length ≤ 12 := by unfold rsN; have := List.length_filter_le (restl J c) (nats n); rw [nats_len] at this; omega
  have lb := fun v st => e_lbeside (n := n) (J := J) g.jl v st
  have rgp : ∀ st, hRng1 [.d (.int n)] st = .ok ((nats n).map PyData.int) st := rg
  have near : ∀ (v : Int) (y4 y5 y6 y8 y9 y10 y11 : DL.Slot) st, lcG (aName 12) (fB (fOp2 hEq (fOp2 hIx (fName 2) (fName 12)) (fC (.int 1)))) (fName 12) [.frz .loc, .frz (.d (mD n J)), .frz (.d (.tuple (iL c))), .frz (.d (.int n)), y4, y5, y6, .frz (.d (.int v)), y8, y9, y10, y11, .un] (iL (beside J v)) [] st = .ok (.d (.list (iL ((beside J v).filter fun u => decide (ga c u = 1))))) st := fun v y4 y5 y6 y8 y9 y10 y11 st => by
    rw [lcN_ints (fun u => decide (ga c u = 1)) (fun u => .int u) (by have := beside_len g v; omega)]
    · rfl
    · intro u hu
      obtain ⟨a, b, _⟩ := beside_rng g.ok hu
      have i1 := ixg (c := c) (i := u) a (by omega)
      refine ⟨fun st => ?_, fun st _ => ?_⟩ <;> simp -implicitDefEqProofs -dsimp only [i1, fC_ap, fOp2_ap, fOp1_ap, fNil_ap, fCons_ap, fOpN_ap, fLst_ap, fB_ap, fAnd_ap, fOr_ap, fNot_ap, fAndV_ap, fOrV_ap, fNotV_ap, fIfE_ap, fChain_ap, fNoP_ap, fSomeP_ap, fSl_ap, fOwn_ap, fItL_ap, fItT_ap, fItScr_ap, fRng1_ap, fRng2_ap, fYes_ap, fLc_ap, fAA_ap, gSeq_ap, gNop_ap, gSet_ap, gIf_ap, gRet_ap, gRaise_ap, gExpr_ap, gBreak_ap, gCont_ap, gFor_ap, bind_ok, bind_exc, bind_no, thn_ok, thn_exc, thn_no, then_nx, then_rt, then_exc, then_bk, then_ct, lift_some, lift_none, toB_b, toI_i, toL_l, toT_t, toScr_s, lstOnly_l, allD_nil, allD_cons, map_some', lcG_nil, aaG_nil, forG_nil, fName_z, fName_s, fNameB_z, fNameB_zo, fNameB_s, fIsP_z, fIsP_s, aName_ap, aNil_ap, aCons_ap, aTup_ap, wipeE_nil, wipeE_cons, hEq_ii, hNe_ii, hAdd_ii, hSub_ii, hLe_ii, hLtI_ii, hGt_ii, hGe_ii, hIs_bb, hIsNot_bb, List.set_cons_zero, List.set_cons_succ, List.map_cons, List.map_nil, List.cons_append, List.nil_append, hLen_l, hLen_t, hLen_s, hTup_ap, hLst_ap, hTuple_l, hTuple_t, hList_l, hList_t, hAbs_i, hIntOf_i, hIntOf_b, hNeg_i, hIsi_int, hIsi_bool, hIsi_tuple, hIsi_list, hIsi_str, hSl_l, hSl_t, hSl_s, hIx_l0, hIx_t0, hIx_l1, hIx_t1, hIx_l2, hIx_t2, hXor_ii, sv, Option.map_some, Option.bind_some, List.length_cons, List.length_nil, reduceIte, Nat.reduceLT, Nat.reduceLeDiff, Nat.reduceAdd, Bool.false_eq_true, Bool.not_true, Bool.not_false, gAsg_ap, gUnpackLoc_ap, gStoreLoc_ap, gPar_ap, runF_fin, finR_nx, finR_rt, finR_exc, List.replicate_succ, List.replicate_zero, Nat.reduceSub, List.getElem?_cons_zero, List.getElem?_cons_succ, hLt_ii, pInt, pBool, pTup, pList, pStr, decide_eq_true_eq, fIt_ap, toS_l, toS_t, hid_ap]
  have ninn : ∀ v, (!decide ((beside J v).filter (fun u => decide (ga c u = 1)) = [])) = inn J c v := fun v => by
    unfold inn
    rw [Bool.eq_iff_iff, List.any_eq_true]
    simp [List.filter_eq_nil_iff]
  have lf : ∀ (y8 y9 y10 y11 y12 : DL.Slot) st, lcG (aName 7) (fB (fOp2 hNotIn (fName 7) (fNameB 6))) (fName 7) [.frz .loc, .frz (.d (mD n J)), .frz (.d (.tuple (iL c))), .frz (.d (.int n)), .own (.list (iL mv)), .frz (.d d), .own (.list (iL (rsN n J c))), .un, y8, y9, y10, y11, y12] (iL (nats n)) [] st = .ok (.d (.list (iL ((nats n).filter fun i => !decide (i ∈ rsN n J c))))) st := fun y8 y9 y10 y11 y12 st => by
    rw [lcN_ints (fun i => !decide (i ∈ rsN n J c)) (fun i => .int i) (by rw [nats_len]; omega)]
    · rfl
    · intro x hx
      refine ⟨fun st => ?_, fun st _ => ?_⟩ <;> simp -implicitDefEqProofs -dsimp only [hNotIn_li, fC_ap, fOp2_ap, fOp1_ap, fNil_ap, fCons_ap, fOpN_ap, fLst_ap, fB_ap, fAnd_ap, fOr_ap, fNot_ap, fAndV_ap, fOrV_ap, fNotV_ap, fIfE_ap, fChain_ap, fNoP_ap, fSomeP_ap, fSl_ap, fOwn_ap, fItL_ap, fItT_ap, fItScr_ap, fRng1_ap, fRng2_ap, fYes_ap, fLc_ap, fAA_ap, gSeq_ap, gNop_ap, gSet_ap, gIf_ap, gRet_ap, gRaise_ap, gExpr_ap, gBreak_ap, gCont_ap, gFor_ap, bind_ok, bind_exc, bind_no, thn_ok, thn_exc, thn_no, then_nx, then_rt, then_exc, then_bk, then_ct, lift_some, lift_none, toB_b, toI_i, toL_l, toT_t, toScr_s, lstOnly_l, allD_nil, allD_cons, map_some', lcG_nil, aaG_nil, forG_nil, fName_z, fName_s, fNameB_z, fNameB_zo, fNameB_s, fIsP_z, fIsP_s, aName_ap, aNil_ap, aCons_ap, aTup_ap, wipeE_nil, wipeE_cons, hEq_ii, hNe_ii, hAdd_ii, hSub_ii, hLe_ii, hLtI_ii, hGt_ii, hGe_ii, hIs_bb, hIsNot_bb, List.set_cons_zero, List.set_cons_succ, List.map_cons, List.map_nil, List.cons_append, List.nil_append, hLen_l, hLen_t, hLen_s, hTup_ap, hLst_ap, hTuple_l, hTuple_t, hList_l, hList_t, hAbs_i, hIntOf_i, hIntOf_b, hNeg_i, hIsi_int, hIsi_bool, hIsi_tuple, hIsi_list, hIsi_str, hSl_l, hSl_t, hSl_s, hIx_l0, hIx_t0, hIx_l1, hIx_t1, hIx_l2, hIx_t2, hXor_ii, sv, Option.map_some, Option.bind_some, List.length_cons, List.length_nil, reduceIte, Nat.reduceLT, Nat.reduceLeDiff, Nat.reduceAdd, Bool.false_eq_true, Bool.not_true, Bool.not_false, gAsg_ap, gUnpackLoc_ap, gStoreLoc_ap, gPar_ap, runF_fin, finR_nx, finR_rt, finR_exc, List.replicate_succ, List.replicate_zero, Nat.reduceSub, List.getElem?_cons_zero, List.getElem?_cons_succ, hLt_ii, pInt, pBool, pTup, pList, pStr, decide_eq_true_eq, fIt_ap, toS_l, toS_t, hid_ap]
  have al : hAdd (.d (.list (iL ((nats n).filter fun i => !decide (i ∈ rsN n J c))))) (.d (.list [.int n, .int (-1), .none, .bool true])) = some (.d (.list (iL ((nats n).filter fun i => !decide (i ∈ rsN n J c)) ++ [.int n, .int (-1), .none, .bool true]))) := hAdd_ll (by
    have := List.length_filter_le (fun i => !decide (i ∈ rsN n J c)) (nats n)
    rw [nats_len] at this
    rw [iL_len]; simp; omega)
  simp -implicitDefEqProofs -dsimp only [gOwn_ap', rgp, fC_ap, fOp2_ap, fOp1_ap, fNil_ap, fCons_ap, fOpN_ap, fLst_ap, fB_ap, fAnd_ap, fOr_ap, fNot_ap, fAndV_ap, fOrV_ap, fNotV_ap, fIfE_ap, fChain_ap, fNoP_ap, fSomeP_ap, fSl_ap, fOwn_ap, fItL_ap, fItT_ap, fItScr_ap, fRng1_ap, fRng2_ap, fYes_ap, fLc_ap, fAA_ap, gSeq_ap, gNop_ap, gSet_ap, gIf_ap, gRet_ap, gRaise_ap, gExpr_ap, gBreak_ap, gCont_ap, gFor_ap, bind_ok, bind_exc, bind_no, thn_ok, thn_exc, thn_no, then_nx, then_rt, then_exc, then_bk, then_ct, lift_some, lift_none, toB_b, toI_i, toL_l, toT_t, toScr_s, lstOnly_l, allD_nil, allD_cons, map_some', lcG_nil, aaG_nil, forG_nil, fName_z, fName_s, fNameB_z, fNameB_zo, fNameB_s, fIsP_z, fIsP_s, aName_ap, aNil_ap, aCons_ap, aTup_ap, wipeE_nil, wipeE_cons, hEq_ii, hNe_ii, hAdd_ii, hSub_ii, hLe_ii, hLtI_ii, hGt_ii, hGe_ii, hIs_bb, hIsNot_bb, List.set_cons_zero, List.set_cons_succ, List.map_cons, List.map_nil, List.cons_append, List.nil_append, hLen_l, hLen_t, hLen_s, hTup_ap, hLst_ap, hTuple_l, hTuple_t, hList_l, hList_t, hAbs_i, hIntOf_i, hIntOf_b, hNeg_i, hIsi_int, hIsi_bool, hIsi_tuple, hIsi_list, hIsi_str, hSl_l, hSl_t, hSl_s, hIx_l0, hIx_t0, hIx_l1, hIx_t1, hIx_l2, hIx_t2, hXor_ii, sv, Option.map_some, Option.bind_some, List.length_cons, List.length_nil, reduceIte, Nat.reduceLT, Nat.reduceLeDiff, Nat.reduceAdd, Bool.false_eq_true, Bool.not_true, Bool.not_false, gAsg_ap, gUnpackLoc_ap, gStoreLoc_ap, gPar_ap, runF_fin, finR_nx, finR_rt, finR_exc, List.replicate_succ, List.replicate_zero, Nat.reduceSub, List.getElem?_cons_zero, List.getElem?_cons_succ, hLt_ii, pInt, pBool, pTup, pList, pStr, decide_eq_true_eq, fIt_ap, toS_l, toS_t, hid_ap]
  refine for_pre (P := Stp (CInv n J) TrueR m) (g := PyData.int) (I := fun pre env s' => s' = s ∧ ∃ y7 y8, env = [.frz .loc, .frz (.d (mD n J)), .frz (.d (.tuple (iL c))), .frz (.d (.int n)), .own (.list (iL mv)), .frz (.d d), .own (.list (iL (pre.filter (restl J c)))), y7, y8, x9, x10, x11, x12]) (all := nats n) (pre := []) rfl ⟨rfl, _, _, rfl⟩ ?_ ?_
  · rintro pre v post hpv env s' ⟨rfl, y7, y8, rfl⟩
    refine ⟨_, rfl, ?_⟩
    have pl := pre_len hpv
    rw [nats_len] at pl
    obtain ⟨v0, vn⟩ := mem_nats.mp (pre_mem hpv)
    have i1 := ixg (c := c) v0 (by omega)
    have len : (iL (pre.filter (restl J c))).length < sizeLine := by rw [sv, iL_len]; have := List.length_filter_le (restl J c) pre; omega
    have ap : iL (pre.filter (restl J c)) ++ [.int v] = iL (pre.filter (restl J c) ++ [v]) := by rw [← iL_app]; rfl
    have re := rest_eq (J := J) (c := c) v
    cases q : restl J c v with
    | true =>
      rw [q, decide_eq_true_eq] at re
      simp -implicitDefEqProofs -dsimp only [lb, near, i1, hNe_l0, ninn, hEq_bb, re, decide_true, gAppend_ap, if_pos (sv ▸ len), ap, fC_ap, fOp2_ap, fOp1_ap, fNil_ap, fCons_ap, fOpN_ap, fLst_ap, fB_ap, fAnd_ap, fOr_ap, fNot_ap, fAndV_ap, fOrV_ap, fNotV_ap, fIfE_ap, fChain_ap, fNoP_ap, fSomeP_ap, fSl_ap, fOwn_ap, fItL_ap, fItT_ap, fItScr_ap, fRng1_ap, fRng2_ap, fYes_ap, fLc_ap, fAA_ap, gSeq_ap, gNop_ap, gSet_ap, gIf_ap, gRet_ap, gRaise_ap, gExpr_ap, gBreak_ap, gCont_ap, gFor_ap, bind_ok, bind_exc, bind_no, thn_ok, thn_exc, thn_no, then_nx, then_rt, then_exc, then_bk, then_ct, lift_some, lift_none, toB_b, toI_i, toL_l, toT_t, toScr_s, lstOnly_l, allD_nil, allD_cons, map_some', lcG_nil, aaG_nil, forG_nil, fName_z, fName_s, fNameB_z, fNameB_zo, fNameB_s, fIsP_z, fIsP_s, aName_ap, aNil_ap, aCons_ap, aTup_ap, wipeE_nil, wipeE_cons, hEq_ii, hNe_ii, hAdd_ii, hSub_ii, hLe_ii, hLtI_ii, hGt_ii, hGe_ii, hIs_bb, hIsNot_bb, List.set_cons_zero, List.set_cons_succ, List.map_cons, List.map_nil, List.cons_append, List.nil_append, hLen_l, hLen_t, hLen_s, hTup_ap, hLst_ap, hTuple_l, hTuple_t, hList_l, hList_t, hAbs_i, hIntOf_i, hIntOf_b, hNeg_i, hIsi_int, hIsi_bool, hIsi_tuple, hIsi_list, hIsi_str, hSl_l, hSl_t, hSl_s, hIx_l0, hIx_t0, hIx_l1, hIx_t1, hIx_l2, hIx_t2, hXor_ii, sv, Option.map_some, Option.bind_some, List.length_cons, List.length_nil, reduceIte, Nat.reduceLT, Nat.reduceLeDiff, Nat.reduceAdd, Bool.false_eq_true, Bool.not_true, Bool.not_false, gAsg_ap, gUnpackLoc_ap, gStoreLoc_ap, gPar_ap, runF_fin, finR_nx, finR_rt, finR_exc, List.replicate_succ, List.replicate_zero, Nat.reduceSub, List.getElem?_cons_zero, List.getElem?_cons_succ, hLt_ii, pInt, pBool, pTup, pList, pStr, decide_eq_true_eq, fIt_ap, toS_l, toS_t, hid_ap]
      exact ⟨_, _, rfl, rfl, .frz (.d (.int v)), .frz (.d (.list (iL ((beside J v).filter fun u => decide (ga c u = 1))))), by rw [List.filter_append]; simp [q]⟩
    | false =>
      rw [q] at re
      have re : ¬ (decide (ga c v = 1) = inn J c v) := of_decide_eq_false re
      simp -implicitDefEqProofs -dsimp only [lb, near, i1, hNe_l0, ninn, hEq_bb, re, decide_false, fC_ap, fOp2_ap, fOp1_ap, fNil_ap, fCons_ap, fOpN_ap, fLst_ap, fB_ap, fAnd_ap, fOr_ap, fNot_ap, fAndV_ap, fOrV_ap, fNotV_ap, fIfE_ap, fChain_ap, fNoP_ap, fSomeP_ap, fSl_ap, fOwn_ap, fItL_ap, fItT_ap, fItScr_ap, fRng1_ap, fRng2_ap, fYes_ap, fLc_ap, fAA_ap, gSeq_ap, gNop_ap, gSet_ap, gIf_ap, gRet_ap, gRaise_ap, gExpr_ap, gBreak_ap, gCont_ap, gFor_ap, bind_ok, bind_exc, bind_no, thn_ok, thn_exc, thn_no, then_nx, then_rt, then_exc, then_bk, then_ct, lift_some, lift_none, toB_b, toI_i, toL_l, toT_t, toScr_s, lstOnly_l, allD_nil, allD_cons, map_some', lcG_nil, aaG_nil, forG_nil, fName_z, fName_s, fNameB_z, fNameB_zo, fNameB_s, fIsP_z, fIsP_s, aName_ap, aNil_ap, aCons_ap, aTup_ap, wipeE_nil, wipeE_cons, hEq_ii, hNe_ii, hAdd_ii, hSub_ii, hLe_ii, hLtI_ii, hGt_ii, hGe_ii, hIs_bb, hIsNot_bb, List.set_cons_zero, List.set_cons_succ, List.map_cons, List.map_nil, List.cons_append, List.nil_append, hLen_l, hLen_t, hLen_s, hTup_ap, hLst_ap, hTuple_l, hTuple_t, hList_l, hList_t, hAbs_i, hIntOf_i, hIntOf_b, hNeg_i, hIsi_int, hIsi_bool, hIsi_tuple, hIsi_list, hIsi_str, hSl_l, hSl_t, hSl_s, hIx_l0, hIx_t0, hIx_l1, hIx_t1, hIx_l2, hIx_t2, hXor_ii, sv, Option.map_some, Option.bind_some, List.length_cons, List.length_nil, reduceIte, Nat.reduceLT, Nat.reduceLeDiff, Nat.reduceAdd, Bool.false_eq_true, Bool.not_true, Bool.not_false, gAsg_ap, gUnpackLoc_ap, gStoreLoc_ap, gPar_ap, runF_fin, finR_nx, finR_rt, finR_exc, List.replicate_succ, List.replicate_zero, Nat.reduceSub, List.getElem?_cons_zero, List.getElem?_cons_succ, hLt_ii, pInt, pBool, pTup, pList, pStr, decide_eq_true_eq, fIt_ap, toS_l, toS_t, hid_ap]
      exact ⟨_, _, rfl, rfl, .frz (.d (.int v)), .frz (.d (.list (iL ((beside J v).filter fun u => decide (ga c u = 1))))), by rw [List.filter_append]; simp [q]⟩
  · rintro env s' ⟨rfl, y7, y8, rfl⟩
    rw [show (nats n).filter (restl J c) = rsN n J c from rfl]
    simp -implicitDefEqProofs -dsimp only [rs, se, hNe_ll, hEq_l0, e_same, rg, lf, al, decide_true, fC_ap, fOp2_ap, fOp1_ap, fNil_ap, fCons_ap, fOpN_ap, fLst_ap, fB_ap, fAnd_ap, fOr_ap, fNot_ap, fAndV_ap, fOrV_ap, fNotV_ap, fIfE_ap, fChain_ap, fNoP_ap, fSomeP_ap, fSl_ap, fOwn_ap, fItL_ap, fItT_ap, fItScr_ap, fRng1_ap, fRng2_ap, fYes_ap, fLc_ap, fAA_ap, gSeq_ap, gNop_ap, gSet_ap, gIf_ap, gRet_ap, gRaise_ap, gExpr_ap, gBreak_ap, gCont_ap, gFor_ap, bind_ok, bind_exc, bind_no, thn_ok, thn_exc, thn_no, then_nx, then_rt, then_exc, then_bk, then_ct, lift_some, lift_none, toB_b, toI_i, toL_l, toT_t, toScr_s, lstOnly_l, allD_nil, allD_cons, map_some', lcG_nil, aaG_nil, forG_nil, fName_z, fName_s, fNameB_z, fNameB_zo, fNameB_s, fIsP_z, fIsP_s, aName_ap, aNil_ap, aCons_ap, aTup_ap, wipeE_nil, wipeE_cons, hEq_ii, hNe_ii, hAdd_ii, hSub_ii, hLe_ii, hLtI_ii, hGt_ii, hGe_ii, hIs_bb, hIsNot_bb, List.set_cons_zero, List.set_cons_succ, List.map_cons, List.map_nil, List.cons_append, List.nil_append, hLen_l, hLen_t, hLen_s, hTup_ap, hLst_ap, hTuple_l, hTuple_t, hList_l, hList_t, hAbs_i, hIntOf_i, hIntOf_b, hNeg_i, hIsi_int, hIsi_bool, hIsi_tuple, hIsi_list, hIsi_str, hSl_l, hSl_t, hSl_s, hIx_l0, hIx_t0, hIx_l1, hIx_t1, hIx_l2, hIx_t2, hXor_ii, sv, Option.map_some, Option.bind_some, List.length_cons, List.length_nil, reduceIte, Nat.reduceLT, Nat.reduceLeDiff, Nat.reduceAdd, Bool.false_eq_true, Bool.not_true, Bool.not_false, gAsg_ap, gUnpackLoc_ap, gStoreLoc_ap, gPar_ap, runF_fin, finR_nx, finR_rt, finR_exc, List.replicate_succ, List.replicate_zero, Nat.reduceSub, List.getElem?_cons_zero, List.getElem?_cons_succ, hLt_ii, pInt, pBool, pTup, pList, pStr, decide_eq_true_eq, fIt_ap, toS_l, toS_t, hid_ap]
    refine for_seq (I := fun env s'' => s'' = s' ∧ ∃ y10, env = [.frz .loc, .frz (.d (mD n J)), .frz (.d (.tuple (iL c))), .frz (.d (.int n)), .own (.list (iL mv)), .frz (.d d), .own (.list (iL (rsN n J c))), y7, y8, .frz (.d (.tuple (iL (rsN n J c)))), y10, x11, x12]) ⟨rfl, _, rfl⟩ ?_ ?_
    · rintro v hv env s'' ⟨rfl, y10, rfl⟩
      refine ⟨_, rfl, ?_⟩
      have no := fun st => e_moved1_no g hl (no_of hv) st
      simp -implicitDefEqProofs -dsimp only [no, ne_ref, fC_ap, fOp2_ap, fOp1_ap, fNil_ap, fCons_ap, fOpN_ap, fLst_ap, fB_ap, fAnd_ap, fOr_ap, fNot_ap, fAndV_ap, fOrV_ap, fNotV_ap, fIfE_ap, fChain_ap, fNoP_ap, fSomeP_ap, fSl_ap, fOwn_ap, fItL_ap, fItT_ap, fItScr_ap, fRng1_ap, fRng2_ap, fYes_ap, fLc_ap, fAA_ap, gSeq_ap, gNop_ap, gSet_ap, gIf_ap, gRet_ap, gRaise_ap, gExpr_ap, gBreak_ap, gCont_ap, gFor_ap, bind_ok, bind_exc, bind_no, thn_ok, thn_exc, thn_no, then_nx, then_rt, then_exc, then_bk, then_ct, lift_some, lift_none, toB_b, toI_i, toL_l, toT_t, toScr_s, lstOnly_l, allD_nil, allD_cons, map_some', lcG_nil, aaG_nil, forG_nil, fName_z, fName_s, fNameB_z, fNameB_zo, fNameB_s, fIsP_z, fIsP_s, aName_ap, aNil_ap, aCons_ap, aTup_ap, wipeE_nil, wipeE_cons, hEq_ii, hNe_ii, hAdd_ii, hSub_ii, hLe_ii, hLtI_ii, hGt_ii, hGe_ii, hIs_bb, hIsNot_bb, List.set_cons_zero, List.set_cons_succ, List.map_cons, List.map_nil, List.cons_append, List.nil_append, hLen_l, hLen_t, hLen_s, hTup_ap, hLst_ap, hTuple_l, hTuple_t, hList_l, hList_t, hAbs_i, hIntOf_i, hIntOf_b, hNeg_i, hIsi_int, hIsi_bool, hIsi_tuple, hIsi_list, hIsi_str, hSl_l, hSl_t, hSl_s, hIx_l0, hIx_t0, hIx_l1, hIx_t1, hIx_l2, hIx_t2, hXor_ii, sv, Option.map_some, Option.bind_some, List.length_cons, List.length_nil, reduceIte, Nat.reduceLT, Nat.reduceLeDiff, Nat.reduceAdd, Bool.false_eq_true, Bool.not_true, Bool.not_false, gAsg_ap, gUnpackLoc_ap, gStoreLoc_ap, gPar_ap, runF_fin, finR_nx, finR_rt, finR_exc, List.replicate_succ, List.replicate_zero, Nat.reduceSub, List.getElem?_cons_zero, List.getElem?_cons_succ, hLt_ii, pInt, pBool, pTup, pList, pStr, decide_eq_true_eq, fIt_ap, toS_l, toS_t, hid_ap]
      exact ⟨_, _, rfl, rfl, _, rfl⟩
    · rintro env s'' ⟨rfl, y10, rfl⟩
      have ll : (iL (rsN n J c)).length = (rsN n J c).length := iL_len
      by_cases e : rsN n J c = []
      · have mne : mv ≠ [] := by intro q; rw [q] at ml; simp at ml; omega
        have mx : hMax [.d (.list (iL mv))] = some (.d (.int (maxI mv))) := by
          show (match asInts (iL mv) with | some ns => if ns = [] then none else some (DV.d (.int (maxI ns))) | none => none) = _
          rw [asInts_iL]
          show (if mv = [] then none else some (DV.d (.int (maxI mv)))) = _
          rw [if_neg mne]
        have m2 : maxI mv ≤ 2 := maxI_le mne fun x hx => by
          obtain ⟨i, hi, rfl⟩ := List.mem_iff_getElem.mp hx
          have := (mb (i : Int) (by omega) (by omega)).2
          have q : ga mv (i : Int) = mv[i] := by
            unfold ga
            rw [Int.toNat_natCast, List.getD_eq_getElem?_getD, List.getElem?_eq_getElem hi]; rfl
          omega
        simp -implicitDefEqProofs -dsimp only [hEq_l0, eq_true e, mx, eq_true m2, decide_true, fC_ap, fOp2_ap, fOp1_ap, fNil_ap, fCons_ap, fOpN_ap, fLst_ap, fB_ap, fAnd_ap, fOr_ap, fNot_ap, fAndV_ap, fOrV_ap, fNotV_ap, fIfE_ap, fChain_ap, fNoP_ap, fSomeP_ap, fSl_ap, fOwn_ap, fItL_ap, fItT_ap, fItScr_ap, fRng1_ap, fRng2_ap, fYes_ap, fLc_ap, fAA_ap, gSeq_ap, gNop_ap, gSet_ap, gIf_ap, gRet_ap, gRaise_ap, gExpr_ap, gBreak_ap, gCont_ap, gFor_ap, bind_ok, bind_exc, bind_no, thn_ok, thn_exc, thn_no, then_nx, then_rt, then_exc, then_bk, then_ct, lift_some, lift_none, toB_b, toI_i, toL_l, toT_t, toScr_s, lstOnly_l, allD_nil, allD_cons, map_some', lcG_nil, aaG_nil, forG_nil, fName_z, fName_s, fNameB_z, fNameB_zo, fNameB_s, fIsP_z, fIsP_s, aName_ap, aNil_ap, aCons_ap, aTup_ap, wipeE_nil, wipeE_cons, hEq_ii, hNe_ii, hAdd_ii, hSub_ii, hLe_ii, hLtI_ii, hGt_ii, hGe_ii, hIs_bb, hIsNot_bb, List.set_cons_zero, List.set_cons_succ, List.map_cons, List.map_nil, List.cons_append, List.nil_append, hLen_l, hLen_t, hLen_s, hTup_ap, hLst_ap, hTuple_l, hTuple_t, hList_l, hList_t, hAbs_i, hIntOf_i, hIntOf_b, hNeg_i, hIsi_int, hIsi_bool, hIsi_tuple, hIsi_list, hIsi_str, hSl_l, hSl_t, hSl_s, hIx_l0, hIx_t0, hIx_l1, hIx_t1, hIx_l2, hIx_t2, hXor_ii, sv, Option.map_some, Option.bind_some, List.length_cons, List.length_nil, reduceIte, Nat.reduceLT, Nat.reduceLeDiff, Nat.reduceAdd, Bool.false_eq_true, Bool.not_true, Bool.not_false, gAsg_ap, gUnpackLoc_ap, gStoreLoc_ap, gPar_ap, runF_fin, finR_nx, finR_rt, finR_exc, List.replicate_succ, List.replicate_zero, Nat.reduceSub, List.getElem?_cons_zero, List.getElem?_cons_succ, hLt_ii, pInt, pBool, pTup, pList, pStr, decide_eq_true_eq, fIt_ap, toS_l, toS_t, hid_ap]
        exact .inl ⟨_, _, rfl, TrueR.rt gs⟩
      · obtain ⟨r, s2, d2, r0, r1, g2⟩ := dr (n := ((rsN n J c).length : Int)) gs (by have := List.length_pos_iff.mpr e; omega) (by omega)
        obtain ⟨v, hv⟩ : ∃ v, (rsN n J c).getD r.toNat 0 = v := ⟨_, rfl⟩
        have ix : hIx (.d (.list (iL (rsN n J c)))) (.d (.int r)) = some (.d (.int v)) := by rw [hIx_li r0 r1, hv]
        have mm : v ∈ rsN n J c := by
          rw [← hv, List.getD_eq_getElem?_getD, List.getElem?_eq_getElem (by omega)]
          exact List.getElem_mem _
        obtain ⟨⟨v0, vn⟩, hrs⟩ := mem_rs.mp mm
        have mo := fun st => e_moved1 g hl mm st
        have i1 := ixg (c := c) v0 (by omega)
        have i2 : hIx (.d (.list (iL mv))) (.d (.int v)) = some (.d (.int (ga mv v))) := hIx_li v0 (by omega)
        obtain ⟨a1, a2⟩ := set_cut (c := c) (x := 1 - ga c v) v0 (by omega) (by omega)
        have fold : c.set v.toNat (1 - ga c v) = tn c v := rfl
        have hC := tn_C hc v0 vn
        have h01 : ∀ x ∈ c, x = 0 ∨ x = 1 := fun x hx => by have := hc.rng x hx; omega
        obtain ⟨w1, w2⟩ := move_wt g.ok (by omega) h01 v0 vn hrs
        rw [fold] at w1 w2
        have dec : Wt J (tn c v) (nats n) < Wt J c (nats n) := sum_lt (fun x hx => w1 x (mem_nats.mp hx).1) ⟨v, mem_nats.mpr ⟨v0, vn⟩, w2⟩
        have ixn : ixN (iL mv).length v = some v.toNat := by
          unfold ixN
          rw [if_pos v0, if_pos (by rw [iL_len]; omega)]
        have st_ : (iL mv).set v.toNat (.int (ga mv v + 1)) = iL (mv.set v.toNat (ga mv v + 1)) := by unfold iL; rw [List.map_set]
        simp -implicitDefEqProofs -dsimp only [hEq_l0, e, ll, d2, ix, mo, i1, i2, a1, a2, fold, hNe_tt, gStoreOwn_ap, ixn, st_, decide_true, decide_false, fC_ap, fOp2_ap, fOp1_ap, fNil_ap, fCons_ap, fOpN_ap, fLst_ap, fB_ap, fAnd_ap, fOr_ap, fNot_ap, fAndV_ap, fOrV_ap, fNotV_ap, fIfE_ap, fChain_ap, fNoP_ap, fSomeP_ap, fSl_ap, fOwn_ap, fItL_ap, fItT_ap, fItScr_ap, fRng1_ap, fRng2_ap, fYes_ap, fLc_ap, fAA_ap, gSeq_ap, gNop_ap, gSet_ap, gIf_ap, gRet_ap, gRaise_ap, gExpr_ap, gBreak_ap, gCont_ap, gFor_ap, bind_ok, bind_exc, bind_no, thn_ok, thn_exc, thn_no, then_nx, then_rt, then_exc, then_bk, then_ct, lift_some, lift_none, toB_b, toI_i, toL_l, toT_t, toScr_s, lstOnly_l, allD_nil, allD_cons, map_some', lcG_nil, aaG_nil, forG_nil, fName_z, fName_s, fNameB_z, fNameB_zo, fNameB_s, fIsP_z, fIsP_s, aName_ap, aNil_ap, aCons_ap, aTup_ap, wipeE_nil, wipeE_cons, hEq_ii, hNe_ii, hAdd_ii, hSub_ii, hLe_ii, hLtI_ii, hGt_ii, hGe_ii, hIs_bb, hIsNot_bb, List.set_cons_zero, List.set_cons_succ, List.map_cons, List.map_nil, List.cons_append, List.nil_append, hLen_l, hLen_t, hLen_s, hTup_ap, hLst_ap, hTuple_l, hTuple_t, hList_l, hList_t, hAbs_i, hIntOf_i, hIntOf_b, hNeg_i, hIsi_int, hIsi_bool, hIsi_tuple, hIsi_list, hIsi_str, hSl_l, hSl_t, hSl_s, hIx_l0, hIx_t0, hIx_l1, hIx_t1, hIx_l2, hIx_t2, hXor_ii, sv, Option.map_some, Option.bind_some, List.length_cons, List.length_nil, reduceIte, Nat.reduceLT, Nat.reduceLeDiff, Nat.reduceAdd, Bool.false_eq_true, Bool.not_true, Bool.not_false, gAsg_ap, gUnpackLoc_ap, gStoreLoc_ap, gPar_ap, runF_fin, finR_nx, finR_rt, finR_exc, List.replicate_succ, List.replicate_zero, Nat.reduceSub, List.getElem?_cons_zero, List.getElem?_cons_succ, hLt_ii, pInt, pBool, pTup, pList, pStr, decide_eq_true_eq, fIt_ap, toS_l, toS_t, hid_ap]
        refine .inr ⟨Wt J (tn c v) (nats n), _, _, by omega, rfl, g2, tn c v, mv.set v.toNat (ga mv v + 1), _, _, _, _, _, _, _, _, rfl, hC, by rw [List.length_set]; exact ml, fun u u0 un => ?_, Nat.le_refl _⟩
        have := mb u u0 un
        by_cases q : v = u
        · subst q
          rw [ga_set_self v0 (by omega)]
          omega
        · rw [ga_set_ne v0 u0 q]
          have := w1 u u0
          omega
end K95


set_option Elab.async false
set_option linter.all false
set_option maxRecDepth 100000
set_option maxHeartbeats 4000000
namespace K95
open PySem PySem.Spec PyProof.Rows L2 L2H DL Map
def J2 : Js := [(0, 1)]
theorem G2 : G 2 J2 := ⟨by decide, by decide, by intro p hp; simp [J2] at hp; subst hp; decide, by simp [J2], by simp [J2]⟩
theorem every2 (k : Int) : ∃ x, every 2 J2 [k, k] = [x, x] := by
  have b0 : beside J2 0 = [1] := by decide
  have b1 : beside J2 1 = [0] := by decide
  have g0 : ga [k, k] 0 = k := rfl
  have g1 : ga [k, k] 1 = k := rfl
  have c0 : clash J2 [k, k] 0 = true := by unfold clash; rw [b0]; simp [g0, g1]
  have c1 : clash J2 [k, k] 1 = true := by unfold clash; rw [b1]; simp [g0, g1]
  have e : col J2 [k, k] 1 = col J2 [k, k] 0 := by unfold col; rw [b0, b1]; simp only [List.map_cons, List.map_nil, g0, g1]
  refine ⟨col J2 [k, k] 0, ?_⟩
  unfold every
  rw [show nats 2 = [0, 1] from rfl]
  simp only [List.map_cons, List.map_nil, c0, c1, e, if_true]
theorem e_pair (k : Int) : ∃ x, ∀ st, f_all_repainted [.d (.tuple [.int 2, .tuple [.tuple [.int 0, .int 1]]]), .d (.tuple [.int k, .int k])] st = .ok (.d (.tuple [.int x, .int x])) st := by
  obtain ⟨x, hx⟩ := every2 k
  refine ⟨x, fun st => ?_⟩
  have := e_all (c := [k, k]) G2 rfl st
  rw [hx] at this
  exact this
theorem iL_of {xs : List PyData} {m : Int} : (∀ x ∈ xs, ∃ i : Int, x = .int i ∧ 0 ≤ i ∧ i ≤ m) → ∃ s : List Int, xs = iL s ∧ ∀ i ∈ s, 0 ≤ i ∧ i ≤ m := by
  induction xs with
  | nil => intro _; exact ⟨[], rfl, by simp⟩
  | cons x xs ih =>
    intro h
    obtain ⟨i, rfl, h1, h2⟩ := h x (by simp)
    obtain ⟨s, rfl, h3⟩ := ih fun y hy => h y (by simp [hy])
    exact ⟨i :: s, rfl, fun j hj => (List.mem_cons.mp hj).elim (fun e => by rw [e]; exact ⟨h1, h2⟩) (h3 j)⟩
theorem plain : ∀ ns, ScrOk ns → ∃ env ds st', g1_law ([DV.scr ns].map Slot.frz ++ List.replicate (N_law.length - 1) Slot.un) [] = .nx env [] ∧ env[1]? = some (.own (.list ds)) ∧ g2_law (env.set 1 (.frz .loc)) ds = .rt (.d (.bool true)) st' := by
  intro ns hns
  obtain ⟨ds, ho, g⟩ := e_open' hns []
  suffices h : RtV (.d (.bool true)) (g2_law [.frz (.scr ns), .frz .loc, .un, .un, .un, .un, .un, .un, .un, .un] ds) by
    obtain ⟨st', h⟩ := h
    refine ⟨[.frz (.scr ns), .own (.list ds), .un, .un, .un, .un, .un, .un, .un, .un], ds, st', ?_, rfl, h⟩
    show g1_law [.frz (.scr ns), .un, .un, .un, .un, .un, .un, .un, .un, .un] [] = _
    simp -implicitDefEqProofs -dsimp only [g1_law, gOwn_ap, ho, fC_ap, fOp2_ap, fOp1_ap, fNil_ap, fCons_ap, fOpN_ap, fLst_ap, fB_ap, fAnd_ap, fOr_ap, fNot_ap, fAndV_ap, fOrV_ap, fNotV_ap, fIfE_ap, fChain_ap, fNoP_ap, fSomeP_ap, fSl_ap, fOwn_ap, fItL_ap, fItT_ap, fItScr_ap, fRng1_ap, fRng2_ap, fYes_ap, fLc_ap, fAA_ap, gSeq_ap, gNop_ap, gSet_ap, gIf_ap, gRet_ap, gRaise_ap, gExpr_ap, gBreak_ap, gCont_ap, gFor_ap, bind_ok, bind_exc, bind_no, thn_ok, thn_exc, thn_no, then_nx, then_rt, then_exc, then_bk, then_ct, lift_some, lift_none, toB_b, toI_i, toL_l, toT_t, toScr_s, lstOnly_l, allD_nil, allD_cons, map_some', lcG_nil, aaG_nil, forG_nil, fName_z, fName_s, fNameB_z, fNameB_zo, fNameB_s, fIsP_z, fIsP_s, aName_ap, aNil_ap, aCons_ap, aTup_ap, wipeE_nil, wipeE_cons, hEq_ii, hNe_ii, hAdd_ii, hSub_ii, hLe_ii, hLtI_ii, hGt_ii, hGe_ii, hIs_bb, hIsNot_bb, List.set_cons_zero, List.set_cons_succ, List.map_cons, List.map_nil, List.cons_append, List.nil_append, hLen_l, hLen_t, hLen_s, hTup_ap, hLst_ap, hTuple_l, hTuple_t, hList_l, hList_t, hAbs_i, hIntOf_i, hIntOf_b, hNeg_i, hIsi_int, hIsi_bool, hIsi_tuple, hIsi_list, hIsi_str, hSl_l, hSl_t, hSl_s, hIx_l0, hIx_t0, hIx_l1, hIx_t1, hIx_l2, hIx_t2, hXor_ii, sv, Option.map_some, Option.bind_some, List.length_cons, List.length_nil, reduceIte, Nat.reduceLT, Nat.reduceLeDiff, Nat.reduceAdd, Bool.false_eq_true, Bool.not_true, Bool.not_false, gAsg_ap, gUnpackLoc_ap, gStoreLoc_ap, gPar_ap, runF_fin, finR_nx, finR_rt, finR_exc, List.replicate_succ, List.replicate_zero, Nat.reduceSub, List.getElem?_cons_zero, List.getElem?_cons_succ, hLt_ii, pInt, pBool, pTup, pList, pStr, decide_eq_true_eq, fIt_ap, toS_l, toS_t, hid_ap]
  obtain ⟨rn, st1, d1, n0, n1, g1⟩ := dr (n := 12) g (by decide) (by decide)
  obtain ⟨n, hn⟩ : ∃ n : Nat, 1 + rn = n := ⟨(1 + rn).toNat, by omega⟩
  obtain ⟨rh, st2, d2, h0, h1, g2⟩ := dr (n := 2) g1 (by decide) (by decide)
  obtain ⟨J, st3, d3, jok, js, jl, g3⟩ := e_joints (n := n) (by omega) (decide (rh = 0)) g2
  have GG : G n J := ⟨by omega, by omega, jok, js.nodup, by omega⟩
  have rg : ∀ st, hRng1 [.d (.int n)] st = .ok (iL (nats n)) st := fun st => by rw [hRng1_i (by omega), Int.toNat_natCast, rng_nats]
  have nl : (iL (nats n)).length = n := by rw [iL_len, nats_len]
  obtain ⟨xs, st4, d4, l4, r4, g4⟩ := lcG_draw (a := aName 9) (f := fOwn 2 f__law_draw (fCons (fName 1) (fCons (fOp2 hIx (fOpN hLst (fCons (fC (.int 1)) (fCons (fC (.int 2)) (fCons (fC (.int 3)) (fCons (fC (.int 13)) fNil))))) (fOwn 2 f__law_draw (fCons (fName 1) (fCons (fC (.int 4)) fNil)))) fNil))) (env := [.frz (.scr ns), .frz .loc, .frz (.d (.int n)), .frz (.d (.tuple [.int n, .tuple (J.map jD)])), .un, .un, .un, .un, .un, .un]) (G := Draws) (R := fun x => ∃ i : Int, x = .int i ∧ 0 ≤ i ∧ i ≤ 12) (iL (nats n)) [] st3 g3 (fun d hd => ⟨_, rfl, fun st g => by
    obtain ⟨r, sa, da, r0, r1, ga⟩ := dr (n := 4) g (by decide) (by decide)
    obtain ⟨z, hz, z0, z1⟩ : ∃ z : Int, hIx (.d (.list [.int 1, .int 2, .int 3, .int 13])) (.d (.int r)) = some (.d (.int z)) ∧ 1 ≤ z ∧ z ≤ 13 := by
      have : r = 0 ∨ r = 1 ∨ r = 2 ∨ r = 3 := by omega
      rcases this with rfl | rfl | rfl | rfl
      · exact ⟨1, hIx_l0, by decide, by decide⟩
      · exact ⟨2, hIx_l1, by decide, by decide⟩
      · exact ⟨3, hIx_l2, by decide, by decide⟩
      · exact ⟨13, hIx_l (by decide) (by decide), by decide, by decide⟩
    obtain ⟨q, sb, db, q0, q1, gb⟩ := dr (n := z) ga (by omega) (by omega)
    refine ⟨_, sb, ?_, ⟨q, rfl, q0, by omega⟩, gb⟩
    simp -implicitDefEqProofs -dsimp only [da, hz, db, fC_ap, fOp2_ap, fOp1_ap, fNil_ap, fCons_ap, fOpN_ap, fLst_ap, fB_ap, fAnd_ap, fOr_ap, fNot_ap, fAndV_ap, fOrV_ap, fNotV_ap, fIfE_ap, fChain_ap, fNoP_ap, fSomeP_ap, fSl_ap, fOwn_ap, fItL_ap, fItT_ap, fItScr_ap, fRng1_ap, fRng2_ap, fYes_ap, fLc_ap, fAA_ap, gSeq_ap, gNop_ap, gSet_ap, gIf_ap, gRet_ap, gRaise_ap, gExpr_ap, gBreak_ap, gCont_ap, gFor_ap, bind_ok, bind_exc, bind_no, thn_ok, thn_exc, thn_no, then_nx, then_rt, then_exc, then_bk, then_ct, lift_some, lift_none, toB_b, toI_i, toL_l, toT_t, toScr_s, lstOnly_l, allD_nil, allD_cons, map_some', lcG_nil, aaG_nil, forG_nil, fName_z, fName_s, fNameB_z, fNameB_zo, fNameB_s, fIsP_z, fIsP_s, aName_ap, aNil_ap, aCons_ap, aTup_ap, wipeE_nil, wipeE_cons, hEq_ii, hNe_ii, hAdd_ii, hSub_ii, hLe_ii, hLtI_ii, hGt_ii, hGe_ii, hIs_bb, hIsNot_bb, List.set_cons_zero, List.set_cons_succ, List.map_cons, List.map_nil, List.cons_append, List.nil_append, hLen_l, hLen_t, hLen_s, hTup_ap, hLst_ap, hTuple_l, hTuple_t, hList_l, hList_t, hAbs_i, hIntOf_i, hIntOf_b, hNeg_i, hIsi_int, hIsi_bool, hIsi_tuple, hIsi_list, hIsi_str, hSl_l, hSl_t, hSl_s, hIx_l0, hIx_t0, hIx_l1, hIx_t1, hIx_l2, hIx_t2, hXor_ii, sv, Option.map_some, Option.bind_some, List.length_cons, List.length_nil, reduceIte, Nat.reduceLT, Nat.reduceLeDiff, Nat.reduceAdd, Bool.false_eq_true, Bool.not_true, Bool.not_false, gAsg_ap, gUnpackLoc_ap, gStoreLoc_ap, gPar_ap, runF_fin, finR_nx, finR_rt, finR_exc, List.replicate_succ, List.replicate_zero, Nat.reduceSub, List.getElem?_cons_zero, List.getElem?_cons_succ, hLt_ii, pInt, pBool, pTup, pList, pStr, decide_eq_true_eq, fIt_ap, toS_l, toS_t, hid_ap]⟩) (by rw [nl]; simp; omega)
  obtain ⟨p, rfl, p1⟩ := iL_of r4
  have hp : C n 12 p := ⟨by rw [iL_len, nl] at l4; exact l4, p1⟩
  obtain ⟨ys, st5, d5, l5, r5, g5⟩ := lcG_draw (a := aName 9) (f := fOwn 2 f__law_draw (fCons (fName 1) (fCons (fC (.int 2)) fNil))) (env := [.frz (.scr ns), .frz .loc, .frz (.d (.int n)), .frz (.d (.tuple [.int n, .tuple (J.map jD)])), .frz (.d (.tuple (iL p))), .un, .un, .un, .un, .un]) (G := Draws) (R := fun x => ∃ i : Int, x = .int i ∧ 0 ≤ i ∧ i ≤ 1) (iL (nats n)) [] st4 g4 (fun d hd => ⟨_, rfl, fun st g => by
    obtain ⟨q, sb, db, q0, q1, gb⟩ := dr (n := 2) g (by decide) (by decide)
    refine ⟨_, sb, ?_, ⟨q, rfl, q0, by omega⟩, gb⟩
    simp -implicitDefEqProofs -dsimp only [db, fC_ap, fOp2_ap, fOp1_ap, fNil_ap, fCons_ap, fOpN_ap, fLst_ap, fB_ap, fAnd_ap, fOr_ap, fNot_ap, fAndV_ap, fOrV_ap, fNotV_ap, fIfE_ap, fChain_ap, fNoP_ap, fSomeP_ap, fSl_ap, fOwn_ap, fItL_ap, fItT_ap, fItScr_ap, fRng1_ap, fRng2_ap, fYes_ap, fLc_ap, fAA_ap, gSeq_ap, gNop_ap, gSet_ap, gIf_ap, gRet_ap, gRaise_ap, gExpr_ap, gBreak_ap, gCont_ap, gFor_ap, bind_ok, bind_exc, bind_no, thn_ok, thn_exc, thn_no, then_nx, then_rt, then_exc, then_bk, then_ct, lift_some, lift_none, toB_b, toI_i, toL_l, toT_t, toScr_s, lstOnly_l, allD_nil, allD_cons, map_some', lcG_nil, aaG_nil, forG_nil, fName_z, fName_s, fNameB_z, fNameB_zo, fNameB_s, fIsP_z, fIsP_s, aName_ap, aNil_ap, aCons_ap, aTup_ap, wipeE_nil, wipeE_cons, hEq_ii, hNe_ii, hAdd_ii, hSub_ii, hLe_ii, hLtI_ii, hGt_ii, hGe_ii, hIs_bb, hIsNot_bb, List.set_cons_zero, List.set_cons_succ, List.map_cons, List.map_nil, List.cons_append, List.nil_append, hLen_l, hLen_t, hLen_s, hTup_ap, hLst_ap, hTuple_l, hTuple_t, hList_l, hList_t, hAbs_i, hIntOf_i, hIntOf_b, hNeg_i, hIsi_int, hIsi_bool, hIsi_tuple, hIsi_list, hIsi_str, hSl_l, hSl_t, hSl_s, hIx_l0, hIx_t0, hIx_l1, hIx_t1, hIx_l2, hIx_t2, hXor_ii, sv, Option.map_some, Option.bind_some, List.length_cons, List.length_nil, reduceIte, Nat.reduceLT, Nat.reduceLeDiff, Nat.reduceAdd, Bool.false_eq_true, Bool.not_true, Bool.not_false, gAsg_ap, gUnpackLoc_ap, gStoreLoc_ap, gPar_ap, runF_fin, finR_nx, finR_rt, finR_exc, List.replicate_succ, List.replicate_zero, Nat.reduceSub, List.getElem?_cons_zero, List.getElem?_cons_succ, hLt_ii, pInt, pBool, pTup, pList, pStr, decide_eq_true_eq, fIt_ap, toS_l, toS_t, hid_ap]⟩) (by rw [nl]; simp; omega)
  obtain ⟨c, rfl, c1⟩ := iL_of r5
  have hc : C n 1 c := ⟨by rw [iL_len, nl] at l5; exact l5, c1⟩
  have w := fun st => e_wrong GG js hp hc st
  obtain ⟨st6, d6, g6⟩ := e_painted GG hp g5
  obtain ⟨st7, d7, g7⟩ := e_chosen GG hc g6
  have hr : C n 1 (List.replicate n 1) := C_rep (by decide) (by decide)
  obtain ⟨st8, d8, g8⟩ := e_chosen GG hr g7
  have rp := rep_iL (k := n) (x := 1) (by omega)
  obtain ⟨rc, st9, d9, q0, q1, g9⟩ := dr (n := 13) g8 (by decide) (by decide)
  obtain ⟨x, e1⟩ := e_pair rc
  obtain ⟨y, e2⟩ := e_pair x
  unfold mD at w d6 d7 d8
  rw [List.nil_append] at d4 d5
  simp -implicitDefEqProofs -dsimp only [g2_law, d1, hn, d2, d3, rg, d4, d5, w, d6, d7, rp, d8, d9, e1, e2, decide_true, fC_ap, fOp2_ap, fOp1_ap, fNil_ap, fCons_ap, fOpN_ap, fLst_ap, fB_ap, fAnd_ap, fOr_ap, fNot_ap, fAndV_ap, fOrV_ap, fNotV_ap, fIfE_ap, fChain_ap, fNoP_ap, fSomeP_ap, fSl_ap, fOwn_ap, fItL_ap, fItT_ap, fItScr_ap, fRng1_ap, fRng2_ap, fYes_ap, fLc_ap, fAA_ap, gSeq_ap, gNop_ap, gSet_ap, gIf_ap, gRet_ap, gRaise_ap, gExpr_ap, gBreak_ap, gCont_ap, gFor_ap, bind_ok, bind_exc, bind_no, thn_ok, thn_exc, thn_no, then_nx, then_rt, then_exc, then_bk, then_ct, lift_some, lift_none, toB_b, toI_i, toL_l, toT_t, toScr_s, lstOnly_l, allD_nil, allD_cons, map_some', lcG_nil, aaG_nil, forG_nil, fName_z, fName_s, fNameB_z, fNameB_zo, fNameB_s, fIsP_z, fIsP_s, aName_ap, aNil_ap, aCons_ap, aTup_ap, wipeE_nil, wipeE_cons, hEq_ii, hNe_ii, hAdd_ii, hSub_ii, hLe_ii, hLtI_ii, hGt_ii, hGe_ii, hIs_bb, hIsNot_bb, List.set_cons_zero, List.set_cons_succ, List.map_cons, List.map_nil, List.cons_append, List.nil_append, hLen_l, hLen_t, hLen_s, hTup_ap, hLst_ap, hTuple_l, hTuple_t, hList_l, hList_t, hAbs_i, hIntOf_i, hIntOf_b, hNeg_i, hIsi_int, hIsi_bool, hIsi_tuple, hIsi_list, hIsi_str, hSl_l, hSl_t, hSl_s, hIx_l0, hIx_t0, hIx_l1, hIx_t1, hIx_l2, hIx_t2, hXor_ii, sv, Option.map_some, Option.bind_some, List.length_cons, List.length_nil, reduceIte, Nat.reduceLT, Nat.reduceLeDiff, Nat.reduceAdd, Bool.false_eq_true, Bool.not_true, Bool.not_false, gAsg_ap, gUnpackLoc_ap, gStoreLoc_ap, gPar_ap, runF_fin, finR_nx, finR_rt, finR_exc, List.replicate_succ, List.replicate_zero, Nat.reduceSub, List.getElem?_cons_zero, List.getElem?_cons_succ, hLt_ii, pInt, pBool, pTup, pList, pStr, decide_eq_true_eq, fIt_ap, toS_l, toS_t, hid_ap]
  exact ⟨_, rfl⟩
end K95


set_option Elab.async false
set_option linter.all false
set_option maxRecDepth 100000
set_option maxHeartbeats 0
namespace K95
open PySem PySem.Spec PyProof.Rows L2 L2H DL

def d_is_number : He.DefD := ⟨("is_number", none), "is_number", "is_number", defArgs s_is_number, defBody s_is_number, defScope s_is_number, [], []⟩
def d_are_joints : He.DefD := ⟨("are_joints", none), "are_joints", "are_joints", defArgs s_are_joints, defBody s_are_joints, defScope s_are_joints, [], []⟩
def d_joined_to : He.DefD := ⟨("joined_to", none), "joined_to", "joined_to", defArgs s_joined_to, defBody s_joined_to, defScope s_joined_to, [], []⟩
def d_is_map : He.DefD := ⟨("is_map", none), "is_map", "is_map", defArgs s_is_map, defBody s_is_map, defScope s_is_map, [], []⟩
def d_is_row : He.DefD := ⟨("is_row", none), "is_row", "is_row", defArgs s_is_row, defBody s_is_row, defScope s_is_row, [], []⟩
def d_is_painting : He.DefD := ⟨("is_painting", none), "is_painting", "is_painting", defArgs s_is_painting, defBody s_is_painting, defScope s_is_painting, [], []⟩
def d_is_choice : He.DefD := ⟨("is_choice", none), "is_choice", "is_choice", defArgs s_is_choice, defBody s_is_choice, defScope s_is_choice, [], []⟩
def d_clashing : He.DefD := ⟨("clashing", none), "clashing", "clashing", defArgs s_clashing, defBody s_clashing, defScope s_clashing, [], []⟩
def d_equal_joints : He.DefD := ⟨("equal_joints", none), "equal_joints", "equal_joints", defArgs s_equal_joints, defBody s_equal_joints, defScope s_equal_joints, [], []⟩
def d_free_colour : He.DefD := ⟨("free_colour", none), "free_colour", "free_colour", defArgs s_free_colour, defBody s_free_colour, defScope s_free_colour, [], []⟩
def d_repainted : He.DefD := ⟨("repainted", none), "repainted", "repainted", defArgs s_repainted, defBody s_repainted, defScope s_repainted, [], []⟩
def d_all_repainted : He.DefD := ⟨("all_repainted", none), "all_repainted", "all_repainted", defArgs s_all_repainted, defBody s_all_repainted, defScope s_all_repainted, [], []⟩
def d_restless : He.DefD := ⟨("restless", none), "restless", "restless", defArgs s_restless, defBody s_restless, defScope s_restless, [], []⟩
def d_turned : He.DefD := ⟨("turned", none), "turned", "turned", defArgs s_turned, defBody s_turned, defScope s_turned, [], []⟩
def d_is_settled : He.DefD := ⟨("is_settled", none), "is_settled", "is_settled", defArgs s_is_settled, defBody s_is_settled, defScope s_is_settled, [], []⟩
def d__law_open : He.DefD := ⟨("_law_open", none), "_law_open", "_law_open", defArgs s__law_open, defBody s__law_open, defScope s__law_open, [], []⟩
def d__law_mixed : He.DefD := ⟨("_law_mixed", none), "_law_mixed", "_law_mixed", defArgs s__law_mixed, defBody s__law_mixed, defScope s__law_mixed, [], []⟩
def d__law_draw : He.DefD := ⟨("_law_draw", none), "_law_draw", "_law_draw", defArgs s__law_draw, defBody s__law_draw, defScope s__law_draw, [], []⟩
def d__law_told : He.DefD := ⟨("_law_told", none), "_law_told", "_law_told", defArgs s__law_told, defBody s__law_told, defScope s__law_told, [], []⟩
def d__law_int : He.DefD := ⟨("_law_int", none), "_law_int", "_law_int", defArgs s__law_int, defBody s__law_int, defScope s__law_int, [], []⟩
def d__law_same : He.DefD := ⟨("_law_same", none), "_law_same", "_law_same", defArgs s__law_same, defBody s__law_same, defScope s__law_same, [], []⟩
def d__law_joints : He.DefD := ⟨("_law_joints", none), "_law_joints", "_law_joints", defArgs s__law_joints, defBody s__law_joints, defScope s__law_joints, [], []⟩
def d__law_beside : He.DefD := ⟨("_law_beside", none), "_law_beside", "_law_beside", defArgs s__law_beside, defBody s__law_beside, defScope s__law_beside, [], []⟩
def d__law_clashing : He.DefD := ⟨("_law_clashing", none), "_law_clashing", "_law_clashing", defArgs s__law_clashing, defBody s__law_clashing, defScope s__law_clashing, [], []⟩
def d__law_colour : He.DefD := ⟨("_law_colour", none), "_law_colour", "_law_colour", defArgs s__law_colour, defBody s__law_colour, defScope s__law_colour, [], []⟩
def d__law_equal : He.DefD := ⟨("_law_equal", none), "_law_equal", "_law_equal", defArgs s__law_equal, defBody s__law_equal, defScope s__law_equal, [], []⟩
def d__law_moved : He.DefD := ⟨("_law_moved", none), "_law_moved", "_law_moved", defArgs s__law_moved, defBody s__law_moved, defScope s__law_moved, [], []⟩
def d__law_wrong : He.DefD := ⟨("_law_wrong", none), "_law_wrong", "_law_wrong", defArgs s__law_wrong, defBody s__law_wrong, defScope s__law_wrong, [], []⟩
def d__law_painted : He.DefD := ⟨("_law_painted", none), "_law_painted", "_law_painted", defArgs s__law_painted, defBody s__law_painted, defScope s__law_painted, [], []⟩
def d__law_chosen : He.DefD := ⟨("_law_chosen", none), "_law_chosen", "_law_chosen", defArgs s__law_chosen, defBody s__law_chosen, defScope s__law_chosen, [], []⟩
def d_law : He.DefD := ⟨("law", none), "law", "law", defArgs s_law, defBody s_law, defScope s_law, [], []⟩
def fn : List He.DefD := [d_is_number, d_are_joints, d_joined_to, d_is_map, d_is_row, d_is_painting, d_is_choice, d_clashing, d_equal_joints, d_free_colour, d_repainted, d_all_repainted, d_restless, d_turned, d_is_settled, d__law_open, d__law_mixed, d__law_draw, d__law_told, d__law_int, d__law_same, d__law_joints, d__law_beside, d__law_clashing, d__law_colour, d__law_equal, d__law_moved, d__law_wrong, d__law_painted, d__law_chosen, d_law]
def fa0 : List He.Fa := [.glo "is_number", .glo "are_joints", .glo "joined_to", .glo "is_map", .glo "is_row", .glo "is_painting", .glo "is_choice", .glo "clashing", .glo "equal_joints", .glo "free_colour", .glo "repainted", .glo "all_repainted", .glo "restless", .glo "turned", .glo "is_settled", .glo "_law_open", .glo "_law_mixed", .glo "_law_draw", .glo "_law_told", .glo "_law_int", .glo "_law_same", .glo "_law_joints", .glo "_law_beside", .glo "_law_clashing", .glo "_law_colour", .glo "_law_equal", .glo "_law_moved", .glo "_law_wrong", .glo "_law_painted", .glo "_law_chosen"]
def fa1 : List He.Fa := [.glo "law", .free "len", .free "abs", .free "int", .free "bool", .free "str", .free "tuple", .free "list", .free "max", .free "min", .free "range", .free "sorted", .free "isinstance", .free "all", .free "any", .free "enumerate", .free "reversed", .free "dict", .glo "FirstError", .glo "OutOfRange", .glo "Malformed", .glo "NotThere", .glo "Refused", .glo "TooMuch", .exc "Refused", .exm "OutOfRange" "FirstError" true, .exm "Malformed" "FirstError" true, .exm "NotThere" "FirstError" true, .exm "Refused" "FirstError" true, .exm "TooMuch" "FirstError" true]
def fa2 : List He.Fa := [.int "MOST_NODES" 12, .int "MOST_COLOUR" 12]
def fa : List He.Fa := fa0 ++ fa1 ++ fa2
def tf : List He.Defn := [("are_joints", none), ("is_row", none)]
def five : List Str := ["OutOfRange", "Malformed", "NotThere", "Refused", "TooMuch"]
def ex (K : PySem.W.Frag) : Bool := five.all fun D => excB K (He.ga K D) && (kitX K D "FirstError" true && five.all fun C => kitX K D C (decide (D = C)))
abbrev R : PySem.W.OpenRow := PySem.W.OpenLaw.row PySem.Challenge.rw_happenedfirst_k95_whole_paintings_and_ch
abbrev hk : PySem.W.Hook := He.hookX 5 fa fn [] tf ex
def ob (s : PySem.W.SharedT) : He.AlX := He.obsX 5 fa fn [] tf ex (HandSHeadRun.getT s)
theorem ob_eq (s : PySem.W.SharedT) : ob s = hk.obs s.abs := He.obsX_eq (HandSHeadRun.getT_eq s)
def names0 : List Str := ["FirstError", "OutOfRange", "Malformed", "NotThere", "Refused", "TooMuch", "is_number", "are_joints", "joined_to", "MOST_NODES", "MOST_COLOUR", "is_map", "is_row", "is_painting", "is_choice", "clashing", "equal_joints", "free_colour", "repainted", "all_repainted", "restless", "turned", "is_settled", "_law_open", "_law_mixed", "_law_draw", "_law_told", "_law_int", "_law_same", "_law_joints"]
def names1 : List Str := ["_law_beside", "_law_clashing", "_law_colour", "_law_equal", "_law_moved", "_law_wrong", "_law_painted", "_law_chosen"]
def names : List Str := names0 ++ names1
theorem run (w : World) : HandSHeadRun.RunEq R (PySem.W.view R.prog [43]) hk ob 3000 names w := by
  intro os
  kernel_rfl

end K95

set_option Elab.async false
set_option linter.all false
set_option maxRecDepth 100000
set_option maxHeartbeats 0
namespace K95
open PySem PySem.Spec PyProof.Rows L2 L2H DL

theorem told_mem {c t : Str} (h : told5 c = some t) : c ∈ five := by
  unfold told5 at h
  by_cases h0 : c = "OutOfRange"
  · subst h0
    exact by decide
  rw [if_neg h0] at h
  by_cases h1 : c = "Malformed"
  · subst h1
    exact by decide
  rw [if_neg h1] at h
  by_cases h2 : c = "NotThere"
  · subst h2
    exact by decide
  rw [if_neg h2] at h
  by_cases h3 : c = "Refused"
  · subst h3
    exact by decide
  rw [if_neg h3] at h
  by_cases h4 : c = "TooMuch"
  · subst h4
    exact by decide
  rw [if_neg h4] at h
  cases h
theorem whole {P : Program} {w : World} {K : PySem.W.Frag} {h : Heap} {mg : Str → Option Value} {f : Addr} (X : K.In h) (G : h.Ns mainGlobals mg) (hfa : mg ("law" : Str) = some (.ref f)) (c : He.SaysX fa fn [] tf ex w h K) :
  ∃ fd : FuncData, (∀ (s : Shared) (v : Value), BindsTo s fd ⟨[v], []⟩ [("script", v)]) ∧ ∀ base : Heap, (∀ q ∈ csOf K tf, LamX.TabB base mg q.1 q.2) → FnOk P w K mg base (L2N.CX P w) 6 f fd ["script"] (spLaw K (tabsOf K tf)) := by
  have bl : Blts mg := ⟨He.free_ok X G (c.t.d.fact 31 (f := .free "len") rfl), He.free_ok X G (c.t.d.fact 32 (f := .free "abs") rfl), He.free_ok X G (c.t.d.fact 33 (f := .free "int") rfl), He.free_ok X G (c.t.d.fact 34 (f := .free "bool") rfl), He.free_ok X G (c.t.d.fact 35 (f := .free "str") rfl), He.free_ok X G (c.t.d.fact 36 (f := .free "tuple") rfl), He.free_ok X G (c.t.d.fact 37 (f := .free "list") rfl), He.free_ok X G (c.t.d.fact 38 (f := .free "max") rfl), He.free_ok X G (c.t.d.fact 39 (f := .free "min") rfl), He.free_ok X G (c.t.d.fact 40 (f := .free "range") rfl), He.free_ok X G (c.t.d.fact 41 (f := .free "sorted") rfl), He.free_ok X G (c.t.d.fact 42 (f := .free "isinstance") rfl), He.free_ok X G (c.t.d.fact 43 (f := .free "all") rfl), He.free_ok X G (c.t.d.fact 44 (f := .free "any") rfl), He.free_ok X G (c.t.d.fact 45 (f := .free "enumerate") rfl), He.free_ok X G (c.t.d.fact 46 (f := .free "reversed") rfl), He.free_ok X G (c.t.d.fact 47 (f := .free "dict") rfl)⟩
  obtain ⟨fd_is_number, F_is_number⟩ := c.t.d.def_ 0 (d := d_is_number) rfl
  have g_is_number : mg "is_number" = some (.ref (He.ga K "is_number")) := He.glo_ok X G (c.t.d.fact 0 (f := .glo "is_number") rfl)
  have b_is_number : Binds K fd_is_number ["value", "least", "most"] [] := FunD.bindsN (ps := ["value", "least", "most"]) F_is_number fun _ _ _ _ _ _ us hl => match us, hl with | [_, _, _], _ => rfl
  obtain ⟨fd_are_joints, F_are_joints⟩ := c.t.d.def_ 1 (d := d_are_joints) rfl
  have g_are_joints : mg "are_joints" = some (.ref (He.ga K "are_joints")) := He.glo_ok X G (c.t.d.fact 1 (f := .glo "are_joints") rfl)
  have b_are_joints : Binds K fd_are_joints ["value", "many"] [] := FunD.bindsN (ps := ["value", "many"]) F_are_joints fun _ _ _ _ _ _ us hl => match us, hl with | [_, _], _ => rfl
  obtain ⟨fd_joined_to, F_joined_to⟩ := c.t.d.def_ 2 (d := d_joined_to) rfl
  have g_joined_to : mg "joined_to" = some (.ref (He.ga K "joined_to")) := He.glo_ok X G (c.t.d.fact 2 (f := .glo "joined_to") rfl)
  have b_joined_to : Binds K fd_joined_to ["graph", "node"] [] := FunD.bindsN (ps := ["graph", "node"]) F_joined_to fun _ _ _ _ _ _ us hl => match us, hl with | [_, _], _ => rfl
  obtain ⟨fd_is_map, F_is_map⟩ := c.t.d.def_ 3 (d := d_is_map) rfl
  have g_is_map : mg "is_map" = some (.ref (He.ga K "is_map")) := He.glo_ok X G (c.t.d.fact 3 (f := .glo "is_map") rfl)
  have b_is_map : Binds K fd_is_map ["value"] [] := FunD.bindsN (ps := ["value"]) F_is_map fun _ _ _ _ _ _ us hl => match us, hl with | [_], _ => rfl
  obtain ⟨fd_is_row, F_is_row⟩ := c.t.d.def_ 4 (d := d_is_row) rfl
  have g_is_row : mg "is_row" = some (.ref (He.ga K "is_row")) := He.glo_ok X G (c.t.d.fact 4 (f := .glo "is_row") rfl)
  have b_is_row : Binds K fd_is_row ["graph", "value", "most"] [] := FunD.bindsN (ps := ["graph", "value", "most"]) F_is_row fun _ _ _ _ _ _ us hl => match us, hl with | [_, _, _], _ => rfl
  obtain ⟨fd_is_painting, F_is_painting⟩ := c.t.d.def_ 5 (d := d_is_painting) rfl
  have g_is_painting : mg "is_painting" = some (.ref (He.ga K "is_painting")) := He.glo_ok X G (c.t.d.fact 5 (f := .glo "is_painting") rfl)
  have b_is_painting : Binds K fd_is_painting ["graph", "value"] [] := FunD.bindsN (ps := ["graph", "value"]) F_is_painting fun _ _ _ _ _ _ us hl => match us, hl with | [_, _], _ => rfl
  obtain ⟨fd_is_choice, F_is_choice⟩ := c.t.d.def_ 6 (d := d_is_choice) rfl
  have g_is_choice : mg "is_choice" = some (.ref (He.ga K "is_choice")) := He.glo_ok X G (c.t.d.fact 6 (f := .glo "is_choice") rfl)
  have b_is_choice : Binds K fd_is_choice ["graph", "value"] [] := FunD.bindsN (ps := ["graph", "value"]) F_is_choice fun _ _ _ _ _ _ us hl => match us, hl with | [_, _], _ => rfl
  obtain ⟨fd_clashing, F_clashing⟩ := c.t.d.def_ 7 (d := d_clashing) rfl
  have g_clashing : mg "clashing" = some (.ref (He.ga K "clashing")) := He.glo_ok X G (c.t.d.fact 7 (f := .glo "clashing") rfl)
  have b_clashing : Binds K fd_clashing ["graph", "painting"] [] := FunD.bindsN (ps := ["graph", "painting"]) F_clashing fun _ _ _ _ _ _ us hl => match us, hl with | [_, _], _ => rfl
  obtain ⟨fd_equal_joints, F_equal_joints⟩ := c.t.d.def_ 8 (d := d_equal_joints) rfl
  have g_equal_joints : mg "equal_joints" = some (.ref (He.ga K "equal_joints")) := He.glo_ok X G (c.t.d.fact 8 (f := .glo "equal_joints") rfl)
  have b_equal_joints : Binds K fd_equal_joints ["graph", "painting"] [] := FunD.bindsN (ps := ["graph", "painting"]) F_equal_joints fun _ _ _ _ _ _ us hl => match us, hl with | [_, _], _ => rfl
  obtain ⟨fd_free_colour, F_free_colour⟩ := c.t.d.def_ 9 (d := d_free_colour) rfl
  have g_free_colour : mg "free_colour" = some (.ref (He.ga K "free_colour")) := He.glo_ok X G (c.t.d.fact 9 (f := .glo "free_colour") rfl)
  have b_free_colour : Binds K fd_free_colour ["graph", "painting", "node"] [] := FunD.bindsN (ps := ["graph", "painting", "node"]) F_free_colour fun _ _ _ _ _ _ us hl => match us, hl with | [_, _, _], _ => rfl
  obtain ⟨fd_repainted, F_repainted⟩ := c.t.d.def_ 10 (d := d_repainted) rfl
  have g_repainted : mg "repainted" = some (.ref (He.ga K "repainted")) := He.glo_ok X G (c.t.d.fact 10 (f := .glo "repainted") rfl)
  have b_repainted : Binds K fd_repainted ["graph", "painting", "node"] [] := FunD.bindsN (ps := ["graph", "painting", "node"]) F_repainted fun _ _ _ _ _ _ us hl => match us, hl with | [_, _, _], _ => rfl
  obtain ⟨fd_all_repainted, F_all_repainted⟩ := c.t.d.def_ 11 (d := d_all_repainted) rfl
  have g_all_repainted : mg "all_repainted" = some (.ref (He.ga K "all_repainted")) := He.glo_ok X G (c.t.d.fact 11 (f := .glo "all_repainted") rfl)
  have b_all_repainted : Binds K fd_all_repainted ["graph", "painting"] [] := FunD.bindsN (ps := ["graph", "painting"]) F_all_repainted fun _ _ _ _ _ _ us hl => match us, hl with | [_, _], _ => rfl
  obtain ⟨fd_restless, F_restless⟩ := c.t.d.def_ 12 (d := d_restless) rfl
  have g_restless : mg "restless" = some (.ref (He.ga K "restless")) := He.glo_ok X G (c.t.d.fact 12 (f := .glo "restless") rfl)
  have b_restless : Binds K fd_restless ["graph", "choice"] [] := FunD.bindsN (ps := ["graph", "choice"]) F_restless fun _ _ _ _ _ _ us hl => match us, hl with | [_, _], _ => rfl
  obtain ⟨fd_turned, F_turned⟩ := c.t.d.def_ 13 (d := d_turned) rfl
  have g_turned : mg "turned" = some (.ref (He.ga K "turned")) := He.glo_ok X G (c.t.d.fact 13 (f := .glo "turned") rfl)
  have b_turned : Binds K fd_turned ["graph", "choice", "node"] [] := FunD.bindsN (ps := ["graph", "choice", "node"]) F_turned fun _ _ _ _ _ _ us hl => match us, hl with | [_, _, _], _ => rfl
  obtain ⟨fd_is_settled, F_is_settled⟩ := c.t.d.def_ 14 (d := d_is_settled) rfl
  have g_is_settled : mg "is_settled" = some (.ref (He.ga K "is_settled")) := He.glo_ok X G (c.t.d.fact 14 (f := .glo "is_settled") rfl)
  have b_is_settled : Binds K fd_is_settled ["graph", "choice"] [] := FunD.bindsN (ps := ["graph", "choice"]) F_is_settled fun _ _ _ _ _ _ us hl => match us, hl with | [_, _], _ => rfl
  obtain ⟨fd__law_open, F__law_open⟩ := c.t.d.def_ 15 (d := d__law_open) rfl
  have g__law_open : mg "_law_open" = some (.ref (He.ga K "_law_open")) := He.glo_ok X G (c.t.d.fact 15 (f := .glo "_law_open") rfl)
  have b__law_open : Binds K fd__law_open ["script"] [] := FunD.bindsN (ps := ["script"]) F__law_open fun _ _ _ _ _ _ us hl => match us, hl with | [_], _ => rfl
  obtain ⟨fd__law_mixed, F__law_mixed⟩ := c.t.d.def_ 16 (d := d__law_mixed) rfl
  have g__law_mixed : mg "_law_mixed" = some (.ref (He.ga K "_law_mixed")) := He.glo_ok X G (c.t.d.fact 16 (f := .glo "_law_mixed") rfl)
  have b__law_mixed : Binds K fd__law_mixed ["cell", "turn"] [] := FunD.bindsN (ps := ["cell", "turn"]) F__law_mixed fun _ _ _ _ _ _ us hl => match us, hl with | [_, _], _ => rfl
  obtain ⟨fd__law_draw, F__law_draw⟩ := c.t.d.def_ 17 (d := d__law_draw) rfl
  have g__law_draw : mg "_law_draw" = some (.ref (He.ga K "_law_draw")) := He.glo_ok X G (c.t.d.fact 17 (f := .glo "_law_draw") rfl)
  have b__law_draw : Binds K fd__law_draw ["draws", "size"] [] := FunD.bindsN (ps := ["draws", "size"]) F__law_draw fun _ _ _ _ _ _ us hl => match us, hl with | [_, _], _ => rfl
  obtain ⟨fd__law_told, F__law_told⟩ := c.t.d.def_ 18 (d := d__law_told) rfl
  have g__law_told : mg "_law_told" = some (.ref (He.ga K "_law_told")) := He.glo_ok X G (c.t.d.fact 18 (f := .glo "_law_told") rfl)
  have b__law_told : Binds K fd__law_told ["error"] [] := FunD.bindsN (ps := ["error"]) F__law_told fun _ _ _ _ _ _ us hl => match us, hl with | [_], _ => rfl
  obtain ⟨fd__law_int, F__law_int⟩ := c.t.d.def_ 19 (d := d__law_int) rfl
  have g__law_int : mg "_law_int" = some (.ref (He.ga K "_law_int")) := He.glo_ok X G (c.t.d.fact 19 (f := .glo "_law_int") rfl)
  have b__law_int : Binds K fd__law_int ["value"] [] := FunD.bindsN (ps := ["value"]) F__law_int fun _ _ _ _ _ _ us hl => match us, hl with | [_], _ => rfl
  obtain ⟨fd__law_same, F__law_same⟩ := c.t.d.def_ 20 (d := d__law_same) rfl
  have g__law_same : mg "_law_same" = some (.ref (He.ga K "_law_same")) := He.glo_ok X G (c.t.d.fact 20 (f := .glo "_law_same") rfl)
  have b__law_same : Binds K fd__law_same ["told", "due"] [] := FunD.bindsN (ps := ["told", "due"]) F__law_same fun _ _ _ _ _ _ us hl => match us, hl with | [_, _], _ => rfl
  obtain ⟨fd__law_joints, F__law_joints⟩ := c.t.d.def_ 21 (d := d__law_joints) rfl
  have g__law_joints : mg "_law_joints" = some (.ref (He.ga K "_law_joints")) := He.glo_ok X G (c.t.d.fact 21 (f := .glo "_law_joints") rfl)
  have b__law_joints : Binds K fd__law_joints ["draws", "many", "hangs"] [] := FunD.bindsN (ps := ["draws", "many", "hangs"]) F__law_joints fun _ _ _ _ _ _ us hl => match us, hl with | [_, _, _], _ => rfl
  obtain ⟨fd__law_beside, F__law_beside⟩ := c.t.d.def_ 22 (d := d__law_beside) rfl
  have g__law_beside : mg "_law_beside" = some (.ref (He.ga K "_law_beside")) := He.glo_ok X G (c.t.d.fact 22 (f := .glo "_law_beside") rfl)
  have b__law_beside : Binds K fd__law_beside ["graph", "node"] [] := FunD.bindsN (ps := ["graph", "node"]) F__law_beside fun _ _ _ _ _ _ us hl => match us, hl with | [_, _], _ => rfl
  obtain ⟨fd__law_clashing, F__law_clashing⟩ := c.t.d.def_ 23 (d := d__law_clashing) rfl
  have g__law_clashing : mg "_law_clashing" = some (.ref (He.ga K "_law_clashing")) := He.glo_ok X G (c.t.d.fact 23 (f := .glo "_law_clashing") rfl)
  have b__law_clashing : Binds K fd__law_clashing ["graph", "painting"] [] := FunD.bindsN (ps := ["graph", "painting"]) F__law_clashing fun _ _ _ _ _ _ us hl => match us, hl with | [_, _], _ => rfl
  obtain ⟨fd__law_colour, F__law_colour⟩ := c.t.d.def_ 24 (d := d__law_colour) rfl
  have g__law_colour : mg "_law_colour" = some (.ref (He.ga K "_law_colour")) := He.glo_ok X G (c.t.d.fact 24 (f := .glo "_law_colour") rfl)
  have b__law_colour : Binds K fd__law_colour ["graph", "painting", "node"] [] := FunD.bindsN (ps := ["graph", "painting", "node"]) F__law_colour fun _ _ _ _ _ _ us hl => match us, hl with | [_, _, _], _ => rfl
  obtain ⟨fd__law_equal, F__law_equal⟩ := c.t.d.def_ 25 (d := d__law_equal) rfl
  have g__law_equal : mg "_law_equal" = some (.ref (He.ga K "_law_equal")) := He.glo_ok X G (c.t.d.fact 25 (f := .glo "_law_equal") rfl)
  have b__law_equal : Binds K fd__law_equal ["graph", "painting"] [] := FunD.bindsN (ps := ["graph", "painting"]) F__law_equal fun _ _ _ _ _ _ us hl => match us, hl with | [_, _], _ => rfl
  obtain ⟨fd__law_moved, F__law_moved⟩ := c.t.d.def_ 26 (d := d__law_moved) rfl
  have g__law_moved : mg "_law_moved" = some (.ref (He.ga K "_law_moved")) := He.glo_ok X G (c.t.d.fact 26 (f := .glo "_law_moved") rfl)
  have b__law_moved : Binds K fd__law_moved ["what", "graph", "row", "node"] [] := FunD.bindsN (ps := ["what", "graph", "row", "node"]) F__law_moved fun _ _ _ _ _ _ us hl => match us, hl with | [_, _, _, _], _ => rfl
  obtain ⟨fd__law_wrong, F__law_wrong⟩ := c.t.d.def_ 27 (d := d__law_wrong) rfl
  have g__law_wrong : mg "_law_wrong" = some (.ref (He.ga K "_law_wrong")) := He.glo_ok X G (c.t.d.fact 27 (f := .glo "_law_wrong") rfl)
  have b__law_wrong : Binds K fd__law_wrong ["graph", "painting", "choice"] [] := FunD.bindsN (ps := ["graph", "painting", "choice"]) F__law_wrong fun _ _ _ _ _ _ us hl => match us, hl with | [_, _, _], _ => rfl
  obtain ⟨fd__law_painted, F__law_painted⟩ := c.t.d.def_ 28 (d := d__law_painted) rfl
  have g__law_painted : mg "_law_painted" = some (.ref (He.ga K "_law_painted")) := He.glo_ok X G (c.t.d.fact 28 (f := .glo "_law_painted") rfl)
  have b__law_painted : Binds K fd__law_painted ["draws", "graph", "painting"] [] := FunD.bindsN (ps := ["draws", "graph", "painting"]) F__law_painted fun _ _ _ _ _ _ us hl => match us, hl with | [_, _, _], _ => rfl
  obtain ⟨fd__law_chosen, F__law_chosen⟩ := c.t.d.def_ 29 (d := d__law_chosen) rfl
  have g__law_chosen : mg "_law_chosen" = some (.ref (He.ga K "_law_chosen")) := He.glo_ok X G (c.t.d.fact 29 (f := .glo "_law_chosen") rfl)
  have b__law_chosen : Binds K fd__law_chosen ["draws", "graph", "choice"] [] := FunD.bindsN (ps := ["draws", "graph", "choice"]) F__law_chosen fun _ _ _ _ _ _ us hl => match us, hl with | [_, _, _], _ => rfl
  obtain ⟨fd_law, F_law⟩ := c.t.d.def_ 30 (d := d_law) rfl
  have g_law : mg "law" = some (.ref (He.ga K "law")) := He.glo_ok X G (c.t.d.fact 30 (f := .glo "law") rfl)
  have g_FirstError : mg "FirstError" = some (.ref (He.ga K "FirstError")) := He.glo_ok X G (c.t.d.fact 48 (f := .glo "FirstError") rfl)
  have g_OutOfRange : mg "OutOfRange" = some (.ref (He.ga K "OutOfRange")) := He.glo_ok X G (c.t.d.fact 49 (f := .glo "OutOfRange") rfl)
  have g_Malformed : mg "Malformed" = some (.ref (He.ga K "Malformed")) := He.glo_ok X G (c.t.d.fact 50 (f := .glo "Malformed") rfl)
  have g_NotThere : mg "NotThere" = some (.ref (He.ga K "NotThere")) := He.glo_ok X G (c.t.d.fact 51 (f := .glo "NotThere") rfl)
  have g_Refused : mg "Refused" = some (.ref (He.ga K "Refused")) := He.glo_ok X G (c.t.d.fact 52 (f := .glo "Refused") rfl)
  have g_TooMuch : mg "TooMuch" = some (.ref (He.ga K "TooMuch")) := He.glo_ok X G (c.t.d.fact 53 (f := .glo "TooMuch") rfl)
  obtain ⟨x1_Refused, x2_Refused, x3_Refused, x4_Refused⟩ := He.exc_ok (c.t.d.fact 54 (f := .exc "Refused") rfl)
  have R_Refused : Rs K mg "Refused" := ⟨_, g_Refused, x1_Refused, x2_Refused, x3_Refused, x4_Refused⟩
  obtain ⟨t_MOST_NODES, C_MOST_NODES⟩ := He.int_ok X G (c.t.d.fact 60 (f := .int "MOST_NODES" 12) rfl)
  obtain ⟨t_MOST_COLOUR, C_MOST_COLOUR⟩ := He.int_ok X G (c.t.d.fact 61 (f := .int "MOST_COLOUR" 12) rfl)
  have xm : ∀ y ∈ five, PySem.W.exmOne K (.ref (He.ga K y)) (.ref (He.ga K "FirstError")) = some true := by
    intro y hy
    simp only [five, List.mem_cons, List.not_mem_nil, or_false] at hy
    rcases hy with rfl | rfl | rfl | rfl | rfl
    · exact He.exm_ok (c.t.d.fact 55 (f := .exm "OutOfRange" "FirstError" true) rfl)
    · exact He.exm_ok (c.t.d.fact 56 (f := .exm "Malformed" "FirstError" true) rfl)
    · exact He.exm_ok (c.t.d.fact 57 (f := .exm "NotThere" "FirstError" true) rfl)
    · exact He.exm_ok (c.t.d.fact 58 (f := .exm "Refused" "FirstError" true) rfl)
    · exact He.exm_ok (c.t.d.fact 59 (f := .exm "TooMuch" "FirstError" true) rfl)
  have gm : ∀ y ∈ five, mg y = some (.ref (He.ga K y)) := by
    intro y hy
    simp only [five, List.mem_cons, List.not_mem_nil, or_false] at hy
    rcases hy with rfl | rfl | rfl | rfl | rfl
    · exact g_OutOfRange
    · exact g_Malformed
    · exact g_NotThere
    · exact g_Refused
    · exact g_TooMuch
  have K_FirstError : CatchK K mg "FirstError" told5 := ⟨_, g_FirstError, fun y t D ht hD => by
    have e := (gm y (told_mem ht)).symm.trans hD
    cases e
    exact xm y (told_mem ht)⟩
  have exs := List.all_eq_true.mp c.more
  have hfa2 := hfa.symm.trans g_law
  cases hfa2
  refine ⟨fd_law, fun s v => FunD.bindsA (ps := ["script"]) F_law (fun _ _ _ _ _ _ us hl => match us, hl with | [_], _ => rfl) s [v] rfl, fun base hT => ?_⟩
  have C_is_number : Cal P w K mg base (tabsOf K tf) "is_number" 1 3 false f_is_number := cal_of (ok_is_number F_is_number bl ) rfl g_is_number F_is_number.kp b_is_number
  have C_are_joints : Cal P w K mg base (tabsOf K tf) "are_joints" 3 2 false f_are_joints := cal_of (ok_are_joints F_are_joints bl C_is_number (g0_of (p := ("are_joints", none)) (x := "are_joints") (st := s_are_joints) F_are_joints (by simp [tf]) hT)) rfl g_are_joints F_are_joints.kp b_are_joints
  have C_joined_to : Cal P w K mg base (tabsOf K tf) "joined_to" 1 2 false f_joined_to := cal_of (ok_joined_to F_joined_to bl ) rfl g_joined_to F_joined_to.kp b_joined_to
  have C_is_map : Cal P w K mg base (tabsOf K tf) "is_map" 4 1 false f_is_map := cal_of (ok_is_map F_is_map bl C_are_joints C_is_number C_MOST_NODES) rfl g_is_map F_is_map.kp b_is_map
  have C_is_row : Cal P w K mg base (tabsOf K tf) "is_row" 3 3 false f_is_row := cal_of (ok_is_row F_is_row bl C_is_number (g0_of (p := ("is_row", none)) (x := "is_row") (st := s_is_row) F_is_row (by simp [tf]) hT)) rfl g_is_row F_is_row.kp b_is_row
  have C_is_painting : Cal P w K mg base (tabsOf K tf) "is_painting" 4 2 false f_is_painting := cal_of (ok_is_painting F_is_painting bl C_is_row C_MOST_COLOUR) rfl g_is_painting F_is_painting.kp b_is_painting
  have C_is_choice : Cal P w K mg base (tabsOf K tf) "is_choice" 4 2 false f_is_choice := cal_of (ok_is_choice F_is_choice bl C_is_row) rfl g_is_choice F_is_choice.kp b_is_choice
  have C_clashing : Cal P w K mg base (tabsOf K tf) "clashing" 1 2 false f_clashing := cal_of (ok_clashing F_clashing bl ) rfl g_clashing F_clashing.kp b_clashing
  have C_equal_joints : Cal P w K mg base (tabsOf K tf) "equal_joints" 1 2 false f_equal_joints := cal_of (ok_equal_joints F_equal_joints bl ) rfl g_equal_joints F_equal_joints.kp b_equal_joints
  have C_free_colour : Cal P w K mg base (tabsOf K tf) "free_colour" 2 3 false f_free_colour := cal_of (ok_free_colour F_free_colour bl C_joined_to) rfl g_free_colour F_free_colour.kp b_free_colour
  have C_repainted : Cal P w K mg base (tabsOf K tf) "repainted" 3 3 false f_repainted := cal_of (ok_repainted F_repainted bl C_free_colour C_clashing C_is_number R_Refused) rfl g_repainted F_repainted.kp b_repainted
  have C_all_repainted : Cal P w K mg base (tabsOf K tf) "all_repainted" 3 2 false f_all_repainted := cal_of (ok_all_repainted F_all_repainted bl C_free_colour C_clashing) rfl g_all_repainted F_all_repainted.kp b_all_repainted
  have C_restless : Cal P w K mg base (tabsOf K tf) "restless" 2 2 false f_restless := cal_of (ok_restless F_restless bl C_joined_to) rfl g_restless F_restless.kp b_restless
  have C_turned : Cal P w K mg base (tabsOf K tf) "turned" 3 3 false f_turned := cal_of (ok_turned F_turned bl C_restless C_is_number R_Refused) rfl g_turned F_turned.kp b_turned
  have C_is_settled : Cal P w K mg base (tabsOf K tf) "is_settled" 3 2 false f_is_settled := cal_of (ok_is_settled F_is_settled bl C_restless) rfl g_is_settled F_is_settled.kp b_is_settled
  have C__law_open : Cal P w K mg base (tabsOf K tf) "_law_open" 1 1 true f__law_open := cal_of (ok__law_open F__law_open bl ) rfl g__law_open F__law_open.kp b__law_open
  have C__law_mixed : Cal P w K mg base (tabsOf K tf) "_law_mixed" 1 2 false f__law_mixed := cal_of (ok__law_mixed F__law_mixed bl ) rfl g__law_mixed F__law_mixed.kp b__law_mixed
  have C__law_draw : Cal P w K mg base (tabsOf K tf) "_law_draw" 2 2 false f__law_draw := cal_of (ok__law_draw F__law_draw bl C__law_mixed) rfl g__law_draw F__law_draw.kp b__law_draw
  have T__law_told : TellK P w K mg base (tabsOf K tf) 1 "_law_told" told5 := by
    refine ⟨_, fd__law_told, ["error"], rfl, g__law_told, F__law_told.kp, b__law_told, fun y t D p ht hD hz => ?_⟩
    have e := (gm y (told_mem ht)).symm.trans hD
    cases e
    have e1 := exs y (told_mem ht)
    obtain ⟨e2, e3⟩ := He.ba e1
    obtain ⟨e4, e5⟩ := He.ba e3
    have e6 : ∀ C ∈ five, IsC K mg (He.ga K y) C (decide (y = C)) := fun C hC => ⟨_, gm C hC, kitX_ok (List.all_eq_true.mp e5 C hC)⟩
    exact ok__law_told F__law_told bl (excB_ok e2) ⟨_, g_FirstError, kitX_ok e4⟩ (e6 "TooMuch" (by decide)) (e6 "Refused" (by decide)) (e6 "NotThere" (by decide)) (e6 "Malformed" (by decide)) (e6 "OutOfRange" (by decide)) hz ht
  have C__law_int : Cal P w K mg base (tabsOf K tf) "_law_int" 1 1 false f__law_int := cal_of (ok__law_int F__law_int bl ) rfl g__law_int F__law_int.kp b__law_int
  have C__law_same : Cal P w K mg base (tabsOf K tf) "_law_same" 1 2 false f__law_same := cal_of (ok__law_same F__law_same bl ) rfl g__law_same F__law_same.kp b__law_same
  have C__law_joints : Cal P w K mg base (tabsOf K tf) "_law_joints" 3 3 false f__law_joints := cal_of (ok__law_joints F__law_joints bl C__law_draw) rfl g__law_joints F__law_joints.kp b__law_joints
  have C__law_beside : Cal P w K mg base (tabsOf K tf) "_law_beside" 1 2 false f__law_beside := cal_of (ok__law_beside F__law_beside bl ) rfl g__law_beside F__law_beside.kp b__law_beside
  have C__law_clashing : Cal P w K mg base (tabsOf K tf) "_law_clashing" 2 2 false f__law_clashing := cal_of (ok__law_clashing F__law_clashing bl C__law_beside) rfl g__law_clashing F__law_clashing.kp b__law_clashing
  have C__law_colour : Cal P w K mg base (tabsOf K tf) "_law_colour" 2 3 false f__law_colour := cal_of (ok__law_colour F__law_colour bl C__law_beside) rfl g__law_colour F__law_colour.kp b__law_colour
  have C__law_equal : Cal P w K mg base (tabsOf K tf) "_law_equal" 1 2 false f__law_equal := cal_of (ok__law_equal F__law_equal bl ) rfl g__law_equal F__law_equal.kp b__law_equal
  have C__law_moved : Cal P w K mg base (tabsOf K tf) "_law_moved" 4 4 false f__law_moved := cal_of (ok__law_moved F__law_moved bl C_repainted C_turned K_FirstError T__law_told) rfl g__law_moved F__law_moved.kp b__law_moved
  have C__law_wrong : Cal P w K mg base (tabsOf K tf) "_law_wrong" 5 3 false f__law_wrong := cal_of (ok__law_wrong F__law_wrong bl C_is_choice C_is_painting C_is_map) rfl g__law_wrong F__law_wrong.kp b__law_wrong
  have C__law_painted : Cal P w K mg base (tabsOf K tf) "_law_painted" 5 3 false f__law_painted := cal_of (ok__law_painted F__law_painted bl C_is_painting C__law_equal C__law_colour C__law_moved C__law_draw C_all_repainted C_equal_joints C__law_int C_clashing C__law_clashing) rfl g__law_painted F__law_painted.kp b__law_painted
  have C__law_chosen : Cal P w K mg base (tabsOf K tf) "_law_chosen" 5 3 false f__law_chosen := cal_of (ok__law_chosen F__law_chosen bl C__law_moved C__law_draw C_is_settled C__law_same C_restless C__law_beside) rfl g__law_chosen F__law_chosen.kp b__law_chosen
  exact ok_law F_law bl C__law_open C_all_repainted C__law_draw C__law_chosen C__law_painted C__law_wrong C__law_joints plain

end K95

open PySem PySem.W PySem.Calls PyProof.Rows in
theorem PySem.Challenge.cw_happenedfirst_k95_whole_paintings_and_ch_holds : PySem.Challenge.rw_happenedfirst_k95_whole_paintings_and_ch.Holds := by
  w_on; o_law
  refine HandSHeadRun.head_any (r := OpenLaw.row PySem.Challenge.rw_happenedfirst_k95_whole_paintings_and_ch) (q := view (OpenLaw.row PySem.Challenge.rw_happenedfirst_k95_whole_paintings_and_ch).prog [43]) (H := K95.hk) (ob := K95.ob) (M := 3000) (loose := K95.names) (d := HandSHeadRun.topDef (OpenLaw.row PySem.Challenge.rw_happenedfirst_k95_whole_paintings_and_ch).prog 43) (kwd := []) K95.ob_eq
    (by kernel_rfl) (fun s => by kernel_rfl) K95.run (by kernel_rfl) (by kernel_rfl) (by kernel_rfl) (by rfl) (by first | assumption | decide +kernel) (by decide +kernel) ⟨rfl, rfl, rfl, rfl, rfl, by decide +kernel⟩ ?hw ?hc
  case hw => w_witness2
  case hc =>
    refine LamX.walk_ofTsE (l := PySem.Challenge.rw_happenedfirst_k95_whole_paintings_and_ch) (n := 63) (k := 6) (x := "script") (CX := fun w => L2N.CX PySem.Challenge.rw_happenedfirst_k95_whole_paintings_and_ch.prog w) rfl (by decide) (by kernel_rfl) ⟨rfl, by decide, by decide⟩ ?F (fun w H s e s' z => by
      obtain ⟨_, _, _, _, _, _, _, _, _, _, _, _, z⟩ := z
      exact z.elim)
    intro w mg fa h Y G hmg0
    obtain ⟨K, KX, c⟩ := Y
    have hmg : mg ("law" : PySem.Str) = some (.ref fa) := by
      have e : (HandSHeadRun.topDef (OpenLaw.row PySem.Challenge.rw_happenedfirst_k95_whole_paintings_and_ch).prog 43).name = ("law" : PySem.Str) := by kernel_rfl
      rw [← e]
      exact hmg0
    obtain ⟨fd, hb, hF⟩ := K95.whole (P := (PySem.Challenge.rw_happenedfirst_k95_whole_paintings_and_ch).prog) (w := w) KX G hmg c
    exact ⟨K, KX, fd, DL.csOf K K95.tf, DL.spLaw K (DL.tabsOf K K95.tf), DL.cs_empty c, DL.cs_out c, DL.cs_head KX c, hb, fun H a ns hl hbits hH hS => ⟨a, ns, rfl, ⟨hl, hbits⟩, hS, DL.cs_tabs hH, fun _ => rfl⟩, fun base _ _ hT => hF base hT⟩
