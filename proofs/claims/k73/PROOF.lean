import PyProof.Rows.All
import Wide.All
import OpenK.AllK
import Wide.FinOn
import HandS.ForMost
import HandS.ForExc
import HandS.CallSlots
import HandS.Wide
import HandS.Star
import HandS.Flow
import KE.KDictKeyed
import KE.DataCmp
import KE.DataEq
import KE.SortData
import KE.DataMinMax
import KE.DataAny
import HandS.TupAny
import HandS.Style
import HandS.IsInst
import PyProof.Rows.RuleB_pow
import HandS.Comp
import HandS.Iter
import HandS.Zip
import HandS.Defaults
import HandS.WordsExc
import HandS.List
import HandS.More
import HandS.Deep
import HandS.Dict
import KE.KDictDisplayH
import PyProof.Rows.TupDisplay
import PyProof.Rows.TupTab
import HandS.TupSets
import Lean
import KE.KStateDown
import HandS.Ends
import HandS.Words
import HandS.Head0
import HandS.Head1
import HandS.Head2
import HandS.HeadEnd
import HandS.HeadHook1
import HandS.HeadHook2
import PySem.Challenge.RW_farwide_k73_wrapped_shells_told
set_option Elab.async false
set_option linter.all false
set_option maxRecDepth 100000
set_option maxHeartbeats 4000000
/-! Pm: pure values, a local store, mirrors of defs as functions, and the judgements that tie them to the hand layer. -/
namespace Pm
open PySem PySem.Spec PyProof.Rows L2

/-! ### values, the store, outcomes -/
inductive W where
  | non | bl (b : Bool) | int (i : Int) | str (s : Str) | tup (xs : List W) | vl (xs : List W) | vd (kvs : List (W × W)) | ref (i : Nat) | fn (x : Str)
instance : Inhabited W := ⟨.non⟩
inductive O where
  | lst (xs : List W) | dct (kvs : List (W × W)) | obj (C : Str) (fs : List (Str × W)) | gone
abbrev Sto := List O
inductive R (α : Type) where
  | ok (a : α) (S : Sto) | exc (C : Str) (S : Sto) | stuck
abbrev M (α : Type) := Sto → R α
def M.ret {α : Type} (a : α) : M α := fun S => .ok a S
def M.bind {α β : Type} (x : M α) (f : α → M β) : M β := fun S => match x S with
  | .ok a S' => f a S'
  | .exc C S' => .exc C S'
  | .stuck => .stuck
def M.fail {α : Type} : M α := fun _ => .stuck
instance : Monad M where
  pure := M.ret
  bind := M.bind
theorem bind_ok {α β : Type} {x : M α} {f : α → M β} {S S' : Sto} {a : α} (h : x S = .ok a S') : (x >>= f) S = f a S' := by
  show M.bind x f S = _
  unfold M.bind
  rw [h]
theorem bind_exc {α β : Type} {x : M α} {f : α → M β} {S S' : Sto} {C : Str} (h : x S = .exc C S') : (x >>= f) S = .exc C S' := by
  show M.bind x f S = _
  unfold M.bind
  rw [h]
theorem bind_stuck {α β : Type} {x : M α} {f : α → M β} {S : Sto} (h : x S = .stuck) : (x >>= f) S = .stuck := by
  show M.bind x f S = _
  unfold M.bind
  rw [h]
def mapO {α β : Type} (f : α → Option β) : List α → Option (List β)
  | [] => some []
  | x :: xs => match f x with
    | none => none
    | some y => match mapO f xs with
      | none => none
      | some ys => some (y :: ys)
/-- a fuel that is never used up -/
def FUEL : Nat := 1000000000000000000000000000000

/-! ### as data, as keys -/
def dat (S : Sto) : Nat → W → Option PyData
  | 0, _ => none
  | n + 1, w => match w with
    | .non => some .none
    | .bl b => some (.bool b)
    | .int i => some (.int i)
    | .str s => some (.str s)
    | .tup ws => (mapO (dat S n) ws).map .tuple
    | .vl ws => (mapO (dat S n) ws).map .list
    | .ref i => match S[i]? with
      | some (.lst ws) => (mapO (dat S n) ws).map .list
      | _ => none
    | _ => none
def keyO : Nat → W → Option NestedKey
  | 0, _ => none
  | n + 1, w => match w with
    | .non => some .none
    | .bl b => some (.num (if b = true then 1 else 0))
    | .int i => some (.num i)
    | .str s => some (.text s)
    | .tup ws => (mapO (keyO n) ws).map .tup
    | _ => none
def leafO : W → Option Leaf
  | .non => some .none
  | .bl b => some (.num (if b = true then 1 else 0))
  | .int i => some (.num i)
  | .str s => some (.text s)
  | _ => none
/-- every reference turned into what stands there -/
def frz (S : Sto) : Nat → W → Option W
  | 0, _ => none
  | n + 1, w => match w with
    | .tup ws => (mapO (frz S n) ws).map .tup
    | .vl ws => (mapO (frz S n) ws).map .vl
    | .vd kvs => (mapO (fun p => match frz S n p.1, frz S n p.2 with
      | some a, some b => some (a, b)
      | _, _ => none) kvs).map .vd
    | .ref i => match S[i]? with
      | some (.lst ws) => (mapO (frz S n) ws).map .vl
      | some (.dct kvs) => (mapO (fun p => match frz S n p.1, frz S n p.2 with
        | some a, some b => some (a, b)
        | _, _ => none) kvs).map .vd
      | _ => none
    | w => some w

/-! ### what a value of the layer is for W -/
structure G where
  P : Program
  w : World
  K : PySem.W.Frag
  mg : Str → Option Value
abbrev gOf (X : Cx) : G := ⟨X.prog, X.w, X.K, X.mg⟩

/-- a dict whose keys are carried by value -/
def hoL (g : G) (a : Addr) (xs : List (Leaf × V)) : HO := .ext fun h => (a == sysModules) = false ∧ xs.length ≤ sizeLine ∧ ∃ vs, KV xs vs ∧ h.DictOf (leafKind g.P g.w) a vs
/-- a dict whose keys are tuples -/
def hoN (g : G) (a : Addr) (xs : List (NestedKey × Addr × V)) : HO := .ext fun h => (a == sysModules) = false ∧ xs.length ≤ sizeLine ∧ ∃ vs : List (NestedKey × Addr × Value),
  Paired (fun (p : NestedKey × Addr × V) (q : NestedKey × Addr × Value) => p.1 = q.1 ∧ p.2.1 = q.2.1 ∧ RelV p.2.2 q.2.2) xs vs ∧
  ∃ o es ep, h.get? a = some o ∧ o.ExactDict ∧ o.data = .dict es ep ∧ es.toList = vs.map (entryOfKey (nestedKind g.P g.w)) ∧ (vs.map (·.1)).Nodup

/-- a list of the written part -/
def KLst (g : G) (a : Addr) (vs : List V) : Prop := SqL g.K (fun _ => none) a vs
section
variable (g : G) (A : List Addr) (m : List Addr) (H : Hp)
mutual
/-- A: the objects that may change; m: where the store's objects stand -/
inductive Den : W → V → Prop
  | non : Den .non .non
  | bl (b) : Den (.bl b) (.bl b)
  | int (i) : Den (.int i) (.int i)
  | str (s) : Den (.str s) (.str s)
  | tup {ws a vs} : SqT g.K H a vs → DenL ws vs → Den (.tup ws) (.ref a)
  | vl {ws a vs} : a ∉ A → Rd H a (.lst vs) → DenL ws vs → Den (.vl ws) (.ref a)
  | vlK {ws a vs} : KLst g a vs → DenL ws vs → Den (.vl ws) (.ref a)
  | vdL {kvs a xs} : a ∉ A → H a = some (hoL g a xs) → DenK kvs xs → Den (.vd kvs) (.ref a)
  | vdN {kvs a xs} : a ∉ A → H a = some (hoN g a xs) → DenN kvs xs → Den (.vd kvs) (.ref a)
  | ref {i : Nat} {a} : m[i]? = some a → Den (.ref i) (.ref a)
  | fn {x f} : g.mg x = some (.ref f) → Den (.fn x) (.ref f)
inductive DenL : List W → List V → Prop
  | nil : DenL [] []
  | cons {w v ws vs} : Den w v → DenL ws vs → DenL (w :: ws) (v :: vs)
inductive DenK : List (W × W) → List (Leaf × V) → Prop
  | nil : DenK [] []
  | cons {k w l v ks xs} : leafO k = some l → Den w v → DenK ks xs → DenK ((k, w) :: ks) ((l, v) :: xs)
inductive DenN : List (W × W) → List (NestedKey × Addr × V) → Prop
  | nil : DenN [] []
  | cons {k w l a v ks xs} : keyO 8 k = some l → Den k (.ref a) → Den w v → DenN ks xs → DenN ((k, w) :: ks) ((l, a, v) :: xs)
end
end

/-- an object of the store -/
inductive OAt (g : G) (A m : List Addr) (H : Hp) (a : Addr) : O → Prop
  | lst {ws vs} : H a = some (.lst vs) → DenL g A m H ws vs → OAt g A m H a (.lst ws)
  | dctL {kvs xs} : H a = some (hoL g a xs) → DenK g A m H kvs xs → OAt g A m H a (.dct kvs)
  | dctN {kvs xs} : H a = some (hoN g a xs) → DenN g A m H kvs xs → OAt g A m H a (.dct kvs)
  | obj {C c dx fs vs} : g.mg C = some (.ref c) → H a = some (.ins c dx ((fs.map (·.1)).zip vs)) → DenL g A m H (fs.map (·.2)) vs → OAt g A m H a (.obj C fs)

structure Rep (g : G) (B m : List Addr) (S : Sto) (H : Hp) : Prop where
  len : m.length = S.length
  nd : (B ++ m).Nodup
  mu : ∀ b ∈ B ++ m, Mut (H b)
  obj : ∀ (i : Nat) a o, m[i]? = some a → S[i]? = some o → OAt g (B ++ m) m H a o
/-- what a step may do to the heap: the objects of m alone change, m grows by new ones -/
structure Ext (m : List Addr) (H : Hp) (m' : List Addr) (H' : Hp) : Prop where
  pre : m <+: m'
  fr : ∀ a o, H a = some o → a ∉ m → H' a = some o
  new : ∀ a ∈ m', a ∉ m → H a = none
def DenE (g : G) (A m : List Addr) (H : Hp) (ρ : List (Option W)) (σ : L2.St) : Prop :=
  ρ.length = σ.length ∧ ∀ (i : Nat) w, ρ[i]? = some (some w) → ∃ v, σ[i]? = some (some v) ∧ Den g A m H w v

/-! ### carrying over -/
theorem notMut_tup {H : Hp} {a : Addr} {xs : List V} (h : Rd H a (.tup xs)) : ¬ Mut (H a) := by
  rcases h with h | ⟨o, h⟩ <;> (rw [h]; exact fun z => z)
theorem Ext.refl (m : List Addr) (H : Hp) : Ext m H m H := ⟨List.prefix_refl m, fun _ _ h _ => h, fun _ h n => absurd h n⟩
theorem Ext.trans {m m1 m2 : List Addr} {H H1 H2 : Hp} (a : Ext m H m1 H1) (b : Ext m1 H1 m2 H2) : Ext m H m2 H2 where
  pre := a.pre.trans b.pre
  fr := fun c o h n => b.fr c o (a.fr c o h n) fun hm => by
    have z := a.new c hm n
    rw [h] at z
    cases z
  new := fun c hm n => by
    by_cases h1 : c ∈ m1
    · exact a.new c h1 n
    · have z := b.new c hm h1
      cases q : H c with
      | none => rfl
      | some o =>
        rw [a.fr c o q n] at z
        cases z
/-- how a world of values is carried over -/
structure Carry (g : G) (A m : List Addr) (H : Hp) (A' m' : List Addr) (H' : Hp) : Prop where
  stay : ∀ a o, H a = some o → (¬ Mut (some o) ∨ a ∉ A) → H' a = some o
  out : ∀ a o, H a = some o → a ∉ A → a ∉ A'
  ref : ∀ (i : Nat) b, m[i]? = some b → m'[i]? = some b
theorem Carry.tup {g : G} {A m : List Addr} {H : Hp} {A' m' : List Addr} {H' : Hp} (c : Carry g A m H A' m' H') {a : Addr} {vs : List V} (h : SqT g.K H a vs) : SqT g.K H' a vs := by
  rcases h with (h | ⟨o, h⟩) | h
  · exact .inl (.inl (c.stay _ _ h (.inl fun z => z)))
  · exact .inl (.inr ⟨o, c.stay _ _ h (.inl fun z => z)⟩)
  · exact .inr h
theorem Carry.lst {g : G} {A m : List Addr} {H : Hp} {A' m' : List Addr} {H' : Hp} (c : Carry g A m H A' m' H') {a : Addr} {vs : List V} (n : a ∉ A) (h : Rd H a (.lst vs)) : a ∉ A' ∧ Rd H' a (.lst vs) := by
  rcases h with h | ⟨o, h⟩
  · exact ⟨c.out _ _ h n, .inl (c.stay _ _ h (.inr n))⟩
  · exact ⟨c.out _ _ h n, .inr ⟨o, c.stay _ _ h (.inr n)⟩⟩
mutual
theorem Den.carry {g : G} {A m : List Addr} {H : Hp} {A' m' : List Addr} {H' : Hp} (c : Carry g A m H A' m' H') : ∀ {w : W} {v : V}, Den g A m H w v → Den g A' m' H' w v
  | _, _, .non => .non
  | _, _, .bl b => .bl b
  | _, _, .int b => .int b
  | _, _, .str b => .str b
  | _, _, .tup h l => .tup (c.tup h) (DenL.carry c l)
  | _, _, .vl n h l => .vl (c.lst n h).1 (c.lst n h).2 (DenL.carry c l)
  | _, _, .vlK h l => .vlK h (DenL.carry c l)
  | _, _, .vdL n h l => .vdL (c.out _ _ h n) (c.stay _ _ h (.inr n)) (DenK.carry c l)
  | _, _, .vdN n h l => .vdN (c.out _ _ h n) (c.stay _ _ h (.inr n)) (DenN.carry c l)
  | _, _, .ref h => .ref (c.ref _ _ h)
  | _, _, .fn h => .fn h
theorem DenL.carry {g : G} {A m : List Addr} {H : Hp} {A' m' : List Addr} {H' : Hp} (c : Carry g A m H A' m' H') : ∀ {ws : List W} {vs : List V}, DenL g A m H ws vs → DenL g A' m' H' ws vs
  | _, _, .nil => .nil
  | _, _, .cons h l => .cons (Den.carry c h) (DenL.carry c l)
theorem DenK.carry {g : G} {A m : List Addr} {H : Hp} {A' m' : List Addr} {H' : Hp} (c : Carry g A m H A' m' H') : ∀ {ws : List (W × W)} {vs : List (Leaf × V)}, DenK g A m H ws vs → DenK g A' m' H' ws vs
  | _, _, .nil => .nil
  | _, _, .cons k h l => .cons k (Den.carry c h) (DenK.carry c l)
theorem DenN.carry {g : G} {A m : List Addr} {H : Hp} {A' m' : List Addr} {H' : Hp} (c : Carry g A m H A' m' H') : ∀ {ws : List (W × W)} {vs : List (NestedKey × Addr × V)}, DenN g A m H ws vs → DenN g A' m' H' ws vs
  | _, _, .nil => .nil
  | _, _, .cons k hk h l => .cons k (Den.carry c hk) (Den.carry c h) (DenN.carry c l)
end
theorem OAt.carry {g : G} {A m : List Addr} {H : Hp} {A' m' : List Addr} {H' : Hp} (c : Carry g A m H A' m' H') {a : Addr} {o : O} (h : OAt g A m H a o) (e : H' a = H a) : OAt g A' m' H' a o := by
  cases h with
  | lst h l => exact .lst (e.trans h) (l.carry c)
  | dctL h l => exact .dctL (e.trans h) (l.carry c)
  | dctN h l => exact .dctN (e.trans h) (l.carry c)
  | obj hc h l => exact .obj hc (e.trans h) (l.carry c)
theorem DenE.carry {g : G} {A m : List Addr} {H : Hp} {A' m' : List Addr} {H' : Hp} (c : Carry g A m H A' m' H') {ρ : List (Option W)} {σ : L2.St} (h : DenE g A m H ρ σ) : DenE g A' m' H' ρ σ :=
  ⟨h.1, fun i w e => let ⟨v, e2, d⟩ := h.2 i w e; ⟨v, e2, d.carry c⟩⟩
theorem pre_get {m m' : List Addr} (p : m <+: m') {i : Nat} {b : Addr} (h : m[i]? = some b) : m'[i]? = some b := by
  obtain ⟨t, rfl⟩ := p
  rw [List.getElem?_append_left (List.getElem?_eq_some_iff.mp h).1]
  exact h
section
variable {g : G} {B m m' : List Addr} {S S' : Sto} {H H' : Hp}
/-- along a step -/
theorem Rep.carry (r : Rep g B m S H) (e : Ext m H m' H') : Carry g (B ++ m) m H (B ++ m') m' H' where
  stay := fun a o h k => e.fr a o h fun hm => by
    rcases k with k | k
    · exact k (h ▸ r.mu a (List.mem_append_right _ hm))
    · exact k (List.mem_append_right _ hm)
  out := fun a o h n hm => by
    rcases List.mem_append.mp hm with z | z
    · exact n (List.mem_append_left _ z)
    · have q := e.new a z fun y => n (List.mem_append_right _ y)
      rw [h] at q
      cases q
  ref := fun i b h => pre_get e.pre h
/-- for those who hold other objects: m is of the others there -/
theorem Rep.outer (r : Rep g B m S H) (e : Ext [] H m' H') {A' : List Addr} (hA : ∀ a ∈ A', a ∈ B ++ m ∨ H a = none) : Carry g (B ++ m) m H A' m H' where
  stay := fun a o h _ => e.fr a o h (by simp)
  out := fun a o h n hm => by
    rcases hA a hm with z | z
    · exact n z
    · rw [h] at z
      cases z
  ref := fun _ _ h => h
/-- A is another list of the same -/
theorem carry_sub {A A' : List Addr} (h : ∀ a ∈ A', a ∈ A) : Carry g A m H A' m H where
  stay := fun _ _ e _ => e
  out := fun a o _ n hm => n (h a hm)
  ref := fun _ _ h => h
/-- a new object -/
theorem Rep.fresh {p : Addr} {o : HO} (r : Rep g B m S H) (n : H p = none) (mu : Mut (some o)) : Rep g (B ++ [p]) m S (upd H p o) ∧ Carry g (B ++ m) m H (B ++ [p] ++ m) m (upd H p o) := by
  have c : Carry g (B ++ m) m H (B ++ [p] ++ m) m (upd H p o) := ⟨fun a u h _ => by rw [upd_ne (ne_of_none h n)]; exact h, fun a u h na hm => by
    rcases List.mem_append.mp hm with z | z
    · rcases List.mem_append.mp z with z | z
      · exact na (List.mem_append_left _ z)
      · rw [List.mem_singleton.mp z, n] at h
        cases h
    · exact na (List.mem_append_right _ z), fun _ _ h => h⟩
  have np : p ∉ B ++ m := fun hm => by
    have z := r.mu p hm
    rw [n] at z
    exact z
  refine ⟨⟨r.len, ?_, fun b hb => ?_, fun i a u h1 h2 => (r.obj i a u h1 h2).carry c (upd_ne fun e => np (by rw [← e]; exact List.mem_append_right _ (List.mem_of_getElem? h1)))⟩, c⟩
  · have e : (B ++ [p] ++ m).Perm (p :: (B ++ m)) := by
      rw [List.append_assoc]
      exact List.perm_middle
    exact e.symm.nodup (List.nodup_cons.mpr ⟨np, r.nd⟩)
  · by_cases e : b = p
    · rw [e, upd_same]
      exact mu
    · rw [upd_ne e]
      refine r.mu b ?_
      simp only [List.mem_append, List.mem_singleton] at hb ⊢
      rcases hb with (z | z) | z
      · exact .inl z
      · exact absurd z e
      · exact .inr z
/-- the object that was made is no more told of -/
theorem Rep.unB {p : Addr} (r : Rep g (B ++ [p]) m S H) : Rep g B m S H ∧ Carry g (B ++ [p] ++ m) m H (B ++ m) m H ∧ p ∉ B ++ m := by
  have c : Carry g (B ++ [p] ++ m) m H (B ++ m) m H := carry_sub fun a h => by
    simp only [List.mem_append, List.mem_singleton] at h ⊢
    rcases h with h | h
    · exact .inl (.inl h)
    · exact .inr h
  have e : (B ++ [p] ++ m).Perm (p :: (B ++ m)) := by
    rw [List.append_assoc]
    exact List.perm_middle
  have nd := List.nodup_cons.mp (e.nodup r.nd)
  refine ⟨⟨r.len, nd.2, fun b hb => r.mu b ?_, fun i a u h1 h2 => (r.obj i a u h1 h2).carry c rfl⟩, c, nd.1⟩
  simp only [List.mem_append, List.mem_singleton] at hb ⊢
  rcases hb with h | h
  · exact .inl (.inl h)
  · exact .inr h
/-- it becomes an object of the store -/
theorem Rep.intoS {p : Addr} {o : O} (r : Rep g (B ++ [p]) m S H) (h : OAt g (B ++ [p] ++ m) m H p o) : Rep g B (m ++ [p]) (S ++ [o]) H ∧ Carry g (B ++ [p] ++ m) m H (B ++ (m ++ [p])) (m ++ [p]) H := by
  have c : Carry g (B ++ [p] ++ m) m H (B ++ (m ++ [p])) (m ++ [p]) H := ⟨fun _ _ e _ => e, fun a u _ na hm => na (by
    simp only [List.mem_append, List.mem_singleton] at hm ⊢
    rcases hm with z | z | z
    · exact .inl (.inl z)
    · exact .inr z
    · exact .inl (.inr z)), fun i b e => pre_get (List.prefix_append _ _) e⟩
  refine ⟨⟨by simp [r.len], ?_, fun b hb => r.mu b ?_, fun i a u h1 h2 => ?_⟩, c⟩
  · have e : (B ++ (m ++ [p])).Perm (B ++ [p] ++ m) := by
      rw [List.append_assoc]
      exact List.Perm.append_left B List.perm_append_comm
    exact e.symm.nodup r.nd
  · simp only [List.mem_append, List.mem_singleton] at hb ⊢
    rcases hb with z | z | z
    · exact .inl (.inl z)
    · exact .inr z
    · exact .inl (.inr z)
  · by_cases hi : i < m.length
    · rw [List.getElem?_append_left hi] at h1
      rw [List.getElem?_append_left (by rw [← r.len]; exact hi)] at h2
      exact (r.obj i a u h1 h2).carry c rfl
    · have hi2 : i = m.length := by
        have := (List.getElem?_eq_some_iff.mp h1).1
        rw [List.length_append, List.length_singleton] at this
        omega
      rw [hi2] at h1 h2
      rw [List.getElem?_append_right (Nat.le_refl _)] at h1
      rw [r.len, List.getElem?_append_right (Nat.le_refl _)] at h2
      simp only [Nat.sub_self, List.getElem?_cons_zero, Option.some.injEq] at h1 h2
      rw [← h1, ← h2]
      exact h.carry c rfl
/-- all that is tracked stays -/
theorem Rep.grow (r : Rep g B m S H) (k : ∀ a o, H a = some o → H' a = some o) : Rep g B m S H' ∧ Ext m H m H' ∧ Carry g (B ++ m) m H (B ++ m) m H' := by
  have c : Carry g (B ++ m) m H (B ++ m) m H' := ⟨fun a o h _ => k a o h, fun _ _ _ n => n, fun _ _ h => h⟩
  have at_ : ∀ b, Mut (H b) → H' b = H b := fun b mu => by
    cases q : H b with
    | none => rw [q] at mu; exact mu.elim
    | some o => exact k b o q
  refine ⟨⟨r.len, r.nd, fun b hb => ?_, fun i a u h1 h2 => (r.obj i a u h1 h2).carry c (at_ a (r.mu a (List.mem_append_right _ (List.mem_of_getElem? h1))))⟩, ⟨List.prefix_refl m, fun a o h _ => k a o h, fun _ h n => absurd h n⟩, c⟩
  rw [at_ b (r.mu b hb)]
  exact r.mu b hb
theorem Rep.laid {p : Addr} {o : HO} (r : Rep g B m S H) (n : H p = none) : Rep g B m S (upd H p o) ∧ Ext m H m (upd H p o) ∧ Carry g (B ++ m) m H (B ++ m) m (upd H p o) ∧ p ∉ B ++ m :=
  let ⟨a, b, c⟩ := r.grow (H' := upd H p o) fun a u h => by rw [upd_ne (ne_of_none h n)]; exact h
  ⟨a, b, c, fun hm => by
    have z := r.mu p hm
    rw [n] at z
    exact z⟩
end
end Pm

namespace Pm
open PySem PySem.Spec PyProof.Rows L2

/-! ### what must hold behind an outcome -/
abbrev Rho := List (Option W)
def Post {α : Type} (g : G) (Wx : WX) (B m : List Addr) (H : Hp) (σ : L2.St) (r : R α) (P : List Addr → Hp → α → Prop) : Prop := match r with
  | .ok a S' => ∀ m' H', Ext m H m' H' → Rep g B m' S' H' → P m' H' a
  | .exc C S' => ∀ m' H' a, Ext m H m' H' → Rep g B m' S' H' → g.mg C = some (.ref a) → Wx (.ref a) none σ H'
  | .stuck => False
section
variable {g : G} {Wx : WX} {B m m1 : List Addr} {H H1 : Hp} {σ : L2.St} {α β : Type} {r : R α} {P P' : List Addr → Hp → α → Prop} {S S1 : Sto}
theorem Post.step (h : Post g Wx B m H σ r P) (e : Ext m H m1 H1) : Post g Wx B m1 H1 σ r P := by
  cases r with
  | ok a S' => exact fun m' H' x rp => h m' H' (e.trans x) rp
  | exc C S' => exact fun m' H' a x rp => h m' H' a (e.trans x) rp
  | stuck => exact h
theorem Post.imp (h : Post g Wx B m H σ r P) (k : ∀ m' H' a, Ext m H m' H' → P m' H' a → P' m' H' a) : Post g Wx B m H σ r P' := by
  cases r with
  | ok a S' => exact fun m' H' x rp => k _ _ _ x (h m' H' x rp)
  | exc C S' => exact h
  | stuck => exact h
theorem Post.bind {x : M α} {f : α → M β} {P : List Addr → Hp → β → Prop} {P1 : List Addr → Hp → α → Prop} (h : Post g Wx B m H σ ((x >>= f) S) P)
    (k : ∀ a S1 m1 H1, x S = .ok a S1 → Ext m H m1 H1 → Rep g B m1 S1 H1 → Post g Wx B m1 H1 σ (f a S1) P → P1 m1 H1 a) : Post g Wx B m H σ (x S) P1 := by
  cases e : x S with
  | ok a S1 =>
    rw [bind_ok e] at h
    exact fun m1 H1 x1 r1 => k a S1 m1 H1 e x1 r1 (h.step x1)
  | exc C S1 =>
    rw [bind_exc e] at h
    exact h
  | stuck =>
    rw [bind_stuck e] at h
    exact h
end

/-! ### expressions -/
def TM (g : G) (Wx : WX) (c : Rho → M W) : TE := fun σ H Q => ∃ B m S ρ, Rep g B m S H ∧ DenE g (B ++ m) m H ρ σ ∧
  Post g Wx B m H σ (c ρ S) fun m' H' w => ∀ v, Den g (B ++ m') m' H' w v → Q v H'
def TB (g : G) (Wx : WX) (c : Rho → M Bool) : TT := fun σ H Q => ∃ B m S ρ, Rep g B m S H ∧ DenE g (B ++ m) m H ρ σ ∧
  Post g Wx B m H σ (c ρ S) fun m' H' b => Q b H'
def TL (g : G) (Wx : WX) (c : Rho → M (List W)) : TA := fun σ H Q => ∃ B m S ρ, Rep g B m S H ∧ DenE g (B ++ m) m H ρ σ ∧
  Post g Wx B m H σ (c ρ S) fun m' H' ws => ∀ vs, DenL g (B ++ m') m' H' ws vs → Q vs H'
/-- a fresh object -/
def PostF (g : G) (Wx : WX) (B : List Addr) (σ : L2.St) (Q : VK) (m : List Addr) (H : Hp) (r : R O) : Prop := match r with
  | .ok o S' => ∀ m' H' p, Ext m H m' H' → H p = none → Rep g (B ++ [p]) m' S' H' → OAt g (B ++ [p] ++ m') m' H' p o → Q (.ref p) H'
  | .exc C S' => ∀ m' H' a, Ext m H m' H' → Rep g B m' S' H' → g.mg C = some (.ref a) → Wx (.ref a) none σ H'
  | .stuck => False
def TF (g : G) (Wx : WX) (c : Rho → M O) : TE := fun σ H Q => ∃ B m S ρ, Rep g B m S H ∧ DenE g (B ++ m) m H ρ σ ∧ PostF g Wx B σ Q m H (c ρ S)
abbrev ME (X : Cx) (Wx : WX) (e : Expr) (c : Rho → M W) : Prop := PE X e (TM (gOf X) Wx c)
abbrev MF (X : Cx) (Wx : WX) (e : Expr) (c : Rho → M O) : Prop := PE X e (TF (gOf X) Wx c)
abbrev MT (X : Cx) (Wx : WX) (e : Expr) (c : Rho → M Bool) : Prop := PT X e (TB (gOf X) Wx c)
abbrev MA (X : Cx) (Wx : WX) (es : List Expr) (c : Rho → M (List W)) : Prop := PA X es (TL (gOf X) Wx c)
theorem _root_.L2.PE.imp {X : Cx} {e : Expr} {t t' : TE} (h : PE X e t) (k : ∀ σ H Q, t' σ H Q → t σ H Q) : PE X e t' := ⟨fun pins s σ H Q I q => h.run pins s σ H Q I (k σ H Q q)⟩
theorem _root_.L2.PT.imp {X : Cx} {e : Expr} {t t' : TT} (h : PT X e t) (k : ∀ σ H Q, t' σ H Q → t σ H Q) : PT X e t' := ⟨fun pins s σ H Q I q => h.run pins s σ H Q I (k σ H Q q)⟩
theorem _root_.L2.PW.imp {X : Cx} {e : Expr} {t t' : TT} (h : PW X e t) (k : ∀ σ H Q, t' σ H Q → t σ H Q) : PW X e t' := ⟨fun wh pins s σ H Q I q => h.run wh pins s σ H Q I (k σ H Q q)⟩
theorem _root_.L2.PA.imp {X : Cx} {es : List Expr} {t t' : TA} (h : PA X es t) (k : ∀ σ H Q, t' σ H Q → t σ H Q) : PA X es t' := ⟨fun pos pins s σ H Q I q => h.run pos pins s σ H Q I (k σ H Q q)⟩
theorem _root_.L2.PS.imp {X : Cx} {e : Stmt} {t t' : TS} (h : PS X e t) (k : ∀ D σ H, t' D σ H → t D σ H) : PS X e t' := ⟨fun pins s σ H D I q => h.run pins s σ H D I (k D σ H q)⟩
theorem _root_.L2.PSs.imp {X : Cx} {e : List Stmt} {t t' : TS} (h : PSs X e t) (k : ∀ D σ H, t' D σ H → t D σ H) : PSs X e t' := ⟨fun pins s σ H D I q => h.run pins s σ H D I (k D σ H q)⟩

section
variable {X : Cx} {Wx : WX}
/-- the start: a state, from which the parts are read -/
theorem TM.seq {g : G} {B m : List Addr} {S : Sto} {ρ : Rho} {H : Hp} {σ : L2.St} {α : Type} {ca : Rho → M W} {f : W → M α} {P : List Addr → Hp → α → Prop} {Q : VK}
    (r : Rep g B m S H) (d : DenE g (B ++ m) m H ρ σ) (h : Post g Wx B m H σ ((ca ρ >>= f) S) P)
    (k : ∀ w S1 m1 H1 v, Ext m H m1 H1 → Rep g B m1 S1 H1 → DenE g (B ++ m1) m1 H1 ρ σ → Den g (B ++ m1) m1 H1 w v → Post g Wx B m1 H1 σ (f w S1) P → Carry g (B ++ m) m H (B ++ m1) m1 H1 → Q v H1) : TM g Wx ca σ H Q :=
  ⟨B, m, S, ρ, r, d, h.bind fun w S1 m1 H1 _ e r1 h1 v dv => k w S1 m1 H1 v e r1 (d.carry (r.carry e)) dv h1 (r.carry e)⟩
theorem TB.seq {g : G} {B m : List Addr} {S : Sto} {ρ : Rho} {H : Hp} {σ : L2.St} {α : Type} {ca : Rho → M Bool} {f : Bool → M α} {P : List Addr → Hp → α → Prop} {Q : Bool → Hp → Prop}
    (r : Rep g B m S H) (d : DenE g (B ++ m) m H ρ σ) (h : Post g Wx B m H σ ((ca ρ >>= f) S) P)
    (k : ∀ b S1 m1 H1, Ext m H m1 H1 → Rep g B m1 S1 H1 → DenE g (B ++ m1) m1 H1 ρ σ → Post g Wx B m1 H1 σ (f b S1) P → Carry g (B ++ m) m H (B ++ m1) m1 H1 → Q b H1) : TB g Wx ca σ H Q :=
  ⟨B, m, S, ρ, r, d, h.bind fun w S1 m1 H1 _ e r1 h1 => k w S1 m1 H1 e r1 (d.carry (r.carry e)) h1 (r.carry e)⟩
theorem TL.seq {g : G} {B m : List Addr} {S : Sto} {ρ : Rho} {H : Hp} {σ : L2.St} {α : Type} {ca : Rho → M (List W)} {f : List W → M α} {P : List Addr → Hp → α → Prop} {Q : List V → Hp → Prop}
    (r : Rep g B m S H) (d : DenE g (B ++ m) m H ρ σ) (h : Post g Wx B m H σ ((ca ρ >>= f) S) P)
    (k : ∀ ws S1 m1 H1 vs, Ext m H m1 H1 → Rep g B m1 S1 H1 → DenE g (B ++ m1) m1 H1 ρ σ → DenL g (B ++ m1) m1 H1 ws vs → Post g Wx B m1 H1 σ (f ws S1) P → Carry g (B ++ m) m H (B ++ m1) m1 H1 → Q vs H1) : TL g Wx ca σ H Q :=
  ⟨B, m, S, ρ, r, d, h.bind fun w S1 m1 H1 _ e r1 h1 v dv => k w S1 m1 H1 v e r1 (d.carry (r.carry e)) dv h1 (r.carry e)⟩
theorem M_assoc {α β γ : Type} (x : M α) (f : α → M β) (h : β → M γ) : ((x >>= f) >>= h) = (x >>= fun a => f a >>= h) := by
  funext S
  show M.bind (M.bind x f) h S = M.bind x (fun a => M.bind (f a) h) S
  unfold M.bind
  cases x S <;> rfl
theorem bind_ret {α : Type} (x : M α) : (x >>= fun a => pure a) = x := by
  funext S
  show M.bind x M.ret S = _
  unfold M.bind M.ret
  cases x S <;> rfl
theorem Post.unret {g : G} {B m : List Addr} {H : Hp} {σ : L2.St} {α : Type} {x : M α} {S : Sto} {P : List Addr → Hp → α → Prop} (h : Post g Wx B m H σ (x S) P) : Post g Wx B m H σ ((x >>= fun a => pure a) S) P := by
  rw [bind_ret]
  exact h
theorem Post.ret {g : G} {B m : List Addr} {H : Hp} {σ : L2.St} {α : Type} {a : α} {S : Sto} {P : List Addr → Hp → α → Prop} (h : Post g Wx B m H σ ((pure a : M α) S) P) (r : Rep g B m S H) : P m H a := h m H (Ext.refl m H) r

/-! the same, towards any end -/
structure Zok (g : G) (Wx : WX) (B : List Addr) (σ : L2.St) {β : Type} (Z : List Addr → Hp → R β → Prop) : Prop where
  step : ∀ {m H m1 H1 r}, Z m H r → Ext m H m1 H1 → Z m1 H1 r
  exc : ∀ {m H C S'}, Z m H (.exc C S') → ∀ m' H' a, Ext m H m' H' → Rep g B m' S' H' → g.mg C = some (.ref a) → Wx (.ref a) none σ H'
  stuck : ∀ {m H}, ¬ Z m H .stuck
theorem zPost {g : G} {B : List Addr} {σ : L2.St} {β : Type} {P : List Addr → Hp → β → Prop} : Zok g Wx B σ fun m H r => Post g Wx B m H σ r P := ⟨fun h e => h.step e, fun h => h, fun h => h⟩
theorem zPostF {g : G} {B : List Addr} {σ : L2.St} {Q : VK} : Zok g Wx B σ (PostF g Wx B σ Q) := ⟨fun {m H m1 H1 r} h e => by
  cases r with
  | ok o S' =>
    refine fun m' H' p x np rp op => h m' H' p (e.trans x) ?_ rp op
    cases q : H p with
    | none => rfl
    | some u =>
      by_cases hp : p ∈ m
      · have nd := rp.unB.2.2
        exact absurd (List.mem_append_right _ ((e.trans x).pre.subset hp)) nd
      · rw [e.fr p u q hp] at np
        cases np
  | exc C S' => exact fun m' H' a x rp => h m' H' a (e.trans x) rp
  | stuck => exact h, fun h => h, fun h => h⟩
theorem Zok.bind {g : G} {B m : List Addr} {H : Hp} {σ : L2.St} {α β : Type} {Z : List Addr → Hp → R β → Prop} (z : Zok g Wx B σ Z) {x : M α} {f : α → M β} {S : Sto} {P1 : List Addr → Hp → α → Prop} (h : Z m H ((x >>= f) S))
    (k : ∀ a S1 m1 H1, x S = .ok a S1 → Ext m H m1 H1 → Rep g B m1 S1 H1 → Z m1 H1 (f a S1) → P1 m1 H1 a) : Post g Wx B m H σ (x S) P1 := by
  cases e : x S with
  | ok a S1 =>
    rw [bind_ok e] at h
    exact fun m1 H1 x1 r1 => k a S1 m1 H1 e x1 r1 (z.step h x1)
  | exc C S1 =>
    rw [bind_exc e] at h
    exact z.exc h
  | stuck =>
    rw [bind_stuck e] at h
    exact z.stuck h
theorem TM.to {g : G} {B m : List Addr} {S : Sto} {ρ : Rho} {H : Hp} {σ : L2.St} {α : Type} {ca : Rho → M W} {f : W → M α} {Z : List Addr → Hp → R α → Prop} {Q : VK} (z : Zok g Wx B σ Z)
    (r : Rep g B m S H) (d : DenE g (B ++ m) m H ρ σ) (h : Z m H ((ca ρ >>= f) S))
    (k : ∀ w S1 m1 H1 v, Ext m H m1 H1 → Rep g B m1 S1 H1 → DenE g (B ++ m1) m1 H1 ρ σ → Den g (B ++ m1) m1 H1 w v → Z m1 H1 (f w S1) → Carry g (B ++ m) m H (B ++ m1) m1 H1 → Q v H1) : TM g Wx ca σ H Q :=
  ⟨B, m, S, ρ, r, d, z.bind h fun w S1 m1 H1 _ e r1 h1 v dv => k w S1 m1 H1 v e r1 (d.carry (r.carry e)) dv h1 (r.carry e)⟩
theorem TB.to {g : G} {B m : List Addr} {S : Sto} {ρ : Rho} {H : Hp} {σ : L2.St} {α : Type} {ca : Rho → M Bool} {f : Bool → M α} {Z : List Addr → Hp → R α → Prop} {Q : Bool → Hp → Prop} (z : Zok g Wx B σ Z)
    (r : Rep g B m S H) (d : DenE g (B ++ m) m H ρ σ) (h : Z m H ((ca ρ >>= f) S))
    (k : ∀ b S1 m1 H1, Ext m H m1 H1 → Rep g B m1 S1 H1 → DenE g (B ++ m1) m1 H1 ρ σ → Z m1 H1 (f b S1) → Carry g (B ++ m) m H (B ++ m1) m1 H1 → Q b H1) : TB g Wx ca σ H Q :=
  ⟨B, m, S, ρ, r, d, z.bind h fun w S1 m1 H1 _ e r1 h1 => k w S1 m1 H1 e r1 (d.carry (r.carry e)) h1 (r.carry e)⟩
theorem TL.to {g : G} {B m : List Addr} {S : Sto} {ρ : Rho} {H : Hp} {σ : L2.St} {α : Type} {ca : Rho → M (List W)} {f : List W → M α} {Z : List Addr → Hp → R α → Prop} {Q : List V → Hp → Prop} (z : Zok g Wx B σ Z)
    (r : Rep g B m S H) (d : DenE g (B ++ m) m H ρ σ) (h : Z m H ((ca ρ >>= f) S))
    (k : ∀ ws S1 m1 H1 vs, Ext m H m1 H1 → Rep g B m1 S1 H1 → DenE g (B ++ m1) m1 H1 ρ σ → DenL g (B ++ m1) m1 H1 ws vs → Z m1 H1 (f ws S1) → Carry g (B ++ m) m H (B ++ m1) m1 H1 → Q vs H1) : TL g Wx ca σ H Q :=
  ⟨B, m, S, ρ, r, d, z.bind h fun w S1 m1 H1 _ e r1 h1 v dv => k w S1 m1 H1 v e r1 (d.carry (r.carry e)) dv h1 (r.carry e)⟩
/-! a fresh object as a value, as an object of the store -/
def toV (c : Rho → M O) : Rho → M W := fun ρ => do
  let o ← c ρ
  match o with
  | .lst ws => pure (.vl ws)
  | .dct kvs => pure (.vd kvs)
  | _ => M.fail
def toR (c : Rho → M O) : Rho → M W := fun ρ S => match c ρ S with
  | .ok o S' => .ok (.ref S'.length) (S' ++ [o])
  | .exc C S' => .exc C S'
  | .stuck => .stuck
variable {e : Expr} {cf : Rho → M O}
theorem mv (h : MF X Wx e cf) : ME X Wx e (toV cf) := h.imp fun σ H Q ⟨B, m, S, ρ, r, d, p⟩ => ⟨B, m, S, ρ, r, d, by
  unfold toV at p
  cases q : cf ρ S with
  | ok o S' =>
    rw [bind_ok q] at p
    intro m' H' p' x np rp op
    obtain ⟨r1, c1, nn⟩ := rp.unB
    cases op with
    | lst h1 l => exact p m' H' x r1 _ (.vl nn (.of h1) (l.carry c1))
    | dctL h1 l => exact p m' H' x r1 _ (.vdL nn h1 (l.carry c1))
    | dctN h1 l => exact p m' H' x r1 _ (.vdN nn h1 (l.carry c1))
    | obj _ _ _ => exact p.elim
  | exc C S' =>
    rw [bind_exc q] at p
    exact p
  | stuck =>
    rw [bind_stuck q] at p
    exact p⟩
theorem mr (h : MF X Wx e cf) : ME X Wx e (toR cf) := h.imp fun σ H Q ⟨B, m, S, ρ, r, d, p⟩ => ⟨B, m, S, ρ, r, d, by
  unfold toR at p
  cases q : cf ρ S with
  | ok o S' =>
    rw [q] at p
    intro m' H' p' x np rp op
    obtain ⟨r1, c1⟩ := rp.intoS op
    have nn := rp.unB.2.2
    refine p (m' ++ [p']) H' ⟨x.pre.trans (List.prefix_append _ _), x.fr, fun a hm n => ?_⟩ r1 _ (.ref ?_)
    · rcases List.mem_append.mp hm with z | z
      · exact x.new a z n
      · rw [List.mem_singleton.mp z]
        exact np
    · rw [← rp.len, List.getElem?_append_right (Nat.le_refl _), Nat.sub_self]
      rfl
  | exc C S' =>
    rw [q] at p
    exact p
  | stuck =>
    rw [q] at p
    exact p⟩

/-! names and constants -/
def cVar (i : Nat) : Rho → M W := fun ρ => match ρ[i]? with
  | some (some w) => pure w
  | _ => M.fail
theorem me_of_var {e : Expr} {i : Nat} (h : PE X e (tVar i)) : ME X Wx e (cVar i) := h.imp fun σ H Q ⟨B, m, S, ρ, r, d, p⟩ => by
  unfold cVar at p
  cases e : ρ[i]? with
  | none =>
    rw [e] at p
    exact p.elim
  | some u =>
    rw [e] at p
    cases u with
    | none => exact p.elim
    | some w =>
      obtain ⟨v, e1, d1⟩ := d.2 i w e
      exact ⟨v, e1, p.ret r v d1⟩
theorem me_v (i : Nat) {x : Str} {pos : Pos} (hN : X.N[i]? = some x := by rfl) (hv : Vis X.env.scope x := by first | exact Or.inl rfl | exact Or.inr (Or.inl rfl) | exact Or.inr (Or.inr rfl)) (hd : (x == ("__debug__" : Str)) = false := by decide)
    (hcd : (x == ("__classdict__" : Str)) = false := by decide) : ME X Wx (.Name x pos) (cVar i) := me_of_var (pe_var hN hv hd hcd)
def cC (w : W) : Rho → M W := fun _ => pure w
/-- a constant that is w in every heap -/
theorem me_of_c {e : Expr} {w : W} {v : V} (h : PE X e (tC v)) (hd : ∀ B m H S, Rep (gOf X) B m S H → Den (gOf X) (B ++ m) m H w v) : ME X Wx e (cC w) := h.imp fun σ H Q ⟨B, m, S, ρ, r, d, p⟩ => by
  exact p.ret r v (hd _ _ _ _ r)
theorem me_int {i j pos} : ME X Wx (.Constant (.int i) j pos) (cC (.int i)) := me_of_c pe_int fun _ _ _ _ _ => .int i
theorem me_bl {b j pos} : ME X Wx (.Constant (.bool b) j pos) (cC (.bl b)) := me_of_c pe_bl fun _ _ _ _ _ => .bl b
theorem me_non {j pos} : ME X Wx (.Constant .none j pos) (cC .non) := me_of_c pe_non fun _ _ _ _ _ => .non
theorem me_str {x j pos} : ME X Wx (.Constant (.str x) j pos) (cC (.str x)) := me_of_c pe_str fun _ _ _ _ _ => .str x
/-- a module's constant, a def as a value -/
structure GV (g : G) (x : Str) (w : W) : Prop where
  ex : ∃ u v, g.mg x = some u ∧ RelV v u ∧ ∀ B m H S, Rep g B m S H → Den g (B ++ m) m H w v
theorem me_glob {x : Str} {w : W} {pos : Pos} (hg : Gl X x) (h : GV (gOf X) x w) (hd : (x == ("__debug__" : Str)) = false := by decide) : ME X Wx (.Name x pos) (cC w) := by
  obtain ⟨u, v, e, r, d⟩ := h.ex
  exact me_of_c (pe_glob hg e r hd) d

/-! operators -/
def op2 (o : Sto → W → W → Option W) (x y : W) : M W := fun S => match o S x y with
  | some w => .ok w S
  | none => .stuck
def op1 (o : Sto → W → Option W) (x : W) : M W := fun S => match o S x with
  | some w => .ok w S
  | none => .stuck
def r2 (g : G) (o : Sto → W → W → Option W) : R2 := fun x y H Q => ∃ B m S wx wy w, Rep g B m S H ∧ Den g (B ++ m) m H wx x ∧ Den g (B ++ m) m H wy y ∧ o S wx wy = some w ∧
  ∀ H' v, Ext m H m H' → Rep g B m S H' → Den g (B ++ m) m H' w v → Q v H'
def r1 (g : G) (o : Sto → W → Option W) : V → Hp → VK → Prop := fun x H Q => ∃ B m S wx w, Rep g B m S H ∧ Den g (B ++ m) m H wx x ∧ o S wx = some w ∧
  ∀ H' v, Ext m H m H' → Rep g B m S H' → Den g (B ++ m) m H' w v → Q v H'
abbrev Op2 (X : Cx) (f : Value → Value → Sem Value) (o : Sto → W → W → Option W) : Prop := OpR X f (r2 (gOf X) o)
abbrev Op1 (X : Cx) (f : Value → Sem Value) (o : Sto → W → Option W) : Prop := UnR X f (r1 (gOf X) o)
variable {a b c : Expr} {ca cb cc : Rho → M W} {pos : Pos}
theorem post_op2 {g : G} {B m : List Addr} {S : Sto} {H : Hp} {σ : L2.St} {o : Sto → W → W → Option W} {x y : W} {P : List Addr → Hp → W → Prop} (h : Post g Wx B m H σ (op2 o x y S) P) :
    ∃ w, o S x y = some w ∧ ∀ H', Ext m H m H' → Rep g B m S H' → P m H' w := by
  unfold op2 at h
  split at h
  · rename_i w e
    exact ⟨w, e, fun H' e r => h m H' e r⟩
  · exact h.elim
theorem post_op1 {g : G} {B m : List Addr} {S : Sto} {H : Hp} {σ : L2.St} {o : Sto → W → Option W} {x : W} {P : List Addr → Hp → W → Prop} (h : Post g Wx B m H σ (op1 o x S) P) :
    ∃ w, o S x = some w ∧ ∀ H', Ext m H m H' → Rep g B m S H' → P m H' w := by
  unfold op1 at h
  split at h
  · rename_i w e
    exact ⟨w, e, fun H' e r => h m H' e r⟩
  · exact h.elim
/-- two parts, then an operation on values -/
theorem two {g : G} {o : Sto → W → W → Option W} {σ : L2.St} {H : Hp} {Q : VK} (h : TM g Wx (fun ρ => do let x ← ca ρ; let y ← cb ρ; op2 o x y) σ H Q) : tOp (r2 g o) (TM g Wx ca) (TM g Wx cb) σ H Q := by
  obtain ⟨B, m, S, ρ, r, d, p⟩ := h
  refine TM.seq r d p fun x S1 m1 H1 v e1 r1 d1 dv p1 c1 => ?_
  refine TM.seq r1 d1 p1 fun y S2 m2 H2 u e2 r2' d2 du p2 c2 => ?_
  obtain ⟨w, ew, pw⟩ := post_op2 p2
  exact ⟨B, m2, S2, x, y, w, r2', dv.carry c2, du, ew, fun H' v' e' r' dv' => pw H' e' r' v' dv'⟩
theorem me_op {op : Operator} {o : Sto → W → W → Option W} (ho : Op2 X (binaryOp op) o) (ha : ME X Wx a ca) (hb : ME X Wx b cb) : ME X Wx (.BinOp a op b pos) (fun ρ => do let x ← ca ρ; let y ← cb ρ; op2 o x y) :=
  (pe_op ho ha hb).imp fun _ _ _ h => two h
theorem me_cmp {op : CmpOp} {o : Sto → W → W → Option W} (ho : Op2 X (compareOp op) o) (ha : ME X Wx a ca) (hb : ME X Wx b cb) (hm : behindInMarks op b = false := by first | exact nomark _ | rfl | with_unfolding_all rfl) : ME X Wx (.Compare a [op] [b] pos) (fun ρ => do let x ← ca ρ; let y ← cb ρ; op2 o x y) :=
  (pe_cmpR ho ha hb hm).imp fun _ _ _ h => two h
theorem me_un {op : UnaryOp} {o : Sto → W → Option W} (ho : Op1 X (unaryOp op) o) (ha : ME X Wx a ca) : ME X Wx (.UnaryOp op a pos) (fun ρ => do let x ← ca ρ; op1 o x) :=
  (pe_un ho ha).imp fun σ H Q ⟨B, m, S, ρ, r, d, p⟩ => TM.seq r d p fun x S1 m1 H1 v e1 r1 d1 dv p1 c1 => by
    obtain ⟨w, ew, pw⟩ := post_op1 p1
    exact ⟨B, m1, S1, x, w, r1, dv, ew, fun H' v' e' r' dv' => pw H' e' r' v' dv'⟩
/-- a op b op' c -/
def chain (o o' : Sto → W → W → Option W) (ca cb cc : Rho → M W) : Rho → M W := fun ρ => do
  let x ← ca ρ
  let y ← cb ρ
  let k ← op2 o x y
  match k with
  | .bl true => do
    let z ← cc ρ
    op2 o' y z
  | .bl false => pure (.bl false)
  | _ => M.fail
theorem Den.bl_of {g : G} {A m : List Addr} {H : Hp} {b : Bool} {v : V} (h : Den g A m H (.bl b) v) : v = .bl b := by cases h; rfl
theorem me_chain {op op' : CmpOp} {o o' : Sto → W → W → Option W} (ho : Op2 X (compareOp op) o) (ho' : Op2 X (compareOp op') o') (ha : ME X Wx a ca) (hb : ME X Wx b cb) (hc : ME X Wx c cc)
    (hm : lastMarks [op, op'] [b, c] = false := by with_unfolding_all rfl) : ME X Wx (.Compare a [op, op'] [b, c] pos) (chain o o' ca cb cc) :=
  (pe_chain ho ho' ha hb hc hm).imp fun σ H Q ⟨B, m, S, ρ, r, d, p⟩ => TM.seq r d p fun x S1 m1 H1 v e1 r1 d1 dv p1 c1 => TM.seq r1 d1 p1 fun y S2 m2 H2 u e2 r2' d2 du p2 c2 => by
    have p3 := p2.bind (P1 := fun m' H' k => ∃ S', Rep (gOf X) B m' S' H' ∧ Ext m2 H2 m' H' ∧ Post (gOf X) Wx B m' H' σ ((match k with
      | .bl true => do
        let z ← cc ρ
        op2 o' y z
      | .bl false => pure (.bl false)
      | _ => M.fail : M W) S') fun m' H' w => ∀ v, Den (gOf X) (B ++ m') m' H' w v → Q v H') fun k S' m' H' ek e' r' h' => ⟨S', r', e', h'⟩
    obtain ⟨w, ew, pw⟩ := post_op2 p3
    refine ⟨B, m2, S2, x, y, w, r2', dv.carry c2, du, ew, fun H3 v3 e3 r3 dv3 => ?_⟩
    obtain ⟨S4, r4, e4, h4⟩ := pw H3 e3 r3
    have c3 := r2'.carry e3
    split at h4
    · refine ⟨true, dv3.bl_of, ?_⟩
      rw [if_pos rfl]
      refine TM.seq r4 (d2.carry c3) h4 fun z S5 m5 H5 vz e5 r5 d5 dz p5 c5 => ?_
      obtain ⟨w2, ew2, pw2⟩ := post_op2 p5
      exact ⟨B, m5, S5, y, z, w2, r5, (du.carry c3).carry c5, dz, ew2, fun H' v' e' r' dv' => pw2 H' e' r' v' dv'⟩
    · refine ⟨false, dv3.bl_of, ?_⟩
      rw [if_neg Bool.false_ne_true]
      exact h4.ret r4 _ (.bl false)
    · exact h4.elim
/-! tests -/
def asB : W → M Bool
  | .bl b => pure b
  | _ => M.fail
theorem mt_val (h : ME X Wx a ca) (he : ∀ whole, isTrue a X.env whole = (do let v ← whole; standAt a.pos; holding [v] (truthy v)) := by intro _; rfl) : MT X Wx a (fun ρ => do let x ← ca ρ; asB x) :=
  (pt_val h he).imp fun σ H Q ⟨B, m, S, ρ, r, d, p⟩ => TM.seq r d p fun x S1 m1 H1 v e1 r1 d1 dv p1 c1 => by
    cases x with
    | bl k => exact ⟨k, dv.bl_of, p1.ret r1⟩
    | _ => exact p1.elim
theorem mt_cmp {op : CmpOp} {o : Sto → W → W → Option W} (ho : Op2 X (compareOp op) o) (ha : ME X Wx a ca) (hb : ME X Wx b cb) (hm : behindInMarks op b = false := by first | exact nomark _ | rfl | with_unfolding_all rfl) : MT X Wx (.Compare a [op] [b] pos) (fun ρ => do let x ← ca ρ; let y ← cb ρ; let k ← op2 o x y; asB k) :=
  (pt_cmpR ho ha hb hm).imp fun σ H Q ⟨B, m, S, ρ, r, d, p⟩ => TM.seq r d p fun x S1 m1 H1 v e1 r1 d1 dv p1 c1 => TM.seq r1 d1 p1 fun y S2 m2 H2 u e2 r2' d2 du p2 c2 => by
    have p3 := p2.bind (P1 := fun m' H' k => ∃ S', Rep (gOf X) B m' S' H' ∧ Post (gOf X) Wx B m' H' σ (asB k S') fun m' H' b => Q b H') fun k S' m' H' ek e' r' h' => ⟨S', r', h'⟩
    obtain ⟨w, ew, pw⟩ := post_op2 p3
    refine ⟨B, m2, S2, x, y, w, r2', dv.carry c2, du, ew, fun H3 v3 e3 r3 dv3 => ?_⟩
    obtain ⟨S4, r4, h4⟩ := pw H3 e3 r3
    cases w with
    | bl k => exact ⟨k, dv3.bl_of, h4.ret r4⟩
    | _ => exact h4.elim
theorem mt_chain {op op' : CmpOp} {o o' : Sto → W → W → Option W} (ho : Op2 X (compareOp op) o) (ho' : Op2 X (compareOp op') o') (ha : ME X Wx a ca) (hb : ME X Wx b cb) (hc : ME X Wx c cc)
    (hm : lastMarks [op, op'] [b, c] = false := by with_unfolding_all rfl) : MT X Wx (.Compare a [op, op'] [b, c] pos) (fun ρ => do let x ← chain o o' ca cb cc ρ; asB x) := by
  have h2 : MT X Wx (.Compare a [op, op'] [b, c] pos) (fun ρ => do let x ← chain o o' ca cb cc ρ; asB x) := by
    refine (pt_chain ho ho' ha hb hc hm).imp fun σ H Q ⟨B, m, S, ρ, r, d, p⟩ => ?_
    have p' : Post (gOf X) Wx B m H σ ((ca ρ >>= fun x => cb ρ >>= fun y => op2 o x y >>= fun k => (match k with
      | .bl true => (do
        let z ← cc ρ
        op2 o' y z) >>= asB
      | .bl false => pure false
      | _ => M.fail : M Bool)) S) fun m' H' b => Q b H' := by
      have e : (chain o o' ca cb cc ρ >>= asB) = (ca ρ >>= fun x => cb ρ >>= fun y => op2 o x y >>= fun k => (match k with
        | .bl true => (do
          let z ← cc ρ
          op2 o' y z) >>= asB
        | .bl false => pure false
        | _ => M.fail : M Bool)) := by
        unfold chain
        rw [M_assoc]
        refine congrArg _ (funext fun x => ?_)
        rw [M_assoc]
        refine congrArg _ (funext fun y => ?_)
        rw [M_assoc]
        refine congrArg _ (funext fun k => ?_)
        cases k with
        | bl k => cases k <;> rfl
        | _ => rfl
      rw [← e]
      exact p
    refine TM.seq r d p' fun x S1 m1 H1 v e1 r1 d1 dv p1 c1 => TM.seq r1 d1 p1 fun y S2 m2 H2 u e2 r2' d2 du p2 c2 => ?_
    have p3 := p2.bind (P1 := fun m' H' k => ∃ S', Rep (gOf X) B m' S' H' ∧ Post (gOf X) Wx B m' H' σ ((match k with
      | .bl true => (do
        let z ← cc ρ
        op2 o' y z) >>= asB
      | .bl false => pure false
      | _ => M.fail : M Bool) S') fun m' H' b => Q b H') fun k S' m' H' ek e' r' h' => ⟨S', r', h'⟩
    obtain ⟨w, ew, pw⟩ := post_op2 p3
    refine ⟨B, m2, S2, x, y, w, r2', dv.carry c2, du, ew, fun H3 v3 e3 r3 dv3 => ?_⟩
    obtain ⟨S4, r4, h4⟩ := pw H3 e3 r3
    have c3 := r2'.carry e3
    split at h4
    · refine ⟨true, dv3.bl_of, ?_⟩
      rw [if_pos rfl]
      have h5 : Post (gOf X) Wx B m2 H3 σ ((cc ρ >>= fun z => op2 o' y z >>= asB) S4) fun m' H' b => Q b H' := by
        rw [M_assoc] at h4
        exact h4
      refine TM.seq r4 (d2.carry c3) h5 fun z S5 m5 H5 vz e5 r5 d5 dz p5 c5 => ?_
      have p6 := p5.bind (P1 := fun m' H' k => ∃ S', Rep (gOf X) B m' S' H' ∧ Post (gOf X) Wx B m' H' σ (asB k S') fun m' H' b => Q b H') fun k S' m' H' ek e' r' h' => ⟨S', r', h'⟩
      obtain ⟨w2, ew2, pw2⟩ := post_op2 p6
      refine ⟨B, m5, S5, y, z, w2, r5, (du.carry c3).carry c5, dz, ew2, fun H' v' e' r' dv' => ?_⟩
      obtain ⟨S7, r7, h7⟩ := pw2 H' e' r'
      cases w2 with
      | bl k => exact ⟨k, dv'.bl_of, h7.ret r7⟩
      | _ => exact h7.elim
    · refine ⟨false, dv3.bl_of, ?_⟩
      rw [if_neg Bool.false_ne_true]
      exact ⟨false, rfl, h4.ret r4⟩
    · exact h4.elim
  exact h2
variable {ta tb : Rho → M Bool} {rest : List Expr}
def cNot (t : Rho → M Bool) : Rho → M Bool := fun ρ => do let b ← t ρ; pure (!b)
def cAnd (t u : Rho → M Bool) : Rho → M Bool := fun ρ => do let b ← t ρ; if b = true then u ρ else pure false
def cOr (t u : Rho → M Bool) : Rho → M Bool := fun ρ => do let b ← t ρ; if b = true then pure true else u ρ
theorem mt_not (ha : MT X Wx a ta) : MT X Wx (.UnaryOp .Not a pos) (cNot ta) := (pt_not ha).imp fun σ H Q ⟨B, m, S, ρ, r, d, p⟩ => TB.seq r d p fun b S1 m1 H1 e1 r1 d1 p1 c1 => p1.ret r1
abbrev MW (X : Cx) (Wx : WX) (e : Expr) (c : Rho → M Bool) : Prop := PW X e (TB (gOf X) Wx c)
theorem mw_and1 (ha : MT X Wx a ta) : MW X Wx (.BoolOp .And [a] pos) ta := pw_and1 ha
theorem mw_or1 (ha : MT X Wx a ta) : MW X Wx (.BoolOp .Or [a] pos) ta := pw_or1 ha
theorem mw_and (ha : MT X Wx a ta) (hb : MW X Wx (.BoolOp .And (b :: rest) pos) tb) : MW X Wx (.BoolOp .And (a :: b :: rest) pos) (cAnd ta tb) :=
  (pw_and ha hb).imp fun σ H Q ⟨B, m, S, ρ, r, d, p⟩ => TB.seq r d p fun k S1 m1 H1 e1 r1 d1 p1 c1 => by
    cases k with
    | true => exact ⟨B, m1, S1, ρ, r1, d1, p1⟩
    | false => exact p1.ret r1
theorem mw_or (ha : MT X Wx a ta) (hb : MW X Wx (.BoolOp .Or (b :: rest) pos) tb) : MW X Wx (.BoolOp .Or (a :: b :: rest) pos) (cOr ta tb) :=
  (pw_or ha hb).imp fun σ H Q ⟨B, m, S, ρ, r, d, p⟩ => TB.seq r d p fun k S1 m1 H1 e1 r1 d1 p1 c1 => by
    cases k with
    | true => exact p1.ret r1
    | false => exact ⟨B, m1, S1, ρ, r1, d1, p1⟩
theorem MW.pt {c : Rho → M Bool} (h : MW X Wx a c) : MT X Wx a c := PW.pt h
/-! bools as values -/
def vNot (t : Rho → M W) : Rho → M W := fun ρ => do let x ← t ρ; let b ← asB x; pure (.bl (!b))
def vAnd (t u : Rho → M W) : Rho → M W := fun ρ => do let x ← t ρ; let b ← asB x; if b = true then u ρ else pure (.bl false)
def vOr (t u : Rho → M W) : Rho → M W := fun ρ => do let x ← t ρ; let b ← asB x; if b = true then pure (.bl true) else u ρ
theorem me_not (ha : ME X Wx a ca) : ME X Wx (.UnaryOp .Not a pos) (vNot ca) := (pe_not ha).imp fun σ H Q ⟨B, m, S, ρ, r, d, p⟩ => TM.seq r d p fun x S1 m1 H1 v e1 r1 d1 dv p1 c1 => by
  cases x with
  | bl k => exact ⟨k, dv.bl_of, p1.ret r1 _ (.bl _)⟩
  | _ => exact p1.elim
theorem me_one {op} (ha : ME X Wx a ca) : ME X Wx (.BoolOp op [a] pos) ca := pe_one ha
theorem me_and (ha : ME X Wx a ca) (hb : ME X Wx (.BoolOp .And (b :: rest) pos) cb) : ME X Wx (.BoolOp .And (a :: b :: rest) pos) (vAnd ca cb) :=
  (pe_and ha hb).imp fun σ H Q ⟨B, m, S, ρ, r, d, p⟩ => TM.seq r d p fun x S1 m1 H1 v e1 r1 d1 dv p1 c1 => by
    cases x with
    | bl k =>
      refine ⟨k, dv.bl_of, ?_⟩
      cases k with
      | true => exact ⟨B, m1, S1, ρ, r1, d1, p1⟩
      | false => exact p1.ret r1 _ (.bl _)
    | _ => exact p1.elim
theorem me_or (ha : ME X Wx a ca) (hb : ME X Wx (.BoolOp .Or (b :: rest) pos) cb) : ME X Wx (.BoolOp .Or (a :: b :: rest) pos) (vOr ca cb) :=
  (pe_or ha hb).imp fun σ H Q ⟨B, m, S, ρ, r, d, p⟩ => TM.seq r d p fun x S1 m1 H1 v e1 r1 d1 dv p1 c1 => by
    cases x with
    | bl k =>
      refine ⟨k, dv.bl_of, ?_⟩
      cases k with
      | true => exact p1.ret r1 _ (.bl _)
      | false => exact ⟨B, m1, S1, ρ, r1, d1, p1⟩
    | _ => exact p1.elim
def cIf (t : Rho → M Bool) (ca cb : Rho → M W) : Rho → M W := fun ρ => do let b ← t ρ; if b = true then ca ρ else cb ρ
theorem me_if (ht : MT X Wx c ta) (ha : ME X Wx a ca) (hb : ME X Wx b cb) : ME X Wx (.IfExp c a b pos) (cIf ta ca cb) :=
  (pe_ifExp ht ha hb).imp fun σ H Q ⟨B, m, S, ρ, r, d, p⟩ => TB.seq r d p fun k S1 m1 H1 e1 r1 d1 p1 c1 => by
    cases k with
    | true => exact ⟨B, m1, S1, ρ, r1, d1, p1⟩
    | false => exact ⟨B, m1, S1, ρ, r1, d1, p1⟩
/-! argument lists -/
variable {es : List Expr} {cl : Rho → M (List W)}
theorem ma_nil : MA X Wx [] (fun _ => pure []) := pa_nil.imp fun σ H Q ⟨B, m, S, ρ, r, d, p⟩ => p.ret r _ .nil
theorem ma_cons (ha : ME X Wx a ca) (hr : MA X Wx es cl) (hs : starEach (a :: es) X.env = (false, eval a X.env) :: starEach es X.env := by rfl) : MA X Wx (a :: es) (fun ρ => do let x ← ca ρ; let xs ← cl ρ; pure (x :: xs)) :=
  (pa_cons ha hr hs).imp fun σ H Q ⟨B, m, S, ρ, r, d, p⟩ => TM.seq r d p fun x S1 m1 H1 v e1 r1 d1 dv p1 c1 => TL.seq r1 d1 p1 fun xs S2 m2 H2 vs e2 r2' d2 dvs p2 c2 => p2.ret r2' _ (.cons (dv.carry c2) dvs)
end
end Pm

namespace Pm
open PySem PySem.Spec PyProof.Rows L2 PySem.SeqAt

/-! ### lists and tuples as values -/
def lstO (S : Sto) : W → Option (List W)
  | .vl ws => some ws
  | .ref i => match S[i]? with
    | some (.lst ws) => some ws
    | _ => none
  | _ => none
def tupO : W → Option (List W)
  | .tup ws => some ws
  | _ => none
def seqO (S : Sto) : W → Option (List W)
  | .vl ws => some ws
  | .tup ws => some ws
  | .ref i => match S[i]? with
    | some (.lst ws) => some ws
    | _ => none
  | _ => none
section
variable {g : G} {B m : List Addr} {S : Sto} {H : Hp} {w : W} {ws : List W} {v : V}
theorem den_lst (r : Rep g B m S H) (d : Den g (B ++ m) m H w v) (e : lstO S w = some ws) : ∃ a vs, v = .ref a ∧ SqL g.K H a vs ∧ DenL g (B ++ m) m H ws vs := by
  cases d with
  | vl n h l => cases e; exact ⟨_, _, rfl, .inl h, l⟩
  | vlK h l =>
    cases e
    refine ⟨_, _, rfl, ?_, l⟩
    rcases h with (h | ⟨o, h⟩) | h
    · cases h
    · cases h
    · exact .inr h
  | @ref i a h =>
    unfold lstO at e
    cases q : S[i]? with
    | none => simp only [q] at e; cases e
    | some o =>
      have oa := r.obj i a o h q
      simp only [q] at e
      cases oa with
      | lst h1 l => cases e; exact ⟨_, _, rfl, .of h1, l⟩
      | _ => cases e
  | _ => cases e
theorem den_ref {i : Nat} (r : Rep g B m S H) (d : Den g (B ++ m) m H (.ref i) v) {o : O} (e : S[i]? = some o) : ∃ a, v = .ref a ∧ m[i]? = some a ∧ OAt g (B ++ m) m H a o := by
  cases d with
  | ref h => exact ⟨_, rfl, h, r.obj i _ o h e⟩
theorem den_tup (d : Den g (B ++ m) m H w v) (e : tupO w = some ws) : ∃ a vs, v = .ref a ∧ SqT g.K H a vs ∧ DenL g (B ++ m) m H ws vs := by
  cases d with
  | tup h l => cases e; exact ⟨_, _, rfl, h, l⟩
  | _ => cases e
theorem den_seq (r : Rep g B m S H) (d : Den g (B ++ m) m H w v) (e : seqO S w = some ws) : ∃ a vs, v = .ref a ∧ (SqL g.K H a vs ∨ SqT g.K H a vs) ∧ DenL g (B ++ m) m H ws vs := by
  by_cases t : tupO w = some ws
  · obtain ⟨a, vs, h1, h2, h3⟩ := den_tup d t
    exact ⟨a, vs, h1, .inr h2, h3⟩
  · have l : lstO S w = some ws := by
      cases w <;> first | exact e | exact absurd e t
    obtain ⟨a, vs, h1, h2, h3⟩ := den_lst r d l
    exact ⟨a, vs, h1, .inl h2, h3⟩
theorem DenL.length : ∀ {ws : List W} {vs : List V} {A : List Addr}, DenL g A m H ws vs → ws.length = vs.length
  | _, _, _, .nil => rfl
  | _, _, _, .cons _ l => congrArg Nat.succ (DenL.length l)
theorem DenL.get : ∀ {ws : List W} {vs : List V} {A : List Addr} {i : Nat} {w : W}, DenL g A m H ws vs → ws[i]? = some w → ∃ v, vs[i]? = some v ∧ Den g A m H w v
  | _, _, _, i, _, .nil, e => by simp at e
  | _, _, _, 0, _, .cons d _, e => by simp at e; subst e; exact ⟨_, rfl, d⟩
  | _, _, _, i + 1, w, .cons _ l, e => by
    obtain ⟨v, h1, h2⟩ := DenL.get (i := i) (w := w) l (by simpa using e)
    exact ⟨v, by simpa using h1, h2⟩
theorem DenL.append : ∀ {ws ws' : List W} {vs vs' : List V} {A : List Addr}, DenL g A m H ws vs → DenL g A m H ws' vs' → DenL g A m H (ws ++ ws') (vs ++ vs')
  | _, _, _, _, _, .nil, l => l
  | _, _, _, _, _, .cons d l, l' => .cons d (DenL.append l l')
theorem DenL.take : ∀ {ws : List W} {vs : List V} {A : List Addr} (n : Nat), DenL g A m H ws vs → DenL g A m H (ws.take n) (vs.take n)
  | _, _, _, 0, _ => .nil
  | _, _, _, _ + 1, .nil => .nil
  | _, _, _, n + 1, .cons d l => .cons d (DenL.take n l)
theorem DenL.drop : ∀ {ws : List W} {vs : List V} {A : List Addr} (n : Nat), DenL g A m H ws vs → DenL g A m H (ws.drop n) (vs.drop n)
  | _, _, _, 0, l => l
  | _, _, _, _ + 1, .nil => .nil
  | _, _, _, n + 1, .cons d l => DenL.drop n l
theorem DenL.reverse {ws : List W} {vs : List V} {A : List Addr} (h : DenL g A m H ws vs) : DenL g A m H ws.reverse vs.reverse := by
  induction ws generalizing vs with
  | nil => cases h; exact .nil
  | cons w ws ih =>
    cases h with
    | cons d l =>
      rw [List.reverse_cons, List.reverse_cons]
      exact (ih l).append (.cons d .nil)
theorem DenL.set : ∀ {ws : List W} {vs : List V} {A : List Addr} {w : W} {v : V} (i : Nat), Den g A m H w v → DenL g A m H ws vs → DenL g A m H (ws.set i w) (vs.set i v)
  | _, _, _, _, _, _, _, .nil => .nil
  | _, _, _, _, _, 0, d, .cons _ l => .cons d l
  | _, _, _, _, _, i + 1, d, .cons d' l => .cons d' (DenL.set i d l)
theorem DenL.rep {ws : List W} {vs : List V} {A : List Addr} (h : DenL g A m H ws vs) : ∀ k : Nat, DenL g A m H (List.replicate k ws).flatten (List.replicate k vs).flatten
  | 0 => .nil
  | k + 1 => by
    rw [List.replicate_succ, List.replicate_succ, List.flatten_cons, List.flatten_cons]
    exact h.append (DenL.rep h k)
theorem DenL.dropLast : ∀ {ws : List W} {vs : List V} {A : List Addr}, DenL g A m H ws vs → DenL g A m H ws.dropLast vs.dropLast
  | _, _, _, .nil => .nil
  | _, _, _, .cons d .nil => .nil
  | _, _, _, .cons d (.cons d' l) => .cons d (DenL.dropLast (.cons d' l))
end

/-! ### as data -/
theorem mapO_cons {α β : Type} {f : α → Option β} {x : α} {xs : List α} {ys : List β} (h : mapO f (x :: xs) = some ys) : ∃ y r, ys = y :: r ∧ f x = some y ∧ mapO f xs = some r := by
  unfold mapO at h
  cases e : f x with
  | none => rw [e] at h; cases h
  | some y =>
    rw [e] at h
    cases e2 : mapO f xs with
    | none => rw [e2] at h; cases h
    | some r =>
      rw [e2] at h
      cases h
      exact ⟨y, r, rfl, rfl, rfl⟩
theorem mapO_nil {α β : Type} {f : α → Option β} {ys : List β} (h : mapO f [] = some ys) : ys = [] := by
  unfold mapO at h
  cases h
  rfl
theorem opt_map {α β : Type} {o : Option α} {f : α → β} {b : β} (h : o.map f = some b) : ∃ a, o = some a ∧ b = f a := by
  cases o with
  | none => cases h
  | some a => cases h; exact ⟨a, rfl, rfl⟩
section
variable {X : Cx} {pins : List (Addr × Obj)} {σ : L2.St} {H : Hp} {s : Shared} {B m : List Addr} {S : Sto}
theorem readsAll_of {n : Nat} (ih : ∀ {w : W} {v : V} {u : Value} {d : PyData}, Den (gOf X) (B ++ m) m H w v → RelV v u → dat S n w = some d → (∃ as, Reads s.heap u d as) ∧ d.plain = true ∧ d.depth ≤ n) :
    ∀ {ws : List W} {vs : List V} {us : List Value} {ds : List PyData}, DenL (gOf X) (B ++ m) m H ws vs → Vals vs us → mapO (dat S n) ws = some ds → (∃ as, ReadsAll s.heap us ds as) ∧ PyData.plainAll ds = true ∧ PyData.depthAll ds ≤ n := by
  intro ws
  induction ws with
  | nil =>
    intro vs us ds d r e
    cases d
    cases r
    cases mapO_nil e
    exact ⟨⟨_, .nil⟩, by simp [PyData.plainAll], by simp [PyData.depthAll]⟩
  | cons w ws ihl =>
    intro vs us ds d r e
    cases d with
    | cons d1 dl =>
      cases r with
      | cons r1 rl =>
        obtain ⟨y, t, rfl, e1, e2⟩ := mapO_cons e
        obtain ⟨⟨as, h1⟩, p1, q1⟩ := ih d1 r1 e1
        obtain ⟨⟨bs, h2⟩, p2, q2⟩ := ihl dl rl e2
        refine ⟨⟨_, .cons h1 h2⟩, by rw [PyData.plainAll, p1, p2]; rfl, ?_⟩
        rw [PyData.depthAll]
        exact Nat.max_le.mpr ⟨q1, q2⟩
/-- what reads as data -/
theorem reads_of (I : Inv X pins σ H s) (r : Rep (gOf X) B m S H) : ∀ (n : Nat) {w : W} {v : V} {u : Value} {d : PyData}, Den (gOf X) (B ++ m) m H w v → RelV v u → dat S n w = some d →
    (∃ as, Reads s.heap u d as) ∧ d.plain = true ∧ d.depth ≤ n
  | 0, w, v, u, d, _, _, e => by
    unfold dat at e
    cases e
  | n + 1, w, v, u, d, dn, rv, e => by
    have ih := fun {w : W} {v : V} {u : Value} {d : PyData} (h1 : Den (gOf X) (B ++ m) m H w v) (h2 : RelV v u) (h3 : dat S n w = some d) => reads_of I r n h1 h2 h3
    have fl : ∀ {ws : List W} {ds : List PyData}, lstO S w = some ws → mapO (dat S n) ws = some ds → d = .list ds → (∃ as, Reads s.heap u d as) ∧ d.plain = true ∧ d.depth ≤ n + 1 := fun {ws ds} e1 e2 e3 => by
      obtain ⟨a, vs, rfl, hl, dl⟩ := den_lst r dn e1
      cases rv
      obtain ⟨its, rr, ⟨o, k, p1, p2, _, p4⟩, _⟩ := I.list hl
      obtain ⟨⟨as, h1⟩, h2, h3⟩ := readsAll_of ih dl rr e2
      subst e3
      refine ⟨⟨_, .list p1 p2 p4 (by simpa using h1)⟩, by rw [PyData.plain]; exact h2, ?_⟩
      rw [PyData.depth]
      omega
    unfold dat at e
    cases dn with
    | non => cases rv; cases e; exact ⟨⟨_, .none⟩, rfl, by simp [PyData.depth]⟩
    | bl b => cases rv; cases e; exact ⟨⟨_, .bool _⟩, rfl, by simp [PyData.depth]⟩
    | int i => obtain ⟨t, rfl⟩ := rv; cases e; exact ⟨⟨_, .int _ _⟩, rfl, by simp [PyData.depth]⟩
    | str z => obtain ⟨t, rfl⟩ := rv; cases e; exact ⟨⟨_, .str _ _⟩, rfl, by simp [PyData.depth]⟩
    | tup ht dl =>
      cases rv
      obtain ⟨ds, e1, rfl⟩ := opt_map e
      obtain ⟨its, rr, ⟨o, p1, p2, k, p3⟩, _⟩ := I.tuple ht
      obtain ⟨⟨as, h1⟩, h2, h3⟩ := readsAll_of ih dl rr e1
      refine ⟨⟨_, .tuple p1 p2 p3 (by simpa using h1)⟩, by rw [PyData.plain]; exact h2, ?_⟩
      rw [PyData.depth]
      omega
    | vl _ _ _ =>
      obtain ⟨ds, e1, e2⟩ := opt_map e
      exact fl rfl e1 e2
    | vlK _ _ =>
      obtain ⟨ds, e1, e2⟩ := opt_map e
      exact fl rfl e1 e2
    | @ref i a h =>
      cases q : S[i]? with
      | none => simp only [q] at e; cases e
      | some o =>
        simp only [q] at e
        cases o with
        | lst ws =>
          obtain ⟨ds, e1, e2⟩ := opt_map e
          exact fl (by unfold lstO; simp only [q]) e1 e2
        | _ => cases e
    | _ => cases e
end

/-! ### operations on values -/
def DEP : Nat := 20
abbrev datF (S : Sto) (w : W) : Option PyData := dat S DEP w
def addO (S : Sto) : W → W → Option W
  | .int i, .int j => some (.int (i + j))
  | .tup a, .tup b => if a.length + b.length ≤ 16777216 then some (.tup (a ++ b)) else none
  | _, _ => none
def subO (_ : Sto) : W → W → Option W
  | .int i, .int j => some (.int (i - j))
  | _, _ => none
def mulOk (i j : Int) : Bool := decide (i.natAbs < 18446744073709551616) || decide (j.natAbs < 18446744073709551616) || decide (i.natAbs.log2 + j.natAbs.log2 < 1000000)
def mulO (_ : Sto) : W → W → Option W
  | .int i, .int j => if mulOk i j = true then some (.int (i * j)) else none
  | _, _ => none
def fdivO (_ : Sto) : W → W → Option W
  | .int i, .int j => if j ≠ 0 ∧ j.natAbs.log2 < 9000 then some (.int (i.fdiv j)) else none
  | _, _ => none
def modO (_ : Sto) : W → W → Option W
  | .int i, .int j => if j ≠ 0 then some (.int (i.fmod j)) else none
  | _, _ => none
def powO (_ : Sto) : W → W → Option W
  | .int i, .int j => if 0 ≤ j ∧ ((i.natAbs.log2 + 1 : Nat) : Int) * j ≤ 134217728 then some (.int (i ^ j.toNat)) else none
  | _, _ => none
def negO (_ : Sto) : W → Option W
  | .int i => some (.int (-i))
  | _ => none
def eqO (S : Sto) (x y : W) : Option W := match datF S x, datF S y with
  | some a, some b => some (.bl (PyData.eqv a b))
  | _, _ => none
def neO (S : Sto) (x y : W) : Option W := match datF S x, datF S y with
  | some a, some b => some (.bl (!PyData.eqv a b))
  | _, _ => none
def noneD : PyData → Bool
  | .none => true
  | _ => false
def isNon : W → Bool
  | .non => true
  | _ => false
def ordD (k : PyData → PyData → Bool) (S : Sto) (x y : W) : Option W := match datF S x, datF S y with
  | some a, some b => if (PySem.W.alike a b && !noneD a) = true then some (.bl (k a b)) else none
  | _, _ => none
def ltO (S : Sto) (x y : W) : Option W := match x, y with
  | .int i, .int j => some (.bl (decide (i < j)))
  | x, y => ordD PySem.W.dataLt S x y
def gtO (S : Sto) (x y : W) : Option W := match x, y with
  | .int i, .int j => some (.bl (decide (j < i)))
  | x, y => ordD (fun a b => PySem.W.dataLt b a) S x y
def leO (S : Sto) (x y : W) : Option W := match x, y with
  | .int i, .int j => some (.bl (decide (i ≤ j)))
  | x, y => ordD (fun a b => !PySem.W.dataLt b a) S x y
def geO (S : Sto) (x y : W) : Option W := match x, y with
  | .int i, .int j => some (.bl (decide (j ≤ i)))
  | x, y => ordD (fun a b => !PySem.W.dataLt a b) S x y
def isO (_ : Sto) (x y : W) : Option W := match y with
  | .non => some (.bl (isNon x))
  | .bl b => match x with
    | .bl a => some (.bl (decide (a = b)))
    | _ => none
  | _ => none
def isNotO (_ : Sto) (x y : W) : Option W := match y with
  | .non => some (.bl (!isNon x))
  | .bl b => match x with
    | .bl a => some (.bl (!decide (a = b)))
    | _ => none
  | _ => none
section
variable {X : Cx}
theorem opF {f : Value → Value → Sem Value} {r : R2} {o : Sto → W → W → Option W} (h : OpR X f r) (k : ∀ {x y : V} {H : Hp} {Q : VK}, r2 (gOf X) o x y H Q → r x y H Q) : Op2 X f o :=
  fun pins s σ H x y v u Q I rx ry q => h pins s σ H x y v u Q I rx ry (k q)
theorem Den.int_of {g : G} {A m : List Addr} {H : Hp} {i : Int} {v : V} (h : Den g A m H (.int i) v) : v = .int i := by cases h; rfl
theorem o_add : Op2 X (binaryOp .Add) addO := opF (op_add.or op_catA) fun {x y H Q} ⟨B, m, S, wx, wy, w, r, dx, dy, e, q⟩ => by
  unfold addO at e
  split at e
  · rename_i i j
    cases e
    exact .inl ⟨i, j, dx.int_of, dy.int_of, q H _ (Ext.refl _ _) r (.int _)⟩
  · rename_i a b
    split at e
    · rename_i hz
      cases e
      cases dx with
      | tup h1 l1 =>
        cases dy with
        | tup h2 l2 =>
          refine .inr ⟨_, _, _, _, rfl, rfl, h1, h2, ?_, fun h0 => ?_, fun _ h0 => ?_, fun _ _ p hp => ?_⟩
          · rw [← l1.length, ← l2.length, sizeLine_eq]
            exact hz
          · subst h0
            cases l1
            exact q H _ (Ext.refl _ _) r (.tup h2 l2)
          · subst h0
            cases l2
            exact q H _ (Ext.refl _ _) r (.tup h1 (by simpa using l1))
          · obtain ⟨r', e', c', _⟩ := r.laid (o := .tup _) hp
            exact q _ _ e' r' (.tup (.of upd_same) ((l1.append l2).carry c'))
    · cases e
  · cases e
theorem o_sub : Op2 X (binaryOp .Sub) subO := opF op_sub fun {x y H Q} ⟨B, m, S, wx, wy, w, r, dx, dy, e, q⟩ => by
  unfold subO at e
  split at e
  · cases e
    exact ⟨_, _, dx.int_of, dy.int_of, q H _ (Ext.refl _ _) r (.int _)⟩
  · cases e
theorem op_mulA : OpR X (binaryOp .Mult) (rI (fun i j => mulOk i j = true) fun i j => .int (i * j)) := opI fun i j _ _ _ _ _ hc q => mul_int q (by
  have hc : mulOk i j = true := hc
  unfold mulOk at hc
  simp only [Bool.or_eq_true, decide_eq_true_eq] at hc
  rcases hc with (h | h) | h
  · exact (CMul.ok (.inl ⟨by omega, by omega⟩))
  · exact (CMul.ok (.inr ⟨by omega, by omega⟩))
  · exact CMulW.ok h)
theorem o_mul : Op2 X (binaryOp .Mult) mulO := opF op_mulA fun {x y H Q} ⟨B, m, S, wx, wy, w, r, dx, dy, e, q⟩ => by
  unfold mulO at e
  split at e
  · split at e
    · rename_i hc
      cases e
      exact ⟨_, _, dx.int_of, dy.int_of, hc, q H _ (Ext.refl _ _) r (.int _)⟩
    · cases e
  · cases e
theorem op_fdivA : OpR X (binaryOp .FloorDiv) (rI (fun _ j => j ≠ 0 ∧ j.natAbs.log2 < 9000) fun i j => .int (i.fdiv j)) := opI fun i j _ _ _ _ _ hc q =>
  floordiv_int hc.1 q (.inl (PyProof.noPylong_of_log2 hc.2))
theorem o_fdiv : Op2 X (binaryOp .FloorDiv) fdivO := opF op_fdivA fun {x y H Q} ⟨B, m, S, wx, wy, w, r, dx, dy, e, q⟩ => by
  unfold fdivO at e
  split at e
  · split at e
    · rename_i hc
      cases e
      exact ⟨_, _, dx.int_of, dy.int_of, hc, q H _ (Ext.refl _ _) r (.int _)⟩
    · cases e
  · cases e
theorem o_mod : Op2 X (binaryOp .Mod) modO := opF op_modN fun {x y H Q} ⟨B, m, S, wx, wy, w, r, dx, dy, e, q⟩ => by
  unfold modO at e
  split at e
  · split at e
    · rename_i hc
      cases e
      exact ⟨_, _, dx.int_of, dy.int_of, hc, q H _ (Ext.refl _ _) r (.int _)⟩
    · cases e
  · cases e
theorem op_powA : OpR X (binaryOp .Pow) (rI (fun i j => 0 ≤ j ∧ ((i.natAbs.log2 + 1 : Nat) : Int) * j ≤ 134217728) fun i j => .int (i ^ j.toNat)) := opI fun i j _ _ _ _ _ hc q => by
  have h1 := hc.1
  have h2 := hc.2
  refine pow_int h1 (Int.le_trans (Int.mul_le_mul_of_nonneg_right ?_ h1) (by
    have e : (2 : Int) ^ 27 = 134217728 := by decide
    rw [e]
    exact h2)) q
  have b : Builtin.Int.intBits i ≤ i.natAbs.log2 + 1 := by
    unfold Builtin.Int.intBits
    split <;> omega
  exact_mod_cast b
theorem o_pow : Op2 X (binaryOp .Pow) powO := opF op_powA fun {x y H Q} ⟨B, m, S, wx, wy, w, r, dx, dy, e, q⟩ => by
  unfold powO at e
  split at e
  · split at e
    · rename_i hc
      cases e
      exact ⟨_, _, dx.int_of, dy.int_of, hc, q H _ (Ext.refl _ _) r (.int _)⟩
    · cases e
  · cases e
theorem o_neg : Op1 X (unaryOp .USub) negO := fun pins s σ H x v Q I rx ⟨B, m, S, wx, w, r, dx, e, q⟩ => by
  refine un_neg pins s σ H x v Q I rx ?_
  unfold negO at e
  split at e
  · cases e
    exact ⟨_, dx.int_of, q H _ (Ext.refl _ _) r (.int _)⟩
  · cases e
/-- by data -/
theorem opD {f : Value → Value → Sem Value} {o : Sto → W → W → Option W} {k : PyData → PyData → Bool} {C : PyData → PyData → Prop}
    (ho : ∀ {S x y w}, o S x y = some w → ∃ a b, datF S x = some a ∧ datF S y = some b ∧ C a b ∧ w = .bl (k a b))
    (rule : ∀ {s : Shared} {a b : PyData} {u v : Value} {as bs : List Addr} {Q : Value → Shared → Prop}, Reads s.heap u a as → Reads s.heap v b bs → a.plain = true → b.plain = true → a.depth ≤ 20 → C a b → Q (.bool (k a b)) s → wpAny (model X.prog X.w) X.A (f u v) Q X.xe s) : Op2 X f o := by
  intro pins s σ H x y u v Q I rx ry ⟨B, m, S, wx, wy, w, r, dx, dy, e, q⟩
  obtain ⟨a, b, ea, eb, hc, rfl⟩ := ho e
  obtain ⟨⟨as, ra⟩, pa, qa⟩ := reads_of I r DEP dx rx ea
  obtain ⟨⟨bs, rb⟩, pb, qb⟩ := reads_of I r DEP dy ry eb
  exact rule ra rb pa pb qa hc ⟨.bl _, H, I, rfl, q H _ (Ext.refl _ _) r (.bl _)⟩
theorem eqO_inv {S : Sto} {x y w : W} (h : eqO S x y = some w) : ∃ a b, datF S x = some a ∧ datF S y = some b ∧ True ∧ w = .bl (PyData.eqv a b) := by
  unfold eqO at h
  split at h
  · rename_i a b e1 e2
    cases h
    exact ⟨a, b, e1, e2, trivial, rfl⟩
  · cases h
theorem neO_inv {S : Sto} {x y w : W} (h : neO S x y = some w) : ∃ a b, datF S x = some a ∧ datF S y = some b ∧ True ∧ w = .bl (!PyData.eqv a b) := by
  unfold neO at h
  split at h
  · rename_i a b e1 e2
    cases h
    exact ⟨a, b, e1, e2, trivial, rfl⟩
  · cases h
def OrdOk (a b : PyData) : Prop := PySem.W.alike a b = true ∧ a ≠ .none
theorem ordD_inv {k : PyData → PyData → Bool} {S : Sto} {x y w : W} (h : ordD k S x y = some w) : ∃ a b, datF S x = some a ∧ datF S y = some b ∧ OrdOk a b ∧ w = .bl (k a b) := by
  unfold ordD at h
  split at h
  · rename_i a b e1 e2
    split at h
    · rename_i c
      cases h
      simp only [Bool.and_eq_true] at c
      refine ⟨a, b, e1, e2, ⟨c.1, fun z => ?_⟩, rfl⟩
      have c2 := c.2
      rw [z] at c2
      cases c2
    · cases h
  · cases h
variable (hu : X.A.units + 64 < cLine)
include hu
theorem o_eq : Op2 X (compareOp .Eq) eqO := opD (C := fun _ _ => True) eqO_inv fun {s a b u v as bs Q} ra rb pa pb qa _ q => eq_plain ra rb pa pb (by omega) q
theorem o_ne : Op2 X (compareOp .NotEq) neO := opD (C := fun _ _ => True) neO_inv fun {s a b u v as bs Q} ra rb pa pb qa _ q => ne_plain ra rb pa pb (by omega) q
omit hu
theorem opIO {f : Value → Value → Sem Value} {o : Sto → W → W → Option W} {k : Int → Int → Bool} {kd : PyData → PyData → Bool} (hi : OpR X f (rI0 fun i j => .bl (k i j))) (hd : Op2 X f (ordD kd))
    (ho : ∀ {S x y w}, o S x y = some w → (∃ i j, x = .int i ∧ y = .int j ∧ w = .bl (k i j)) ∨ ordD kd S x y = some w) : Op2 X f o := by
  intro pins s σ H x y u v Q I rx ry ⟨B, m, S, wx, wy, w, r, dx, dy, e, q⟩
  rcases ho e with ⟨i, j, rfl, rfl, rfl⟩ | e
  · exact hi pins s σ H x y u v Q I rx ry ⟨i, j, dx.int_of, dy.int_of, q H _ (Ext.refl _ _) r (.bl _)⟩
  · exact hd pins s σ H x y u v Q I rx ry ⟨B, m, S, wx, wy, w, r, dx, dy, e, q⟩
include hu
theorem o_lt : Op2 X (compareOp .Lt) ltO := opIO op_lt (opD (C := OrdOk) ordD_inv fun {s a b u v as bs Q} ra rb pa pb qa c q => PySem.W.lt_data ra rb c.1 c.2 (by omega) q) fun {S x y w} h => by
  unfold ltO at h
  split at h
  · cases h; exact .inl ⟨_, _, rfl, rfl, rfl⟩
  · exact .inr h
theorem o_gt : Op2 X (compareOp .Gt) gtO := opIO op_gt (opD (C := OrdOk) ordD_inv fun {s a b u v as bs Q} ra rb pa pb qa c q => PySem.W.gt_data ra rb c.1 c.2 (by omega) q) fun {S x y w} h => by
  unfold gtO at h
  split at h
  · cases h; exact .inl ⟨_, _, rfl, rfl, rfl⟩
  · exact .inr h
theorem o_le : Op2 X (compareOp .LtE) leO := opIO op_le (opD (C := OrdOk) (k := fun a b => !PySem.W.dataLt b a) ordD_inv fun {s a b u v as bs Q} ra rb pa pb qa c q => PySem.W.le_data ra rb c.1 c.2 (by omega) q) fun {S x y w} h => by
  unfold leO at h
  split at h
  · cases h; exact .inl ⟨_, _, rfl, rfl, rfl⟩
  · exact .inr h
theorem o_ge : Op2 X (compareOp .GtE) geO := opIO op_ge (opD (C := OrdOk) ordD_inv fun {s a b u v as bs Q} ra rb pa pb qa c q => PySem.W.ge_data ra rb c.1 c.2 (by omega) q) fun {S x y w} h => by
  unfold geO at h
  split at h
  · cases h; exact .inl ⟨_, _, rfl, rfl, rfl⟩
  · exact .inr h
omit hu
theorem Den.bl_inv {g : G} {A m : List Addr} {H : Hp} {b : Bool} {v : V} (h : Den g A m H (.bl b) v) : v = .bl b := by cases h; rfl
theorem non_iff {g : G} {A m : List Addr} {H : Hp} {x : W} {v : V} (h : Den g A m H x v) : decide (v = .non) = isNon x := by
  cases h <;> simp [isNon]
theorem o_is : Op2 X (compareOp .Is) isO := opF (op_isN.or op_isBl) fun {x y H Q} ⟨B, m, S, wx, wy, w, r, dx, dy, e, q⟩ => by
  unfold isO at e
  split at e
  · cases e
    cases dy
    refine .inl ⟨rfl, ?_⟩
    rw [non_iff dx]
    exact q H _ (Ext.refl _ _) r (.bl _)
  · split at e
    · cases e
      exact .inr ⟨_, _, dx.bl_inv, dy.bl_inv, q H _ (Ext.refl _ _) r (.bl _)⟩
    · cases e
  · cases e
theorem o_isNot : Op2 X (compareOp .IsNot) isNotO := opF (op_notN.or op_notBl) fun {x y H Q} ⟨B, m, S, wx, wy, w, r, dx, dy, e, q⟩ => by
  unfold isNotO at e
  split at e
  · cases e
    cases dy
    refine .inl ⟨rfl, ?_⟩
    rw [non_iff dx]
    exact q H _ (Ext.refl _ _) r (.bl _)
  · split at e
    · cases e
      exact .inr ⟨_, _, dx.bl_inv, dy.bl_inv, q H _ (Ext.refl _ _) r (.bl _)⟩
    · cases e
  · cases e
/-! membership -/
def inO (S : Sto) (x y : W) : Option W := match seqO S y with
  | some ys => match datF S x, mapO (datF S) ys with
    | some d, some ds => some (.bl (ds.any fun z => PyData.eqv z d))
    | _, _ => none
  | none => none
def notInO (S : Sto) (x y : W) : Option W := match inO S x y with
  | some (.bl b) => some (.bl (!b))
  | _ => none
end
end Pm

namespace Pm
open PySem PySem.Spec PyProof.Rows L2 PySem.SeqAt

/-! ### calls of what is built in, by values -/
def opN (o : Sto → List W → Option W) (xs : List W) : M W := fun S => match o S xs with
  | some w => .ok w S
  | none => .stuck
def opNF (o : Sto → List W → Option O) (xs : List W) : M O := fun S => match o S xs with
  | some w => .ok w S
  | none => .stuck
def op2F (o : Sto → W → W → Option O) (x y : W) : M O := fun S => match o S x y with
  | some w => .ok w S
  | none => .stuck
def rcO (g : G) (o : Sto → List W → Option W) : List V → Hp → VK → Prop := fun xs H Q => ∃ B m S ws w, Rep g B m S H ∧ DenL g (B ++ m) m H ws xs ∧ o S ws = some w ∧
  ∀ H' v, Ext m H m H' → Rep g B m S H' → Den g (B ++ m) m H' w v → Q v H'
def rfO (g : G) (o : Sto → List W → Option O) : List V → Hp → VK → Prop := fun xs H Q => ∃ B m S ws w, Rep g B m S H ∧ DenL g (B ++ m) m H ws xs ∧ o S ws = some w ∧
  ∀ H' p, Ext m H m H' → H p = none → Rep g (B ++ [p]) m S H' → OAt g (B ++ [p] ++ m) m H' p w → Q (.ref p) H'
def r2F (g : G) (o : Sto → W → W → Option O) : R2 := fun x y H Q => ∃ B m S wx wy w, Rep g B m S H ∧ Den g (B ++ m) m H wx x ∧ Den g (B ++ m) m H wy y ∧ o S wx wy = some w ∧
  ∀ H' p, Ext m H m H' → H p = none → Rep g (B ++ [p]) m S H' → OAt g (B ++ [p] ++ m) m H' p w → Q (.ref p) H'
abbrev CallO (X : Cx) (f : Value) (o : Sto → List W → Option W) : Prop := CallR X f (rcO (gOf X) o)
abbrev CallF (X : Cx) (f : Value) (o : Sto → List W → Option O) : Prop := CallR X f (rfO (gOf X) o)
abbrev Op2F (X : Cx) (f : Value → Value → Sem Value) (o : Sto → W → W → Option O) : Prop := OpR X f (r2F (gOf X) o)
theorem post_opN {g : G} {Wx : WX} {B m : List Addr} {S : Sto} {H : Hp} {σ : L2.St} {o : Sto → List W → Option W} {xs : List W} {P : List Addr → Hp → W → Prop} (h : Post g Wx B m H σ (opN o xs S) P) :
    ∃ w, o S xs = some w ∧ ∀ H', Ext m H m H' → Rep g B m S H' → P m H' w := by
  unfold opN at h
  split at h
  · rename_i w e
    exact ⟨w, e, fun H' e r => h m H' e r⟩
  · exact h.elim
theorem post_opNF {g : G} {Wx : WX} {B m : List Addr} {S : Sto} {H : Hp} {σ : L2.St} {o : Sto → List W → Option O} {xs : List W} {Q : VK} (h : PostF g Wx B σ Q m H (opNF o xs S)) :
    ∃ w, o S xs = some w ∧ ∀ H' p, Ext m H m H' → H p = none → Rep g (B ++ [p]) m S H' → OAt g (B ++ [p] ++ m) m H' p w → Q (.ref p) H' := by
  unfold opNF at h
  split at h
  · rename_i w e
    exact ⟨w, e, fun H' p e n r oa => h m H' p e n r oa⟩
  · exact h.elim
theorem post_op2F {g : G} {Wx : WX} {B m : List Addr} {S : Sto} {H : Hp} {σ : L2.St} {o : Sto → W → W → Option O} {x y : W} {Q : VK} (h : PostF g Wx B σ Q m H (op2F o x y S)) :
    ∃ w, o S x y = some w ∧ ∀ H' p, Ext m H m H' → H p = none → Rep g (B ++ [p]) m S H' → OAt g (B ++ [p] ++ m) m H' p w → Q (.ref p) H' := by
  unfold op2F at h
  split at h
  · rename_i w e
    exact ⟨w, e, fun H' p e n r oa => h m H' p e n r oa⟩
  · exact h.elim
/-- a new list laid: what is told of it -/
theorem Rep.newL {g : G} {B m : List Addr} {S : Sto} {H : Hp} {p : Addr} {ws : List W} {vs : List V} (r : Rep g B m S H) (n : H p = none) (l : DenL g (B ++ m) m H ws vs) :
    Ext m H m (upd H p (.lst vs)) ∧ Rep g (B ++ [p]) m S (upd H p (.lst vs)) ∧ OAt g (B ++ [p] ++ m) m (upd H p (.lst vs)) p (.lst ws) := by
  obtain ⟨r1, c1⟩ := r.fresh (o := .lst vs) n True.intro
  exact ⟨(r.laid n).2.1, r1, .lst upd_same (l.carry c1)⟩
section
variable {X : Cx} {Wx : WX} {e : Expr} {es : List Expr} {cl : Rho → M (List W)} {x : Str} {p pos : Pos} {id : String} {T : String} {o : Sto → List W → Option W} {oF : Sto → List W → Option O}
theorem me_callB (h : CallO X (.builtin id) o) (hg : Gl X x) (hm : X.mg x = none) (hv : bootBuiltins x = some (.builtin id)) (ha : MA X Wx (e :: es) cl) (hn : x ≠ "__name__" := by decide) (hdb : (x == ("__debug__" : Str)) = false := by decide)
    (he : starEach (e :: es) X.env = (false, eval e X.env) :: starEach es X.env := by rfl) (hpl : (backTo pos (starEach es X.env)).any (·.1) = false := by rfl) : ME X Wx (.Call (.Name x p) (e :: es) [] pos) (fun ρ => do let ws ← cl ρ; opN o ws) :=
  (pe_callB h hg hm hv ha hn hdb he hpl).imp fun σ H Q ⟨B, m, S, ρ, r, d, p⟩ => TL.to zPost r d p fun ws S1 m1 H1 vs e1 r1 d1 dv p1 c1 => by
    obtain ⟨w, ew, pw⟩ := post_opN p1
    exact ⟨B, m1, S1, ws, w, r1, dv, ew, fun H' v e r d => pw H' e r v d⟩
theorem me_callT (h : CallO X (.type T) o) (hg : Gl X x) (hm : X.mg x = none) (hv : bootBuiltins x = some (.type T)) (ha : MA X Wx (e :: es) cl) (hn : x ≠ "__name__" := by decide) (hdb : (x == ("__debug__" : Str)) = false := by decide)
    (he : starEach (e :: es) X.env = (false, eval e X.env) :: starEach es X.env := by rfl) (hpl : (backTo pos (starEach es X.env)).any (·.1) = false := by rfl) : ME X Wx (.Call (.Name x p) (e :: es) [] pos) (fun ρ => do let ws ← cl ρ; opN o ws) :=
  (pe_callTy h hg hm hv ha hn hdb he hpl).imp fun σ H Q ⟨B, m, S, ρ, r, d, p⟩ => TL.to zPost r d p fun ws S1 m1 H1 vs e1 r1 d1 dv p1 c1 => by
    obtain ⟨w, ew, pw⟩ := post_opN p1
    exact ⟨B, m1, S1, ws, w, r1, dv, ew, fun H' v e r d => pw H' e r v d⟩
theorem mf_callB (h : CallF X (.builtin id) oF) (hg : Gl X x) (hm : X.mg x = none) (hv : bootBuiltins x = some (.builtin id)) (ha : MA X Wx (e :: es) cl) (hn : x ≠ "__name__" := by decide) (hdb : (x == ("__debug__" : Str)) = false := by decide)
    (he : starEach (e :: es) X.env = (false, eval e X.env) :: starEach es X.env := by rfl) (hpl : (backTo pos (starEach es X.env)).any (·.1) = false := by rfl) : MF X Wx (.Call (.Name x p) (e :: es) [] pos) (fun ρ => do let ws ← cl ρ; opNF oF ws) :=
  (pe_callB h hg hm hv ha hn hdb he hpl).imp fun σ H Q ⟨B, m, S, ρ, r, d, p⟩ => TL.to zPostF r d p fun ws S1 m1 H1 vs e1 r1 d1 dv p1 c1 => by
    obtain ⟨w, ew, pw⟩ := post_opNF p1
    exact ⟨B, m1, S1, ws, w, r1, dv, ew, pw⟩
theorem mf_callT (h : CallF X (.type T) oF) (hg : Gl X x) (hm : X.mg x = none) (hv : bootBuiltins x = some (.type T)) (ha : MA X Wx (e :: es) cl) (hn : x ≠ "__name__" := by decide) (hdb : (x == ("__debug__" : Str)) = false := by decide)
    (he : starEach (e :: es) X.env = (false, eval e X.env) :: starEach es X.env := by rfl) (hpl : (backTo pos (starEach es X.env)).any (·.1) = false := by rfl) : MF X Wx (.Call (.Name x p) (e :: es) [] pos) (fun ρ => do let ws ← cl ρ; opNF oF ws) :=
  (pe_callTy h hg hm hv ha hn hdb he hpl).imp fun σ H Q ⟨B, m, S, ρ, r, d, p⟩ => TL.to zPostF r d p fun ws S1 m1 H1 vs e1 r1 d1 dv p1 c1 => by
    obtain ⟨w, ew, pw⟩ := post_opNF p1
    exact ⟨B, m1, S1, ws, w, r1, dv, ew, pw⟩
/-! fresh lists by an operator -/
variable {a b : Expr} {ca cb : Rho → M W}
theorem mf_op {op : Operator} {o : Sto → W → W → Option O} (ho : Op2F X (binaryOp op) o) (ha : ME X Wx a ca) (hb : ME X Wx b cb) : MF X Wx (.BinOp a op b pos) (fun ρ => do let x ← ca ρ; let y ← cb ρ; op2F o x y) :=
  (pe_op ho ha hb).imp fun σ H Q ⟨B, m, S, ρ, r, d, p⟩ => TM.to zPostF r d p fun x S1 m1 H1 v e1 r1 d1 dv p1 c1 => TM.to zPostF r1 d1 p1 fun y S2 m2 H2 u e2 r2' d2 du p2 c2 => by
    obtain ⟨w, ew, pw⟩ := post_op2F p2
    exact ⟨B, m2, S2, x, y, w, r2', dv.carry c2, du, ew, pw⟩
/-! displays -/
def tupM (cl : Rho → M (List W)) : Rho → M W := fun ρ => do
  let ws ← cl ρ
  if ws.length ≤ 16777216 then pure (.tup ws) else M.fail
def lstM (cl : Rho → M (List W)) : Rho → M O := fun ρ => do
  let ws ← cl ρ
  if ws.length ≤ 16777216 then pure (.lst ws) else M.fail
theorem me_tup {k : Nat} (h : MA X Wx es cl) : ME X Wx (.Tuple es k pos) (tupM cl) := (pe_tup h).imp fun σ H Q ⟨B, m, S, ρ, r, d, p⟩ => TL.to zPost r d p fun ws S1 m1 H1 vs e1 r1 d1 dv p1 c1 => by
  by_cases hz : ws.length ≤ 16777216
  · rw [if_pos hz] at p1
    refine ⟨by rw [← dv.length, sizeLine_eq]; exact hz, fun q hq => ?_⟩
    obtain ⟨r', e', c', _⟩ := r1.laid (o := .tup vs) hq
    exact p1 _ _ e' r' _ (.tup (.of upd_same) (dv.carry c'))
  · rw [if_neg hz] at p1
    exact p1.elim
theorem mf_lst (h : MA X Wx es cl) : MF X Wx (.List es pos) (lstM cl) := (pe_lst h).imp fun σ H Q ⟨B, m, S, ρ, r, d, p⟩ => TL.to zPostF r d p fun ws S1 m1 H1 vs e1 r1 d1 dv p1 c1 => by
  by_cases hz : ws.length ≤ 16777216
  · rw [if_pos hz] at p1
    refine ⟨by rw [← dv.length, sizeLine_eq]; exact hz, fun q hq => ?_⟩
    obtain ⟨e', r', oa⟩ := r1.newL hq dv
    exact p1 _ _ q e' hq r' oa
  · rw [if_neg hz] at p1
    exact p1.elim
/-! subscripts -/
def ixO (S : Sto) (x y : W) : Option W := match seqO S x, y with
  | some ws, .int i => atI ws i
  | _, _ => none
theorem DenL.atI {g : G} {A m : List Addr} {H : Hp} {ws : List W} {vs : List V} {i : Int} {w : W} (l : DenL g A m H ws vs) (e : L2.atI ws i = some w) : ∃ v, L2.atI vs i = some v ∧ Den g A m H w v := by
  unfold L2.atI at e ⊢
  rw [← l.length]
  cases q : ixN ws.length i with
  | none => rw [q] at e; cases e
  | some j =>
    rw [q] at e
    obtain ⟨v, h1, h2⟩ := l.get (w := w) e
    exact ⟨v, h1, h2⟩
theorem ix_any : IxR X (r2 (gOf X) ixO) := by
  intro value slice pins s σ H x y v u Q I rx ry ⟨B, m, S, wx, wy, w, r, dx, dy, e, q⟩ hs
  unfold ixO at e
  split at e
  · rename_i ws i e1
    obtain ⟨a, vs, rfl, hq, l⟩ := den_seq r dx e1
    obtain ⟨z, ez, dz⟩ := l.atI e
    cases dy
    rcases hq with hq | hq
    · exact ix_list value slice pins s σ H _ _ v u Q I rx ry ⟨a, vs, _, z, rfl, rfl, hq, ez, q H z (Ext.refl _ _) r dz⟩ hs
    · exact ix_tup value slice pins s σ H _ _ v u Q I rx ry ⟨a, vs, _, z, rfl, rfl, hq, ez, q H z (Ext.refl _ _) r dz⟩ hs
  · cases e
theorem me_ixR {o : Sto → W → W → Option W} (hi : IxR X (r2 (gOf X) o)) (ha : ME X Wx a ca) (hb : ME X Wx b cb) (hs : PlainIx b) : ME X Wx (.Subscript a b pos) (fun ρ => do let x ← ca ρ; let y ← cb ρ; op2 o x y) :=
  (pe_ix hi ha hb hs).imp fun _ _ _ h => two h
theorem me_ix (ha : ME X Wx a ca) (hb : ME X Wx b cb) (hs : PlainIx b := by exact fun _ _ => rfl) : ME X Wx (.Subscript a b pos) (fun ρ => do let x ← ca ρ; let y ← cb ρ; op2 ixO x y) := me_ixR ix_any ha hb hs
/-! slices -/
abbrev TMo (g : G) (Wx : WX) (c : Rho → M (Option Int)) : TO := fun σ H Q => ∃ B m S ρ, Rep g B m S H ∧ DenE g (B ++ m) m H ρ σ ∧ Post g Wx B m H σ (c ρ S) fun m' H' b => Q b H'
def poN : Rho → M (Option Int) := fun _ => pure none
def poS (c : Rho → M W) : Rho → M (Option Int) := fun ρ => do
  let x ← c ρ
  match x with
  | .int i => pure (some i)
  | _ => M.fail
abbrev MO (X : Cx) (Wx : WX) (e : Option Expr) (c : Rho → M (Option Int)) : Prop := PO X e (TMo (gOf X) Wx c)
theorem _root_.L2.PO.imp {X : Cx} {e : Option Expr} {t t' : TO} (h : PO X e t) (k : ∀ σ H Q, t' σ H Q → t σ H Q) : PO X e t' := ⟨fun pins s σ H Q I q => h.run pins s σ H Q I (k σ H Q q)⟩
theorem mo_none : MO X Wx none poN := po_none.imp fun σ H Q ⟨B, m, S, ρ, r, d, p⟩ => p.ret r
theorem mo_some (h : ME X Wx a ca) : MO X Wx (some a) (poS ca) := (po_some h).imp fun σ H Q ⟨B, m, S, ρ, r, d, p⟩ => TM.to zPost r d p fun x S1 m1 H1 v e1 r1 d1 dv p1 c1 => by
  cases x with
  | int i => exact ⟨i, dv.int_of, p1.ret r1⟩
  | _ => exact p1.elim
def cutW (ws : List W) (lo hi : Option Int) : List W := (ws.drop (HT.sIx ws.length 0 lo)).take (HT.sIx ws.length ws.length hi - HT.sIx ws.length 0 lo)
theorem DenL.cut {g : G} {A m : List Addr} {H : Hp} {ws : List W} {vs : List V} (l : DenL g A m H ws vs) (lo hi : Option Int) : DenL g A m H (cutW ws lo hi) (cutV vs lo hi) := by
  unfold cutW cutV
  rw [l.length]
  exact (l.drop _).take _
def slT (x : W) (lo hi : Option Int) : M W := match x with
  | .tup ws => pure (.tup (cutW ws lo hi))
  | _ => M.fail
def slL (x : W) (lo hi : Option Int) : M O := fun S => match lstO S x with
  | some ws => .ok (.lst (cutW ws lo hi)) S
  | none => .stuck
variable {lo hi : Option Expr} {tl th : Rho → M (Option Int)} {p2 : Pos}
theorem TMo.to {g : G} {B m : List Addr} {S : Sto} {ρ : Rho} {H : Hp} {σ : L2.St} {α : Type} {ca : Rho → M (Option Int)} {f : Option Int → M α} {Z : List Addr → Hp → R α → Prop} {Q : Option Int → Hp → Prop} (z : Zok g Wx B σ Z)
    (r : Rep g B m S H) (d : DenE g (B ++ m) m H ρ σ) (h : Z m H ((ca ρ >>= f) S))
    (k : ∀ b S1 m1 H1, Ext m H m1 H1 → Rep g B m1 S1 H1 → DenE g (B ++ m1) m1 H1 ρ σ → Z m1 H1 (f b S1) → Carry g (B ++ m) m H (B ++ m1) m1 H1 → Q b H1) : TMo g Wx ca σ H Q :=
  ⟨B, m, S, ρ, r, d, z.bind h fun w S1 m1 H1 _ e r1 h1 => k w S1 m1 H1 e r1 (d.carry (r.carry e)) h1 (r.carry e)⟩
theorem me_slT (ha : ME X Wx a ca) (hl : MO X Wx lo tl) (hh : MO X Wx hi th) : ME X Wx (.Subscript a (.Slice lo hi none p2) pos) (fun ρ => do let x ← ca ρ; let l ← tl ρ; let h ← th ρ; slT x l h) :=
  (pe_slice sl_tupA ha hl hh).imp fun σ H Q ⟨B, m, S, ρ, r, d, p⟩ => TM.to zPost r d p fun x S1 m1 H1 v e1 r1 d1 dv p1 c1 => TMo.to zPost r1 d1 p1 fun l S2 m2 H2 e2 r2' d2 p2 c2 => TMo.to zPost r2' d2 p2 fun h S3 m3 H3 e3 r3 d3 p3 c3 => by
    have dv3 := (dv.carry c2).carry c3
    unfold slT at p3
    cases x with
    | tup ws =>
      cases dv3 with
      | @tup _ a' vs ht ll =>
        refine ⟨a', vs, rfl, ht, fun hw => ?_, fun _ q hq => ?_⟩
        · have e : cutW ws l h = ws := by
            unfold cutW
            rw [ll.length, hw.1, hw.2, List.drop_zero, Nat.sub_zero, ← ll.length, List.take_length]
          have p4 := p3.ret r3
          rw [e] at p4
          exact p4 _ (.tup ht ll)
        · obtain ⟨r', e', c', _⟩ := r3.laid (o := .tup (cutV vs l h)) hq
          exact p3 _ _ e' r' _ (.tup (.of upd_same) ((ll.cut l h).carry c'))
    | _ => exact p3.elim
theorem mf_slL (ha : ME X Wx a ca) (hl : MO X Wx lo tl) (hh : MO X Wx hi th) : MF X Wx (.Subscript a (.Slice lo hi none p2) pos) (fun ρ => do let x ← ca ρ; let l ← tl ρ; let h ← th ρ; slL x l h) :=
  (pe_slice sl_list ha hl hh).imp fun σ H Q ⟨B, m, S, ρ, r, d, p⟩ => TM.to zPostF r d p fun x S1 m1 H1 v e1 r1 d1 dv p1 c1 => TMo.to zPostF r1 d1 p1 fun l S2 m2 H2 e2 r2' d2 p2 c2 => TMo.to zPostF r2' d2 p2 fun h S3 m3 H3 e3 r3 d3 p3 c3 => by
    have dv3 := (dv.carry c2).carry c3
    unfold slL at p3
    cases q : lstO S3 x with
    | none => simp only [q] at p3; exact p3.elim
    | some ws =>
      simp only [q] at p3
      obtain ⟨a', vs, rfl, hl', ll⟩ := den_lst r3 dv3 q
      refine ⟨a', vs, rfl, hl', fun q hq => ?_⟩
      obtain ⟨e', r', oa⟩ := r3.newL hq (ll.cut l h)
      exact p3 _ _ q e' hq r' oa
def revL (x : W) : M O := fun S => match lstO S x with
  | some ws => .ok (.lst ws.reverse) S
  | none => .stuck
theorem mf_rev {k : Nat} {q1 q2 q3 : Pos} (ha : ME X Wx a ca) : MF X Wx (.Subscript a (.Slice none none (some (.UnaryOp .USub (.Constant (.int 1) k q1) q2)) q3) pos) (fun ρ => do let x ← ca ρ; revL x) :=
  (pe_revL ha).imp fun σ H Q ⟨B, m, S, ρ, r, d, p⟩ => TM.to zPostF r d p fun x S1 m1 H1 v e1 r1 d1 dv p1 c1 => by
    unfold revL at p1
    cases q : lstO S1 x with
    | none => simp only [q] at p1; exact p1.elim
    | some ws =>
      simp only [q] at p1
      obtain ⟨a', vs, rfl, hl', ll⟩ := den_lst r1 dv q
      refine ⟨a', vs, rfl, hl', fun q hq => ?_⟩
      obtain ⟨e', r', oa⟩ := r1.newL hq ll.reverse
      exact p1 _ _ q e' hq r' oa
end
/-! ### the built-ins -/
def lenO (S : Sto) : List W → Option W
  | [x] => match seqO S x with
    | some ws => some (.int ws.length)
    | none => match x with
      | .str z => if z.length ≤ 16777216 then some (.int z.length) else none
      | _ => none
  | _ => none
def absO (_ : Sto) : List W → Option W
  | [.int i] => some (.int (if i < 0 then -i else i))
  | _ => none
def intO (_ : Sto) : List W → Option W
  | [.int i] => some (.int i)
  | [.bl k] => some (.int (if k then 1 else 0))
  | _ => none
def max2O (_ : Sto) : List W → Option W
  | [.int i, .int j] => some (.int (if j > i then j else i))
  | _ => none
def min2O (_ : Sto) : List W → Option W
  | [.int i, .int j] => some (.int (if j < i then j else i))
  | _ => none
def intsO : List W → Option (List Int) := mapO fun w => match w with
  | .int i => some i
  | _ => none
def blsO : List W → Option (List Bool) := mapO fun w => match w with
  | .bl i => some i
  | _ => none
def sumO (S : Sto) : List W → Option W
  | [x] => match lstO S x with
    | some ws => (intsO ws).map fun ns => .int ns.sum
    | none => none
  | _ => none
def allO (S : Sto) : List W → Option W
  | [x] => match lstO S x with
    | some ws => (blsO ws).map fun ns => .bl (ns.all id)
    | none => none
  | _ => none
def anyO (S : Sto) : List W → Option W
  | [x] => match lstO S x with
    | some ws => (blsO ws).map fun ns => .bl (ns.any id)
    | none => none
  | _ => none
def tupleO (S : Sto) : List W → Option W
  | [x] => match seqO S x with
    | some ws => some (.tup ws)
    | none => none
  | _ => none
def listO (S : Sto) : List W → Option O
  | [x] => match seqO S x with
    | some ws => some (.lst ws)
    | none => none
  | _ => none
def divmodO (_ : Sto) : List W → Option W
  | [.int i, .int j] => if 0 < j ∧ j.natAbs < 1073741824 then some (.tup [.int (i / j), .int (i % j)]) else none
  | _ => none
section
variable {X : Cx}
theorem callF {f : Value} {r : List V → Hp → VK → Prop} {o : Sto → List W → Option W} (h : CallR X f r) (k : ∀ {xs : List V} {H : Hp} {Q : VK}, rcO (gOf X) o xs H Q → r xs H Q) : CallO X f o :=
  fun pins s σ H xs us Q I rx q => h pins s σ H xs us Q I rx (k q)
theorem callFF {f : Value} {r : List V → Hp → VK → Prop} {o : Sto → List W → Option O} (h : CallR X f r) (k : ∀ {xs : List V} {H : Hp} {Q : VK}, rfO (gOf X) o xs H Q → r xs H Q) : CallF X f o :=
  fun pins s σ H xs us Q I rx q => h pins s σ H xs us Q I rx (k q)
theorem DenL.one {g : G} {A m : List Addr} {H : Hp} {w : W} {vs : List V} (h : DenL g A m H [w] vs) : ∃ v, vs = [v] ∧ Den g A m H w v := by
  cases h with
  | cons d l => cases l; exact ⟨_, rfl, d⟩
theorem DenL.two {g : G} {A m : List Addr} {H : Hp} {w w' : W} {vs : List V} (h : DenL g A m H [w, w'] vs) : ∃ v v', vs = [v, v'] ∧ Den g A m H w v ∧ Den g A m H w' v' := by
  cases h with
  | cons d l =>
    cases l with
    | cons d' l => cases l; exact ⟨_, _, rfl, d, d'⟩
theorem den_ints {g : G} {A m : List Addr} {H : Hp} : ∀ {ws : List W} {ns : List Int} {vs : List V}, intsO ws = some ns → DenL g A m H ws vs → vs = ns.map V.int := by
  intro ws
  induction ws with
  | nil => intro ns vs e l; cases l; cases mapO_nil e; rfl
  | cons w ws ih =>
    intro ns vs e l
    obtain ⟨y, r, rfl, e1, e2⟩ := mapO_cons e
    cases l with
    | cons d l =>
      cases w with
      | int i => cases e1; rw [d.int_of, ih e2 l]; rfl
      | _ => cases e1
theorem den_bls {g : G} {A m : List Addr} {H : Hp} : ∀ {ws : List W} {ns : List Bool} {vs : List V}, blsO ws = some ns → DenL g A m H ws vs → vs = ns.map V.bl := by
  intro ws
  induction ws with
  | nil => intro ns vs e l; cases l; cases mapO_nil e; rfl
  | cons w ws ih =>
    intro ns vs e l
    obtain ⟨y, r, rfl, e1, e2⟩ := mapO_cons e
    cases l with
    | cons d l =>
      cases w with
      | bl i => cases e1; rw [d.bl_inv, ih e2 l]; rfl
      | _ => cases e1
theorem c_len : CallO X (.builtin "len") lenO := callF (call_len_seq.or call_len_str) fun {xs H Q} ⟨B, m, S, ws, w, r, d, e, q⟩ => by
  unfold lenO at e
  split at e
  · rename_i x
    obtain ⟨v, rfl, dv⟩ := d.one
    split at e
    · rename_i ys e1
      cases e
      obtain ⟨a, vs, rfl, hq, l⟩ := den_seq r dv e1
      refine .inl ⟨a, vs, rfl, hq, ?_⟩
      rw [← l.length]
      exact q H _ (Ext.refl _ _) r (.int _)
    · split at e
      · split at e
        · rename_i hz
          cases e
          cases dv
          exact .inr ⟨_, rfl, by rw [sizeLine_eq]; exact hz, q H _ (Ext.refl _ _) r (.int _)⟩
        · cases e
      · cases e
  · cases e
theorem c_abs : CallO X (.builtin "abs") absO := callF call_abs fun {xs H Q} ⟨B, m, S, ws, w, r, d, e, q⟩ => by
  unfold absO at e
  split at e
  · cases e
    obtain ⟨v, rfl, dv⟩ := d.one
    rw [dv.int_of]
    exact ⟨_, rfl, q H _ (Ext.refl _ _) r (.int _)⟩
  · cases e
theorem c_int : CallO X (.type "int") intO := callF call_int1 fun {xs H Q} ⟨B, m, S, ws, w, r, d, e, q⟩ => by
  unfold intO at e
  split at e
  · cases e
    obtain ⟨v, rfl, dv⟩ := d.one
    rw [dv.int_of]
    exact .inl ⟨_, rfl, q H _ (Ext.refl _ _) r (.int _)⟩
  · cases e
    obtain ⟨v, rfl, dv⟩ := d.one
    rw [dv.bl_inv]
    exact .inr ⟨_, rfl, q H _ (Ext.refl _ _) r (.int _)⟩
  · cases e
theorem c_max2 (hc : X.calm = true) : CallO X (.builtin "max") max2O := callF (call_max2 hc) fun {xs H Q} ⟨B, m, S, ws, w, r, d, e, q⟩ => by
  unfold max2O at e
  split at e
  · cases e
    obtain ⟨v, v', rfl, dv, dv'⟩ := d.two
    rw [dv.int_of, dv'.int_of]
    exact ⟨_, _, rfl, q H _ (Ext.refl _ _) r (.int _)⟩
  · cases e
theorem c_min2 (hc : X.calm = true) : CallO X (.builtin "min") min2O := callF (call_min2 hc) fun {xs H Q} ⟨B, m, S, ws, w, r, d, e, q⟩ => by
  unfold min2O at e
  split at e
  · cases e
    obtain ⟨v, v', rfl, dv, dv'⟩ := d.two
    rw [dv.int_of, dv'.int_of]
    exact ⟨_, _, rfl, q H _ (Ext.refl _ _) r (.int _)⟩
  · cases e
theorem c_sum (hc : X.calm = true) : CallO X (.builtin "sum") sumO := callF (cr_sum hc) fun {xs H Q} ⟨B, m, S, ws, w, r, d, e, q⟩ => by
  unfold sumO at e
  split at e
  · split at e
    · rename_i e1
      obtain ⟨ns, e2, rfl⟩ := opt_map e
      obtain ⟨v, rfl, dv⟩ := d.one
      obtain ⟨a, vs, rfl, hl, l⟩ := den_lst r dv e1
      cases den_ints e2 l
      exact ⟨a, ns, rfl, hl, q H _ (Ext.refl _ _) r (.int _)⟩
    · cases e
  · cases e
theorem c_all (hc : X.calm = true) : CallO X (.builtin "all") allO := callF (cr_all hc) fun {xs H Q} ⟨B, m, S, ws, w, r, d, e, q⟩ => by
  unfold allO at e
  split at e
  · split at e
    · rename_i e1
      obtain ⟨ns, e2, rfl⟩ := opt_map e
      obtain ⟨v, rfl, dv⟩ := d.one
      obtain ⟨a, vs, rfl, hl, l⟩ := den_lst r dv e1
      cases den_bls e2 l
      exact ⟨a, ns, rfl, hl, q H _ (Ext.refl _ _) r (.bl _)⟩
    · cases e
  · cases e
theorem c_any (hc : X.calm = true) : CallO X (.builtin "any") anyO := callF (cr_any hc) fun {xs H Q} ⟨B, m, S, ws, w, r, d, e, q⟩ => by
  unfold anyO at e
  split at e
  · split at e
    · rename_i e1
      obtain ⟨ns, e2, rfl⟩ := opt_map e
      obtain ⟨v, rfl, dv⟩ := d.one
      obtain ⟨a, vs, rfl, hl, l⟩ := den_lst r dv e1
      cases den_bls e2 l
      exact ⟨a, ns, rfl, hl, q H _ (Ext.refl _ _) r (.bl _)⟩
    · cases e
  · cases e
theorem c_tuple : CallO X (.type "tuple") tupleO := callF call_tuple_of fun {xs H Q} ⟨B, m, S, ws, w, r, d, e, q⟩ => by
  unfold tupleO at e
  split at e
  · split at e
    · rename_i e1
      cases e
      obtain ⟨v, rfl, dv⟩ := d.one
      obtain ⟨a, vs, rfl, hl | hl, l⟩ := den_seq r dv e1
      · refine ⟨a, vs, rfl, .inl ⟨hl, fun p hp => ?_⟩⟩
        obtain ⟨r', e', c', _⟩ := r.laid (o := .tup vs) hp
        exact q _ _ e' r' (.tup (.of upd_same) (l.carry c'))
      · exact ⟨a, vs, rfl, .inr ⟨hl, q H _ (Ext.refl _ _) r (.tup hl l)⟩⟩
    · cases e
  · cases e
theorem c_list : CallF X (.type "list") listO := callFF call_list_of fun {xs H Q} ⟨B, m, S, ws, w, r, d, e, q⟩ => by
  unfold listO at e
  split at e
  · split at e
    · rename_i e1
      cases e
      obtain ⟨v, rfl, dv⟩ := d.one
      obtain ⟨a, vs, rfl, hl, l⟩ := den_seq r dv e1
      refine ⟨a, vs, rfl, hl, fun p hp => ?_⟩
      obtain ⟨e', r', oa⟩ := r.newL hp l
      exact q _ p e' hp r' oa
    · cases e
  · cases e
theorem c_divmod : CallO X (.builtin "divmod") divmodO := callF call_divmod fun {xs H Q} ⟨B, m, S, ws, w, r, d, e, q⟩ => by
  unfold divmodO at e
  split at e
  · split at e
    · rename_i hz
      cases e
      obtain ⟨v, v', rfl, dv, dv'⟩ := d.two
      rw [dv.int_of, dv'.int_of]
      refine ⟨_, _, rfl, ⟨hz.1, by have := hz.1; have := hz.2; omega⟩, fun p hp => ?_⟩
      obtain ⟨r', e', c', _⟩ := r.laid (o := .tup [.int _, .int _]) hp
      exact q _ _ e' r' (.tup (.of upd_same) (.cons (.int _) (.cons (.int _) .nil)))
    · cases e
  · cases e
/-! list + list, list * int -/
def catO (S : Sto) (x y : W) : Option O := match lstO S x, lstO S y with
  | some a, some b => if a.length + b.length ≤ 16777216 then some (.lst (a ++ b)) else none
  | _, _ => none
def repO (S : Sto) (x y : W) : Option O := match lstO S x, y with
  | some a, .int k => if k < 16777216 ∧ -(2 ^ 63) ≤ k ∧ a.length * k.toNat ≤ 16777216 then some (.lst (List.replicate k.toNat a).flatten) else none
  | _, _ => none
/-- + of lists that may be locked or written -/
def rCatW (g : G) : R2 := fun x y H Q => ∃ l b xs zs, x = .ref l ∧ y = .ref b ∧ SqL g.K H l xs ∧ SqL g.K H b zs ∧ xs.length + zs.length ≤ sizeLine ∧ ∀ p, H p = none → Q (.ref p) (upd H p (.lst (xs ++ zs)))
theorem op_catW : OpR X (binaryOp .Add) (rCatW (gOf X)) := by
  intro pins s σ H x y v u Q I rx ry h
  obtain ⟨l, b, xs, zs, rfl, rfl, hH, hB, hz, q⟩ := h
  cases rx
  cases ry
  obtain ⟨its, r, pl, z⟩ := I.list hH
  obtain ⟨its2, r2, pl2, z2⟩ := I.list hB
  obtain ⟨⟨cls, dd, data, sl⟩, ho, hc, n, hd⟩ := id pl.isList
  obtain ⟨⟨cls2, dd2, data2, sl2⟩, ho2, hc2, n2, hd2⟩ := id pl2.isList
  simp only at hc hd hc2 hd2
  subst hc hd hc2 hd2
  have e : its.toArray ++ its2.toArray = (its ++ its2).toArray := by simp
  have l1 := r.length
  have l2 := r2.length
  refine concat_meets ⟨_, ho, rfl⟩ ⟨_, ho2, rfl⟩ noFill_list_add seq_list_add PySem.F.slot_list_add PySem.F.entry_list_add (PySem.F.args_list_add_2 _ _) (list_addW l b its.toArray its2.toArray n n2 dd dd2 sl sl2 (by rw [List.size_toArray, List.size_toArray]; omega)) ⟨ho, ho2, ?_⟩
  rw [e]
  exact ⟨.ref _, _, I.lnew (t' := s.toks) (r.append r2) (by rw [List.length_append]; omega), rfl, q _ I.fresh⟩
theorem o_cat : Op2F X (binaryOp .Add) catO := fun pins s σ H x y v u Q I rx ry ⟨B, m, S, wx, wy, w, r, dx, dy, e, q⟩ => by
  unfold catO at e
  split at e
  · rename_i a b e1 e2
    split at e
    · rename_i hz
      cases e
      obtain ⟨l, vs, rfl, hl, ll⟩ := den_lst r dx e1
      obtain ⟨l2, vs2, rfl, hl2, ll2⟩ := den_lst r dy e2
      refine op_catW pins s σ H _ _ v u Q I rx ry ⟨l, l2, vs, vs2, rfl, rfl, hl, hl2, by rw [← ll.length, ← ll2.length, sizeLine_eq]; exact hz, fun p hp => ?_⟩
      obtain ⟨e', r', oa⟩ := r.newL hp (ll.append ll2)
      exact q _ p e' hp r' oa
    · cases e
  · cases e
end
theorem Zok.addB {g : G} {Wx : WX} {B : List Addr} {σ : L2.St} {β : Type} {Z : List Addr → Hp → R β → Prop} (z : Zok g Wx B σ Z) (p : Addr) : Zok g Wx (B ++ [p]) σ Z :=
  ⟨z.step, fun h m' H' a x r => z.exc h m' H' a x r.unB.1, z.stuck⟩
theorem TF.to {g : G} {Wx : WX} {B m : List Addr} {S : Sto} {ρ : Rho} {H : Hp} {σ : L2.St} {α : Type} {cf : Rho → M O} {f : O → M α} {Z : List Addr → Hp → R α → Prop} {Q : VK} (z : Zok g Wx B σ Z)
    (r : Rep g B m S H) (d : DenE g (B ++ m) m H ρ σ) (h : Z m H ((cf ρ >>= f) S))
    (k : ∀ o S1 m1 H1 p, Ext m H m1 H1 → H p = none → Rep g (B ++ [p]) m1 S1 H1 → DenE g (B ++ [p] ++ m1) m1 H1 ρ σ → OAt g (B ++ [p] ++ m1) m1 H1 p o → Z m1 H1 (f o S1) → Q (.ref p) H1) : TF g Wx cf σ H Q := by
  refine ⟨B, m, S, ρ, r, d, ?_⟩
  cases e : cf ρ S with
  | ok o S1 =>
    rw [bind_ok e] at h
    refine fun m1 H1 p x np rp op => k o S1 m1 H1 p x np rp (d.carry ⟨fun a u ha hn => x.fr a u ha fun hm => ?_, fun a u ha hn hm => ?_, fun _ _ e => pre_get x.pre e⟩) op (z.step h x)
    · rcases hn with hn | hn
      · exact hn (ha ▸ r.mu a (List.mem_append_right _ hm))
      · exact hn (List.mem_append_right _ hm)
    · rcases List.mem_append.mp hm with q | q
      · rcases List.mem_append.mp q with q | q
        · exact hn (List.mem_append_left _ q)
        · rw [List.mem_singleton.mp q, np] at ha
          cases ha
      · have y := x.new a q fun y => hn (List.mem_append_right _ y)
        rw [ha] at y
        cases y
  | exc C S1 =>
    rw [bind_exc e] at h
    exact z.exc h
  | stuck =>
    rw [bind_stuck e] at h
    exact z.stuck h
def repF (x : O) (y : W) : M O := match x, y with
  | .lst a, .int k => if k < 16777216 ∧ -16777216 ≤ k ∧ a.length * k.toNat ≤ 16777216 then pure (.lst (List.replicate k.toNat a).flatten) else M.fail
  | _, _ => M.fail
section
variable {X : Cx} {Wx : WX} {a b : Expr} {ca cb : Rho → M W} {cf : Rho → M O} {pos : Pos}
theorem mf_rep (ha : MF X Wx a cf) (hb : ME X Wx b cb) : MF X Wx (.BinOp a .Mult b pos) (fun ρ => do let x ← cf ρ; let y ← cb ρ; repF x y) :=
  (pe_op op_rep ha hb).imp fun σ H Q ⟨B, m, S, ρ, r, d, p⟩ => TF.to zPostF r d p fun x S1 m1 H1 q e1 n1 r1 d1 o1 p1 => TM.to (zPostF.addB q) r1 d1 p1 fun y S2 m2 H2 u e2 r2' d2 du p2 c2 => by
    unfold repF at p2
    split at p2
    · rename_i l k
      split at p2
      · rename_i hz
        cases o1 with
        | @lst _ vs h1 l1 =>
          have nq : q ∉ m1 := fun hm => r1.unB.2.2 (List.mem_append_right _ hm)
          refine ⟨q, k, vs, rfl, du.int_of, e2.fr q _ h1 nq, by omega, by omega, by rw [← l1.length, sizeLine_eq]; exact hz.2.2, fun p' hp => ?_⟩
          obtain ⟨r3, c3, nn⟩ := r2'.unB
          obtain ⟨e', r', oa⟩ := r3.newL hp (((l1.carry c2).carry c3).rep k.toNat)
          exact p2 _ _ p' e' hp r' oa
      · exact p2.elim
    · exact p2.elim
end
/-! ### sorted -/
def insW {α : Type} (le : α → α → Bool) (a : α) : List α → List α
  | [] => [a]
  | b :: r => if le a b = true then a :: b :: r else b :: insW le a r
def isort {α : Type} (le : α → α → Bool) : List α → List α
  | [] => []
  | a :: r => insW le a (isort le r)
theorem insW_split {α : Type} {le : α → α → Bool} {a : α} : ∀ {l₁ l₂ : List α}, (∀ b ∈ l₁, le a b = false) → (∀ b ∈ l₂.head?, le a b = true) → insW le a (l₁ ++ l₂) = l₁ ++ a :: l₂
  | [], [], _, _ => rfl
  | [], b :: r, _, h => by
    show insW le a (b :: r) = a :: b :: r
    unfold insW
    rw [if_pos (h b rfl)]
  | b :: r, l₂, h1, h2 => by
    show insW le a (b :: (r ++ l₂)) = b :: (r ++ a :: l₂)
    unfold insW
    rw [if_neg (by rw [h1 b (List.mem_cons_self ..)]; exact Bool.false_ne_true), insW_split (fun c hc => h1 c (List.mem_cons_of_mem _ hc)) h2]
theorem isort_eq {α : Type} {le : α → α → Bool} (tr : ∀ a b c, le a b = true → le b c = true → le a c = true) (tot : ∀ a b, (le a b || le b a) = true) : ∀ l : List α, isort le l = l.mergeSort le
  | [] => by rw [List.mergeSort_nil]; rfl
  | a :: r => by
    obtain ⟨l₁, l₂, h1, h2, h3⟩ := List.mergeSort_cons tr tot a r
    have hs := List.pairwise_mergeSort tr tot (a :: r)
    rw [h1] at hs ⊢
    show insW le a (isort le r) = _
    rw [isort_eq tr tot r, h2]
    refine insW_split (fun b hb => by simpa using h3 b hb) fun b hb => ?_
    have h4 := (List.pairwise_append.mp hs).2.1
    cases l₂ with
    | nil => cases hb
    | cons c t =>
      cases hb
      exact (List.pairwise_cons.mp h4).1 _ (List.mem_cons_self ..)
end Pm

namespace Pm
open PySem PySem.Spec PyProof.Rows L2 PySem.SeqAt

/-! ### sorted -/
def isTupD : PyData → Bool
  | .tuple (_ :: _) => true
  | _ => false
def plainD : PyData → Bool
  | .none => false
  | .tuple _ => false
  | _ => true
def sortB (ds : List PyData) : Bool := (ds.all fun a => ds.all fun b => PySem.W.alike a b) && ((ds.all isTupD) || (ds.all plainD)) && decide (ds.length ≤ 16777216)
def leW (S : Sto) (a b : W) : Bool := !PySem.W.dataLt ((datF S b).getD .none) ((datF S a).getD .none)
def sortedO (S : Sto) : List W → Option O
  | [x] => match lstO S x with
    | some ws => match mapO (datF S) ws with
      | some ds => if sortB ds = true then some (.lst (isort (leW S) ws)) else none
      | none => none
    | none => none
  | _ => none
theorem mapO_map {α β : Type} {f : α → Option β} (d : β) : ∀ {xs : List α} {ys : List β}, mapO f xs = some ys → ys = xs.map fun x => (f x).getD d
  | [], ys, h => mapO_nil h
  | x :: xs, ys, h => by
    obtain ⟨y, r, rfl, h1, h2⟩ := mapO_cons h
    rw [List.map_cons, h1, ← mapO_map d h2]
    rfl
section
variable {X : Cx} {pins : List (Addr × Obj)} {σ : L2.St} {H : Hp} {s : Shared} {B m : List Addr} {S : Sto}
theorem each_of (I : Inv X pins σ H s) (r : Rep (gOf X) B m S H) : ∀ {ws : List W} {vs : List V} {us : List Value} {ds : List PyData}, DenL (gOf X) (B ++ m) m H ws vs → Vals vs us → mapO (datF S) ws = some ds →
    PySem.W.EachIs (fun u w => ∃ v, RelV v u ∧ Den (gOf X) (B ++ m) m H w v) us ws ∧ PySem.W.EachIs (fun u w => ∃ as, Reads s.heap u ((datF S w).getD .none) as) us ws := by
  intro ws
  induction ws with
  | nil =>
    intro vs us ds l rv e
    cases l
    cases rv
    exact ⟨.nil, .nil⟩
  | cons w ws ih =>
    intro vs us ds l rv e
    obtain ⟨y, t, rfl, e1, e2⟩ := mapO_cons e
    cases l with
    | cons d l =>
      cases rv with
      | cons r1 rv =>
        obtain ⟨h1, h2⟩ := ih l rv e2
        obtain ⟨hr, _, _⟩ := reads_of I r DEP d r1 e1
        refine ⟨.cons ⟨_, r1, d⟩ h1, .cons ?_ h2⟩
        have e3 : (datF S w).getD .none = y := by rw [e1]; rfl
        rw [e3]
        exact hr
theorem den_each {g : G} {A m : List Addr} {H : Hp} : ∀ {us : List Value} {ws : List W}, PySem.W.EachIs (fun u w => ∃ v, RelV v u ∧ Den g A m H w v) us ws → ∃ vs, Vals vs us ∧ DenL g A m H ws vs
  | _, _, .nil => ⟨[], .nil, .nil⟩
  | _, _, .cons ⟨v, r, d⟩ t => let ⟨vs, h1, h2⟩ := den_each t; ⟨v :: vs, .cons r h1, .cons d h2⟩
theorem each_length {α β : Type} {R : α → β → Prop} : ∀ {as : List α} {bs : List β}, PySem.W.EachIs R as bs → as.length = bs.length
  | _, _, .nil => rfl
  | _, _, .cons _ t => congrArg Nat.succ (each_length t)
theorem insW_length {α : Type} (le : α → α → Bool) (a : α) : ∀ l : List α, (insW le a l).length = l.length + 1
  | [] => rfl
  | b :: r => by
    unfold insW
    split
    · rfl
    · rw [List.length_cons, insW_length le a r]
      rfl
theorem isort_length {α : Type} (le : α → α → Bool) : ∀ l : List α, (isort le l).length = l.length
  | [] => rfl
  | a :: r => by
    show (insW le a (isort le r)).length = _
    rw [insW_length, isort_length le r]
    rfl
theorem sortB_ok {ds : List PyData} (h : sortB ds = true) : PySem.W.AllAlike ds ∧ PySem.W.Sortable ds ∧ ds.length ≤ 16777216 := by
  unfold sortB at h
  simp only [Bool.and_eq_true, Bool.or_eq_true, List.all_eq_true, decide_eq_true_eq] at h
  obtain ⟨⟨h1, h2⟩, h3⟩ := h
  refine ⟨fun d hd d' hd' => h1 d hd d' hd', ?_, h3⟩
  rcases h2 with h2 | h2
  · refine .inl fun d hd => ?_
    have q := h2 d hd
    unfold isTupD at q
    split at q
    · exact ⟨_, _, rfl⟩
    · cases q
  · refine .inr fun d hd => ?_
    have q := h2 d hd
    refine ⟨fun e => ?_, fun xs e => ?_⟩
    · rw [e] at q
      cases q
    · rw [e] at q
      cases q
theorem leW_sort (S : Sto) (ws : List W) : isort (leW S) ws = ws.mergeSort (PySem.W.dataLe false fun w => (datF S w).getD .none) := by
  have t := PySem.W.sortLe_total (PyProof.Rows.listOrd PyProof.Rows.itemOrd) false fun w : W => PySem.W.keyToks ((datF S w).getD .none)
  have e : leW S = PySem.W.dataLe false fun w => (datF S w).getD .none := rfl
  rw [e]
  exact isort_eq (fun a b c => t.trans a b c) (fun a b => by rw [Bool.or_eq_true]; exact t.total a b) ws
end
section
variable {X : Cx}
theorem c_sorted (hu : X.A.units + 64 < cLine) : CallF X (.builtin "sorted") sortedO := by
  intro pins s σ H xs us Q I rx ⟨B, m, S, ws, w, r, d, e, q⟩
  unfold sortedO at e
  split at e
  · split at e
    · rename_i ys e1
      split at e
      · rename_i ds e2
        split at e
        · rename_i hb
          cases e
          obtain ⟨v, rfl, dv⟩ := d.one
          obtain ⟨a, vs, rfl, hl, l⟩ := den_lst r dv e1
          obtain ⟨u, rfl, ru⟩ := vals1 rx
          cases ru
          obtain ⟨its, rv, pl, hz⟩ := I.list hl
          obtain ⟨h1, h2⟩ := each_of I r l rv e2
          obtain ⟨b1, b2, b3⟩ := sortB_ok hb
          rw [mapO_map .none e2] at b1 b2 b3
          rw [List.length_map] at b3
          refine PySem.W.sorted_data (enc := fun w => (datF S w).getD .none) pl.isList h1 h2 b1 b2 (by rw [sizeLine_eq]; exact b3) (fun b hb => ?_) fun out hlen ho => ?_
          · have e3 : ∃ d, datF S b = some d := by
              cases q : datF S b with
              | some d => exact ⟨d, rfl⟩
              | none =>
                have : ∀ {l : List W} {ds : List PyData}, mapO (datF S) l = some ds → b ∈ l → False := by
                  intro l
                  induction l with
                  | nil => intro ds _ hm; cases hm
                  | cons c l ih =>
                    intro ds hd hm
                    obtain ⟨y, t, rfl, f1, f2⟩ := mapO_cons hd
                    rcases List.mem_cons.mp hm with z | z
                    · rw [← z, q] at f1; cases f1
                    · exact ih f2 z
                exact (this e2 hb).elim
            obtain ⟨d, e3⟩ := e3
            obtain ⟨j, hj⟩ := List.mem_iff_getElem?.mp hb
            obtain ⟨v', hv, dv'⟩ := l.get hj
            obtain ⟨u', hu', ru'⟩ := rv.get hv
            obtain ⟨_, _, hd⟩ := reads_of I r DEP dv' ru' e3
            show X.A.units + 2 + ((datF S b).getD .none).depth < cLine
            rw [e3]
            show X.A.units + 2 + d.depth < cLine
            have : DEP = 20 := rfl
            omega
          · obtain ⟨vs', k1, k2⟩ := den_each ho
            rw [← leW_sort] at k2
            have hp : H (s.heap.objs.size + 1) = none := I.hok.fresh (Nat.le_succ _)
            obtain ⟨ep, he'⟩ := PyProof.Rows.sortedAll_at s.heap its out.toArray
            have hl' : vs'.length ≤ sizeLine := by rw [← k2.length, isort_length, sizeLine_eq]; exact b3
            obtain ⟨x1, x2, x3⟩ := r.newL hp k2
            exact ⟨.ref _, upd H (s.heap.objs.size + 1) (.lst vs'), I.laid (t' := s.toks) (fun _ _ => PyProof.Rows.sortedAll_old) (Nat.le_succ _) ⟨hl', out, ep, k1, he'⟩, rfl, q _ _ x1 hp x2 x3⟩
        · cases e
      · cases e
    · cases e
  · cases e
end
/-! ### min, max of a list of plain data -/
/-- no list, no reference within -/
def pureW : Nat → W → Bool
  | 0, _ => false
  | n + 1, w => match w with
    | .non => true
    | .bl _ => true
    | .int _ => true
    | .str _ => true
    | .tup ws => ws.all (pureW n)
    | _ => false
def minW (S : Sto) (x : W) (xs : List W) : W := xs.foldl (fun a y => if PySem.W.dataLt ((datF S y).getD .none) ((datF S a).getD .none) = true then y else a) x
def maxW (S : Sto) (x : W) (xs : List W) : W := xs.foldl (fun a y => if PySem.W.dataLt ((datF S a).getD .none) ((datF S y).getD .none) = true then y else a) x
def alikeB (ds : List PyData) : Bool := (ds.all fun a => ds.all fun b => PySem.W.alike a b) && ds.all fun a => !noneD a
def extrO (f : Sto → W → List W → W) (S : Sto) : List W → Option W
  | [x] => match seqO S x with
    | some (w :: ws) => match mapO (datF S) (w :: ws) with
      | some ds => if (alikeB ds && (w :: ws).all (pureW DEP)) = true then some (f S w ws) else none
      | none => none
    | _ => none
  | _ => none
theorem pure_inj (S : Sto) : ∀ (n : Nat) {a b : W}, pureW n a = true → pureW n b = true → ∀ {d : PyData}, dat S n a = some d → dat S n b = some d → a = b
  | 0, _, _, h, _, _, _, _ => by cases h
  | n + 1, a, b, ha, hb, d, ea, eb => by
    have ih : ∀ {as bs : List W} {ds : List PyData}, as.all (pureW n) = true → bs.all (pureW n) = true → mapO (dat S n) as = some ds → mapO (dat S n) bs = some ds → as = bs := by
      intro as
      induction as with
      | nil =>
        intro bs ds _ _ e1 e2
        cases mapO_nil e1
        cases bs with
        | nil => rfl
        | cons b bs =>
          obtain ⟨_, _, z, _⟩ := mapO_cons e2
          cases z
      | cons a as iha =>
        intro bs ds h1 h2 e1 e2
        obtain ⟨y, r, rfl, f1, f2⟩ := mapO_cons e1
        cases bs with
        | nil => cases mapO_nil e2
        | cons b bs =>
          obtain ⟨y', r', z, g1, g2⟩ := mapO_cons e2
          cases z
          simp only [List.all_cons, Bool.and_eq_true] at h1 h2
          rw [pure_inj S n h1.1 h2.1 f1 g1, iha h1.2 h2.2 f2 g2]
    unfold pureW at ha hb
    unfold dat at ea eb
    cases a with
    | tup as =>
      obtain ⟨ds, e1, rfl⟩ := opt_map ea
      cases b with
      | tup bs =>
        obtain ⟨ds', e2, z⟩ := opt_map eb
        cases z
        rw [ih ha hb e1 e2]
      | vl _ => cases hb
      | vd _ => cases hb
      | ref _ => cases hb
      | fn _ => cases hb
      | _ => cases eb
    | vl _ => cases ha
    | vd _ => cases ha
    | ref _ => cases ha
    | fn _ => cases ha
    | non =>
      cases ea
      cases b with
      | tup bs => obtain ⟨_, _, z⟩ := opt_map eb; cases z
      | vl _ => cases hb
      | vd _ => cases hb
      | ref _ => cases hb
      | fn _ => cases hb
      | _ => cases eb <;> rfl
    | bl _ =>
      cases ea
      cases b with
      | tup bs => obtain ⟨_, _, z⟩ := opt_map eb; cases z
      | vl _ => cases hb
      | vd _ => cases hb
      | ref _ => cases hb
      | fn _ => cases hb
      | _ => cases eb <;> rfl
    | int _ =>
      cases ea
      cases b with
      | tup bs => obtain ⟨_, _, z⟩ := opt_map eb; cases z
      | vl _ => cases hb
      | vd _ => cases hb
      | ref _ => cases hb
      | fn _ => cases hb
      | _ => cases eb <;> rfl
    | str _ =>
      cases ea
      cases b with
      | tup bs => obtain ⟨_, _, z⟩ := opt_map eb; cases z
      | vl _ => cases hb
      | vd _ => cases hb
      | ref _ => cases hb
      | fn _ => cases hb
      | _ => cases eb <;> rfl
theorem mapO_mem {α β : Type} {f : α → Option β} : ∀ {xs : List α} {ys : List β}, mapO f xs = some ys → ∀ x ∈ xs, ∃ y, f x = some y
  | [], _, _, _, h => by cases h
  | a :: xs, ys, e, x, h => by
    obtain ⟨y, r, rfl, e1, e2⟩ := mapO_cons e
    rcases List.mem_cons.mp h with z | z
    · rw [z]; exact ⟨y, e1⟩
    · exact mapO_mem e2 x z
theorem foldl_pick {α : Type} {f : α → α → α} (hf : ∀ a y, f a y = a ∨ f a y = y) : ∀ (l : List α) (x : α), l.foldl f x = x ∨ l.foldl f x ∈ l
  | [], x => .inl rfl
  | y :: l, x => by
    rcases foldl_pick hf l (f x y) with h | h
    · rcases hf x y with e | e
      · rw [List.foldl_cons, h, e]; exact .inl rfl
      · rw [List.foldl_cons, h, e]; exact .inr (List.mem_cons_self ..)
    · exact .inr (List.mem_cons_of_mem _ h)
theorem foldl_dat {S : Sto} {c : PyData → PyData → Bool} : ∀ {ws : List W} {ds : List PyData} {x : W} {d : PyData}, mapO (datF S) ws = some ds → datF S x = some d →
    datF S (ws.foldl (fun a y => if c ((datF S a).getD .none) ((datF S y).getD .none) = true then y else a) x) = some (ds.foldl (fun a y => if c a y = true then y else a) d)
  | [], _, x, d, e, ex => by cases mapO_nil e; exact ex
  | w :: ws, ds, x, d, e, ex => by
    obtain ⟨y, r, rfl, e1, e2⟩ := mapO_cons e
    rw [List.foldl_cons, List.foldl_cons]
    rw [ex, e1]
    show datF S (ws.foldl _ (if c d y = true then w else x)) = _
    by_cases h : c d y = true
    · rw [if_pos h, if_pos h]; exact foldl_dat e2 e1
    · rw [if_neg h, if_neg h]; exact foldl_dat e2 ex
theorem alikeAll_of {ds : List PyData} (h : alikeB ds = true) : PySem.W.AlikeAll ds := by
  unfold alikeB at h
  simp only [Bool.and_eq_true, List.all_eq_true] at h
  refine ⟨fun x hx y hy => h.1 x hx y hy, fun x hx e => ?_⟩
  have q := h.2 x hx
  rw [e] at q
  cases q
section
variable {X : Cx}
/-- the item that the rule tells of is the one that the mirror names -/
theorem extr_fin {pins : List (Addr × Obj)} {σ : L2.St} {H : Hp} {s : Shared} {B m : List Addr} {S : Sto} {Q : VK} {h' : Heap} {tk : Nat} (I : Inv X pins σ H s) (r : Rep (gOf X) B m S H) {w : W} {ws : List W} {vs : List V} {its : List Value} {d : PyData} {ds : List PyData} {as : List Addr} {i : Nat} {v : Value} {k : W} {dk : PyData}
    (l : DenL (gOf X) (B ++ m) m H (w :: ws) vs) (rv : Vals vs its) (e2 : mapO (datF S) (w :: ws) = some (d :: ds)) (hp : (w :: ws).all (pureW DEP) = true) (hk : k ∈ w :: ws) (ek : datF S k = some dk) (hv : its[i]? = some v) (rd : Reads h' v dk as) (kp : ∀ b o, s.heap.get? b = some o → h'.get? b = some o)
    (q : ∀ H' v, Ext m H m H' → Rep (gOf X) B m S H' → Den (gOf X) (B ++ m) m H' k v → Q v H') : EP X pins σ Q v { s with heap := h', toks := tk } := by
  have hi : i < (w :: ws).length := by
    rw [l.length, rv.length]
    exact (List.getElem?_eq_some_iff.mp hv).1
  have ew : (w :: ws)[i]? = some (w :: ws)[i] := List.getElem?_eq_getElem hi
  obtain ⟨z, hz, dz⟩ := l.get ew
  obtain ⟨u, hu, ru⟩ := rv.get hz
  rw [hv] at hu
  cases hu
  have hm : (w :: ws)[i] ∈ w :: ws := List.getElem_mem hi
  obtain ⟨di, edi⟩ := mapO_mem e2 _ hm
  obtain ⟨⟨bs, rdi⟩, pi, _⟩ := reads_of I r DEP dz ru edi
  have e := plain_unique _ _ _ _ _ pi (PyProof.Rows.Reads.keeps kp rdi) rd
  rw [e] at edi
  have hpa := List.all_eq_true.mp hp
  have ee := pure_inj S DEP (hpa _ hm) (hpa _ hk) edi ek
  rw [ee] at dz
  exact ⟨z, H, I.kept kp, ru, q H z (Ext.refl _ _) r dz⟩
theorem extr_call {id : String} {f : Sto → W → List W → W} {fd : PyData → List PyData → PyData} (hu : X.A.units + 64 < cLine)
    (fk : ∀ S w ws, f S w ws ∈ w :: ws) (fe : ∀ {S w ws d ds}, mapO (datF S) ws = some ds → datF S w = some d → datF S (f S w ws) = some (fd d ds))
    (rl : ∀ {s : Shared} {l : Addr} {vs : Array Value} {x : PyData} {xs : List PyData} {as : List Addr} {Q : Value → Shared → Prop}, s.heap.IsList l vs → ReadsAll s.heap vs.toList (x :: xs) as → PySem.W.AlikeAll (x :: xs) → X.A.units + 1 + PyData.depthAll (x :: xs) < cLine →
      (∀ (i : Nat) v h' tk bs, vs[i]? = some v → Reads h' v (fd x xs) bs → (∀ b o, s.heap.get? b = some o → h'.get? b = some o) → Q v { s with heap := h', toks := tk }) → wpAny (model X.prog X.w) X.A (call (.builtin id) [.ref l]) Q X.xe s)
    (rt : ∀ {s : Shared} {l : Addr} {vs : Array Value} {x : PyData} {xs : List PyData} {as : List Addr} {Q : Value → Shared → Prop}, s.heap.IsTuple l vs → ReadsAll s.heap vs.toList (x :: xs) as → PySem.W.AlikeAll (x :: xs) → X.A.units + 1 + PyData.depthAll (x :: xs) < cLine →
      (∀ (i : Nat) v h' tk bs, vs[i]? = some v → Reads h' v (fd x xs) bs → (∀ b o, s.heap.get? b = some o → h'.get? b = some o) → Q v { s with heap := h', toks := tk }) → wpAny (model X.prog X.w) X.A (call (.builtin id) [.ref l]) Q X.xe s) :
    CallO X (.builtin id) (extrO f) := by
  intro pins s σ H xs us Q I rx ⟨B, m, S, ws, w, r, d, e, q⟩
  unfold extrO at e
  split at e
  · split at e
    · rename_i x y ys e1
      split at e
      · rename_i ds e2
        split at e
        · rename_i hb
          cases e
          simp only [Bool.and_eq_true] at hb
          obtain ⟨v, rfl, dv⟩ := d.one
          obtain ⟨a, vs, rfl, hl, l⟩ := den_seq r dv e1
          obtain ⟨u, rfl, ru⟩ := vals1 rx
          cases ru
          obtain ⟨dd, dr, rfl, f1, f2⟩ := mapO_cons e2
          have ha := alikeAll_of hb.1
          have kd := fe f2 f1
          rcases hl with hl | hl
          · obtain ⟨its, rv, pl, hz⟩ := I.list hl
            obtain ⟨⟨as, ra⟩, _, dep⟩ := readsAll_of (fun h1 h2 h3 => reads_of I r DEP h1 h2 h3) l rv e2
            have : DEP = 20 := rfl
            exact rl pl.isList (by simpa using ra) ha (by omega) fun i v h' tk bs hv rd kp => extr_fin I r l rv e2 hb.2 (fk _ _ _) kd (by simpa using hv) rd kp q
          · obtain ⟨its, rv, pl, hz⟩ := I.tuple hl
            obtain ⟨⟨as, ra⟩, _, dep⟩ := readsAll_of (fun h1 h2 h3 => reads_of I r DEP h1 h2 h3) l rv e2
            have : DEP = 20 := rfl
            exact rt (show s.heap.IsTuple a its.toArray from pl) (by simpa using ra) ha (by omega) fun i v h' tk bs hv rd kp => extr_fin I r l rv e2 hb.2 (fk _ _ _) kd (by simpa using hv) rd kp q
        · cases e
      · cases e
    · cases e
  · cases e
theorem pick_mem {c : W → W → Bool} (w : W) (ws : List W) : ws.foldl (fun a y => if c a y = true then y else a) w ∈ w :: ws := by
  rcases foldl_pick (f := fun a y => if c a y = true then y else a) (fun a y => by by_cases h : c a y = true <;> simp [h]) ws w with h | h
  · rw [h]; exact List.mem_cons_self ..
  · exact List.mem_cons_of_mem _ h
theorem c_min (hc : X.calm = true) (hu : X.A.units + 64 < cLine) : CallO X (.builtin "min") (extrO minW) := by
  intro pins s σ H xs us Q I
  have hh := I.ok.hd hc
  exact extr_call (fd := PySem.W.minD) hu (fun S w ws => pick_mem (c := fun a y => PySem.W.dataLt ((datF S y).getD .none) ((datF S a).getD .none)) w ws) (fun e1 e2 => foldl_dat (c := fun a y => PySem.W.dataLt y a) e1 e2)
    (fun hl hr ha hu h => PySem.W.min_list_data hh hl hr ha hu h) (fun hl hr ha hu h => PySem.W.min_tuple_data hh hl hr ha hu h) pins s σ H xs us Q I
theorem c_max (hc : X.calm = true) (hu : X.A.units + 64 < cLine) : CallO X (.builtin "max") (extrO maxW) := by
  intro pins s σ H xs us Q I
  have hh := I.ok.hd hc
  exact extr_call (fd := PySem.W.maxD) hu (fun S w ws => pick_mem (c := fun a y => PySem.W.dataLt ((datF S a).getD .none) ((datF S y).getD .none)) w ws) (fun e1 e2 => foldl_dat (c := fun a y => PySem.W.dataLt a y) e1 e2)
    (fun hl hr ha hu h => PySem.W.max_list_data hh hl hr ha hu h) (fun hl hr ha hu h => PySem.W.max_tuple_data hh hl hr ha hu h) pins s σ H xs us Q I
/-! membership of lists and tuples -/
theorem in_seqW (hu : X.A.units + 64 < cLine) (neg : Bool) (op : CmpOp)
    (rl : ∀ {s : Shared} {c x : Value} {xs : List PyData} {d : PyData} {as bs : List Addr} {Q : Value → Shared → Prop}, Reads s.heap c (.list xs) as → Reads s.heap x d bs → PyData.plainAll xs = true → d.plain = true → X.A.units + 1 + min (PyData.depthAll xs) d.depth < cLine → Q (.bool (neg ^^ xs.any fun y => PyData.eqv y d)) s → wpAny (model X.prog X.w) X.A (compareOp op x c) Q X.xe s)
    (rt : ∀ {s : Shared} {c x : Value} {xs : List PyData} {d : PyData} {as bs : List Addr} {Q : Value → Shared → Prop}, Reads s.heap c (.tuple xs) as → Reads s.heap x d bs → PyData.plainAll xs = true → d.plain = true → X.A.units + 1 + min (PyData.depthAll xs) d.depth < cLine → Q (.bool (neg ^^ xs.any fun y => PyData.eqv y d)) s → wpAny (model X.prog X.w) X.A (compareOp op x c) Q X.xe s)
    {pins : List (Addr × Obj)} {s : Shared} {σ : L2.St} {H : Hp} {B m : List Addr} {S : Sto} {x y : V} {wx wy : W} {u v : Value} {k : Bool} {Q : VK} (I : Inv X pins σ H s) (rx : RelV x u) (ry : RelV y v) (r : Rep (gOf X) B m S H) (dx : Den (gOf X) (B ++ m) m H wx x) (dy : Den (gOf X) (B ++ m) m H wy y) (e : inO S wx wy = some (.bl k)) (q : Q (.bl (neg ^^ k)) H) :
    wpAny (model X.prog X.w) X.A (compareOp op u v) (EP X pins σ Q) X.xe s := by
  unfold inO at e
  split at e
  · rename_i ys e1
    split at e
    · rename_i d ds e2 e3
      cases e
      obtain ⟨a, vs, rfl, hl, l⟩ := den_seq r dy e1
      cases ry
      obtain ⟨⟨bs, rd⟩, pd, qd⟩ := reads_of I r DEP dx rx e2
      have : DEP = 20 := rfl
      rcases hl with hl | hl
      · obtain ⟨its, rv, ⟨o, n, p1, p2, _, p4⟩, hz⟩ := I.list hl
        obtain ⟨⟨as, ra⟩, pa, dep⟩ := readsAll_of (fun h1 h2 h3 => reads_of I r DEP h1 h2 h3) l rv e3
        exact rl (.list p1 p2 p4 (by simpa using ra)) rd pa pd (by omega) ⟨.bl _, H, I, rfl, q⟩
      · obtain ⟨its, rv, ⟨o, p1, p2, n, p4⟩, hz⟩ := I.tuple hl
        obtain ⟨⟨as, ra⟩, pa, dep⟩ := readsAll_of (fun h1 h2 h3 => reads_of I r DEP h1 h2 h3) l rv e3
        exact rt (.tuple p1 p2 p4 (by simpa using ra)) rd pa pd (by omega) ⟨.bl _, H, I, rfl, q⟩
    · cases e
  · cases e
theorem inO_bl {S : Sto} {x y w : W} (h : inO S x y = some w) : ∃ k, w = .bl k := by
  unfold inO at h
  split at h
  · split at h
    · cases h; exact ⟨_, rfl⟩
    · cases h
  · cases h
theorem o_in (hu : X.A.units + 64 < cLine) : Op2 X (compareOp .In) inO := by
  intro pins s σ H x y u v Q I rx ry ⟨B, m, S, wx, wy, w, r, dx, dy, e, q⟩
  obtain ⟨k, rfl⟩ := inO_bl e
  exact in_seqW hu false .In (fun a b c d e q => in_list_data a b c d e (by simpa using q)) (fun a b c d e q => in_tuple_data a b c d e (by simpa using q)) I rx ry r dx dy e (by simpa using q H _ (Ext.refl _ _) r (.bl k))
theorem o_notIn (hu : X.A.units + 64 < cLine) : Op2 X (compareOp .NotIn) notInO := by
  intro pins s σ H x y u v Q I rx ry ⟨B, m, S, wx, wy, w, r, dx, dy, e, q⟩
  unfold notInO at e
  split at e
  · rename_i k e1
    cases e
    exact in_seqW hu true .NotIn (fun a b c d e q => notIn_list_data a b c d e (by simpa using q)) (fun a b c d e q => notIn_tuple_data a b c d e (by simpa using q)) I rx ry r dx dy e1 (by simpa using q H _ (Ext.refl _ _) r (.bl (!k)))
  · cases e
end
end Pm

namespace Pm
open PySem PySem.Spec PyProof.Rows L2 PySem.SeqAt

/-! ### statements -/
inductive Fl where
  | nx | rt (w : W) | bk | ct
abbrev Cm := Rho → M (Fl × Rho)
def EndOk (g : G) (B : List Addr) (D : Ends) (m' : List Addr) (σ' : L2.St) (H' : Hp) : Fl → Prop
  | .nx => D.nx σ' H'
  | .bk => D.bk σ' H'
  | .ct => D.ct σ' H'
  | .rt w => ∀ v, Den g (B ++ m') m' H' w v → D.rt v H'
def PostS (g : G) (Wx : WX) (B : List Addr) (D : Ends) (m : List Addr) (H : Hp) (r : R (Fl × Rho)) : Prop := match r with
  | .ok (fl, ρ') S' => ∀ m' H' σ', Ext m H m' H' → Rep g B m' S' H' → DenE g (B ++ m') m' H' ρ' σ' → EndOk g B D m' σ' H' fl
  | .exc C S' => ∀ m' H' a σ', Ext m H m' H' → Rep g B m' S' H' → g.mg C = some (.ref a) → Wx (.ref a) none σ' H'
  | .stuck => False
theorem zPostS {g : G} {Wx : WX} {B : List Addr} {σ : L2.St} {D : Ends} : Zok g Wx B σ (PostS g Wx B D) := ⟨fun {m H m1 H1 r} h e => by
  cases r with
  | ok o S' => exact fun m' H' σ' x rp => h m' H' σ' (e.trans x) rp
  | exc C S' => exact fun m' H' a σ' x rp => h m' H' a σ' (e.trans x) rp
  | stuck => exact h, fun h m' H' a x rp e => h m' H' a _ x rp e, fun h => h⟩
def TSm (g : G) (Wx : WX) (c : Cm) : TS := fun D σ H => ∃ B m S ρ, Rep g B m S H ∧ DenE g (B ++ m) m H ρ σ ∧ PostS g Wx B D m H (c ρ S)
abbrev MS (X : Cx) (Wx : WX) (st : Stmt) (c : Cm) : Prop := PS X st (TSm (gOf X) Wx c)
abbrev MSs (X : Cx) (Wx : WX) (st : List Stmt) (c : Cm) : Prop := PSs X st (TSm (gOf X) Wx c)
theorem PostS.fin {g : G} {Wx : WX} {B m : List Addr} {D : Ends} {H : Hp} {fl : Fl} {ρ : Rho} {S : Sto} {σ : L2.St} (h : PostS g Wx B D m H ((pure (fl, ρ) : M (Fl × Rho)) S)) (r : Rep g B m S H) (d : DenE g (B ++ m) m H ρ σ) : EndOk g B D m σ H fl :=
  h m H σ (Ext.refl _ _) r d
/-- a part, its ends told by what follows -/
theorem PostS.bind {g : G} {Wx : WX} {B m : List Addr} {D D' : Ends} {H : Hp} {x : M (Fl × Rho)} {k : Fl × Rho → M (Fl × Rho)} {S : Sto} (h : PostS g Wx B D m H ((x >>= k) S))
    (hk : ∀ fl ρ S1 m1 H1 σ1, Ext m H m1 H1 → Rep g B m1 S1 H1 → DenE g (B ++ m1) m1 H1 ρ σ1 → PostS g Wx B D m1 H1 (k (fl, ρ) S1) → EndOk g B D' m1 σ1 H1 fl) : PostS g Wx B D' m H (x S) := by
  cases e : x S with
  | ok a S1 =>
    obtain ⟨fl, ρ⟩ := a
    rw [bind_ok e] at h
    exact fun m1 H1 σ1 x1 r1 d1 => hk fl ρ S1 m1 H1 σ1 x1 r1 d1 (zPostS (σ := σ1).step h x1)
  | exc C S1 =>
    rw [bind_exc e] at h
    exact h
  | stuck =>
    rw [bind_stuck e] at h
    exact h
section
variable {X : Cx} {Wx : WX} {st : Stmt} {rest : List Stmt} {c c1 c2 : Cm} {e a b : Expr} {ce ca cb : Rho → M W} {pos : Pos}
def cNx : Cm := fun ρ => pure (.nx, ρ)
theorem ss_nil : MSs X Wx [] cNx := pss_nil.imp fun D σ H ⟨B, m, S, ρ, r, d, p⟩ => p.fin r d
def seqC (c1 c2 : Cm) : Cm := fun ρ => do
  let p ← c1 ρ
  match p.1 with
  | .nx => c2 p.2
  | f => pure (f, p.2)
theorem ss_cons (h1 : MS X Wx st c1) (h2 : MSs X Wx rest c2) : MSs X Wx (st :: rest) (seqC c1 c2) := (pss_cons h1 h2).imp fun D σ H ⟨B, m, S, ρ, r, d, p⟩ => by
  refine ⟨B, m, S, ρ, r, d, p.bind fun fl ρ1 S1 m1 H1 σ1 x1 r1 d1 p1 => ?_⟩
  cases fl with
  | nx => exact ⟨B, m1, S1, ρ1, r1, d1, p1⟩
  | bk => exact p1.fin r1 d1
  | ct => exact p1.fin r1 d1
  | rt w => exact p1.fin r1 d1
theorem ss_one (h1 : MS X Wx st c1) : MSs X Wx [st] c1 := pss_one h1
theorem s_pass : MS X Wx (.Pass pos) cNx := ps_pass.imp fun D σ H ⟨B, m, S, ρ, r, d, p⟩ => p.fin r d
theorem s_break : MS X Wx (.Break pos) (fun ρ => pure (.bk, ρ)) := ps_break.imp fun D σ H ⟨B, m, S, ρ, r, d, p⟩ => p.fin r d
theorem s_continue : MS X Wx (.Continue pos) (fun ρ => pure (.ct, ρ)) := ps_continue.imp fun D σ H ⟨B, m, S, ρ, r, d, p⟩ => p.fin r d
theorem s_expr (he : ME X Wx e ce) (hs : swapsWith e none pos.line X.env = pure false := by rfl) : MS X Wx (.Expr e pos) (fun ρ => do let _ ← ce ρ; pure (.nx, ρ)) := (ps_expr he hs).imp fun D σ H ⟨B, m, S, ρ, r, d, p⟩ =>
  TM.to (zPostS (σ := σ)) r d p fun w S1 m1 H1 v e1 r1 d1 dv p1 c1 => p1.fin r1 d1
def cRet (ce : Rho → M W) : Cm := fun ρ => do let w ← ce ρ; pure (.rt w, ρ)
theorem s_ret (he : ME X Wx e ce) : MS X Wx (.Return (some e) pos) (cRet ce) := (ps_ret he).imp fun D σ H ⟨B, m, S, ρ, r, d, p⟩ =>
  TM.to (zPostS (σ := σ)) r d p fun w S1 m1 H1 v e1 r1 d1 dv p1 c1 => p1.fin r1 d1 v dv
theorem s_retN : MS X Wx (.Return none pos) (fun ρ => pure (.rt .non, ρ)) := ps_retN.imp fun D σ H ⟨B, m, S, ρ, r, d, p⟩ => p.fin r d _ .non
def cIfS (t : Rho → M Bool) (c1 c2 : Cm) : Cm := fun ρ => do let k ← t ρ; if k = true then c1 ρ else c2 ρ
theorem s_if {t : Expr} {s1 s2 : List Stmt} {ct : Rho → M Bool} (ht : MT X Wx t ct) (h1 : MSs X Wx s1 c1) (h2 : MSs X Wx s2 c2) : MS X Wx (.If t s1 s2 pos) (cIfS ct c1 c2) := (ps_if ht h1 h2).imp fun D σ H ⟨B, m, S, ρ, r, d, p⟩ =>
  TB.to (zPostS (σ := σ)) r d p fun k S1 m1 H1 e1 r1 d1 p1 c1 => by
    cases k with
    | true => exact ⟨B, m1, S1, ρ, r1, d1, p1⟩
    | false => exact ⟨B, m1, S1, ρ, r1, d1, p1⟩
/-! targets -/
/-- whatever the slots are where it raises -/
def PostA {α : Type} (g : G) (Wx : WX) (B m : List Addr) (H : Hp) (r : R α) (P : List Addr → Hp → α → Prop) : Prop := match r with
  | .ok a S' => ∀ m' H', Ext m H m' H' → Rep g B m' S' H' → P m' H' a
  | .exc C S' => ∀ m' H' a σ', Ext m H m' H' → Rep g B m' S' H' → g.mg C = some (.ref a) → Wx (.ref a) none σ' H'
  | .stuck => False
theorem zPostA {α : Type} {g : G} {Wx : WX} {B : List Addr} {σ : L2.St} {P : List Addr → Hp → α → Prop} : Zok g Wx B σ (fun m H r => PostA g Wx B m H r P) := ⟨fun {m H m1 H1 r} h e => by
  cases r with
  | ok o S' => exact fun m' H' x rp => h m' H' (e.trans x) rp
  | exc C S' => exact fun m' H' a σ' x rp => h m' H' a σ' (e.trans x) rp
  | stuck => exact h, fun h m' H' a x rp e => h m' H' a _ x rp e, fun h => h⟩
theorem PostA.bind {g : G} {Wx : WX} {B m : List Addr} {H : Hp} {α β : Type} {x : M α} {f : α → M β} {S : Sto} {P : List Addr → Hp → β → Prop} {P1 : List Addr → Hp → α → Prop} (h : PostA g Wx B m H ((x >>= f) S) P)
    (k : ∀ a S1 m1 H1, x S = .ok a S1 → Ext m H m1 H1 → Rep g B m1 S1 H1 → PostA g Wx B m1 H1 (f a S1) P → P1 m1 H1 a) : PostA g Wx B m H (x S) P1 := by
  cases e : x S with
  | ok a S1 =>
    rw [bind_ok e] at h
    exact fun m1 H1 x1 r1 => k a S1 m1 H1 e x1 r1 (zPostA (σ := []).step h x1)
  | exc C S1 =>
    rw [bind_exc e] at h
    exact h
  | stuck =>
    rw [bind_stuck e] at h
    exact h
theorem PostA.imp {g : G} {Wx : WX} {B m : List Addr} {H : Hp} {α : Type} {r : R α} {P P' : List Addr → Hp → α → Prop} (h : PostA g Wx B m H r P) (k : ∀ m' H' a, Ext m H m' H' → P m' H' a → P' m' H' a) : PostA g Wx B m H r P' := by
  cases r with
  | ok a S' => exact fun m' H' x rp => k _ _ _ x (h m' H' x rp)
  | exc C S' => exact h
  | stuck => exact h
theorem PostA.ret {g : G} {Wx : WX} {B m : List Addr} {H : Hp} {α : Type} {a : α} {S : Sto} {P : List Addr → Hp → α → Prop} (h : PostA g Wx B m H ((pure a : M α) S) P) (r : Rep g B m S H) : P m H a := h m H (Ext.refl m H) r
/-- out of a statement -/
theorem PostS.toA {g : G} {Wx : WX} {B m : List Addr} {D : Ends} {H : Hp} {α : Type} {x : M α} {k : α → M (Fl × Rho)} {S : Sto} {P1 : List Addr → Hp → α → Prop} (h : PostS g Wx B D m H ((x >>= k) S))
    (hk : ∀ a S1 m1 H1, Ext m H m1 H1 → Rep g B m1 S1 H1 → PostS g Wx B D m1 H1 (k a S1) → P1 m1 H1 a) : PostA g Wx B m H (x S) P1 := by
  cases e : x S with
  | ok a S1 =>
    rw [bind_ok e] at h
    exact fun m1 H1 x1 r1 => hk a S1 m1 H1 x1 r1 (zPostS (σ := []).step h x1)
  | exc C S1 =>
    rw [bind_exc e] at h
    exact h
  | stuck =>
    rw [bind_stuck e] at h
    exact h
abbrev Gm := W → Rho → M Rho
def TGm (g : G) (Wx : WX) (vs : List Nat) (gm : Gm) : TG := fun v σ H Q => ∃ B m S ρ w, Rep g B m S H ∧ DenE g (B ++ m) m H ρ σ ∧ Den g (B ++ m) m H w v ∧
  PostA g Wx B m H (gm w ρ S) fun m' H' ρ' => ∀ σ', DenE g (B ++ m') m' H' ρ' σ' → wipe σ' vs = wipe σ vs → Q σ' H'
def TGms (g : G) (Wx : WX) (vs : List Nat) (gm : List W → Rho → M Rho) : TGs := fun us σ H Q => ∃ B m S ρ ws, Rep g B m S H ∧ DenE g (B ++ m) m H ρ σ ∧ DenL g (B ++ m) m H ws us ∧
  PostA g Wx B m H (gm ws ρ S) fun m' H' ρ' => ∀ σ', DenE g (B ++ m') m' H' ρ' σ' → wipe σ' vs = wipe σ vs → Q σ' H'
abbrev MG (X : Cx) (Wx : WX) (vs : List Nat) (e : Expr) (gm : Gm) : Prop := PG X e (TGm (gOf X) Wx vs gm)
abbrev MGs (X : Cx) (Wx : WX) (vs : List Nat) (es : List Expr) (gm : List W → Rho → M Rho) : Prop := PGs X es (TGms (gOf X) Wx vs gm)
theorem _root_.L2.PG.imp {X : Cx} {e : Expr} {t t' : TG} (h : PG X e t) (k : ∀ v σ H Q, t' v σ H Q → t v σ H Q) : PG X e t' := ⟨fun pins s σ H v u Q I r q => h.run pins s σ H v u Q I r (k v σ H Q q)⟩
theorem _root_.L2.PGs.imp {X : Cx} {e : List Expr} {t t' : TGs} (h : PGs X e t) (k : ∀ v σ H Q, t' v σ H Q → t v σ H Q) : PGs X e t' := ⟨fun pins s σ H v u Q I r q => h.run pins s σ H v u Q I r (k v σ H Q q)⟩
def gmName (i : Nat) : Gm := fun w ρ => pure (ρ.set i (some w))
theorem DenE.set {g : G} {A m : List Addr} {H : Hp} {ρ : Rho} {σ : L2.St} {w : W} {v : V} (h : DenE g A m H ρ σ) (i : Nat) (d : Den g A m H w v) : DenE g A m H (ρ.set i (some w)) (σ.set i (some v)) := by
  refine ⟨by rw [List.length_set, List.length_set, h.1], fun j w' e => ?_⟩
  by_cases hj : j = i
  · subst hj
    have hl : j < ρ.length := by
      have := (List.getElem?_eq_some_iff.mp e).1
      rw [List.length_set] at this
      exact this
    rw [List.getElem?_set_self hl] at e
    cases e
    exact ⟨v, by rw [List.getElem?_set_self (by rw [← h.1]; exact hl)], d⟩
  · rw [List.getElem?_set_ne (Ne.symm hj)] at e
    obtain ⟨u, h1, h2⟩ := h.2 j w' e
    exact ⟨u, by rw [List.getElem?_set_ne (Ne.symm hj)]; exact h1, h2⟩
theorem wipe_in (σ : L2.St) {j : Nat} : ∀ {vs : List Nat}, j ∈ vs → (wipe σ vs)[j]? = if j < σ.length then some none else none
  | [], h => by cases h
  | v :: vs, h => by
    show ((wipe σ vs).set v none)[j]? = _
    by_cases e : v = j
    · subst e
      by_cases hl : v < σ.length
      · rw [List.getElem?_set_self (by rw [wipe_length]; exact hl), if_pos hl]
      · rw [List.getElem?_eq_none (by rw [List.length_set, wipe_length]; omega), if_neg hl]
    · rw [List.getElem?_set_ne e]
      rcases List.mem_cons.mp h with z | z
      · exact absurd z.symm e
      · exact wipe_in σ z
theorem wipe_congr {σ σ' : L2.St} {vs : List Nat} (hl : σ'.length = σ.length) (h : ∀ j, j ∉ vs → σ'[j]? = σ[j]?) : wipe σ' vs = wipe σ vs := by
  refine List.ext_getElem? fun j => ?_
  by_cases hj : j ∈ vs
  · rw [wipe_in σ' hj, wipe_in σ hj, hl]
  · rw [wipe_out hj, wipe_out hj, h j hj]
theorem wipe_eq {σ σ' : L2.St} {vs : List Nat} (h : wipe σ' vs = wipe σ vs) : σ'.length = σ.length ∧ ∀ j, j ∉ vs → σ'[j]? = σ[j]? := by
  refine ⟨by rw [← wipe_length σ' vs, ← wipe_length σ vs, h], fun j hj => ?_⟩
  rw [← wipe_out (σ := σ') hj, ← wipe_out (σ := σ) hj, h]
theorem wipe_app {σ σ1 σ2 : L2.St} {vs ws : List Nat} (h1 : wipe σ1 vs = wipe σ vs) (h2 : wipe σ2 ws = wipe σ1 ws) : wipe σ2 (vs ++ ws) = wipe σ (vs ++ ws) := by
  obtain ⟨a1, b1⟩ := wipe_eq h1
  obtain ⟨a2, b2⟩ := wipe_eq h2
  refine wipe_congr (a2.trans a1) fun j hj => ?_
  rw [List.mem_append, not_or] at hj
  rw [b2 j hj.2, b1 j hj.1]
theorem wipe_set (σ : L2.St) (i : Nat) (x : Option V) : wipe (σ.set i x) [i] = wipe σ [i] :=
  wipe_congr (by rw [List.length_set]) fun j hj => by
    rw [List.getElem?_set_ne fun e => hj (by rw [e]; exact List.mem_singleton.mpr rfl)]
theorem mg_name {x : Str} {i : Nat} {pos : Pos} (hN : X.N.Nodup) (hi : X.N[i]? = some x := by rfl) (hx : Loc X.env.scope x := by first | exact .inl rfl | exact .inr rfl) (hf : X.fn x = true ∨ X.env.scope.names.lookup x = some .local := by first | exact .inl rfl | exact .inr rfl) : MG X Wx [i] (.Name x pos) (gmName i) :=
  (pg_name hN hi hx hf).imp fun v σ H Q ⟨B, m, S, ρ, w, r, d, dv, p⟩ => p.ret r _ (d.set i dv) (wipe_set σ i _)
def gmsNil : List W → Rho → M Rho := fun ws ρ => match ws with
  | [] => pure ρ
  | _ => M.fail
def gmsCons (g1 : Gm) (g2 : List W → Rho → M Rho) : List W → Rho → M Rho := fun ws ρ => match ws with
  | w :: r => do
    let ρ1 ← g1 w ρ
    g2 r ρ1
  | [] => M.fail
theorem mgs_nil : MGs X Wx [] [] gmsNil := pgs_nil.imp fun us σ H Q ⟨B, m, S, ρ, ws, r, d, dv, p⟩ => by
  unfold gmsNil at p
  cases ws with
  | nil => cases dv; exact ⟨rfl, p.ret r σ d rfl⟩
  | cons _ _ => exact p.elim
theorem mgs_cons {vs vs' : List Nat} {es : List Expr} {g1 : Gm} {g2 : List W → Rho → M Rho} (h1 : MG X Wx vs e g1) (h2 : MGs X Wx vs' es g2) (hs : (assignEach (e :: es) X.env).map (·.2) = assign e X.env :: (assignEach es X.env).map (·.2) := by rfl) : MGs X Wx (vs ++ vs') (e :: es) (gmsCons g1 g2) :=
  (pgs_cons h1 h2 hs).imp fun us σ H Q ⟨B, m, S, ρ, ws, r, d, dv, p⟩ => by
    unfold gmsCons at p
    cases ws with
    | nil => exact p.elim
    | cons w ws =>
      cases dv with
      | cons d1 dl =>
        refine ⟨_, _, rfl, B, m, S, ρ, w, r, d, d1, p.bind fun ρ1 S1 m1 H1 _ e1 r1 p1 => fun σ' d' hw => ?_⟩
        have c := r.carry e1
        exact ⟨B, m1, S1, ρ1, ws, r1, d', dl.carry c, p1.imp fun m' H' a x h σ2 d2 hw2 => h σ2 d2 (wipe_app hw hw2)⟩
theorem mg_tup {vs : List Nat} {es : List Expr} {k n : Nat} {g2 : List W → Rho → M Rho} (hc : X.calm = true) (h : MGs X Wx vs es g2) (hn : (assignEach es X.env).length = n := by rfl) (hst : (assignEach es X.env).findIdx? (·.1) = none := by rfl) :
    MG X Wx vs (.Tuple es k pos) (fun w ρ => match w with
      | .tup ws => if ws.length = n then g2 ws ρ else M.fail
      | _ => M.fail) :=
  (pg_tup hc h hn hst).imp fun v σ H Q ⟨B, m, S, ρ, w, r, d, dv, p⟩ => by
    cases w with
    | tup ws =>
      by_cases e : ws.length = n
      · simp only [if_pos e] at p
        cases dv with
        | @tup _ a us ht l => exact ⟨a, us, rfl, ht, by rw [← l.length]; exact e, B, m, S, ρ, ws, r, d, l, p⟩
      · simp only [if_neg e] at p
        exact p.elim
    | _ => exact p.elim
/-- o[i] = v on the store's lists -/
def setW (S : Sto) (x y v : W) : Option Sto := match x, y with
  | .ref k, .int i => match S[k]? with
    | some (.lst ws) => match ixN ws.length i with
      | some j => some (S.set k (.lst (ws.set j v)))
      | none => none
    | _ => none
  | _, _ => none
def set3 (t : Sto → W → W → W → Option Sto) (x y v : W) : M Unit := fun S => match t S x y v with
  | some S' => .ok () S'
  | none => .stuck
theorem Rep.store {g : G} {B m : List Addr} {S : Sto} {H : Hp} {k : Nat} {a : Addr} {ho : HO} {o : O} (r : Rep g B m S H) (hk : m[k]? = some a) (mu : Mut (some ho)) (h : ∀ (c : Carry g (B ++ m) m H (B ++ m) m (upd H a ho)), OAt g (B ++ m) m (upd H a ho) a o) :
    Ext m H m (upd H a ho) ∧ Rep g B m (S.set k o) (upd H a ho) ∧ Carry g (B ++ m) m H (B ++ m) m (upd H a ho) := by
  have hm := List.mem_of_getElem? hk
  have e : Ext m H m (upd H a ho) := ⟨List.prefix_refl m, fun b u hb n => by rw [upd_ne fun z => n (by rw [z]; exact hm)]; exact hb, fun _ x n => absurd x n⟩
  have c : Carry g (B ++ m) m H (B ++ m) m (upd H a ho) := ⟨fun b u hb q => by
    rw [upd_ne fun z => ?_]
    · exact hb
    · rcases q with q | q
      · exact q (hb ▸ r.mu b (by rw [z]; exact List.mem_append_right _ hm))
      · exact q (by rw [z]; exact List.mem_append_right _ hm), fun _ _ _ n => n, fun _ _ h => h⟩
  refine ⟨e, ⟨by rw [List.length_set]; exact r.len, r.nd, fun b hb => ?_, fun i b u h1 h2 => ?_⟩, c⟩
  · by_cases z : b = a
    · rw [z, upd_same]; exact mu
    · rw [upd_ne z]; exact r.mu b hb
  · by_cases z : i = k
    · subst z
      rw [hk] at h1
      cases h1
      have hl : i < S.length := by rw [← r.len]; exact (List.getElem?_eq_some_iff.mp hk).1
      rw [List.getElem?_set_self hl] at h2
      cases h2
      exact h c
    · rw [List.getElem?_set_ne (Ne.symm z)] at h2
      refine (r.obj i b u h1 h2).carry c (upd_ne fun y => z ?_)
      subst y
      have hi := (List.getElem?_eq_some_iff.mp h1)
      have hkk := (List.getElem?_eq_some_iff.mp hk)
      exact (List.getElem_inj (List.nodup_append.mp r.nd).2.1).mp (hi.2.trans hkk.2.symm)
def SetO (X : Cx) (t : Sto → W → W → W → Option Sto) : Prop := PSet X fun o i v H Q => ∃ B m S wo wi wv S', Rep (gOf X) B m S H ∧ Den (gOf X) (B ++ m) m H wo o ∧ Den (gOf X) (B ++ m) m H wi i ∧ Den (gOf X) (B ++ m) m H wv v ∧
  t S wo wi wv = some S' ∧ ∀ H', Ext m H m H' → Rep (gOf X) B m S' H' → Q H'
theorem set_lst : SetO X setW := fun pins s σ H o i v ov iv u Q I ro ri rv ⟨B, m, S, wo, wi, wv, S', r, d1, d2, d3, h, q⟩ => by
  refine set_list pins s σ H o i v ov iv u Q I ro ri rv ?_
  unfold setW at h
  split at h
  · rename_i k j
    split at h
    · rename_i ws q1
      obtain ⟨a, rfl, hk, oa⟩ := den_ref r d1 q1
      cases oa with
      | @lst _ vs h1 l =>
        split at h
        · rename_i t q2
          cases h
          obtain ⟨e, r', c⟩ := r.store (o := .lst (ws.set t wv)) (ho := .lst (vs.set t v)) hk True.intro fun c => .lst upd_same ((l.carry c).set t (d3.carry c))
          exact ⟨a, vs, j, t, rfl, d2.int_of, h1, by rw [← l.length]; exact q2, q _ e r'⟩
        · cases h
    · cases h
  · cases h
theorem mg_sub {co ci : Rho → M W} {o i : Expr} {t : Sto → W → W → W → Option Sto} (ho : ME X Wx o co) (hi : ME X Wx i ci) (hs : SetO X t) (ha : ∀ v, assign (.Subscript o i pos) X.env v = (do
      let ov ← holding [v] (eval o X.env)
      let iv ← holding [v, ov] (eval i X.env)
      standAt pos
      holding [v, ov, iv] (setItem ov iv v)
      release [v, ov, iv] []) := by intro _; rfl) : MG X Wx [] (.Subscript o i pos) (fun v ρ => do let x ← co ρ; let y ← ci ρ; let _ ← set3 t x y v; pure ρ) :=
  (pg_sub ho hi hs ha).imp fun v σ H Q ⟨B, m, S, ρ, w, r, d, dv, p⟩ => TM.to zPostA r d p fun x S1 m1 H1 u1 e1 r1 d1 dx p1 c1 => TM.to zPostA r1 d1 p1 fun y S2 m2 H2 u2 e2 r2' d2 dy p2 c2 => by
    cases q : t S2 x y w with
    | some S3 =>
      have q' : set3 t x y w S2 = .ok () S3 := by unfold set3; rw [q]
      rw [bind_ok q'] at p2
      exact ⟨B, m2, S2, x, y, w, S3, r2', dx.carry c2, dy, (dv.carry c1).carry c2, q, fun H' e' r' => (zPostA (σ := σ).step p2 e').ret r' σ (d2.carry (r2'.carry e')) rfl⟩
    | none =>
      have q' : set3 t x y w S2 = .stuck := by unfold set3; rw [q]
      rw [bind_stuck q'] at p2
      exact p2.elim
end
end Pm

namespace Pm
open PySem PySem.Spec PyProof.Rows L2 PySem.SeqAt

/-! ### stores of names, of several -/
section
variable {X : Cx} {Wx : WX} {e : Expr} {es : List Expr} {ce : Rho → M W} {cl : Rho → M (List W)} {pos : Pos}
def setC (i : Nat) (ce : Rho → M W) : Cm := fun ρ => do let w ← ce ρ; pure (.nx, ρ.set i (some w))
theorem TM.ofV {g : G} {cf : Rho → M O} {σ : L2.St} {H : Hp} {Q : VK} (h : TM g Wx (toV cf) σ H Q) : TF g Wx cf σ H Q := by
  obtain ⟨B, m, S, ρ, r, d, p⟩ := h
  refine ⟨B, m, S, ρ, r, d, ?_⟩
  unfold toV at p
  cases q : cf ρ S with
  | ok o S' =>
    rw [bind_ok q] at p
    intro m' H' p' x np rp op
    obtain ⟨r1, c1, nn⟩ := rp.unB
    cases op with
    | lst h1 l => exact p m' H' x r1 _ (.vl nn (.of h1) (l.carry c1))
    | dctL h1 l => exact p m' H' x r1 _ (.vdL nn h1 (l.carry c1))
    | dctN h1 l => exact p m' H' x r1 _ (.vdN nn h1 (l.carry c1))
    | obj _ _ _ => exact p.elim
  | exc C S' =>
    rw [bind_exc q] at p
    exact p
  | stuck =>
    rw [bind_stuck q] at p
    exact p
theorem TM.ofR {g : G} {cf : Rho → M O} {σ : L2.St} {H : Hp} {Q : VK} (h : TM g Wx (toR cf) σ H Q) : TF g Wx cf σ H Q := by
  obtain ⟨B, m, S, ρ, r, d, p⟩ := h
  refine ⟨B, m, S, ρ, r, d, ?_⟩
  unfold toR at p
  cases q : cf ρ S with
  | ok o S' =>
    rw [q] at p
    intro m' H' p' x np rp op
    obtain ⟨r1, c1⟩ := rp.intoS op
    refine p (m' ++ [p']) H' ⟨x.pre.trans (List.prefix_append _ _), x.fr, fun a hm n => ?_⟩ r1 _ (.ref ?_)
    · rcases List.mem_append.mp hm with z | z
      · exact x.new a z n
      · rw [List.mem_singleton.mp z]
        exact np
    · rw [← rp.len, List.getElem?_append_right (Nat.le_refl _), Nat.sub_self]
      rfl
  | exc C S' =>
    rw [q] at p
    exact p
  | stuck =>
    rw [q] at p
    exact p
theorem TSm.set {g : G} {i : Nat} {D : Ends} {σ : L2.St} {H : Hp} (h : TSm g Wx (setC i ce) D σ H) : TM g Wx ce σ H fun x H1 => gName i x σ H1 D.nx := by
  obtain ⟨B, m, S, ρ, r, d, p⟩ := h
  exact TM.to (zPostS (σ := σ)) r d p fun w S1 m1 H1 v e1 r1 d1 dv p1 c1 => p1.fin r1 (d1.set i dv)
theorem s_set {i : Nat} {x : Str} {pos' : Pos} (hN : X.N.Nodup) (he : ME X Wx e ce) (hi : X.N[i]? = some x := by rfl) (hx : Loc X.env.scope x := by first | exact .inl rfl | exact .inr rfl) (hs : swapsWith e (some (.Name x pos')) pos.line X.env = pure false := by rfl)
    (hf : X.fn x = true ∨ X.env.scope.names.lookup x = some .local := by first | exact .inl rfl | exact .inr rfl) : MS X Wx (.Assign [.Name x pos'] e pos) (setC i ce) :=
  (ps_set hN hi hx he hs hf).imp fun D σ H h => h.set
def asgC (ce : Rho → M W) (gm : Gm) : Cm := fun ρ => do let w ← ce ρ; let ρ' ← gm w ρ; pure (.nx, ρ')
theorem s_asg {vs : List Nat} {tg : Expr} {gm : Gm} (he : ME X Wx e ce) (hg : MG X Wx vs tg gm) (hs : swapsWithSole [tg] e pos.line X.env = pure false := by rfl) (hw : swappedStores [tg] e X.env = pure none := by rfl)
    (h1 : (assignEach [tg] X.env).map (·.2) = [assign tg X.env] := by rfl) : MS X Wx (.Assign [tg] e pos) (asgC ce gm) :=
  (ps_asg he hg hs hw h1).imp fun D σ H ⟨B, m, S, ρ, r, d, p⟩ => TM.to (zPostS (σ := σ)) r d p fun w S1 m1 H1 v e1 r1 d1 dv p1 c1 =>
    ⟨B, m1, S1, ρ, w, r1, d1, dv, p1.toA fun ρ' S2 m2 H2 e2 r2' p2 σ' d' _ => p2.fin r2' d'⟩
def parC (i j : Nat) (cl : Rho → M (List W)) : Cm := fun ρ => do
  let ws ← cl ρ
  match ws with
  | [a, b] => pure (.nx, (ρ.set i (some a)).set j (some b))
  | _ => M.fail
def parC3 (i j l : Nat) (cl : Rho → M (List W)) : Cm := fun ρ => do
  let ws ← cl ρ
  match ws with
  | [a, b, c] => pure (.nx, ((ρ.set i (some a)).set j (some b)).set l (some c))
  | _ => M.fail
theorem s_par {i j : Nat} {x y : Str} {a b : Expr} {px py pt : Pos} {kt k2 pt2} (hc : X.calm = true) (hN : X.N.Nodup) (ha : MA X Wx [a, b] cl) (hi : X.N[i]? = some x := by rfl) (hj : X.N[j]? = some y := by rfl) (hij : i ≠ j := by decide)
    (hx : X.env.scope.names.lookup x = some .local := by rfl) (hy : X.env.scope.names.lookup y = some .local := by rfl)
    (hw : swappedStores [.Tuple [.Name x px, .Name y py] kt pt] (.Tuple [a, b] k2 pt2) X.env = pure (some [x, y]) := by rfl)
    (hs : swapsWithSole [.Tuple [.Name x px, .Name y py] kt pt] (.Tuple [a, b] k2 pt2) pos.line X.env = pure false := by rfl) :
    MS X Wx (.Assign [.Tuple [.Name x px, .Name y py] kt pt] (.Tuple [a, b] k2 pt2) pos) (parC i j cl) :=
  (ps_par hc hN hi hj hij hx hy ha hw hs).imp fun D σ H ⟨B, m, S, ρ, r, d, p⟩ => TL.to (zPostS (σ := σ)) r d p fun ws S1 m1 H1 vs e1 r1 d1 dv p1 c1 => by
    split at p1
    · obtain ⟨v, v', rfl, dv, dv'⟩ := dv.two
      exact ⟨_, _, rfl, p1.fin r1 ((d1.set i dv).set j dv')⟩
    · exact p1.elim
theorem DenL.three {g : G} {A m : List Addr} {H : Hp} {w w' w'' : W} {vs : List V} (h : DenL g A m H [w, w', w''] vs) : ∃ v v' v'', vs = [v, v', v''] ∧ Den g A m H w v ∧ Den g A m H w' v' ∧ Den g A m H w'' v'' := by
  cases h with
  | cons d l =>
    obtain ⟨v', v'', rfl, d', d''⟩ := l.two
    exact ⟨_, _, _, rfl, d, d', d''⟩
theorem s_par3 {i j l : Nat} {x y z : Str} {a b c : Expr} {px py pz pt : Pos} {kt k2 pt2} (hc : X.calm = true) (hN : X.N.Nodup) (ha : MA X Wx [a, b, c] cl) (hi : X.N[i]? = some x := by rfl) (hj : X.N[j]? = some y := by rfl) (hl : X.N[l]? = some z := by rfl)
    (hij : i ≠ j := by decide) (hil : i ≠ l := by decide) (hjl : j ≠ l := by decide)
    (hx : X.env.scope.names.lookup x = some .local := by rfl) (hy : X.env.scope.names.lookup y = some .local := by rfl) (hz : X.env.scope.names.lookup z = some .local := by rfl)
    (hw : swappedStores [.Tuple [.Name x px, .Name y py, .Name z pz] kt pt] (.Tuple [a, b, c] k2 pt2) X.env = pure (some [x, y, z]) := by rfl)
    (hs : swapsWithSole [.Tuple [.Name x px, .Name y py, .Name z pz] kt pt] (.Tuple [a, b, c] k2 pt2) pos.line X.env = pure false := by rfl) :
    MS X Wx (.Assign [.Tuple [.Name x px, .Name y py, .Name z pz] kt pt] (.Tuple [a, b, c] k2 pt2) pos) (parC3 i j l cl) :=
  (ps_par3 hc hN hi hj hl hij hil hjl hx hy hz ha hw hs).imp fun D σ H ⟨B, m, S, ρ, r, d, p⟩ => TL.to (zPostS (σ := σ)) r d p fun ws S1 m1 H1 vs e1 r1 d1 dv p1 c1 => by
    split at p1
    · obtain ⟨v, v', v'', rfl, dv, dv', dv''⟩ := dv.three
      exact ⟨_, _, _, rfl, p1.fin r1 (((d1.set i dv).set j dv').set l dv'')⟩
    · exact p1.elim
/-! name += int -/
def augC (i : Nat) (f : Int → Int → Int) (ce : Rho → M W) : Cm := fun ρ => do
  let x ← cVar i ρ
  let y ← ce ρ
  match x, y with
  | .int a, .int b => pure (.nx, ρ.set i (some (.int (f a b))))
  | _, _ => M.fail
theorem s_augI {i : Nat} {x : Str} {op : Operator} {f : Int → Int → Int} {pos' : Pos} (ho : PIp X op (ipI f)) (hN : X.N.Nodup) (he : ME X Wx e ce) (hi : X.N[i]? = some x := by rfl) (hx : Loc X.env.scope x := by first | exact .inl rfl | exact .inr rfl)
    (hf : X.fn x = true ∨ X.env.scope.names.lookup x = some .local := by first | exact .inl rfl | exact .inr rfl) : MS X Wx (.AugAssign (.Name x pos') op e pos) (augC i f ce) :=
  (ps_aug hN hi hx he ho hf).imp fun D σ H ⟨B, m, S, ρ, r, d, p⟩ => by
    unfold augC cVar at p
    cases q : ρ[i]? with
    | none => rw [q] at p; exact p.elim
    | some u =>
      rw [q] at p
      cases u with
      | none => exact p.elim
      | some w =>
        obtain ⟨v, e1, dv⟩ := d.2 i w q
        have p' : PostS (gOf X) Wx B D m H ((ce ρ >>= fun y => match w, y with
          | .int a, .int b => pure (.nx, ρ.set i (some (.int (f a b))))
          | _, _ => M.fail) S) := p
        refine ⟨v, e1, TM.to (zPostS (σ := σ)) r d p' fun y S1 m1 H1 vy ex r1 d1 dy p1 c1 => ?_⟩
        split at p1
        · exact ⟨_, _, dv.int_of, dy.int_of, p1.fin r1 (d1.set i (.int _))⟩
        · exact p1.elim
theorem s_add {i : Nat} {x : Str} {pos' : Pos} (hN : X.N.Nodup) (he : ME X Wx e ce) (hi : X.N[i]? = some x := by rfl) (hx : Loc X.env.scope x := by first | exact .inl rfl | exact .inr rfl)
    (hf : X.fn x = true ∨ X.env.scope.names.lookup x = some .local := by first | exact .inl rfl | exact .inr rfl) : MS X Wx (.AugAssign (.Name x pos') .Add e pos) (augC i (fun a b => a + b) ce) := s_augI ip_add hN he hi hx hf
/-! while -/
def whileM (t : Rho → M Bool) (c : Cm) : Nat → Cm
  | 0 => fun _ _ => .stuck
  | n + 1 => fun ρ => do
    let k ← t ρ
    if k = true then do
      let p ← c ρ
      match p.1 with
      | .nx => whileM t c n p.2
      | .ct => whileM t c n p.2
      | .bk => pure (.nx, p.2)
      | .rt w => pure (.rt w, p.2)
    else pure (.nx, ρ)
theorem s_while {t : Expr} {body : List Stmt} {ct : Rho → M Bool} {c : Cm} (hp : PassesOwn (model X.prog X.w) X.A X.env X.xe) (ht : MT X Wx t ct) (hb : MSs X Wx body c) : MS X Wx (.While t body [] pos) (whileM ct c FUEL) :=
  (ps_while hp ht hb).imp fun D σ H ⟨B, m, S, ρ, r, d, p⟩ => by
    refine ⟨fun n σ H => ∃ m S ρ, Rep (gOf X) B m S H ∧ DenE (gOf X) (B ++ m) m H ρ σ ∧ PostS (gOf X) Wx B D m H (whileM ct c n ρ S), ⟨FUEL, m, S, ρ, r, d, p⟩, ?_⟩
    rintro n σ H ⟨m, S, ρ, r, d, p⟩
    cases n with
    | zero => exact p.elim
    | succ n =>
      unfold whileM at p
      refine TB.to (zPostS (σ := σ)) r d p fun k S1 m1 H1 e1 r1 d1 p1 c1 => ?_
      cases k with
      | false =>
        rw [if_neg Bool.false_ne_true] at p1 ⊢
        exact p1.fin r1 d1
      | true =>
        rw [if_pos rfl] at p1 ⊢
        refine ⟨fun σ' H' => ∃ m S ρ, Rep (gOf X) B m S H' ∧ DenE (gOf X) (B ++ m) m H' ρ σ' ∧ PostS (gOf X) Wx B D m H' (whileM ct c n ρ S), fun σ' H' h => ⟨n, Nat.lt_succ_self n, h⟩, B, m1, S1, ρ, r1, d1, ?_⟩
        refine p1.bind fun fl ρ2 S2 m2 H2 σ2 e2 r2' d2 p2 => ?_
        cases fl with
        | nx => exact ⟨m2, S2, ρ2, r2', d2, p2⟩
        | ct => exact ⟨m2, S2, ρ2, r2', d2, p2⟩
        | bk => exact p2.fin r2' d2
        | rt w => exact p2.fin r2' d2
end

/-! ### what a loop walks -/
abbrev Gen := Nat → Sto → Option (Option W)
theorem Carry.trans {g : G} {A A1 A2 m m1 m2 : List Addr} {H H1 H2 : Hp} (a : Carry g A m H A1 m1 H1) (b : Carry g A1 m1 H1 A2 m2 H2) : Carry g A m H A2 m2 H2 where
  stay := fun c o h k => b.stay c o (a.stay c o h k) (k.imp id fun n => a.out c o h n)
  out := fun c o h n => by
    have h1 := a.stay c o h (.inr n)
    exact b.out c o h1 (a.out c o h n)
  ref := fun i c h => b.ref i c (a.ref i c h)
def ItRel (g : G) (A m0 : List Addr) (H0 : Hp) (J : It) (gen : Gen) : Prop := ∀ (i : Nat) B m S H, Carry g A m0 H0 (B ++ m) m H → Rep g B m S H → match gen i S with
  | some (some w) => J.go i H ∧ ∀ x H', J.yld i H x H' → Ext m H m H' ∧ Rep g B m S H' ∧ Den g (B ++ m) m H' w x
  | some none => J.stop i H
  | none => True
def TIm (g : G) (Wx : WX) (c : Rho → M Gen) : TI := fun σ H R => ∃ B m S ρ, Rep g B m S H ∧ DenE g (B ++ m) m H ρ σ ∧ Post g Wx B m H σ (c ρ S) fun m' H' gen => ∀ J, ItRel g (B ++ m') m' H' J gen → R J H'
abbrev MI (X : Cx) (Wx : WX) (tg it : Expr) (c : Rho → M Gen) : Prop := PI X tg it (TIm (gOf X) Wx c)
theorem _root_.L2.PI.imp {X : Cx} {tg it : Expr} {t t' : TI} (h : PI X tg it t) (k : ∀ σ H Q, t' σ H Q → t σ H Q) : PI X tg it t' := ⟨fun pins s σ H Q I q => h.run pins s σ H Q I (k σ H Q q)⟩
theorem TIm.to {g : G} {Wx : WX} {B m : List Addr} {S : Sto} {ρ : Rho} {H : Hp} {σ : L2.St} {α : Type} {ci : Rho → M Gen} {f : Gen → M α} {Z : List Addr → Hp → R α → Prop} {Q : It → Hp → Prop} (z : Zok g Wx B σ Z)
    (r : Rep g B m S H) (d : DenE g (B ++ m) m H ρ σ) (h : Z m H ((ci ρ >>= f) S))
    (k : ∀ gen S1 m1 H1 J, Ext m H m1 H1 → Rep g B m1 S1 H1 → DenE g (B ++ m1) m1 H1 ρ σ → ItRel g (B ++ m1) m1 H1 J gen → Z m1 H1 (f gen S1) → Q J H1) : TIm g Wx ci σ H Q :=
  ⟨B, m, S, ρ, r, d, z.bind h fun gen S1 m1 H1 _ e r1 h1 J hJ => k gen S1 m1 H1 J e r1 (d.carry (r.carry e)) hJ h1⟩
/-! for -/
def forM (gen : Gen) (gm : Gm) (c : Cm) : Nat → Nat → Cm
  | 0, _ => fun _ _ => .stuck
  | n + 1, i => fun ρ S => match gen i S with
    | none => .stuck
    | some none => .ok (.nx, ρ) S
    | some (some w) => (gm w ρ >>= fun ρ1 => c ρ1 >>= fun p => match p.1 with
      | .nx => forM gen gm c n (i + 1) p.2
      | .ct => forM gen gm c n (i + 1) p.2
      | .bk => pure (.nx, p.2)
      | .rt w => pure (.rt w, p.2)) S
def forC (ci : Rho → M Gen) (gm : Gm) (c : Cm) : Cm := fun ρ => do let gen ← ci ρ; forM gen gm c FUEL 0 ρ
section
variable {X : Cx} {Wx : WX} {pos : Pos}
theorem s_for {vs : List Nat} {tg it : Expr} {body : List Stmt} {ci : Rho → M Gen} {gm : Gm} {c : Cm} (hp : PassesOwn (model X.prog X.w) X.A X.env X.xe) (hc : X.calm = true) (hi : MI X Wx tg it ci) (hg : MG X Wx vs tg gm) (hb : MSs X Wx body c)
    (hs : ∀ x, foldedSetIterable it X.env x = pure x := by intro _; rfl) : MS X Wx (.For tg it body [] pos) (forC ci gm c) :=
  (ps_for hp hc hi hg hb hs).imp fun D σ H ⟨B, m, S, ρ, r, d, p⟩ => TIm.to (zPostS (σ := σ)) r d p fun gen S1 m1 H1 J e1 r1 d1 hJ p1 => by
    refine ⟨fun i n σ H => ∃ m S ρ, Ext m1 H1 m H ∧ Rep (gOf X) B m S H ∧ DenE (gOf X) (B ++ m) m H ρ σ ∧ PostS (gOf X) Wx B D m H (forM gen gm c n i ρ S), ⟨FUEL, m1, S1, ρ, Ext.refl _ _, r1, d1, p1⟩, ?_⟩
    rintro i n σ H ⟨m, S, ρ, ex, r, d, p⟩
    cases n with
    | zero => exact p.elim
    | succ n =>
      unfold forM at p
      have j := hJ i B m S H (r1.carry ex) r
      cases q : gen i S with
      | none => simp only [q] at p; exact p.elim
      | some u =>
        simp only [q] at p j
        cases u with
        | none => exact .inl ⟨j, p.fin r d⟩
        | some w =>
          refine .inr ⟨j.1, fun σ' H' => ∃ m S ρ, Ext m1 H1 m H' ∧ Rep (gOf X) B m S H' ∧ DenE (gOf X) (B ++ m) m H' ρ σ' ∧ PostS (gOf X) Wx B D m H' (forM gen gm c n (i + 1) ρ S), fun σ' H' h => ⟨n, Nat.lt_succ_self n, h⟩, fun x H' y => ?_⟩
          obtain ⟨ey, ry, dx⟩ := j.2 x H' y
          refine ⟨B, m, S, ρ, w, ry, d.carry (r.carry ey), dx, ((zPostS (σ := σ)).step p ey).toA fun ρ2 S2 m2 H2 e2 r2' p2 σ2 d2 _ => ?_⟩
          refine ⟨B, m2, S2, ρ2, r2', d2, p2.bind fun fl ρ3 S3 m3 H3 σ3 e3 r3 d3 p3 => ?_⟩
          have et := ((ex.trans ey).trans e2).trans e3
          cases fl with
          | nx => exact ⟨m3, S3, ρ3, et, r3, d3, p3⟩
          | ct => exact ⟨m3, S3, ρ3, et, r3, d3, p3⟩
          | bk => exact p3.fin r3 d3
          | rt w => exact p3.fin r3 d3
end
end Pm

namespace Pm
open PySem PySem.Spec PyProof.Rows L2 PySem.SeqAt

/-! ### lists, tuples, ranges, enumerate, zip -/
section
variable {X : Cx} {tg : Expr}
def iSeq (K : PySem.W.Frag) (tl : TE) : TI := fun σ H R => tl σ H fun x H1 => ∃ a, x = .ref a ∧ (((∃ xs, SqL K H1 a xs) ∧ R (Itl K a) H1) ∨ ((∃ xs, SqT K H1 a xs) ∧ R (Itt K a) H1))
theorem pi_seqA {l : Expr} {tl : TE} (hl : PE X l tl) : PI X tg l (iSeq X.K tl) := by
  refine ⟨fun pins s σ H R I h => ?_⟩
  refine thn (hl.run pins s σ H _ I h) fun v s1 ⟨x, H1, I1, r1, q1⟩ => ?_
  obtain ⟨a, e, q⟩ := q1
  subst e
  cases r1
  have fin : ∀ b ∈ [s1.heap.objs.size], FpOk X pins H1 b := fun b hb => by
    have e : b = s1.heap.objs.size := by simpa using hb
    subst e
    exact I1.fpOk (Nat.le_refl _) (I1.hok.fresh (Nat.le_refl _))
  rcases q with ⟨⟨xs, hq⟩, q⟩ | ⟨⟨xs, hq⟩, q⟩
  · obtain ⟨its, rv, p, hz⟩ := I1.list hq
    refine wpAny_pyIter_list p.isList ?_
    exact ⟨s1.heap.objs.size, [s1.heap.objs.size], _, _, H1, rfl, I1.kept (t' := s1.toks) fun b o e => Heap.get?_push_of_some _ e, turn_list a _, ⟨_, Heap.get?_push_size _ rfl, rfl, rfl⟩, fin, q⟩
  · obtain ⟨its, rv, p, hz⟩ := I1.tuple hq
    refine wpAny_pyIter_tuple (show s1.heap.IsTuple a its.toArray from p) ?_
    exact ⟨s1.heap.objs.size, [s1.heap.objs.size], _, _, H1, rfl, I1.kept (t' := s1.toks) fun b o e => Heap.get?_push_of_some _ e, turn_tuple a _, ⟨_, Heap.get?_push_size _ rfl, rfl, rfl⟩, fin, q⟩
end
def seqI (w : W) : M Gen := fun S => match w with
  | .tup ws => .ok (fun i _ => some ws[i]?) S
  | .vl ws => .ok (fun i _ => some ws[i]?) S
  | .ref k => match S[k]? with
    | some (.lst _) => .ok (fun i S => match S[k]? with
      | some (.lst ws) => some ws[i]?
      | _ => none) S
    | _ => .stuck
  | _ => .stuck
section
variable {g : G} {B m : List Addr} {S : Sto} {H : Hp}
theorem DenL.none {A : List Addr} {ws : List W} {vs : List V} {i : Nat} (l : DenL g A m H ws vs) (h : ws[i]? = none) : vs.length ≤ i := by
  rw [← l.length]
  exact List.getElem?_eq_none_iff.mp h
/-- the turns of a list, of a tuple -/
theorem rel_lst {w : W} {a : Addr} (r : Rep g B m S H) (d : Den g (B ++ m) m H w (.ref a)) {gen : Gen} (hg : ∀ (i : Nat) S' u, gen i S' = some u → ∃ ws, lstO S' w = some ws ∧ u = ws[i]?) (inj : ∀ {H' : Hp} {xs ys : List V}, SqL g.K H' a xs → SqL g.K H' a ys → True) : ItRel g (B ++ m) m H (Itl g.K a) gen := by
  intro i B1 m1 S1 H1 ex r1
  cases q : gen i S1 with
  | none => trivial
  | some u =>
    obtain ⟨ws, e, rfl⟩ := hg i S1 u q
    have d1 := d.carry ex
    obtain ⟨b, vs, hb, hl, l⟩ := den_lst r1 d1 e
    cases hb
    cases q2 : ws[i]? with
    | none => exact ⟨vs, hl, l.none q2⟩
    | some y =>
      obtain ⟨v, hv, dv⟩ := l.get q2
      refine ⟨⟨vs, v, hl, hv⟩, fun x H' y' => ?_⟩
      obtain ⟨rfl, y'⟩ := y'
      have e2 := y' vs hl
      rw [hv] at e2
      cases e2
      exact ⟨Ext.refl _ _, r1, dv⟩
theorem rel_tup {ws : List W} {a : Addr} (r : Rep g B m S H) (d : Den g (B ++ m) m H (.tup ws) (.ref a)) : ItRel g (B ++ m) m H (Itt g.K a) (fun i _ => some ws[i]?) := by
  intro i B1 m1 S1 H1 ex r1
  have d1 := d.carry ex
  simp only
  cases d1 with
  | @tup _ _ vs hl l =>
    cases q2 : ws[i]? with
    | none => exact ⟨vs, hl, l.none q2⟩
    | some y =>
      obtain ⟨v, hv, dv⟩ := l.get q2
      refine ⟨⟨vs, v, hl, hv⟩, fun x H' y' => ?_⟩
      obtain ⟨rfl, y'⟩ := y'
      have e2 := y' vs hl
      rw [hv] at e2
      cases e2
      exact ⟨Ext.refl _ _, r1, dv⟩
end
section
variable {X : Cx} {Wx : WX} {tg e a b c : Expr} {ce : Rho → M W} {cl : Rho → M (List W)} {pos p : Pos}
theorem mi_seq (he : ME X Wx e ce) : MI X Wx tg e (fun ρ => do let w ← ce ρ; seqI w) := (pi_seqA he).imp fun σ H R ⟨B, m, S, ρ, r, d, p⟩ => TM.to zPost r d p fun w S1 m1 H1 v e1 r1 d1 dv p1 c1 => by
  unfold seqI at p1
  cases w with
  | tup ws =>
    cases dv with
    | @tup _ a vs hl l => exact ⟨a, rfl, .inr ⟨⟨vs, hl⟩, p1 m1 H1 (Ext.refl _ _) r1 _ (rel_tup r1 (.tup hl l))⟩⟩
  | vl ws =>
    obtain ⟨a, vs, rfl, hl, l⟩ := den_lst r1 dv rfl
    exact ⟨a, rfl, .inl ⟨⟨vs, hl⟩, p1 m1 H1 (Ext.refl _ _) r1 _ (rel_lst r1 dv (fun i S' u h => ⟨ws, rfl, (Option.some.inj h).symm⟩) fun _ _ => trivial)⟩⟩
  | ref k =>
    cases q : S1[k]? with
    | none => simp only [q] at p1; exact p1.elim
    | some o =>
      simp only [q] at p1
      cases o with
      | lst ws =>
        obtain ⟨a, vs, rfl, hl, l⟩ := den_lst (ws := ws) r1 dv (by unfold lstO; simp only [q])
        refine ⟨a, rfl, .inl ⟨⟨vs, hl⟩, p1 m1 H1 (Ext.refl _ _) r1 _ (rel_lst r1 dv (fun i S' u h => ?_) fun _ _ => trivial)⟩⟩
        cases q2 : S'[k]? with
        | none => simp only [q2] at h; cases h
        | some o2 =>
          simp only [q2] at h
          cases o2 with
          | lst ws2 => exact ⟨ws2, by unfold lstO; simp only [q2], (Option.some.inj h).symm⟩
          | _ => cases h
      | _ => exact p1.elim
  | _ => exact p1.elim
def rngG (lo c : Int) (n : Nat) : Gen := fun i _ => some (if i < n then some (.int (lo + (i : Int) * c)) else none)
def LIM : Int := 4611686018427387904
def rng1I (ws : List W) : M Gen := match ws with
  | [.int j] => if -LIM ≤ j ∧ j < LIM then pure (rngG 0 1 j.toNat) else M.fail
  | _ => M.fail
def rng2I (ws : List W) : M Gen := match ws with
  | [.int i, .int j] => if -LIM ≤ i ∧ i < LIM ∧ -LIM ≤ j ∧ j < LIM then pure (rngG i 1 (j - i).toNat) else M.fail
  | _ => M.fail
def rng3I (ws : List W) : M Gen := match ws with
  | [.int i, .int j, .int c] => if c ≠ 0 ∧ c.natAbs < 1073741824 ∧ Builtin.Range.small i j c = true ∧ 0 ≤ Builtin.Range.rangeSize i j c then pure (rngG i c (Builtin.Range.rangeSize i j c).toNat) else M.fail
  | _ => M.fail
theorem rel_rng {g : G} {A m : List Addr} {H : Hp} (lo c : Int) (n : Nat) : ItRel g A m H (Itc lo c n) (rngG lo c n) := by
  intro i B1 m1 S1 H1 ex r1
  unfold rngG
  by_cases h : i < n
  · simp only [if_pos h]
    refine ⟨h, fun x H' y => ?_⟩
    obtain ⟨rfl, rfl⟩ := y
    exact ⟨Ext.refl _ _, r1, .int _⟩
  · simp only [if_neg h]
    exact Nat.le_of_not_lt h
theorem rel_rng1 {g : G} {A m : List Addr} {H : Hp} (lo : Int) (n : Nat) : ItRel g A m H (Itr lo n) (rngG lo 1 n) := by
  intro i B1 m1 S1 H1 ex r1
  unfold rngG
  by_cases h : i < n
  · simp only [if_pos h]
    refine ⟨h, fun x H' y => ?_⟩
    obtain ⟨rfl, rfl⟩ := y
    refine ⟨Ext.refl _ _, r1, ?_⟩
    rw [Int.mul_one]
    exact .int _
  · simp only [if_neg h]
    exact Nat.le_of_not_lt h
theorem mi_range1 (hg : Gl X "range") (hm : X.mg "range" = none) (ha : MA X Wx [a] cl) (hs : starEach [a] X.env = [(false, eval a X.env)] := by rfl) : MI X Wx tg (.Call (.Name "range" p) [a] [] pos) (fun ρ => do let ws ← cl ρ; rng1I ws) :=
  (pi_range1 hg hm ha hs).imp fun σ H R ⟨B, m, S, ρ, r, d, p⟩ => TL.to zPost r d p fun ws S1 m1 H1 vs e1 r1 d1 dv p1 c1 => by
    unfold rng1I at p1
    split at p1
    · split at p1
      · rename_i hz
        obtain ⟨v, rfl, dw⟩ := dv.one
        rw [dw.int_of]
        unfold LIM at hz
        exact ⟨_, rfl, by omega, by omega, p1 m1 H1 (Ext.refl _ _) r1 _ (rel_rng1 _ _)⟩
      · exact p1.elim
    · exact p1.elim
theorem mi_range2 (hg : Gl X "range") (hm : X.mg "range" = none) (ha : MA X Wx [a, b] cl) (hs : starEach [a, b] X.env = [(false, eval a X.env), (false, eval b X.env)] := by rfl) (hs2 : starEach [b] X.env = [(false, eval b X.env)] := by rfl) :
    MI X Wx tg (.Call (.Name "range" p) [a, b] [] pos) (fun ρ => do let ws ← cl ρ; rng2I ws) :=
  (pi_range2 hg hm ha hs hs2).imp fun σ H R ⟨B, m, S, ρ, r, d, p⟩ => TL.to zPost r d p fun ws S1 m1 H1 vs e1 r1 d1 dv p1 c1 => by
    unfold rng2I at p1
    split at p1
    · split at p1
      · rename_i hz
        obtain ⟨v, v', rfl, dw, dw'⟩ := dv.two
        rw [dw.int_of, dw'.int_of]
        unfold LIM at hz
        exact ⟨_, _, rfl, ⟨by omega, by omega, by omega, by omega⟩, p1 m1 H1 (Ext.refl _ _) r1 _ (rel_rng1 _ _)⟩
      · exact p1.elim
    · exact p1.elim
theorem mi_range3 (hg : Gl X "range") (hm : X.mg "range" = none) (ha : MA X Wx [a, b, c] cl) (hs : starEach [a, b, c] X.env = (false, eval a X.env) :: starEach [b, c] X.env := by rfl) (hpl : (backTo pos (starEach [b, c] X.env)).any (·.1) = false := by rfl) :
    MI X Wx tg (.Call (.Name "range" p) [a, b, c] [] pos) (fun ρ => do let ws ← cl ρ; rng3I ws) :=
  (pi_range3 hg hm ha hs hpl).imp fun σ H R ⟨B, m, S, ρ, r, d, p⟩ => TL.to zPost r d p fun ws S1 m1 H1 vs e1 r1 d1 dv p1 c1 => by
    unfold rng3I at p1
    split at p1
    · split at p1
      · rename_i hz
        obtain ⟨v, v', v'', rfl, dw, dw', dw''⟩ := dv.three
        rw [dw.int_of, dw'.int_of, dw''.int_of]
        exact ⟨_, _, _, _, rfl, ⟨hz.1, hz.2.1, hz.2.2.1, (Int.toNat_of_nonneg hz.2.2.2).symm⟩, p1 m1 H1 (Ext.refl _ _) r1 _ (rel_rng _ _ _)⟩
      · exact p1.elim
    · exact p1.elim
/-! enumerate, zip -/
def enumI (ws : List W) : M Gen := match ws with
  | [w] => fun S => match lstO S w with
    | some _ => .ok (fun i S => match lstO S w with
      | some ws => some (ws[i]?.map fun x => .tup [.int i, x])
      | none => none) S
    | none => .stuck
  | _ => M.fail
theorem mi_enum {elts : List Expr} {kk : Nat} {tpos : Pos} (hg : Gl X "enumerate") (hm : X.mg "enumerate" = none) (ha : MA X Wx [e] cl) (hs : starEach [e] X.env = [(false, eval e X.env)] := by rfl) :
    MI X Wx (.Tuple elts kk tpos) (.Call (.Name "enumerate" p) [e] [] pos) (fun ρ => do let ws ← cl ρ; enumI ws) :=
  (pi_enum hg hm ha hs).imp fun σ H R ⟨B, m, S, ρ, r, d, p⟩ => TL.to zPost r d p fun ws S1 m1 H1 vs e1 r1 d1 dv p1 c1 => by
    unfold enumI at p1
    split at p1
    · rename_i w
      cases q : lstO S1 w with
      | none => simp only [q] at p1; exact p1.elim
      | some xs =>
        simp only [q] at p1
        obtain ⟨v, rfl, dw⟩ := dv.one
        obtain ⟨a, vs, rfl, hl, l⟩ := den_lst r1 dw q
        refine ⟨a, vs, rfl, hl, p1 m1 H1 (Ext.refl _ _) r1 _ ?_⟩
        intro i B2 m2 S2 H2 ex r2
        have dv2 := dw.carry ex
        cases q2 : lstO S2 w with
        | none => simp only [q2]
        | some ys =>
          simp only [q2]
          obtain ⟨b, us, hb, hl2, l2⟩ := den_lst r2 dv2 q2
          cases hb
          cases q3 : ys[i]? with
          | none => exact ⟨us, hl2, l2.none q3⟩
          | some y =>
            simp only [Option.map]
            obtain ⟨u, hu, du⟩ := l2.get q3
            refine ⟨⟨us, u, hl2, hu⟩, fun x H' yl => ?_⟩
            obtain ⟨T, x', rfl, hT, rfl, hx⟩ := yl
            have e2 := hx us hl2
            rw [hu] at e2
            cases e2
            obtain ⟨r', e', c', _⟩ := r2.laid (o := .tup [.int (i : Nat), u]) hT
            exact ⟨e', r', .tup (.of upd_same) (.cons (.int _) (.cons (du.carry c') .nil))⟩
    · exact p1.elim
def zipG (ws us : List W) : Nat → Option W := fun i => match ws[i]?, us[i]? with
  | some x, some y => some (.tup [x, y])
  | _, _ => none
def zipI (ws : List W) : M Gen := match ws with
  | [w, u] => fun S => match w, u with
    | .tup ws, .tup us => .ok (fun i _ => some (zipG ws us i)) S
    | w, u => match lstO S w, lstO S u with
      | some _, some _ => .ok (fun i S => match lstO S w, lstO S u with
        | some ws, some us => some (zipG ws us i)
        | _, _ => none) S
      | _, _ => .stuck
  | _ => M.fail
theorem rel_zipL {g : G} {B m : List Addr} {S : Sto} {H : Hp} {w u : W} {a b : Addr} (r : Rep g B m S H) (d : Den g (B ++ m) m H w (.ref a)) (d' : Den g (B ++ m) m H u (.ref b)) : ItRel g (B ++ m) m H (Itz g.K a b) (fun i S => match lstO S w, lstO S u with
        | some ws, some us => some (zipG ws us i)
        | _, _ => none) := by
  intro i B2 m2 S2 H2 c r2
  have dv := d.carry c
  have du := d'.carry c
  cases q2 : lstO S2 w with
  | none => simp only [q2]
  | some ys =>
    cases q3 : lstO S2 u with
    | none => simp only [q2, q3]
    | some zs =>
      simp only [q2, q3]
      obtain ⟨b1, us1, hb, hl1, l1⟩ := den_lst r2 dv q2
      cases hb
      obtain ⟨b2, us2, hb, hl2, l2⟩ := den_lst r2 du q3
      cases hb
      simp only [zipG]
      cases q4 : ys[i]? with
      | none => exact ⟨us1, us2, hl1, hl2, .inl (l1.none q4)⟩
      | some y =>
        cases q5 : zs[i]? with
        | none => exact ⟨us1, us2, hl1, hl2, .inr (l2.none q5)⟩
        | some z =>
          obtain ⟨v1, hv1, dv1⟩ := l1.get q4
          obtain ⟨v2, hv2, dv2⟩ := l2.get q5
          refine ⟨⟨us1, us2, v1, v2, hl1, hl2, hv1, hv2⟩, fun x H' yl => ?_⟩
          obtain ⟨T, x', y', rfl, hT, rfl, hx, hy⟩ := yl
          have e1 := hx us1 hl1
          rw [hv1] at e1
          cases e1
          have e2 := hy us2 hl2
          rw [hv2] at e2
          cases e2
          obtain ⟨r', e', c', _⟩ := r2.laid (o := .tup [v1, v2]) hT
          exact ⟨e', r', .tup (.of upd_same) (.cons (dv1.carry c') (.cons (dv2.carry c') .nil))⟩
theorem rel_zipT {g : G} {B m : List Addr} {S : Sto} {H : Hp} {ws us : List W} {a b : Addr} (r : Rep g B m S H) (d : Den g (B ++ m) m H (.tup ws) (.ref a)) (d' : Den g (B ++ m) m H (.tup us) (.ref b)) : ItRel g (B ++ m) m H (RZ.ItzT g.K a b) (fun i _ => some (zipG ws us i)) := by
  intro i B2 m2 S2 H2 c r2
  have dv := d.carry c
  have du := d'.carry c
  obtain ⟨b1, us1, hb, hl1, l1⟩ := den_tup dv rfl
  cases hb
  obtain ⟨b2, us2, hb, hl2, l2⟩ := den_tup du rfl
  cases hb
  simp only [zipG]
  cases q4 : ws[i]? with
  | none => exact ⟨us1, us2, hl1, hl2, .inl (l1.none q4)⟩
  | some y =>
    cases q5 : us[i]? with
    | none => exact ⟨us1, us2, hl1, hl2, .inr (l2.none q5)⟩
    | some z =>
      obtain ⟨v1, hv1, dv1⟩ := l1.get q4
      obtain ⟨v2, hv2, dv2⟩ := l2.get q5
      refine ⟨⟨us1, us2, v1, v2, hl1, hl2, hv1, hv2⟩, fun x H' yl => ?_⟩
      obtain ⟨T, x', y', rfl, hT, rfl, hx, hy⟩ := yl
      have e1 := hx us1 hl1
      rw [hv1] at e1
      cases e1
      have e2 := hy us2 hl2
      rw [hv2] at e2
      cases e2
      obtain ⟨r', e', c', _⟩ := r2.laid (o := .tup [v1, v2]) hT
      exact ⟨e', r', .tup (.of upd_same) (.cons (dv1.carry c') (.cons (dv2.carry c') .nil))⟩
theorem mi_zip {e2 : Expr} {elts : List Expr} {kk : Nat} {tpos : Pos} (hg : Gl X "zip") (hm : X.mg "zip" = none) (ha : MA X Wx [e, e2] cl)
    (hs : starEach [e, e2] X.env = (false, eval e X.env) :: starEach [e2] X.env := by rfl) (hpl : (backTo pos (starEach [e2] X.env)).any (·.1) = false := by rfl) :
    MI X Wx (.Tuple elts kk tpos) (.Call (.Name "zip" p) [e, e2] [] pos) (fun ρ => do let ws ← cl ρ; zipI ws) :=
  (RZ.pi_zipA hg hm ha hs hpl).imp fun σ H R ⟨B, m, S, ρ, r, d, p⟩ => TL.to zPost r d p fun ws S1 m1 H1 vs e1 r1 d1 dv p1 c1 => by
    have viaL : ∀ {w u : W} {gen : Gen}, DenL (gOf X) (B ++ m1) m1 H1 [w, u] vs → Post (gOf X) Wx B m1 H1 σ ((fun S => match lstO S w, lstO S u with
      | some _, some _ => Pm.R.ok (fun i S => match lstO S w, lstO S u with
        | some ws, some us => some (zipG ws us i)
        | _, _ => none) S
      | _, _ => .stuck : M Gen) S1) (fun m' H' gen => ∀ J, ItRel (gOf X) (B ++ m') m' H' J gen → R J H') → ∃ a b xs ys, vs = [.ref a, .ref b] ∧ ((SqL X.K H1 a xs ∧ SqL X.K H1 b ys ∧ R (Itz X.K a b) H1) ∨ (SqT X.K H1 a xs ∧ SqT X.K H1 b ys ∧ R (RZ.ItzT X.K a b) H1)) := fun {w u gen} dv p1 => by
      cases q : lstO S1 w with
      | none => simp only [q] at p1; exact p1.elim
      | some xs =>
        cases q' : lstO S1 u with
        | none => simp only [q, q'] at p1; exact p1.elim
        | some ys =>
          simp only [q, q'] at p1
          obtain ⟨v, v', rfl, dw, dw'⟩ := dv.two
          obtain ⟨a, vs, rfl, hl, l⟩ := den_lst r1 dw q
          obtain ⟨b, us, rfl, hl', l'⟩ := den_lst r1 dw' q'
          exact ⟨a, b, vs, us, rfl, .inl ⟨hl, hl', p1 m1 H1 (Ext.refl _ _) r1 _ (rel_zipL r1 dw dw')⟩⟩
    unfold zipI at p1
    split at p1
    · rename_i w u
      by_cases t : (∃ ws, w = .tup ws) ∧ ∃ us, u = .tup us
      · obtain ⟨⟨ws, rfl⟩, us, rfl⟩ := t
        obtain ⟨v, v', rfl, dw, dw'⟩ := dv.two
        obtain ⟨a, vs, rfl, hl, l⟩ := den_tup dw rfl
        obtain ⟨b, us, rfl, hl', l'⟩ := den_tup dw' rfl
        exact ⟨a, b, vs, us, rfl, .inr ⟨hl, hl', p1 m1 H1 (Ext.refl _ _) r1 _ (rel_zipT r1 dw dw')⟩⟩
      · refine viaL (gen := fun _ _ => none) dv ?_
        cases w with
        | tup ws =>
          cases u with
          | tup us => exact absurd ⟨⟨_, rfl⟩, _, rfl⟩ t
          | _ => exact p1
        | _ => exact p1
    · exact p1.elim
end

/-! ### [elt for target in iter if test] -/
abbrev wN : WX := fun _ _ _ _ => False
def lcM (gen : Gen) (gm : Gm) (ct : Rho → M Bool) (ce : Rho → M W) (ρ : Rho) : Nat → Nat → List W → M O
  | 0, _, _ => fun _ => .stuck
  | n + 1, i, acc => fun S => match gen i S with
    | none => .stuck
    | some none => .ok (.lst acc) S
    | some (some w) => match gm w ρ S with
      | .ok ρ1 S1 => match ct ρ1 S1 with
        | .ok true S2 => match ce ρ1 S2 with
          | .ok y S3 => if acc.length < 16777216 then lcM gen gm ct ce ρ n (i + 1) (acc ++ [y]) S3 else .stuck
          | _ => .stuck
        | .ok false S2 => lcM gen gm ct ce ρ n (i + 1) acc S2
        | _ => .stuck
      | _ => .stuck
def wipeR (ρ : Rho) : List Nat → Rho
  | [] => ρ
  | v :: vs => (wipeR ρ vs).set v none
def lcC (ci : Rho → M Gen) (gm : Gm) (ct : Rho → M Bool) (ce : Rho → M W) (vs : List Nat) : Rho → M O := fun ρ => do
  let gen ← ci ρ
  lcM gen gm ct ce (wipeR ρ vs) FUEL 0 []
theorem wipeR_length (ρ : Rho) : ∀ vs : List Nat, (wipeR ρ vs).length = ρ.length
  | [] => rfl
  | v :: vs => by unfold wipeR; rw [List.length_set, wipeR_length ρ vs]
theorem DenE.wipe {g : G} {A m : List Addr} {H : Hp} {ρ : Rho} {σ : L2.St} (h : DenE g A m H ρ σ) : ∀ vs : List Nat, DenE g A m H (wipeR ρ vs) (L2.wipe σ vs)
  | [] => h
  | v :: vs => by
    obtain ⟨h1, h2⟩ := DenE.wipe h vs
    unfold wipeR L2.wipe
    refine ⟨by rw [List.length_set, List.length_set, h1], fun i w e => ?_⟩
    by_cases hi : v = i
    · subst hi
      by_cases hv : v < (wipeR ρ vs).length
      · rw [List.getElem?_set_self hv] at e; cases e
      · rw [List.getElem?_eq_none (by simpa using hv)] at e; cases e
    · rw [List.getElem?_set_ne hi] at e ⊢
      exact h2 i w e
theorem Rep.storeB {g : G} {B m : List Addr} {S : Sto} {H : Hp} {b : Addr} {o : HO} (r : Rep g B m S H) (hb : b ∈ B ++ m) (n : b ∉ m) (mu : Mut (some o)) : Rep g B m S (upd H b o) ∧ Carry g (B ++ m) m H (B ++ m) m (upd H b o) := by
  have c : Carry g (B ++ m) m H (B ++ m) m (upd H b o) := ⟨fun a u ha q => by
    rw [upd_ne fun z => ?_]
    · exact ha
    · rcases q with q | q
      · exact q (ha ▸ r.mu a (by rw [z]; exact hb))
      · exact q (by rw [z]; exact hb), fun _ _ _ n => n, fun _ _ h => h⟩
  refine ⟨⟨r.len, r.nd, fun a ha => ?_, fun i a u h1 h2 => (r.obj i a u h1 h2).carry c (upd_ne fun z => n (by rw [← z]; exact List.mem_of_getElem? h1))⟩, c⟩
  by_cases z : a = b
  · rw [z, upd_same]; exact mu
  · rw [upd_ne z]; exact r.mu a ha
theorem Ext.updB {m m' : List Addr} {H H' : Hp} {b : Addr} {o : HO} (e : Ext m H m' H') (n : H b = none) : Ext m H m' (upd H' b o) :=
  ⟨e.pre, fun a u ha hm => by rw [upd_ne (ne_of_none ha n)]; exact e.fr a u ha hm, e.new⟩
section
variable {X : Cx} {Wx : WX} {pos : Pos}
theorem lc_of {g : G} {B : List Addr} {σ : L2.St} {H : Hp} {Q : VK} {ci : Rho → M Gen} {gm : Gm} {ct : Rho → M Bool} {ce : Rho → M W} {vs : List Nat} (h : TF g Wx (lcC ci gm ct ce vs) σ H Q) :
    tLc (TIm g Wx ci) (TGm g wN vs gm) (TB g wN ct) (TM g wN ce) vs σ H Q := by
  obtain ⟨B, m, S, ρ, r, d, p⟩ := h
  refine TIm.to (zPostF (σ := σ)) r d p fun gen S1 m1 H1 J e1 r1 d1 hJ p1 => ?_
  intro D hD
  obtain ⟨r2, c2⟩ := r1.fresh (o := .lst []) hD True.intro
  obtain ⟨_, x2, _, nD⟩ := r1.laid (o := .lst []) hD
  refine ⟨fun i n H => ∃ m S acc accv, Ext m1 H1 m H ∧ Carry g (B ++ m1) m1 H1 (B ++ [D] ++ m) m H ∧ Rep g (B ++ [D]) m S H ∧ H D = some (.lst accv) ∧ DenL g (B ++ [D] ++ m) m H acc accv ∧ PostF g Wx B σ Q m1 H1 (lcM gen gm ct ce (wipeR ρ vs) n i acc S), ⟨FUEL, m1, S1, [], [], x2, c2, r2, upd_same, .nil, p1⟩, ?_⟩
  rintro i n H ⟨m, S, acc, accv, ex, c3, r, hHD, la, p⟩
  have nDm : ∀ {m' : List Addr} {S' : Sto} {H' : Hp}, Rep g (B ++ [D]) m' S' H' → D ∉ m' := fun r' hm => r'.unB.2.2 (List.mem_append_right _ hm)
  cases n with
  | zero => exact p.elim
  | succ n =>
    unfold lcM at p
    have j := hJ i (B ++ [D]) m S H c3 r
    cases q : gen i S with
    | none => simp only [q] at p; exact p.elim
    | some u =>
      simp only [q] at p j
      cases u with
      | none => exact .inl ⟨j, p m H D ex hD r (.lst hHD la)⟩
      | some w =>
        refine .inr ⟨j.1, fun H => ∃ m S acc accv, Ext m1 H1 m H ∧ Carry g (B ++ m1) m1 H1 (B ++ [D] ++ m) m H ∧ Rep g (B ++ [D]) m S H ∧ H D = some (.lst accv) ∧ DenL g (B ++ [D] ++ m) m H acc accv ∧ PostF g Wx B σ Q m1 H1 (lcM gen gm ct ce (wipeR ρ vs) n (i + 1) acc S), fun H' h => ⟨n, Nat.lt_succ_self n, h⟩, fun x H' y => ?_⟩
        obtain ⟨ey, ry, dx⟩ := j.2 x H' y
        have cy := r.carry ey
        have dρ : DenE g (B ++ [D] ++ m) m H' (wipeR ρ vs) (wipe σ vs) := ((d1.carry c3).carry cy).wipe vs
        refine ⟨B ++ [D], m, S, wipeR ρ vs, w, ry, dρ, dx, ?_⟩
        cases q1 : gm w (wipeR ρ vs) S with
        | exc C S' => simp only [q1] at p; exact p.elim
        | stuck => simp only [q1] at p; exact p.elim
        | ok ρ1 S2 =>
          simp only [q1] at p
          intro m2 H2 e2 r2' σ2 d2 hw
          have hw' : wipe σ2 vs = wipe σ vs := by
            rw [hw]
            exact wipe_congr (wipe_length σ vs) fun j hj => wipe_out hj
          refine ⟨hw', B ++ [D], m2, S2, ρ1, r2', d2, ?_⟩
          cases q2 : ct ρ1 S2 with
          | exc C S' => simp only [q2] at p; exact p.elim
          | stuck => simp only [q2] at p; exact p.elim
          | ok k S3 =>
            simp only [q2] at p
            intro m3 H3 e3 r3
            cases k with
            | false =>
              rw [if_neg Bool.false_ne_true]
              have c4 := (cy.trans (ry.carry e2)).trans (r2'.carry e3)
              refine ⟨m3, S3, acc, accv, ((ex.trans ey).trans e2).trans e3, c3.trans c4, r3, ?_, la.carry c4, p⟩
              exact e3.fr D _ (e2.fr D _ (ey.fr D _ hHD (nDm r)) (nDm ry)) (nDm r2')
            | true =>
              rw [if_pos rfl]
              refine ⟨B ++ [D], m3, S3, ρ1, r3, d2.carry (r2'.carry e3), ?_⟩
              cases q3 : ce ρ1 S3 with
              | exc C S' => simp only [q3] at p; exact p.elim
              | stuck => simp only [q3] at p; exact p.elim
              | ok z S4 =>
                simp only [q3] at p
                split at p
                · rename_i hz
                  intro m4 H4 e4 r4 v dv
                  have hD4 : H4 D = some (.lst accv) := e4.fr D _ (e3.fr D _ (e2.fr D _ (ey.fr D _ hHD (nDm r)) (nDm ry)) (nDm r2')) (nDm r3)
                  have c4 := ((cy.trans (ry.carry e2)).trans (r2'.carry e3)).trans (r3.carry e4)
                  have la4 := la.carry c4
                  refine ⟨accv, hD4, by rw [← la4.length, sizeLine_eq]; exact hz, ?_⟩
                  obtain ⟨r5, c5⟩ := r4.storeB (b := D) (List.mem_append_left _ (List.mem_append_right _ (List.mem_singleton.mpr rfl))) (nDm r4) (o := .lst (accv ++ [v])) True.intro
                  exact ⟨m4, S4, acc ++ [z], accv ++ [v], ((((ex.trans ey).trans e2).trans e3).trans e4).updB hD, (c3.trans c4).trans c5, r5, upd_same, (la4.append (.cons dv .nil)).carry c5, p⟩
                · exact p.elim
theorem mf_lc {elt tg iter : Expr} {ifs : List Expr} {scope : Scope} {own : List (Str × Nat)} {ci : Rho → M Gen} {gm : Gm} {ct : Rho → M Bool} {ce : Rho → M W} (hc : X.calm = true) (hN : X.N.Nodup) (hi : MI X Wx tg iter ci) (ok : BlkOk X.N X.env.scope scope own)
    (hg : ∀ (s : Shared) (H : Hp) (C : Addr) (cl : List (Str × Addr)) (fp : List Addr), MG (X.blk s H scope (compEnvC scope cl C X.env) fp) wN (own.map (·.2)) tg gm) (ht : ∀ (s : Shared) (H : Hp) (C : Addr) (cl : List (Str × Addr)) (fp : List Addr), PTs (X.blk s H scope (compEnvC scope cl C X.env) fp) ifs (TB (gOf X) wN ct))
    (he : ∀ (s : Shared) (H : Hp) (C : Addr) (cl : List (Str × Addr)) (fp : List Addr), ME (X.blk s H scope (compEnvC scope cl C X.env) fp) wN elt ce) (hs : ∀ x, foldedSetIterable iter X.env x = pure x := by intro _; rfl) :
    MF X Wx (.ListComp elt [⟨tg, iter, ifs, 0⟩] scope pos) (lcC ci gm ct ce (own.map (·.2))) := (pe_lc hc hN hi ok hg ht he hs).imp fun σ H Q h => lc_of (B := []) h
def cYes : Rho → M Bool := fun _ => pure true
theorem pts_yes : PTs X [] (TB (gOf X) Wx cYes) := ⟨fun pins s σ H Q I ⟨B, m, S, ρ, r, d, p⟩ => pts_nil.run pins s σ H Q I (p.ret r)⟩
/-- y = [..] on one line -/
theorem s_setLc {i : Nat} {y : Str} {py : Pos} {elt tg iter : Expr} {ifs : List Expr} {scope : Scope} {own : List (Str × Nat)} {lpos : Pos} {ci : Rho → M Gen} {gm : Gm} {ct : Rho → M Bool} {ce cw : Rho → M W} (hc : X.calm = true) (hN : X.N.Nodup) (hi : MI X Wx tg iter ci) (ok : BlkOk X.N X.env.scope scope own)
    (hw : ∀ {σ H Q}, TM (gOf X) Wx cw σ H Q → TF (gOf X) Wx (lcC ci gm ct ce (own.map (·.2))) σ H Q)
    (hg : ∀ (s : Shared) (H : Hp) (C : Addr) (cl : List (Str × Addr)) (fp : List Addr), MG (X.blk s H scope (compEnvC scope cl C X.env) fp) wN (own.map (·.2)) tg gm) (ht : ∀ (s : Shared) (H : Hp) (C : Addr) (cl : List (Str × Addr)) (fp : List Addr), PTs (X.blk s H scope (compEnvC scope cl C X.env) fp) ifs (TB (gOf X) wN ct))
    (he : ∀ (s : Shared) (H : Hp) (C : Addr) (cl : List (Str × Addr)) (fp : List Addr), ME (X.blk s H scope (compEnvC scope cl C X.env) fp) wN elt ce)
    (hy : X.N[i]? = some y := by rfl) (hyl : X.env.scope.names.lookup y = some .local := by rfl)
    (hsw : swapsWith (.ListComp elt [⟨tg, iter, ifs, 0⟩] scope lpos) (some (.Name y py)) pos.line X.env = pure true := by exact sw_true rfl rfl rfl rfl) (hs : ∀ x, foldedSetIterable iter X.env x = pure x := by intro _; rfl) :
    MS X Wx (.Assign [.Name y py] (.ListComp elt [⟨tg, iter, ifs, 0⟩] scope lpos) pos) (setC i cw) :=
  (ps_setLc hc hN hy hyl hsw hi ok hg ht he hs).imp fun D σ H h => lc_of (B := []) (hw h.set)
end
end Pm

namespace Pm
open PySem PySem.Spec PyProof.Rows L2 PySem.SeqAt

/-! ### what every rule asks of its context -/
structure Ok (X : Cx) (Wx : WX) (k : Nat) : Prop where
  calm : X.calm = true
  nd : X.N.Nodup
  room : Room k X.A
  tk : Takes X Wx
theorem Ok.hu {X : Cx} {Wx : WX} {k : Nat} (o : Ok X Wx k) : X.A.units + 64 < cLine := by
  have := o.room.un
  omega
theorem Ok.blk {X : Cx} {Wx : WX} {k : Nat} (o : Ok X Wx k) (s : Shared) (H : Hp) (scope : Scope) (cenv : Env) (fp : List Addr) : Ok (X.blk s H scope cenv fp) wN k := ⟨o.calm, o.nd, o.room, takes0⟩

/-! ### defs -/
def PostC (g : G) (B m : List Addr) (H : Hp) (r : R W) (Q : VK) (E : XK) : Prop := match r with
  | .ok w S' => ∀ m' H', Ext m H m' H' → Rep g B m' S' H' → ∀ v, Den g (B ++ m') m' H' w v → Q v H'
  | .exc C S' => ∀ m' H' a, Ext m H m' H' → Rep g B m' S' H' → g.mg C = some (.ref a) → E (.ref a) none H'
  | .stuck => False
def spM (g : G) (n : Nat) (f : List W → M W) : Sp := fun vs H Q E => vs.length = n ∧ ∃ B m S ws, Rep g B m S H ∧ DenL g (B ++ m) m H ws vs ∧ PostC g B m H (f ws S) Q E
structure Cal (g : G) (base : Heap) (k : Nat) (x : Str) (n : Nat) (f : List W → M W) : Prop where
  ex : ∃ fa fd ps, FnOk g.P g.w g.K g.mg base (L2.CX g.P g.w) k fa fd ps (spM g n f) ∧ g.mg x = some (.ref fa) ∧ PySem.W.keepIn g.K (.ref fa) = true ∧ Binds g.K fd ps []
def callM (n : Nat) (f : List W → M W) (ws : List W) : M W := if ws.length = n then f ws else M.fail
def fnM (n k : Nat) (c : Cm) (ws : List W) : M W := do
  let p ← c (ws.map some ++ List.replicate (k - n) none)
  match p.1 with
  | .nx => pure .non
  | .rt w => pure w
  | _ => M.fail
theorem DenE.start {g : G} {A m : List Addr} {H : Hp} {N : List Str} {n : Nat} {ws : List W} {vs : List V} (l : DenL g A m H ws vs) (hn : vs.length = n) : DenE g A m H (ws.map some ++ List.replicate (N.length - n) none) (L2.start N vs) := by
  unfold L2.start
  rw [hn]
  refine ⟨by simp [l.length], fun i w e => ?_⟩
  by_cases hi : i < ws.length
  · rw [List.getElem?_append_left (by simpa using hi), List.getElem?_map] at e
    cases q : ws[i]? with
    | none => rw [q] at e; cases e
    | some u =>
      rw [q] at e
      cases e
      obtain ⟨v, h1, h2⟩ := l.get q
      refine ⟨v, ?_, h2⟩
      rw [List.getElem?_append_left (by rw [List.length_map, ← l.length]; exact hi), List.getElem?_map, h1]
      rfl
  · rw [List.getElem?_append_right (by simpa using hi)] at e
    rw [List.getElem?_replicate] at e
    split at e <;> cases e
theorem start_wN {g : G} {N : List Str} {n : Nat} {c : Cm} {vs : List V} {H : Hp} {Q : VK} {E : XK} (h : spM g n (fnM n N.length c) vs H Q E) : TSm g (fun cls d _ H => E cls d H) c { nx := fun _ H' => Q .non H', rt := Q } (L2.start N vs) H := by
  obtain ⟨hn, B, m, S, ws, r, l, p⟩ := h
  refine ⟨B, m, S, _, r, DenE.start l hn, ?_⟩
  unfold fnM at p
  cases e : c (ws.map some ++ List.replicate (N.length - n) none) S with
  | ok a S1 =>
    obtain ⟨fl, ρ⟩ := a
    rw [bind_ok e] at p
    intro m' H' σ' x r' d'
    cases fl with
    | nx => exact p m' H' x r' .non .non
    | rt w => exact p m' H' x r'
    | bk => exact p.elim
    | ct => exact p.elim
  | exc C S1 =>
    rw [bind_exc e] at p
    exact fun m' H' a σ' x r' h => p m' H' a x r' h
  | stuck =>
    rw [bind_stuck e] at p
    exact p
section
variable {P : Program} {w : World} {K : PySem.W.Frag} {mg : Str → Option Value} {base : Heap}
/-- a def keeps the promise that its mirror makes -/
theorem cal_of {x qual : Str} {params : Arguments} {body : List Stmt} {scope : Scope} {fa : Addr} {fd : FuncData} {N ps : List Str} {k n : Nat} {c : Cm} (F : FunD K x qual params body scope [] [] fa fd) (gx : mg x = some (.ref fa)) (S : FnScope N ps scope) (hn : ps.length = n)
    (hb : ∀ (kV doc pm : Value) (an : Option Addr) (cdv ct : Value) (us : List Value), us.length = ps.length → bindArgs (PySem.W.fnOf x qual params body scope .none kV doc pm an cdv ct) ⟨us, []⟩ = pure (ps.zip us))
    (h : ∀ (cdv : Value) (A : Around) (outer : List Env) (s : Shared) (H : Hp) (E : XK), Ok (cxOf (L2.CX P w) P w K mg base N qual scope fa cdv A outer s H E) (fun cls d _ H => E cls d H) k → PassesOwn (model P w) (A.deeper (envOfC qual scope s.heap.objs.size fa cdv)) (envOfC qual scope s.heap.objs.size fa cdv) (cxOf (L2.CX P w) P w K mg base N qual scope fa cdv A outer s H E).xe →
      MSs (cxOf (L2.CX P w) P w K mg base N qual scope fa cdv A outer s H E) (fun cls d _ H => E cls d H) body c) : Cal ⟨P, w, K, mg⟩ base (k + 1) x n (fnM n N.length c) := by
  refine ⟨fa, fd, ps, F.ok S (fun vs H Q E z => z.1.trans hn.symm) (fun cdv A outer s H vs Q E hr z => ?_), gx, F.kp, F.bindsN hb⟩
  refine ⟨_, h cdv A outer s H E ⟨rfl, S.nd, hr, takes_of rfl rfl rfl rfl⟩ (passes_of rfl), start_wN z⟩
theorem fn_of_ {x qual : Str} {params : Arguments} {body : List Stmt} {scope : Scope} {fa : Addr} {fd : FuncData} {N ps : List Str} {k n : Nat} {c : Cm} (F : FunD K x qual params body scope [] [] fa fd) (S : FnScope N ps scope) (hn : ps.length = n)
    (h : ∀ (cdv : Value) (A : Around) (outer : List Env) (s : Shared) (H : Hp) (E : XK), Ok (cxOf (L2.CX P w) P w K mg base N qual scope fa cdv A outer s H E) (fun cls d _ H => E cls d H) k → PassesOwn (model P w) (A.deeper (envOfC qual scope s.heap.objs.size fa cdv)) (envOfC qual scope s.heap.objs.size fa cdv) (cxOf (L2.CX P w) P w K mg base N qual scope fa cdv A outer s H E).xe →
      MSs (cxOf (L2.CX P w) P w K mg base N qual scope fa cdv A outer s H E) (fun cls d _ H => E cls d H) body c) : FnOk P w K mg base (L2.CX P w) (k + 1) fa fd ps (spM ⟨P, w, K, mg⟩ n (fnM n N.length c)) :=
  F.ok S (fun vs H Q E z => z.1.trans hn.symm) (fun cdv A outer s H vs Q E hr z => ⟨_, h cdv A outer s H E ⟨rfl, S.nd, hr, takes_of rfl rfl rfl rfl⟩ (passes_of rfl), start_wN z⟩)
end
section
variable {X : Cx} {Wx : WX} {k j : Nat} {x : Str} {n : Nat} {f : List W → M W} {e : Expr} {es : List Expr} {cl : Rho → M (List W)} {p pos : Pos}
/-- f(..): the whole store goes with it -/
theorem me_call (o : Ok X Wx j) (c : Cal (gOf X) X.base k x n f) (hk : k ≤ j) (hg : Gl X x) (ha : MA X Wx (e :: es) cl) (hdb : (x == ("__debug__" : Str)) = false := by decide) (he : starEach (e :: es) X.env = (false, eval e X.env) :: starEach es X.env := by rfl) (hpl : (backTo pos (starEach es X.env)).any (·.1) = false := by rfl) :
    ME X Wx (.Call (.Name x p) (e :: es) [] pos) (fun ρ => do let ws ← cl ρ; callM n f ws) := by
  obtain ⟨fa, fd, ps, F, gx, kp, hb⟩ := c.ex
  refine (pe_callS F (o.room.mono hk) hg gx kp hb (fun σ => passAt o.tk σ) ha hdb he hpl).imp fun σ H Q ⟨B, m, S, ρ, r, d, p⟩ => TL.to zPost r d p fun ws S1 m1 H1 vs e1 r1 d1 dv p1 c1 => ?_
  unfold callM at p1
  split at p1
  · rename_i hn
    refine ⟨dv.length.symm.trans hn, B, m1, S1, ws, r1, dv, ?_⟩
    cases q : f ws S1 with
    | ok w S2 => rw [q] at p1; exact p1
    | exc C S2 => rw [q] at p1; exact p1
    | stuck => rw [q] at p1; exact p1
  · exact p1.elim
theorem pe_callS0 {CX : CXT} {fa : Addr} {fd : FuncData} {ps : List Str} {sp : Sp} {E : L2.St → XK} (F : FnOk X.prog X.w X.K X.mg X.base CX k fa fd ps sp) (hr : Room k X.A) (hg : Gl X x) (hm : X.mg x = some (.ref fa)) (hk : PySem.W.keepIn X.K (.ref fa) = true) (hb : Binds X.K fd ps []) (hx : ∀ σ, PassesAt CX X σ (E σ))
    (hdb : (x == ("__debug__" : Str)) = false := by decide) : PE X (.Call (.Name x p) [] [] pos) (tCallS sp E tNil) := by
  refine ⟨fun pins s σ H Q I h => ?_⟩
  refine wpAny_Call_Name_kw (ld_glob I hg hm ?_ hdb)
  exact PySem.W.callWith_K0 I.kIn hk (run_fnS (us := []) F hr hb (hx σ) I .nil h)
theorem me_call0 (o : Ok X Wx j) (c : Cal (gOf X) X.base k x 0 f) (hk : k ≤ j) (hg : Gl X x) (hdb : (x == ("__debug__" : Str)) = false := by decide) :
    ME X Wx (.Call (.Name x p) [] [] pos) (fun ρ => f []) := by
  obtain ⟨fa, fd, ps, F, gx, kp, hb⟩ := c.ex
  refine (pe_callS0 F (o.room.mono hk) hg gx kp hb (fun σ => passAt o.tk σ) hdb).imp fun σ H Q ⟨B, m, S, ρ, r, d, p⟩ => ?_
  refine ⟨rfl, B, m, S, [], r, .nil, ?_⟩
  cases q : f [] S with
  | ok w S2 => simp only [q] at p; exact p
  | exc C S2 => simp only [q] at p; exact p
  | stuck => simp only [q] at p; exact p
end

/-! ### a call that takes values and gives a value: the callee's store is its own -/
theorem frz_key (T : Sto) : ∀ (n j : Nat) {k k' : W} {l : NestedKey}, keyO j k = some l → frz T n k = some k' → k' = k
  | 0, _, _, _, _, _, e => by cases e
  | n + 1, 0, _, _, _, h, _ => by cases h
  | n + 1, j + 1, k, k', l, h, e => by
    unfold keyO at h
    unfold frz at e
    cases k with
    | tup ws =>
      obtain ⟨ks, h1, _⟩ := opt_map h
      obtain ⟨us, e1, rfl⟩ := opt_map e
      have : ∀ {ws us : List W} {ks : List NestedKey}, mapO (keyO j) ws = some ks → mapO (frz T n) ws = some us → us = ws := by
        intro ws
        induction ws with
        | nil => intro us ks _ e; exact mapO_nil e
        | cons w ws ih =>
          intro us ks h e
          obtain ⟨_, _, rfl, a1, a2⟩ := mapO_cons h
          obtain ⟨_, _, rfl, b1, b2⟩ := mapO_cons e
          rw [frz_key T n j a1 b1, ih a2 b2]
      rw [this h1 e1]
    | vl _ => cases h
    | vd _ => cases h
    | ref _ => cases h
    | fn _ => cases h
    | _ => cases e; rfl
theorem frz_leaf (T : Sto) : ∀ (n : Nat) {k k' : W} {l : Leaf}, leafO k = some l → frz T n k = some k' → k' = k
  | 0, _, _, _, _, e => by cases e
  | n + 1, k, k', l, h, e => by
    unfold leafO at h
    unfold frz at e
    cases k with
    | tup _ => cases h
    | vl _ => cases h
    | vd _ => cases h
    | ref _ => cases h
    | fn _ => cases h
    | _ => cases e; rfl
def frzP (T : Sto) (n : Nat) (p : W × W) : Option (W × W) := match frz T n p.1, frz T n p.2 with
  | some a, some b => some (a, b)
  | _, _ => none
section
variable {g : G} {A m A' m' : List Addr} {H : Hp} {T : Sto}
theorem frz_den (h1 : ∀ a ∈ A', a ∈ A ∨ H a = none) (h3 : ∀ (j : Nat) a o, m[j]? = some a → T[j]? = some o → o ≠ .gone → OAt g A m H a o ∧ a ∉ A') : ∀ (n : Nat) {w w' : W} {v : V}, Den g A m H w v → frz T n w = some w' → Den g A' m' H w' v
  | 0, _, _, _, _, e => by cases e
  | n + 1, w, w', v, d, e => by
    have ih := fun {w w' : W} {v : V} (d : Den g A m H w v) (e : frz T n w = some w') => frz_den h1 h3 n d e
    have ihL : ∀ {ws us : List W} {vs : List V}, DenL g A m H ws vs → mapO (frz T n) ws = some us → DenL g A' m' H us vs := by
      intro ws
      induction ws with
      | nil => intro us vs l e; cases l; cases mapO_nil e; exact .nil
      | cons w ws ihw =>
        intro us vs l e
        obtain ⟨_, _, rfl, a1, a2⟩ := mapO_cons e
        cases l with
        | cons d l => exact .cons (ih d a1) (ihw l a2)
    have ihP : ∀ {p q : W × W}, frzP T n p = some q → frz T n p.1 = some q.1 ∧ frz T n p.2 = some q.2 := fun {p q} e => by
      unfold frzP at e
      split at e
      · rename_i a1 a2
        cases e
        exact ⟨a1, a2⟩
      · cases e
    have ihK : ∀ {ws us : List (W × W)} {xs : List (Leaf × V)}, DenK g A m H ws xs → mapO (frzP T n) ws = some us → DenK g A' m' H us xs := by
      intro ws
      induction ws with
      | nil => intro us vs l e; cases l; cases mapO_nil e; exact .nil
      | cons w ws ihw =>
        intro us vs l e
        obtain ⟨⟨q1, q2⟩, _, rfl, a1, a2⟩ := mapO_cons e
        obtain ⟨b1, b2⟩ := ihP a1
        cases l with
        | cons k d l =>
          have e2 := frz_leaf T n k b1
          simp only at e2 b2
          subst e2
          exact .cons k (ih d b2) (ihw l a2)
    have ihN : ∀ {ws us : List (W × W)} {xs : List (NestedKey × Addr × V)}, DenN g A m H ws xs → mapO (frzP T n) ws = some us → DenN g A' m' H us xs := by
      intro ws
      induction ws with
      | nil => intro us vs l e; cases l; cases mapO_nil e; exact .nil
      | cons w ws ihw =>
        intro us vs l e
        obtain ⟨⟨q1, q2⟩, _, rfl, a1, a2⟩ := mapO_cons e
        obtain ⟨b1, b2⟩ := ihP a1
        cases l with
        | cons k dk d l =>
          have e2 := frz_key T n 8 k b1
          simp only at e2 b2
          have dk' := ih dk b1
          simp only at dk'
          subst e2
          exact .cons k dk' (ih d b2) (ihw l a2)
    have out : ∀ {a : Addr} {o : HO}, H a = some o → a ∉ A → a ∉ A' := fun {a o} ho n hm => by
      rcases h1 a hm with z | z
      · exact n z
      · rw [ho] at z; cases z
    have outR : ∀ {a : Addr} {vs : List V}, Rd H a (.lst vs) → a ∉ A → a ∉ A' := fun {a vs} ho n => by
      rcases ho with ho | ⟨o, ho⟩
      · exact out ho n
      · exact out ho n
    unfold frz at e
    cases d with
    | non => cases e; exact .non
    | bl b => cases e; exact .bl b
    | int i => cases e; exact .int i
    | str s => cases e; exact .str s
    | fn h => cases e; exact .fn h
    | tup h l => obtain ⟨us, e1, rfl⟩ := opt_map e; exact .tup h (ihL l e1)
    | vl na h l => obtain ⟨us, e1, rfl⟩ := opt_map e; exact .vl (outR h na) h (ihL l e1)
    | vlK h l => obtain ⟨us, e1, rfl⟩ := opt_map e; exact .vlK h (ihL l e1)
    | vdL na h l => obtain ⟨us, e1, rfl⟩ := opt_map e; exact .vdL (out h na) h (ihK l e1)
    | vdN na h l => obtain ⟨us, e1, rfl⟩ := opt_map e; exact .vdN (out h na) h (ihN l e1)
    | @ref i a h =>
      cases q : T[i]? with
      | none => simp only [q] at e; cases e
      | some o =>
        simp only [q] at e
        cases o with
        | lst ws =>
          obtain ⟨us, e1, rfl⟩ := opt_map e
          obtain ⟨oa, na⟩ := h3 i a _ h q (fun z => by cases z)
          cases oa with
          | lst ho l => exact .vl na (.of ho) (ihL l e1)
        | dct kvs =>
          obtain ⟨us, e1, rfl⟩ := opt_map e
          obtain ⟨oa, na⟩ := h3 i a _ h q (fun z => by cases z)
          cases oa with
          | dctL ho l => exact .vdL na ho (ihK l e1)
          | dctN ho l => exact .vdN na ho (ihN l e1)
        | _ => cases e
theorem frz_denL (h1 : ∀ a ∈ A', a ∈ A ∨ H a = none) (h3 : ∀ (j : Nat) a o, m[j]? = some a → T[j]? = some o → o ≠ .gone → OAt g A m H a o ∧ a ∉ A') {n : Nat} : ∀ {ws us : List W} {vs : List V}, DenL g A m H ws vs → mapO (frz T n) ws = some us → DenL g A' m' H us vs
  | [], us, vs, l, e => by cases l; cases mapO_nil e; exact .nil
  | w :: ws, us, vs, l, e => by
    obtain ⟨_, _, rfl, a1, a2⟩ := mapO_cons e
    cases l with
    | cons d l => exact .cons (frz_den h1 h3 n d a1) (frz_denL h1 h3 l a2)
theorem frz_denK (h1 : ∀ a ∈ A', a ∈ A ∨ H a = none) (h3 : ∀ (j : Nat) a o, m[j]? = some a → T[j]? = some o → o ≠ .gone → OAt g A m H a o ∧ a ∉ A') {n : Nat} : ∀ {ws us : List (W × W)} {xs : List (Leaf × V)}, DenK g A m H ws xs → mapO (frzP T n) ws = some us → DenK g A' m' H us xs := by
  intro ws
  induction ws with
  | nil => intro us vs l e; cases l; cases mapO_nil e; exact .nil
  | cons w ws ihw =>
    intro us vs l e
    obtain ⟨⟨q1, q2⟩, _, rfl, a1, a2⟩ := mapO_cons e
    unfold frzP at a1
    split at a1
    · rename_i b1 b2
      cases a1
      cases l with
      | cons k d l =>
        have e2 := frz_leaf T n k b1
        simp only at e2 b2
        subst e2
        exact .cons k (frz_den h1 h3 n d b2) (ihw l a2)
    · cases a1
theorem frz_denN (h1 : ∀ a ∈ A', a ∈ A ∨ H a = none) (h3 : ∀ (j : Nat) a o, m[j]? = some a → T[j]? = some o → o ≠ .gone → OAt g A m H a o ∧ a ∉ A') {n : Nat} : ∀ {ws us : List (W × W)} {xs : List (NestedKey × Addr × V)}, DenN g A m H ws xs → mapO (frzP T n) ws = some us → DenN g A' m' H us xs := by
  intro ws
  induction ws with
  | nil => intro us vs l e; cases l; cases mapO_nil e; exact .nil
  | cons w ws ihw =>
    intro us vs l e
    obtain ⟨⟨q1, q2⟩, _, rfl, a1, a2⟩ := mapO_cons e
    unfold frzP at a1
    split at a1
    · rename_i b1 b2
      cases a1
      cases l with
      | cons k dk d l =>
        have e2 := frz_key T n 8 k b1
        have dk' := frz_den (m' := m') h1 h3 n dk b1
        simp only at e2 b2 dk'
        subst e2
        exact .cons k dk' (frz_den h1 h3 n d b2) (ihw l a2)
    · cases a1
end
end Pm

namespace Pm
open PySem PySem.Spec PyProof.Rows L2 PySem.SeqAt

def rfree : Nat → W → Bool
  | 0, _ => false
  | n + 1, w => match w with
    | .tup ws => ws.all (rfree n)
    | .vl ws => ws.all (rfree n)
    | .vd kvs => kvs.all fun p => rfree n p.1 && rfree n p.2
    | .ref _ => false
    | _ => true
def argW (S : Sto) (ws : List W) : Option (List W) := if ws.all (rfree DEP) = true then some ws else mapO (frz S DEP) ws
def pcallM (n : Nat) (f : List W → M W) (ws : List W) : M W := fun S =>
  if ws.length = n then
    if ws.all (rfree DEP) = true then match f ws [] with
      | .ok w S' => match frz S' DEP w with
        | some w' => .ok w' S
        | none => .stuck
      | .exc C _ => .exc C S
      | .stuck => .stuck
    else match mapO (frz S DEP) ws with
      | none => .stuck
      | some us => match f us [] with
        | .ok w _ => if pureW DEP w = true then .ok w S else .stuck
        | .exc C _ => .exc C S
        | .stuck => .stuck
  else .stuck
def impO (S' : Sto) (w : W) : Option O := match w with
  | .ref i => match S'[i]? with
    | some (.lst ws) => (mapO (frz (S'.set i .gone) DEP) ws).map .lst
    | some (.dct kvs) => (mapO (frzP (S'.set i .gone) DEP) kvs).map .dct
    | _ => none
  | _ => none
def impP (S' : Sto) (w : W) : Option O := match w with
  | .ref i => match S'[i]? with
    | some (.lst ws) => if ws.all (pureW DEP) = true then some (.lst ws) else none
    | _ => none
  | _ => none
def pcallF (n : Nat) (f : List W → M W) (ws : List W) : M O := fun S =>
  if ws.length = n then
    if ws.all (rfree DEP) = true then match f ws [] with
      | .ok w S' => match impO S' w with
        | some o => .ok o S
        | none => .stuck
      | .exc C _ => .exc C S
      | .stuck => .stuck
    else match mapO (frz S DEP) ws with
      | none => .stuck
      | some us => match f us [] with
        | .ok w S' => match impP S' w with
          | some o => .ok o S
          | none => .stuck
        | .exc C _ => .exc C S
        | .stuck => .stuck
  else .stuck
section
variable {g : G} {A m A' m' : List Addr} {H : Hp}
theorem den_rfree : ∀ (n : Nat) {w : W} {v : V}, rfree n w = true → Den g A m H w v → Den g A m' H w v
  | 0, _, _, h, _ => by cases h
  | n + 1, w, v, h, d => by
    have ihL : ∀ {ws : List W} {vs : List V}, ws.all (rfree n) = true → DenL g A m H ws vs → DenL g A m' H ws vs := by
      intro ws
      induction ws with
      | nil => intro vs _ l; cases l; exact .nil
      | cons w ws ih =>
        intro vs h l
        simp only [List.all_cons, Bool.and_eq_true] at h
        cases l with
        | cons d l => exact .cons (den_rfree n h.1 d) (ih h.2 l)
    unfold rfree at h
    cases d with
    | non => exact .non
    | bl b => exact .bl b
    | int i => exact .int i
    | str s => exact .str s
    | fn z => exact .fn z
    | tup t l => exact .tup t (ihL h l)
    | vl na t l => exact .vl na t (ihL h l)
    | vlK t l => exact .vlK t (ihL h l)
    | @vdL kvs a xs na t l =>
      refine .vdL na t ?_
      clear t
      induction kvs generalizing xs with
      | nil => cases l; exact .nil
      | cons w ws ih =>
        simp only [List.all_cons, Bool.and_eq_true] at h
        cases l with
        | cons k d l => exact .cons k (den_rfree n h.1.2 d) (ih l h.2)
    | @vdN kvs a xs na t l =>
      refine .vdN na t ?_
      clear t
      induction kvs generalizing xs with
      | nil => cases l; exact .nil
      | cons w ws ih =>
        simp only [List.all_cons, Bool.and_eq_true] at h
        cases l with
        | cons k dk d l => exact .cons k (den_rfree n h.1.1 dk) (den_rfree n h.1.2 d) (ih l h.2)
    | ref _ => cases h
theorem den_pure : ∀ (n : Nat) {w : W} {v : V}, pureW n w = true → Den g A m H w v → Den g A' m' H w v
  | 0, _, _, h, _ => by cases h
  | n + 1, w, v, h, d => by
    have ihL : ∀ {ws : List W} {vs : List V}, ws.all (pureW n) = true → DenL g A m H ws vs → DenL g A' m' H ws vs := by
      intro ws
      induction ws with
      | nil => intro vs _ l; cases l; exact .nil
      | cons w ws ih =>
        intro vs h l
        simp only [List.all_cons, Bool.and_eq_true] at h
        cases l with
        | cons d l => exact .cons (den_pure n h.1 d) (ih h.2 l)
    unfold pureW at h
    cases d with
    | non => exact .non
    | bl b => exact .bl b
    | int i => exact .int i
    | str s => exact .str s
    | tup t l => exact .tup t (ihL h l)
    | _ => cases h
theorem den_rfreeL : ∀ {ws : List W} {vs : List V}, ws.all (rfree DEP) = true → DenL g A m H ws vs → DenL g A m' H ws vs
  | [], vs, _, l => by cases l; exact .nil
  | w :: ws, vs, h, l => by
    simp only [List.all_cons, Bool.and_eq_true] at h
    cases l with
    | cons d l => exact .cons (den_rfree DEP h.1 d) (den_rfreeL h.2 l)
theorem den_pureL : ∀ {ws : List W} {vs : List V}, ws.all (pureW DEP) = true → DenL g A m H ws vs → DenL g A' m' H ws vs
  | [], vs, _, l => by cases l; exact .nil
  | w :: ws, vs, h, l => by
    simp only [List.all_cons, Bool.and_eq_true] at h
    cases l with
    | cons d l => exact .cons (den_pure DEP h.1 d) (den_pureL h.2 l)
end
section
variable {g : G} {B m : List Addr} {S : Sto} {H H' : Hp}
/-- for the callee: all that is there is another's -/
theorem Rep.forCall (r : Rep g B m S H) : Rep g (B ++ m) [] [] H := ⟨rfl, by rw [List.append_nil]; exact r.nd, fun b hb => r.mu b (by rw [List.append_nil] at hb; exact hb), fun i a o h _ => by simp at h⟩
theorem Rep.none_ : Rep g [] [] [] H where
  len := rfl
  nd := List.nodup_nil
  mu := fun b hb => absurd hb (by simp)
  obj := fun i a o h _ => by simp at h
theorem Rep.back (r : Rep g B m S H) {m' : List Addr} (e : Ext [] H m' H') : Rep g B m S H' ∧ Ext m H m H' ∧ Carry g (B ++ m) m H (B ++ m) m H' := r.grow fun a o h => e.fr a o h (by simp)
theorem Rep.backF (r : Rep g B m S H) {m' : List Addr} {p : Addr} (e : Ext [] H m' H') (n : H p = none) (mu : Mut (H' p)) : Rep g (B ++ [p]) m S H' := by
  obtain ⟨r1, e1, c1⟩ := r.back e
  have np : p ∉ B ++ m := fun hm => by
    have z := r.mu p hm
    rw [n] at z
    exact z
  have c : Carry g (B ++ m) m H (B ++ [p] ++ m) m H' := ⟨c1.stay, fun a u h na hm => by
    simp only [List.mem_append, List.mem_singleton] at hm na
    rcases hm with (z | z) | z
    · exact na (.inl z)
    · rw [z, n] at h
      cases h
    · exact na (.inr z), c1.ref⟩
  refine ⟨r.len, ?_, fun b hb => ?_, fun i a u h1 h2 => ?_⟩
  · have e : (B ++ [p] ++ m).Perm (p :: (B ++ m)) := by
      rw [List.append_assoc]
      exact List.perm_middle
    exact e.symm.nodup (List.nodup_cons.mpr ⟨np, r.nd⟩)
  · simp only [List.mem_append, List.mem_singleton] at hb
    rcases hb with (z | z) | z
    · exact r1.mu b (List.mem_append_left _ z)
    · rw [z]; exact mu
    · exact r1.mu b (List.mem_append_right _ z)
  · have hm := List.mem_append_right B (List.mem_of_getElem? h1)
    refine (r.obj i a u h1 h2).carry c ?_
    have mua := r.mu a hm
    cases q : H a with
    | none => rw [q] at mua; exact mua.elim
    | some o => exact e.fr a o q (by simp)
theorem OAt.mut {A : List Addr} {a : Addr} {o : O} (h : OAt g A m H a o) : Mut (H a) := by
  cases h with
  | lst h _ => rw [h]; exact True.intro
  | dctL h _ => rw [h]; exact True.intro
  | dctN h _ => rw [h]; exact True.intro
  | obj _ h _ => rw [h]; exact True.intro
end
section
variable {X : Cx} {Wx : WX} {k j : Nat} {x : Str} {n : Nat} {f : List W → M W} {e : Expr} {es : List Expr} {cl : Rho → M (List W)} {p pos : Pos}
theorem nodup_right {B m m' : List Addr} {a : Addr} (h : (B ++ m ++ m').Nodup) (ha : a ∈ m') : a ∉ B ++ m := fun z => (List.nodup_append.mp h).2.2 a z a ha rfl
theorem pc_val {g : G} {B m : List Addr} {S : Sto} {H : Hp} {σ : L2.St} {ws : List W} {vs : List V} {Q : VK} (r : Rep g B m S H) (l : DenL g (B ++ m) m H ws vs) (p : Post g Wx B m H σ (pcallM n f ws S) fun m' H' w => ∀ v, Den g (B ++ m') m' H' w v → Q v H') :
    spM g n f vs H Q (WE Wx σ) := by
  unfold pcallM at p
  split at p
  · rename_i hn
    refine ⟨l.length.symm.trans hn, ?_⟩
    split at p
    · rename_i hf
      refine ⟨B ++ m, [], [], ws, r.forCall, by rw [List.append_nil]; exact den_rfreeL hf l, ?_⟩
      cases q : f ws [] with
      | ok w S' =>
        simp only [q] at p
        intro m' H' e' r' v dv
        cases q2 : frz S' DEP w with
        | none => simp only [q2] at p; exact p.elim
        | some w' =>
          simp only [q2] at p
          obtain ⟨r1, e1, c1⟩ := r.back e'
          refine p m H' e1 r1 v (frz_den (A := B ++ m ++ m') (fun a ha => .inl (List.mem_append_left _ ha)) (fun j a o h1 h2 _ => ⟨r'.obj j a o h1 h2, nodup_right r'.nd (List.mem_of_getElem? h1)⟩) DEP dv q2)
      | exc C S' =>
        simp only [q] at p
        intro m' H' a e' r' hC
        obtain ⟨r1, e1, c1⟩ := r.back e'
        exact p m H' a e1 r1 hC
      | stuck => simp only [q] at p; exact p.elim
    · cases q0 : mapO (frz S DEP) ws with
      | none => simp only [q0] at p; exact p.elim
      | some us =>
        simp only [q0] at p
        refine ⟨[], [], [], us, Rep.none_, frz_denL (A := B ++ m) (fun a ha => by cases ha) (fun j a o h1 h2 _ => ⟨r.obj j a o h1 h2, by simp⟩) l q0, ?_⟩
        cases q : f us [] with
        | ok w S' =>
          simp only [q] at p
          intro m' H' e' r' v dv
          split at p
          · rename_i hp
            obtain ⟨r1, e1, c1⟩ := r.back e'
            exact p m H' e1 r1 v (den_pure DEP hp dv)
          · exact p.elim
        | exc C S' =>
          simp only [q] at p
          intro m' H' a e' r' hC
          obtain ⟨r1, e1, c1⟩ := r.back e'
          exact p m H' a e1 r1 hC
        | stuck => simp only [q] at p; exact p.elim
  · exact p.elim
theorem pc_new {g : G} {B m : List Addr} {S : Sto} {H : Hp} {σ : L2.St} {ws : List W} {vs : List V} {Q : VK} (r : Rep g B m S H) (l : DenL g (B ++ m) m H ws vs) (p : PostF g Wx B σ Q m H (pcallF n f ws S)) : spM g n f vs H Q (WE Wx σ) := by
  unfold pcallF at p
  split at p
  · rename_i hn
    refine ⟨l.length.symm.trans hn, ?_⟩
    split at p
    · rename_i hf
      refine ⟨B ++ m, [], [], ws, r.forCall, by rw [List.append_nil]; exact den_rfreeL hf l, ?_⟩
      cases q : f ws [] with
      | ok w S' =>
        simp only [q] at p
        intro m' H' e' r' v dv
        cases q2 : impO S' w with
        | none => simp only [q2] at p; exact p.elim
        | some o =>
          simp only [q2] at p
          obtain ⟨r1, e1, c1⟩ := r.back e'
          unfold impO at q2
          cases w with
          | ref i =>
            simp only at q2
            cases q3 : S'[i]? with
            | none => simp only [q3] at q2; cases q2
            | some ob =>
              obtain ⟨a, rfl, ha, oa⟩ := den_ref r' dv q3
              have hna : H a = none := e'.new a (List.mem_of_getElem? ha) (by simp)
              have r2 := r.backF e' hna oa.mut
              have nd' := (List.nodup_append.mp r'.nd).2.1
              have h1 : ∀ b ∈ B ++ [a] ++ m, b ∈ B ++ m ++ m' ∨ H' b = none := fun b hb => by
                simp only [List.mem_append, List.mem_singleton] at hb ⊢
                rcases hb with (z | z) | z
                · exact .inl (.inl (.inl z))
                · rw [z]; exact .inl (.inr (List.mem_of_getElem? ha))
                · exact .inl (.inl (.inr z))
              have h3 : ∀ (j : Nat) b o, m'[j]? = some b → (S'.set i .gone)[j]? = some o → o ≠ .gone → OAt g (B ++ m ++ m') m' H' b o ∧ b ∉ B ++ [a] ++ m := fun j b o g1 g2 g3 => by
                have hj : i ≠ j := fun z => by
                  subst z
                  rw [List.getElem?_set_self (List.getElem?_eq_some_iff.mp q3).1] at g2
                  cases g2
                  exact g3 rfl
                rw [List.getElem?_set_ne hj] at g2
                refine ⟨r'.obj j b o g1 g2, fun hb => ?_⟩
                have n1 := nodup_right r'.nd (List.mem_of_getElem? g1)
                simp only [List.mem_append, List.mem_singleton] at hb n1
                rcases hb with (z | z) | z
                · exact n1 (.inl z)
                · subst z
                  have u1 := List.getElem?_eq_some_iff.mp g1
                  have u2 := List.getElem?_eq_some_iff.mp ha
                  exact hj ((List.getElem_inj nd').mp (u2.2.trans u1.2.symm))
                · exact n1 (.inr z)
              cases ob with
              | lst ws =>
                simp only [q3] at q2
                obtain ⟨us, b1, rfl⟩ := opt_map q2
                cases oa with
                | lst ho lo => exact p m H' a e1 hna r2 (.lst ho (frz_denL h1 h3 lo b1))
              | dct kvs =>
                simp only [q3] at q2
                obtain ⟨us, b1, rfl⟩ := opt_map q2
                cases oa with
                | dctL ho lo => exact p m H' a e1 hna r2 (.dctL ho (frz_denK h1 h3 lo b1))
                | dctN ho lo => exact p m H' a e1 hna r2 (.dctN ho (frz_denN h1 h3 lo b1))
              | _ => simp only [q3] at q2; cases q2
          | _ => cases q2
      | exc C S' =>
        simp only [q] at p
        intro m' H' a e' r' hC
        obtain ⟨r1, e1, c1⟩ := r.back e'
        exact p m H' a e1 r1 hC
      | stuck => simp only [q] at p; exact p.elim
    · cases q0 : mapO (frz S DEP) ws with
      | none => simp only [q0] at p; exact p.elim
      | some us =>
        simp only [q0] at p
        refine ⟨[], [], [], us, Rep.none_, frz_denL (A := B ++ m) (fun a ha => by cases ha) (fun j a o h1 h2 _ => ⟨r.obj j a o h1 h2, by simp⟩) l q0, ?_⟩
        cases q : f us [] with
        | ok w S' =>
          simp only [q] at p
          intro m' H' e' r' v dv
          cases q2 : impP S' w with
          | none => simp only [q2] at p; exact p.elim
          | some o =>
            simp only [q2] at p
            obtain ⟨r1, e1, c1⟩ := r.back e'
            unfold impP at q2
            cases w with
            | ref i =>
              simp only at q2
              cases q3 : S'[i]? with
              | none => simp only [q3] at q2; cases q2
              | some ob =>
                obtain ⟨a, rfl, ha, oa⟩ := den_ref r' dv q3
                have hna : H a = none := e'.new a (List.mem_of_getElem? ha) (by simp)
                have r2 := r.backF e' hna oa.mut
                cases ob with
                | lst ws =>
                  simp only [q3] at q2
                  split at q2
                  · rename_i hp
                    cases q2
                    cases oa with
                    | lst ho lo => exact p m H' a e1 hna r2 (.lst ho (den_pureL hp lo))
                  · cases q2
                | _ => simp only [q3] at q2; cases q2
            | _ => cases q2
        | exc C S' =>
          simp only [q] at p
          intro m' H' a e' r' hC
          obtain ⟨r1, e1, c1⟩ := r.back e'
          exact p m H' a e1 r1 hC
        | stuck => simp only [q] at p; exact p.elim
  · exact p.elim
theorem me_pcall (o : Ok X Wx j) (c : Cal (gOf X) X.base k x n f) (hk : k ≤ j) (hg : Gl X x) (ha : MA X Wx (e :: es) cl) (hdb : (x == ("__debug__" : Str)) = false := by decide) (he : starEach (e :: es) X.env = (false, eval e X.env) :: starEach es X.env := by rfl) (hpl : (backTo pos (starEach es X.env)).any (·.1) = false := by rfl) :
    ME X Wx (.Call (.Name x p) (e :: es) [] pos) (fun ρ => do let ws ← cl ρ; pcallM n f ws) := by
  obtain ⟨fa, fd, ps, F, gx, kp, hb⟩ := c.ex
  exact (pe_callS F (o.room.mono hk) hg gx kp hb (fun σ => passAt o.tk σ) ha hdb he hpl).imp fun σ H Q ⟨B, m, S, ρ, r, d, p⟩ => TL.to zPost r d p fun ws S1 m1 H1 vs e1 r1 d1 dv p1 c1 => pc_val r1 dv p1
theorem mf_pcall (o : Ok X Wx j) (c : Cal (gOf X) X.base k x n f) (hk : k ≤ j) (hg : Gl X x) (ha : MA X Wx (e :: es) cl) (hdb : (x == ("__debug__" : Str)) = false := by decide) (he : starEach (e :: es) X.env = (false, eval e X.env) :: starEach es X.env := by rfl) (hpl : (backTo pos (starEach es X.env)).any (·.1) = false := by rfl) :
    MF X Wx (.Call (.Name x p) (e :: es) [] pos) (fun ρ => do let ws ← cl ρ; pcallF n f ws) := by
  obtain ⟨fa, fd, ps, F, gx, kp, hb⟩ := c.ex
  exact (pe_callS F (o.room.mono hk) hg gx kp hb (fun σ => passAt o.tk σ) ha hdb he hpl).imp fun σ H Q ⟨B, m, S, ρ, r, d, p⟩ => TL.to zPostF r d p fun ws S1 m1 H1 vs e1 r1 d1 dv p1 c1 => pc_new r1 dv p1
theorem me_pcall0 (o : Ok X Wx j) (c : Cal (gOf X) X.base k x 0 f) (hk : k ≤ j) (hg : Gl X x) (hdb : (x == ("__debug__" : Str)) = false := by decide) : ME X Wx (.Call (.Name x p) [] [] pos) (fun ρ => pcallM 0 f []) := by
  obtain ⟨fa, fd, ps, F, gx, kp, hb⟩ := c.ex
  exact (pe_callS0 F (o.room.mono hk) hg gx kp hb (fun σ => passAt o.tk σ) hdb).imp fun σ H Q ⟨B, m, S, ρ, r, d, p⟩ => pc_val (vs := []) r .nil p
theorem mf_pcall0 (o : Ok X Wx j) (c : Cal (gOf X) X.base k x 0 f) (hk : k ≤ j) (hg : Gl X x) (hdb : (x == ("__debug__" : Str)) = false := by decide) : MF X Wx (.Call (.Name x p) [] [] pos) (fun ρ => pcallF 0 f []) := by
  obtain ⟨fa, fd, ps, F, gx, kp, hb⟩ := c.ex
  exact (pe_callS0 F (o.room.mono hk) hg gx kp hb (fun σ => passAt o.tk σ) hdb).imp fun σ H Q ⟨B, m, S, ρ, r, d, p⟩ => pc_new (vs := []) r .nil p
end
end Pm

namespace Pm
open PySem PySem.Spec PyProof.Rows L2 PySem.SeqAt

/-! ### methods of lists -/
abbrev MO_ := Sto → W → List W → Option (W × Sto)
def opM (o : MO_) (x : W) (xs : List W) : M W := fun S => match o S x xs with
  | some (w, S') => .ok w S'
  | none => .stuck
def rmO (g : G) (o : MO_) : V → List V → Hp → VK → Prop := fun x xs H Q => ∃ B m S wx ws w S', Rep g B m S H ∧ Den g (B ++ m) m H wx x ∧ DenL g (B ++ m) m H ws xs ∧ o S wx ws = some (w, S') ∧
  ∀ H' v, Ext m H m H' → Rep g B m S' H' → Den g (B ++ m) m H' w v → Q v H'
abbrev MtO (X : Cx) (id : String) (o : MO_) : Prop := MtR X id (rmO (gOf X) o)
def isL (x : W) : M Unit := fun S => if (lstO S x).isSome = true then .ok () S else .stuck
theorem post_opM {g : G} {Wx : WX} {B m : List Addr} {S : Sto} {H : Hp} {σ : L2.St} {o : MO_} {x : W} {xs : List W} {P : List Addr → Hp → W → Prop} (h : Post g Wx B m H σ (opM o x xs S) P) :
    ∃ w S', o S x xs = some (w, S') ∧ ∀ m' H', Ext m H m' H' → Rep g B m' S' H' → P m' H' w := by
  unfold opM at h
  split at h
  · rename_i w S' e
    exact ⟨w, S', e, h⟩
  · exact h.elim
theorem isL_ok {x : W} {S : Sto} {α : Type} {f : Unit → M α} : ((isL x >>= f) S) = (if (lstO S x).isSome = true then f () S else .stuck) := by
  show M.bind (isL x) f S = _
  unfold M.bind isL
  by_cases h : (lstO S x).isSome = true
  · rw [if_pos h, if_pos h]
  · rw [if_neg h, if_neg h]
section
variable {X : Cx} {Wx : WX} {e ob : Expr} {es : List Expr} {co : Rho → M W} {cl : Rho → M (List W)} {name : Str} {apos cpos : Pos} {id : String} {o : MO_}
def tyL {g : G} {B m : List Addr} {S : Sto} {H : Hp} {w : W} {v : V} (r : Rep g B m S H) (d : Den g (B ++ m) m H w v) (h : (lstO S w).isSome = true) : tyV g.K "list" v H := by
  obtain ⟨ws, e⟩ := Option.isSome_iff_exists.mp h
  obtain ⟨a, vs, rfl, hl, _⟩ := den_lst r d e
  exact .inl ⟨rfl, vs, hl⟩
theorem me_lm (pa : PlainAttrs "list") (slot : Slot "list" name id) (hty : typeOf (.builtin id) = pure (.type "method_descriptor")) (hm : MtO X id o) (ho : ME X Wx ob co) (ha : MA X Wx (e :: es) cl)
    (hbase : attributeBase ob name X.env (eval ob X.env) = eval ob X.env := by rfl)
    (hfew : ((backTo cpos (starEach (e :: es) X.env)).all (fun x => !x.1) && (backToKw cpos (keywordEach [] X.env)).all (fun x => x.1.isSome)
      && decide ((e :: es).length + ([] : List Keyword).length + (if ([] : List Keyword).isEmpty then 0 else 1) < 30)) = true := by rfl)
    (hline : (apos.endLine == cpos.line) = true := by rfl) (hs : starEach (e :: es) X.env = (false, eval e X.env) :: starEach es X.env := by rfl) (hplain : (backTo cpos (starEach es X.env)).any (·.1) = false := by rfl) :
    ME X Wx (.Call (.Attribute ob name apos) (e :: es) [] cpos) (fun ρ => do let x ← co ρ; let _ ← isL x; let xs ← cl ρ; opM o x xs) :=
  (pe_bm pa slot hty hm ho ha hbase hfew hline hs hplain).imp fun σ H Q ⟨B, m, S, ρ, r, d, p⟩ => TM.to zPost r d p fun x S1 m1 H1 v e1 r1 d1 dv p1 c1 => by
    rw [isL_ok] at p1
    split at p1
    · rename_i hL
      refine ⟨tyL r1 dv hL, TL.to zPost r1 d1 p1 fun xs S2 m2 H2 vs e2 r2' d2 dvs p2 c2 => ?_⟩
      obtain ⟨w, S', ew, pw⟩ := post_opM p2
      exact ⟨B, m2, S2, x, xs, w, S', r2', dv.carry c2, dvs, ew, fun H' v e r d => pw m2 H' e r v d⟩
    · exact p1.elim
theorem me_lm0 (pa : PlainAttrs "list") (slot : Slot "list" name id) (hty : typeOf (.builtin id) = pure (.type "method_descriptor")) (hm : MtO X id o) (ho : ME X Wx ob co)
    (hbase : attributeBase ob name X.env (eval ob X.env) = eval ob X.env := by rfl) (hline : (apos.endLine == cpos.line) = true := by rfl) : ME X Wx (.Call (.Attribute ob name apos) [] [] cpos) (fun ρ => do let x ← co ρ; let _ ← isL x; opM o x []) :=
  (pe_bm0 pa slot hty hm ho hbase hline).imp fun σ H Q ⟨B, m, S, ρ, r, d, p⟩ => TM.to zPost r d p fun x S1 m1 H1 v e1 r1 d1 dv p1 c1 => by
    rw [isL_ok] at p1
    split at p1
    · rename_i hL
      obtain ⟨w, S', ew, pw⟩ := post_opM p1
      exact ⟨tyL r1 dv hL, B, m1, S1, x, [], w, S', r1, dv, .nil, ew, fun H' v e r d => pw m1 H' e r v d⟩
    · exact p1.elim
end
def appO : MO_ := fun S x xs => match x, xs with
  | .ref k, [y] => match S[k]? with
    | some (.lst ws) => if ws.length < 16777216 then some (.non, S.set k (.lst (ws ++ [y]))) else none
    | _ => none
  | _, _ => none
def extO : MO_ := fun S x xs => match x, xs with
  | .ref k, [y] => match S[k]? with
    | some (.lst ws) => match lstO S y with
      | some us => if ws.length + us.length ≤ 16777216 then some (.non, S.set k (.lst (ws ++ us))) else none
      | none => none
    | _ => none
  | _, _ => none
def popO : MO_ := fun S x xs => match x, xs with
  | .ref k, [] => match S[k]? with
    | some (.lst ws) => match ws[ws.length - 1]? with
      | some y => some (y, S.set k (.lst ws.dropLast))
      | none => none
    | _ => none
  | _, _ => none
def insO : MO_ := fun S x xs => match x, xs with
  | .ref k, [.int i, y] => match S[k]? with
    | some (.lst ws) => if ws.length < 16777216 ∧ 0 ≤ i ∧ i < 4611686018427387904 then some (.non, S.set k (.lst (ws.take i.toNat ++ [y] ++ ws.drop i.toNat))) else none
    | _ => none
  | _, _ => none
def revO : MO_ := fun S x xs => match x, xs with
  | .ref k, [] => match S[k]? with
    | some (.lst ws) => some (.non, S.set k (.lst ws.reverse))
    | _ => none
  | _, _ => none
def idxO : MO_ := fun S x xs => match xs with
  | [y] => match lstO S x with
    | some ws => match mapO (datF S) ws, datF S y with
      | some ds, some d => if (PyData.canLayAll0 ds && d.canLay0) = true then match ds.findIdx? (fun z => PyData.eqv z d) with
          | some j => some (.int (j : Nat), S)
          | none => none
        else none
      | _, _ => none
    | none => none
  | _ => none
section
variable {X : Cx}
theorem m_append : MtO X "list.append" appO := fun pins s σ H x xs v us Q I rx rxs ⟨B, m, S, wx, ws, w, S', r, dx, dl, e, q⟩ => by
  unfold appO at e
  split at e
  · rename_i k y
    split at e
    · rename_i us' q1
      split at e
      · rename_i hz
        cases e
        obtain ⟨a, rfl, hk, oa⟩ := den_ref r dx q1
        obtain ⟨u, rfl, du⟩ := dl.one
        cases oa with
        | @lst _ vs h1 l =>
          obtain ⟨e', r', c⟩ := r.store (o := .lst (us' ++ [y])) (ho := .lst (vs ++ [u])) hk True.intro fun c => .lst upd_same ((l.append (.cons du .nil)).carry c)
          exact mt_append pins s σ H _ _ v us Q I rx rxs ⟨a, vs, u, rfl, rfl, h1, by rw [← l.length, sizeLine_eq]; exact hz, q _ _ e' r' .non⟩
      · cases e
    · cases e
  · cases e
open AutoSeq1 in
theorem list_extendW (l : Addr) (items : Array Value) (n : Nat) (b : Addr) (items2 : Array Value) (n2 : Nat) (dd2 : Option Addr) (sl2 : Array (Option Value)) (hc0 : ¬(!items.isEmpty && Builtin.List.listTooLong (items.size + items2.size)) = true) (hc1 : items.size ≤ sizeLine) (hs2 : items.size + items2.size ≤ sizeLine + 1) :
    Meets (Builtin.«list.extend» ⟨[.ref l, .ref b], []⟩) (fun _ R s => s.heap.get? l = some { cls := .type "list", dict := none, data := .seq items n, slots := #[] } ∧ s.heap.get? b = some { cls := .type "list", dict := dd2, data := .seq items2 n2, slots := sl2 } ∧ R (.ok (.ret .none)) { s with heap := s.heap.update l (Obj.mapSeq fun x => x ++ items2), toks := s.toks }) :=
  .of_wp fun prog w A R s h => by
    obtain ⟨hp, g, d, tk, os⟩ := s; obtain ⟨hl, hb, h⟩ := h; have f1 := idx_int; have f2 := AutoSeq1.sub_tuple_tuple; have f3 := AutoSeq1.sub_list_list; have f4 := AutoSeq1.sub_tuple_list; have f5 := AutoSeq1.sub_list_tuple;
    have hz' : (items ++ items2).size ≤ sizeLine + 1 := by rw [Array.size_append]; exact hs2
    wp_walk using (wpAny_updateSeq hl rfl (hz := hc1) (_hz' := hz')), wpAny_loadPart' hl, wpAny_loadPart' hb; exact ⟨_, rfl, h⟩
theorem mt_extendW : MtR X "list.extend" (fun x vs H Q => ∃ l b xs zs, x = .ref l ∧ vs = [.ref b] ∧ H l = some (.lst xs) ∧ SqL X.K H b zs ∧ xs.length + zs.length ≤ sizeLine ∧ Q .non (upd H l (.lst (xs ++ zs)))) := by
  intro pins s σ H x vs v us Q I rx rv h
  obtain ⟨l, b, xs, zs, rfl, rfl, hH, hB, hz, q⟩ := h
  cases rx
  obtain ⟨u, rfl, ru⟩ := rv.one
  cases ru
  obtain ⟨z, its, n, r, hl, e⟩ := I.lstM hH
  obtain ⟨its2, r2, pl2, z2⟩ := I.list hB
  obtain ⟨⟨cls2, dd2, data2, sl2⟩, ho2, hc2, n2, hd2⟩ := id pl2.isList
  simp only at hc2 hd2
  subst hc2 hd2
  have hl2 := r2.length
  have hsz : its.toArray.size + its2.toArray.size ≤ sizeLine := by rw [List.size_toArray, List.size_toArray]; omega
  have hlong : ¬ (!its.toArray.isEmpty && Builtin.List.listTooLong (its.toArray.size + its2.toArray.size)) = true := by
    rw [notLongL hsz, Bool.and_false]
    exact Bool.false_ne_true
  refine call_meets F.slot_list_extend ⟨_, e, rfl⟩ F.entry_list_extend (F.args_list_extend_2 _ _)
    (list_extendW l its.toArray n b its2.toArray n2 dd2 sl2 hlong (by rw [List.size_toArray]; omega) (by omega)) ⟨e, ho2, ?_⟩
  refine ⟨.non, _, I.lset (its' := its ++ its2) hH e (by simp) (r.append r2) ?_, rfl, q⟩
  rw [List.length_append]
  omega
theorem m_extend : MtO X "list.extend" extO := fun pins s σ H x xs v us Q I rx rxs ⟨B, m, S, wx, ws, w, S', r, dx, dl, e, q⟩ => by
  unfold extO at e
  split at e
  · rename_i k y
    split at e
    · rename_i us' q1
      split at e
      · rename_i zs q2
        split at e
        · rename_i hz
          cases e
          obtain ⟨a, rfl, hk, oa⟩ := den_ref r dx q1
          obtain ⟨u, rfl, du⟩ := dl.one
          obtain ⟨b, us2, rfl, hb, lb⟩ := den_lst r du q2
          cases oa with
          | @lst _ vs h1 l =>
            obtain ⟨e', r', c⟩ := r.store (o := .lst (us' ++ zs)) (ho := .lst (vs ++ us2)) hk True.intro fun c => .lst upd_same ((l.append lb).carry c)
            exact mt_extendW pins s σ H _ _ v us Q I rx rxs ⟨a, b, vs, us2, rfl, rfl, h1, hb, by rw [← l.length, ← lb.length, sizeLine_eq]; exact hz, q _ _ e' r' .non⟩
        · cases e
      · cases e
    · cases e
  · cases e
theorem m_pop : MtO X "list.pop" popO := fun pins s σ H x xs v us Q I rx rxs ⟨B, m, S, wx, ws, w, S', r, dx, dl, e, q⟩ => by
  unfold popO at e
  split at e
  · rename_i k
    split at e
    · rename_i us' q1
      split at e
      · rename_i y q2
        cases e
        obtain ⟨a, rfl, hk, oa⟩ := den_ref r dx q1
        cases dl
        cases oa with
        | @lst _ vs h1 l =>
          obtain ⟨u, hu, du⟩ := l.get q2
          obtain ⟨e', r', c⟩ := r.store (o := .lst us'.dropLast) (ho := .lst vs.dropLast) hk True.intro fun c => .lst upd_same (l.dropLast.carry c)
          exact mt_pop pins s σ H _ _ v us Q I rx rxs ⟨a, vs, u, rfl, rfl, h1, by rw [← l.length]; exact hu, q _ _ e' r' (du.carry c)⟩
      · cases e
    · cases e
  · cases e
theorem m_reverse : MtO X "list.reverse" revO := fun pins s σ H x xs v us Q I rx rxs ⟨B, m, S, wx, ws, w, S', r, dx, dl, e, q⟩ => by
  unfold revO at e
  split at e
  · rename_i k
    split at e
    · rename_i us' q1
      cases e
      obtain ⟨a, rfl, hk, oa⟩ := den_ref r dx q1
      cases dl
      cases oa with
      | @lst _ vs h1 l =>
        obtain ⟨e', r', c⟩ := r.store (o := .lst us'.reverse) (ho := .lst vs.reverse) hk True.intro fun c => .lst upd_same (l.reverse.carry c)
        exact mt_reverse pins s σ H _ _ v us Q I rx rxs ⟨a, vs, rfl, rfl, h1, q _ _ e' r' .non⟩
    · cases e
  · cases e
theorem m_insert : MtO X "list.insert" insO := fun pins s σ H x xs v us Q I rx rxs ⟨B, m, S, wx, ws, w, S', r, dx, dl, e, q⟩ => by
  unfold insO at e
  split at e
  · rename_i k i y
    split at e
    · rename_i us' q1
      split at e
      · rename_i hz
        cases e
        obtain ⟨a, rfl, hk, oa⟩ := den_ref r dx q1
        obtain ⟨u, u', rfl, du, du'⟩ := dl.two
        cases oa with
        | @lst _ vs h1 l =>
          obtain ⟨e', r', c⟩ := r.store (o := .lst (us'.take i.toNat ++ [y] ++ us'.drop i.toNat)) (ho := .lst (vs.take i.toNat ++ [u'] ++ vs.drop i.toNat)) hk True.intro fun c => .lst upd_same ((((l.take _).append (.cons du' .nil)).append (l.drop _)).carry c)
          rw [du.int_of] at rxs
          refine mt_insert pins s σ H _ _ v us Q I rx rxs ⟨a, vs, i, u', rfl, rfl, h1, by rw [← l.length, sizeLine_eq]; exact hz.1, hz.2.1, by have := hz.2.2; omega, q _ _ e' r' .non⟩
      · cases e
    · cases e
  · cases e
theorem m_index (hu : X.A.units + 64 < cLine) : MtO X "list.index" idxO := fun pins s σ H x xs v us Q I rx rxs ⟨B, m, S, wx, ws, w, S', r, dx, dl, e, q⟩ => by
  unfold idxO at e
  split at e
  · rename_i y
    split at e
    · rename_i zs q1
      split at e
      · rename_i ds d q2 q3
        split at e
        · rename_i hl
          split at e
          · rename_i j q4
            cases e
            simp only [Bool.and_eq_true] at hl
            obtain ⟨a, vs, rfl, hs, l⟩ := den_lst r dx q1
            obtain ⟨u, rfl, du⟩ := dl.one
            cases rx
            obtain ⟨uy, rfl, ry⟩ := rxs.one
            obtain ⟨⟨bs, r1⟩, p1, d1⟩ := reads_of I r DEP du ry q3
            obtain ⟨its, rv, ⟨⟨cls, dd, data, sls⟩, n, ho, hc, hdn, hdt⟩, hlen⟩ := I.list hs
            simp only at hc hdt
            subst hc hdt
            obtain ⟨⟨as, h4⟩, p2, d2⟩ := readsAll_of (fun h1 h2 h3 => reads_of I r DEP h1 h2 h3) l rv q2
            have hn : its.length = ds.length := SeqAt.ReadsAll.length ds its as h4
            have hmap : its.map (SeqAt.readOf s.heap) = ds := SeqAt.readsAll_map ds its as hl.1 h4
            have hvl := rv.length
            have hsl := sizeLine_eq
            have hdep : DEP = 20 := rfl
            obtain ⟨hjd, g1, g2⟩ := List.findIdx?_eq_some_iff_getElem.mp q4
            have hjl : j < its.length := by omega
            have hj : j < its.toArray.size := by simpa using hjl
            have at_ : ∀ (m : Nat) (hm : m < its.toArray.size) (z' : PyData), ds[m]? = some z' → SeqAt.readOf s.heap its.toArray[m] = z' := by
              intro m hm z' hz'
              have hml : m < its.length := by simpa using hm
              rw [← hmap, List.getElem?_map, List.getElem?_eq_getElem hml] at hz'
              have e1 : SeqAt.readOf s.heap its[m] = z' := Option.some.inj (show some (SeqAt.readOf s.heap its[m]) = some z' from hz')
              simpa using e1
            refine call_meets PySem.F.slot_list_index ⟨_, ho, rfl⟩ PySem.F.entry_list_index (PySem.F.args_list_index_2 _ _)
              (SeqAt.list_indexAt a its.toArray n dd sls uy (fun u => PyData.eqv (SeqAt.readOf s.heap u) d) j hj (by omega) ?_ ?_) ⟨ho, SeqAt.items_eqAt (vs := its.toArray) (show ReadsAll s.heap its.toArray.toList ds as from h4) r1 hl.1 hl.2 (by omega), ?_⟩
            · show PyData.eqv (SeqAt.readOf s.heap its.toArray[j]) d = true
              rw [at_ j hj ds[j] (List.getElem?_eq_getElem hjd)]
              exact g1
            · intro m hm hmj
              have hmd : m < ds.length := by omega
              show PyData.eqv (SeqAt.readOf s.heap its.toArray[m]) d = false
              rw [at_ m hm _ (List.getElem?_eq_getElem hmd)]
              simpa using g2 m hmj
            · exact ⟨.int (j : Nat), H, I.tok _, ⟨_, rfl⟩, q H _ (Ext.refl _ _) r (.int _)⟩
          · cases e
        · cases e
      · cases e
    · cases e
  · cases e
end

/-! ### isinstance, of built-in types -/
inductive Ty where
  | non | bl | int | str | tup | lst | dct
  deriving DecidableEq
def Ty.nm : Ty → String
  | .non => "NoneType"
  | .bl => "bool"
  | .int => "int"
  | .str => "str"
  | .tup => "tuple"
  | .lst => "list"
  | .dct => "dict"
def tyW (S : Sto) : W → Option Ty
  | .non => some .non
  | .bl _ => some .bl
  | .int _ => some .int
  | .str _ => some .str
  | .tup _ => some .tup
  | .vl _ => some .lst
  | .vd _ => some .dct
  | .ref i => match S[i]? with
    | some (.lst _) => some .lst
    | some (.dct _) => some .dct
    | _ => none
  | .fn _ => none
def isiT (a b : Ty) : Bool := decide (a = b) || (decide (a = .bl) && decide (b = .int))
theorem kit_isi {K : PySem.W.Frag} (a b : Ty) (hb : b ≠ .non) : PySem.W.kitOne K (.type a.nm) (.type b.nm) = some (isiT a b) := by
  cases b with
  | non => exact absurd rfl hb
  | _ => cases a <;> exact kit_ty (by decide +kernel)
theorem kit_ofW {X : Cx} {pins : List (Addr × Obj)} {σ : L2.St} {H : Hp} {s : Shared} {B m : List Addr} {S : Sto} {w : W} {v : V} {u : Value} {t : Ty} (I : Inv X pins σ H s) (r : Rep (gOf X) B m S H) (d : Den (gOf X) (B ++ m) m H w v) (rv : RelV v u) (e : tyW S w = some t) :
    ∃ P : Heap → Prop, PySem.W.KitX X.K u (.type t.nm) P ∧ P s.heap ∧ u ≠ .builtin "__main__.__loader__#opaque" := by
  have lst : ∀ {a : Addr} {vs : List V}, SqL X.K H a vs → ∃ P : Heap → Prop, PySem.W.KitX X.K (.ref a) (.type "list") P ∧ P s.heap ∧ Value.ref a ≠ .builtin "__main__.__loader__#opaque" := fun {a vs} h => by
    obtain ⟨its, rv, pl, _⟩ := I.list h
    obtain ⟨o, h1, h2, _⟩ := pl.isList
    exact ⟨_, PySem.W.kitx_list, ⟨o, h1, h2⟩, fun z => nomatch z⟩
  have dl : ∀ {a : Addr} {xs : List (Leaf × V)}, H a = some (hoL (gOf X) a xs) → ∃ P : Heap → Prop, PySem.W.KitX X.K (.ref a) (.type "dict") P ∧ P s.heap ∧ Value.ref a ≠ .builtin "__main__.__loader__#opaque" := fun {a xs} h => by
    obtain ⟨⟨_, _, vs, _, hd⟩, _⟩ := I.hok a _ h
    obtain ⟨o, h1, h2⟩ := hd.typeIs (s := s)
    exact ⟨_, PySem.W.kitx_dict, ⟨o, h1, h2⟩, fun z => nomatch z⟩
  have dn : ∀ {a : Addr} {xs : List (NestedKey × Addr × V)}, H a = some (hoN (gOf X) a xs) → ∃ P : Heap → Prop, PySem.W.KitX X.K (.ref a) (.type "dict") P ∧ P s.heap ∧ Value.ref a ≠ .builtin "__main__.__loader__#opaque" := fun {a xs} h => by
    obtain ⟨⟨_, _, vs, _, o, es, ep, h1, h2, _⟩, _⟩ := I.hok a _ h
    exact ⟨_, PySem.W.kitx_dict, ⟨o, h1, h2.1⟩, fun z => nomatch z⟩
  unfold tyW at e
  cases d with
  | non => cases e; cases rv; exact ⟨_, PySem.W.kitx_none, True.intro, fun z => nomatch z⟩
  | bl y => cases e; cases rv; exact ⟨_, PySem.W.kitx_bool, True.intro, fun z => nomatch z⟩
  | int y => cases e; obtain ⟨_, rfl⟩ := rv; exact ⟨_, PySem.W.kitx_int, True.intro, fun z => nomatch z⟩
  | str y => cases e; obtain ⟨_, rfl⟩ := rv; exact ⟨_, PySem.W.kitx_str, True.intro, fun z => nomatch z⟩
  | tup h l =>
    cases e; cases rv
    obtain ⟨its, rr, ⟨o, p1, p2, k, p3⟩, _⟩ := I.tuple h
    exact ⟨_, PySem.W.kitx_tuple, ⟨o, p1, p2⟩, fun z => nomatch z⟩
  | vl _ h l => cases e; cases rv; exact lst (.inl h)
  | vlK h l =>
    cases e; cases rv
    rcases h with (h | ⟨o, h⟩) | h
    · cases h
    · cases h
    · exact lst (.inr h)
  | vdL _ h l => cases e; cases rv; exact dl h
  | vdN _ h l => cases e; cases rv; exact dn h
  | @ref i a h =>
    cases rv
    cases q : S[i]? with
    | none => simp only [q] at e; cases e
    | some o =>
      have oa := r.obj i a o h q
      simp only [q] at e
      cases oa with
      | lst h1 l => cases e; exact lst (.of h1)
      | dctL h1 l => cases e; exact dl h1
      | dctN h1 l => cases e; exact dn h1
      | obj _ _ _ => cases e
  | fn _ => cases e
def isiM (b : Ty) (x : W) : M W := fun S => match tyW S x with
  | some t => .ok (.bl (isiT t b)) S
  | none => .stuck
section
variable {X : Cx} {Wx : WX} {a : Expr} {ca : Rho → M W} {p pT pos : Pos} {T : Str}
theorem me_isi (b : Ty) (ha : ME X Wx a ca) (hg : Gl X "isinstance") (hm : X.mg "isinstance" = none) (hgT : Gl X T) (hmT : X.mg T = none) (hbT : bootBuiltins T = some (.type b.nm)) (hb : b ≠ .non := by decide) (hnT : T ≠ "__name__" := by decide) (hdT : (T == ("__debug__" : Str)) = false := by decide)
    (hbI : bootBuiltins "isinstance" = some (.builtin "isinstance") := by rfl)
    (he : starEach [a, .Name T pT] X.env = (false, eval a X.env) :: starEach [.Name T pT] X.env := by rfl) (he2 : starEach [.Name T pT] X.env = (false, eval (.Name T pT) X.env) :: starEach [] X.env := by rfl) (hpl : (backTo pos (starEach [.Name T pT] X.env)).any (·.1) = false := by rfl) :
    ME X Wx (.Call (.Name "isinstance" p) [a, .Name T pT] [] pos) (fun ρ => do let x ← ca ρ; isiM b x) := by
  have rule : CallR X (.builtin "isinstance") (fun xs H Q => ∃ B m S w v t, xs = [v, .ty b.nm] ∧ Rep (gOf X) B m S H ∧ Den (gOf X) (B ++ m) m H w v ∧ tyW S w = some t ∧ Q (.bl (isiT t b)) H) := by
    intro pins s σ H xs us Q I r ⟨B, m, S, w, v, t, e1, rp, d, et, q⟩
    subst e1
    obtain ⟨u1, u2, rfl, r1, r2⟩ := vals2 r
    cases (show u2 = Value.type b.nm from r2)
    obtain ⟨P, Z, pp, hx⟩ := kit_ofW I rp d r1 et
    exact PySem.W.kia_one Z I.kIn pp (kit_isi t b hb) hx fun tk => ⟨.bl _, H, I.tok tk, rfl, q⟩
  refine (pe_callB rule hg hm hbI (pa_cons ha (pa_cons (pe_bltn (v := .ty b.nm) hgT hmT hbT rfl hnT hdT) pa_nil he2) he) (by decide) (by decide) he hpl).imp fun σ H Q ⟨B, m, S, ρ, r, d, p⟩ => TM.to zPost r d p fun x S1 m1 H1 v e1 r1 d1 dv p1 c1 => ?_
  unfold isiM at p1
  split at p1
  · rename_i t et
    exact ⟨B, m1, S1, x, v, t, rfl, r1, dv, et, p1 m1 H1 (Ext.refl _ _) r1 _ (.bl _)⟩
  · exact p1.elim
end
end Pm

namespace Pm
open PySem PySem.Spec PyProof.Rows L2 PySem.SeqAt

/-! ### dicts as tables -/
def isLeafW : W → Bool
  | .non => true
  | .bl _ => true
  | .int _ => true
  | .str _ => true
  | _ => false
def keq (a b : W) : Bool := match keyO 8 a, keyO 8 b with
  | some x, some y => x.beq y
  | _, _ => false
def kget (kvs : List (W × W)) (k : W) : Option W := (kvs.find? fun p => keq p.1 k).map (·.2)
def kset (kvs : List (W × W)) (k v : W) : List (W × W) := if (kvs.any fun p => keq p.1 k) = true then kvs.map (fun p => if keq p.1 k = true then (p.1, v) else p) else kvs ++ [(k, v)]
def okKey (kvs : List (W × W)) (k : W) : Bool := (keyO 8 k).isSome && match kvs with
  | [] => true
  | p :: _ => isLeafW p.1 == isLeafW k
def dctO (S : Sto) : W → Option (List (W × W))
  | .vd kvs => some kvs
  | .ref i => match S[i]? with
    | some (.dct kvs) => some kvs
    | _ => none
  | _ => none
theorem leaf_keyO {k : W} {l : Leaf} (h : leafO k = some l) : keyO 8 k = some l.key := by
  unfold leafO at h
  cases k with
  | tup _ => cases h
  | vl _ => cases h
  | vd _ => cases h
  | ref _ => cases h
  | fn _ => cases h
  | _ => cases h; rfl
theorem leaf_isLeaf {k : W} {l : Leaf} (h : leafO k = some l) : isLeafW k = true := by
  unfold leafO at h
  cases k with
  | tup _ => cases h
  | vl _ => cases h
  | vd _ => cases h
  | ref _ => cases h
  | fn _ => cases h
  | _ => rfl
theorem keq_of {a b : W} {x y : NestedKey} (h1 : keyO 8 a = some x) (h2 : keyO 8 b = some y) : keq a b = decide (x = y) := by
  unfold keq
  rw [h1, h2, NestedKey.decide_eq]
theorem keq_leaf {a b : W} {x y : Leaf} (h1 : leafO a = some x) (h2 : leafO b = some y) : keq a b = decide (x = y) := by
  rw [keq_of (leaf_keyO h1) (leaf_keyO h2)]
  by_cases e : x = y
  · rw [decide_eq_true e, decide_eq_true (congrArg Leaf.key e)]
  · rw [decide_eq_false e, decide_eq_false fun z => e (Leaf.key_inj z)]
section
variable {g : G} {A m : List Addr} {H : Hp}
def GotV (g : G) (A m : List Addr) (H : Hp) (o : Option W) (u : Option V) : Prop := match o, u with
  | none, none => True
  | some w, some v => Den g A m H w v
  | _, _ => False
theorem DenK.get {k : W} {l : Leaf} (hk : leafO k = some l) : ∀ {kvs : List (W × W)} {xs : List (Leaf × V)}, DenK g A m H kvs xs → GotV g A m H (kget kvs k) (valV xs l)
  | _, _, .nil => True.intro
  | _, _, .cons (k := k') (l := l') h d t => by
    have e := keq_leaf h hk
    unfold kget
    rw [List.find?_cons]
    by_cases q : l' = l
    · rw [valV_pos q]
      simp only [e, decide_eq_true q]
      exact d
    · rw [valV_neg q]
      simp only [e, decide_eq_false q]
      exact DenK.get hk t
theorem DenK.any {k : W} {l : Leaf} (hk : leafO k = some l) : ∀ {kvs : List (W × W)} {xs : List (Leaf × V)}, DenK g A m H kvs xs → (kvs.any fun p => keq p.1 k) = xs.any fun kv => decide (kv.1 = l)
  | _, _, .nil => rfl
  | _, _, .cons h d t => by
    rw [List.any_cons, List.any_cons, keq_leaf h hk, DenK.any hk t]
theorem DenK.repl {k : W} {l : Leaf} {w : W} {v : V} (hk : leafO k = some l) (dv : Den g A m H w v) : ∀ {kvs : List (W × W)} {xs : List (Leaf × V)}, DenK g A m H kvs xs →
    DenK g A m H (kvs.map fun p => if keq p.1 k = true then (p.1, w) else p) (xs.map fun kv => if kv.1 = l then (kv.1, v) else kv)
  | _, _, .nil => .nil
  | _, _, .cons (l := l') h d t => by
    rw [List.map_cons, List.map_cons]
    simp only [keq_leaf h hk, decide_eq_true_eq]
    by_cases q : l' = l
    · rw [if_pos q, if_pos q]
      exact .cons h dv (by simpa only [keq_leaf, decide_eq_true_eq] using DenK.repl hk dv t)
    · rw [if_neg q, if_neg q]
      exact .cons h d (DenK.repl hk dv t)
theorem DenK.snoc {k : W} {l : Leaf} {w : W} {v : V} (hk : leafO k = some l) (dv : Den g A m H w v) : ∀ {kvs : List (W × W)} {xs : List (Leaf × V)}, DenK g A m H kvs xs → DenK g A m H (kvs ++ [(k, w)]) (xs ++ [(l, v)])
  | _, _, .nil => .cons hk dv .nil
  | _, _, .cons h d t => .cons h d (DenK.snoc hk dv t)
theorem DenK.put {k : W} {l : Leaf} {w : W} {v : V} (hk : leafO k = some l) (dv : Den g A m H w v) {kvs : List (W × W)} {xs : List (Leaf × V)} (t : DenK g A m H kvs xs) : DenK g A m H (kset kvs k w) (putK xs l v) := by
  unfold kset putK
  rw [t.any hk]
  by_cases q : (xs.any fun kv => decide (kv.1 = l)) = true
  · rw [if_pos q, if_pos q]; exact t.repl hk dv
  · rw [if_neg q, if_neg q]; exact t.snoc hk dv
theorem DenK.length : ∀ {kvs : List (W × W)} {xs : List (Leaf × V)}, DenK g A m H kvs xs → kvs.length = xs.length
  | _, _, .nil => rfl
  | _, _, .cons _ _ t => congrArg Nat.succ (DenK.length t)
/-! tuples as keys -/
def atV (xs : List (NestedKey × Addr × V)) (k : NestedKey) : Option V := (xs.find? fun x => decide (x.1 = k)).map (·.2.2)
def putN (xs : List (NestedKey × Addr × V)) (k : NestedKey) (a : Addr) (v : V) : List (NestedKey × Addr × V) :=
  if (xs.any fun x => decide (x.1 = k)) = true then xs.map (fun x => if x.1 = k then (x.1, x.2.1, v) else x) else xs ++ [(k, a, v)]
theorem DenN.get {k : W} {l : NestedKey} (hk : keyO 8 k = some l) : ∀ {kvs : List (W × W)} {xs : List (NestedKey × Addr × V)}, DenN g A m H kvs xs → GotV g A m H (kget kvs k) (atV xs l)
  | _, _, .nil => True.intro
  | _, _, .cons (l := l') h dk d t => by
    have e := keq_of h hk
    unfold kget atV
    rw [List.find?_cons, List.find?_cons]
    by_cases q : l' = l
    · simp only [e, decide_eq_true q]
      exact d
    · simp only [e, decide_eq_false q]
      exact DenN.get hk t
theorem DenN.any {k : W} {l : NestedKey} (hk : keyO 8 k = some l) : ∀ {kvs : List (W × W)} {xs : List (NestedKey × Addr × V)}, DenN g A m H kvs xs → (kvs.any fun p => keq p.1 k) = xs.any fun kv => decide (kv.1 = l)
  | _, _, .nil => rfl
  | _, _, .cons h dk d t => by
    rw [List.any_cons, List.any_cons, keq_of h hk, DenN.any hk t]
theorem DenN.repl {k : W} {l : NestedKey} {w : W} {v : V} (hk : keyO 8 k = some l) (dv : Den g A m H w v) : ∀ {kvs : List (W × W)} {xs : List (NestedKey × Addr × V)}, DenN g A m H kvs xs →
    DenN g A m H (kvs.map fun p => if keq p.1 k = true then (p.1, w) else p) (xs.map fun x => if x.1 = l then (x.1, x.2.1, v) else x)
  | _, _, .nil => .nil
  | _, _, .cons (l := l') h dk d t => by
    rw [List.map_cons, List.map_cons]
    simp only [keq_of h hk, decide_eq_true_eq]
    by_cases q : l' = l
    · rw [if_pos q, if_pos q]
      exact .cons h dk dv (DenN.repl hk dv t)
    · rw [if_neg q, if_neg q]
      exact .cons h dk d (DenN.repl hk dv t)
theorem DenN.snoc {k : W} {l : NestedKey} {a : Addr} {w : W} {v : V} (hk : keyO 8 k = some l) (dk : Den g A m H k (.ref a)) (dv : Den g A m H w v) : ∀ {kvs : List (W × W)} {xs : List (NestedKey × Addr × V)}, DenN g A m H kvs xs → DenN g A m H (kvs ++ [(k, w)]) (xs ++ [(l, a, v)])
  | _, _, .nil => .cons hk dk dv .nil
  | _, _, .cons h d' d t => .cons h d' d (DenN.snoc hk dk dv t)
theorem DenN.put {k : W} {l : NestedKey} {a : Addr} {w : W} {v : V} (hk : keyO 8 k = some l) (dk : Den g A m H k (.ref a)) (dv : Den g A m H w v) {kvs : List (W × W)} {xs : List (NestedKey × Addr × V)} (t : DenN g A m H kvs xs) : DenN g A m H (kset kvs k w) (putN xs l a v) := by
  unfold kset putN
  rw [t.any hk]
  by_cases q : (xs.any fun kv => decide (kv.1 = l)) = true
  · rw [if_pos q, if_pos q]; exact t.repl hk dv
  · rw [if_neg q, if_neg q]; exact t.snoc hk dk dv
theorem DenN.length : ∀ {kvs : List (W × W)} {xs : List (NestedKey × Addr × V)}, DenN g A m H kvs xs → kvs.length = xs.length
  | _, _, .nil => rfl
  | _, _, .cons _ _ _ t => congrArg Nat.succ (DenN.length t)
end
abbrev PN : List (NestedKey × Addr × V) → List (NestedKey × Addr × Value) → Prop := Paired fun p q => p.1 = q.1 ∧ p.2.1 = q.2.1 ∧ RelV p.2.2 q.2.2
theorem PN.val {kvs : List (NestedKey × Addr × V)} {xs : List (NestedKey × Addr × Value)} (r : PN kvs xs) (k : NestedKey) : RelO (atV kvs k) ((atKey xs k).map (·.2)) := by
  induction r with
  | nil => exact True.intro
  | @cons p q ps qs h t ih =>
    obtain ⟨h1, _, h2⟩ := h
    by_cases e : p.1 = k
    · have e' : q.1 = k := h1.symm.trans e
      have b : atKey (q :: qs) k = some q.2 := by simp [atKey, List.find?_cons, e']
      have c : atV (p :: ps) k = some p.2.2 := by simp [atV, List.find?_cons, e]
      rw [c, b]; exact h2
    · have e' : ¬ q.1 = k := fun z => e (h1.trans z)
      have b : atKey (q :: qs) k = atKey qs k := by simp [atKey, List.find?_cons, e']
      have c : atV (p :: ps) k = atV ps k := by simp [atV, List.find?_cons, e]
      rw [c, b]; exact ih
theorem PN.any {kvs : List (NestedKey × Addr × V)} {xs : List (NestedKey × Addr × Value)} (r : PN kvs xs) (k : NestedKey) : (kvs.any fun x => decide (x.1 = k)) = (atKey xs k).isSome := by
  induction r with
  | nil => rfl
  | @cons p q ps qs h t ih =>
    obtain ⟨h1, _, h2⟩ := h
    rw [List.any_cons]
    by_cases e : p.1 = k
    · have e' : q.1 = k := h1.symm.trans e
      have b : atKey (q :: qs) k = some q.2 := by simp [atKey, List.find?_cons, e']
      rw [b, decide_eq_true e]; rfl
    · have e' : ¬ q.1 = k := fun z => e (h1.trans z)
      have b : atKey (q :: qs) k = atKey qs k := by simp [atKey, List.find?_cons, e']
      rw [b, decide_eq_false e, ih]; rfl
theorem PN.repl {kvs : List (NestedKey × Addr × V)} {xs : List (NestedKey × Addr × Value)} (r : PN kvs xs) (k : NestedKey) {y : V} {u : Value} (ry : RelV y u) : PN (kvs.map fun x => if x.1 = k then (x.1, x.2.1, y) else x) (xs.map (putAt k u)) := by
  induction r with
  | nil => exact .nil
  | @cons p q ps qs h t ih =>
    rw [List.map_cons, List.map_cons]
    refine .cons ?_ ih
    obtain ⟨h1, h2, h3⟩ := h
    unfold putAt
    by_cases e : p.1 = k
    · rw [if_pos e, if_pos (h1.symm.trans e)]; exact ⟨h1, h2, ry⟩
    · rw [if_neg e, if_neg (fun z => e (h1.trans z))]; exact ⟨h1, h2, h3⟩
theorem PN.put {kvs : List (NestedKey × Addr × V)} {xs : List (NestedKey × Addr × Value)} (r : PN kvs xs) (k : NestedKey) {b : Addr} {y : V} {u : Value} (ry : RelV y u) : PN (putN kvs k b y) (storedH xs k b u) := by
  unfold putN storedH
  rw [r.any k]
  by_cases q : (atKey xs k).isSome = true
  · rw [if_pos q, if_pos q]; exact r.repl k ry
  · rw [if_neg q, if_neg q]; exact Paired.snoc r ⟨rfl, rfl, ry⟩
theorem putN_length (kvs : List (NestedKey × Addr × V)) (k : NestedKey) (a : Addr) (v : V) : (putN kvs k a v).length ≤ kvs.length + 1 := by
  unfold putN
  split
  · rw [List.length_map]; omega
  · rw [List.length_append, List.length_cons, List.length_nil]; omega

/-! ### keys -/
theorem keyO_depth : ∀ (n : Nat) {k : W} {l : NestedKey}, keyO n k = some l → l.depth ≤ n
  | 0, _, _, h => by cases h
  | n + 1, k, l, h => by
    unfold keyO at h
    have all : ∀ {ws : List W} {ks : List NestedKey}, mapO (keyO n) ws = some ks → NestedKey.depthAll ks ≤ n := by
      intro ws
      induction ws with
      | nil => intro ks e; cases mapO_nil e; simp [NestedKey.depthAll]
      | cons w ws ih =>
        intro ks e
        obtain ⟨y, r, rfl, h1, h2⟩ := mapO_cons e
        rw [NestedKey.depthAll]
        exact Nat.max_le.mpr ⟨keyO_depth n h1, ih h2⟩
    cases k with
    | tup ws =>
      obtain ⟨ks, e, rfl⟩ := opt_map h
      rw [NestedKey.depth]
      exact Nat.succ_le_succ (all e)
    | vl _ => cases h
    | vd _ => cases h
    | ref _ => cases h
    | fn _ => cases h
    | _ => cases h; simp [NestedKey.depth]
section
variable {X : Cx} {pins : List (Addr × Obj)} {σ : L2.St} {H : Hp} {s : Shared} {A m : List Addr}
theorem nested_is (I : Inv X pins σ H s) : ∀ (n : Nat) {k : W} {l : NestedKey} {y : V} {u : Value}, keyO n k = some l → Den (gOf X) A m H k y → RelV y u → NestedIs s.heap l u
  | 0, _, _, _, _, h, _, _ => by cases h
  | n + 1, k, l, y, u, h, d, ry => by
    unfold keyO at h
    have all : ∀ {ws : List W} {ks : List NestedKey} {vs : List V} {us : List Value}, mapO (keyO n) ws = some ks → DenL (gOf X) A m H ws vs → Vals vs us → NestedAll s.heap ks us := by
      intro ws
      induction ws with
      | nil => intro ks vs us e l r; cases mapO_nil e; cases l; cases r; exact .nil
      | cons w ws ih =>
        intro ks vs us e l r
        obtain ⟨y, t, rfl, h1, h2⟩ := mapO_cons e
        cases l with
        | cons d l =>
          cases r with
          | cons r1 r => exact .cons (nested_is I n h1 d r1) (ih h2 l r)
    cases d with
    | non => cases h; cases ry; exact .none
    | bl b => cases h; cases ry; exact .bool rfl
    | int i => cases h; obtain ⟨t, rfl⟩ := ry; exact .int _ _
    | str i => cases h; obtain ⟨t, rfl⟩ := ry; exact .text _ _
    | tup ht l =>
      cases ry
      obtain ⟨ks, e, rfl⟩ := opt_map h
      obtain ⟨its, rv, ⟨o, p1, p2, n, p3⟩, _⟩ := I.tuple ht
      exact .tup p1 p2 p3 (by simpa using all e l rv)
    | _ => cases h
theorem leaf_is {k : W} {l : Leaf} {y : V} {u : Value} (h : leafO k = some l) (d : Den (gOf X) A m H k y) (ry : RelV y u) : Leaf.isOf l u = true := by
  unfold leafO at h
  cases d with
  | non => cases h; cases ry; rfl
  | bl b => cases h; cases ry; cases b <;> rfl
  | int i => cases h; obtain ⟨t, rfl⟩ := ry; exact decide_eq_true rfl
  | str i =>
    cases h
    obtain ⟨t, rfl⟩ := ry
    show Value.isStrOf i (.str i t) = true
    simp [Value.isStrOf]
  | _ => cases h
/-! ### the dict at a, as the rules of the library see it -/
inductive DAt (X : Cx) (A m : List Addr) (H : Hp) (s : Shared) (a : Addr) (kvs : List (W × W)) (k : W) (u : Value) : Prop where
  | L {l : Leaf} {xs : List (Leaf × V)} {vs : List (Leaf × Value)} : leafO k = some l → Leaf.isOf l u = true → DenK (gOf X) A m H kvs xs → KV xs vs → s.heap.DictOf (leafKind X.prog X.w) a vs → DAt X A m H s a kvs k u
  | N {l : NestedKey} {b : Addr} {xs : List (NestedKey × Addr × V)} {vs : List (NestedKey × Addr × Value)} : keyO 8 k = some l → u = .ref b → Den (gOf X) A m H k (.ref b) → (nestedKind X.prog X.w).is s.heap l b → DenN (gOf X) A m H kvs xs → PN xs vs → s.heap.DictOfH (nestedKind X.prog X.w) a vs → DAt X A m H s a kvs k u
theorem dictH_nil {P : Program} {w : World} {h : Heap} {a : Addr} (x : h.DictOf (leafKind P w) a []) : h.DictOfH (nestedKind P w) a [] := by
  obtain ⟨o, es, ep, h1, h2, h3, h4, h5, h6⟩ := x
  refine ⟨o, es, ep, h1, h2, h3, ?_, by simp, by simp⟩
  generalize es.toList = l at h5
  cases h5
  rfl
theorem dict_nilL {P : Program} {w : World} {h : Heap} {a : Addr} (x : h.DictOfH (nestedKind P w) a []) : h.DictOf (leafKind P w) a [] := by
  obtain ⟨o, es, ep, h1, h2, h3, h4, h5, h6⟩ := x
  have e : es = #[] := by
    have : es.toList = [] := h4
    exact Array.toList_eq_nil_iff.mp this
  subst e
  exact ⟨o, #[], ep, h1, h2, h3, fun e he => by simp at he, .nil, List.nodup_nil⟩
end
end Pm

namespace Pm
open PySem PySem.Spec PyProof.Rows L2 PySem.SeqAt

def DctAt (g : G) (A m : List Addr) (H : Hp) (a : Addr) (kvs : List (W × W)) : Prop := (∃ xs, H a = some (hoL g a xs) ∧ DenK g A m H kvs xs) ∨ (∃ xs, H a = some (hoN g a xs) ∧ DenN g A m H kvs xs)
section
variable {X : Cx} {pins : List (Addr × Obj)} {σ : L2.St} {H : Hp} {s : Shared} {A m B : List Addr} {S : Sto}
theorem OAt.dct {g : G} {a : Addr} {kvs : List (W × W)} (h : OAt g A m H a (.dct kvs)) : DctAt g A m H a kvs := by
  cases h with
  | dctL h l => exact .inl ⟨_, h, l⟩
  | dctN h l => exact .inr ⟨_, h, l⟩
theorem den_dct {g : G} {w : W} {v : V} {kvs : List (W × W)} (r : Rep g B m S H) (d : Den g (B ++ m) m H w v) (e : dctO S w = some kvs) : ∃ a, v = .ref a ∧ DctAt g (B ++ m) m H a kvs := by
  cases d with
  | vdL n h l => cases e; exact ⟨_, rfl, .inl ⟨_, h, l⟩⟩
  | vdN n h l => cases e; exact ⟨_, rfl, .inr ⟨_, h, l⟩⟩
  | @ref i a h =>
    unfold dctO at e
    cases q : S[i]? with
    | none => simp only [q] at e; cases e
    | some o =>
      have oa := r.obj i a o h q
      simp only [q] at e
      cases o with
      | dct ks => cases e; exact ⟨_, rfl, oa.dct⟩
      | _ => cases e
  | _ => cases e
theorem denN_is (I : Inv X pins σ H s) : ∀ {kvs : List (W × W)} {xs : List (NestedKey × Addr × V)} {vs : List (NestedKey × Addr × Value)}, DenN (gOf X) A m H kvs xs → PN xs vs → ∀ x ∈ vs, (nestedKind X.prog X.w).is s.heap x.1 x.2.1
  | _, _, _, .nil, .nil, x, hx => by cases hx
  | _, _, _, .cons h dk d t, .cons r rs, x, hx => by
    rcases List.mem_cons.mp hx with e | hx
    · obtain ⟨r1, r2, _⟩ := r
      rw [e, ← r1, ← r2]
      exact ⟨nested_is I 8 h dk rfl, keyO_depth 8 h⟩
    · exact denN_is I t rs x hx
theorem dct_sys (I : Inv X pins σ H s) {a : Addr} {kvs : List (W × W)} (d : DctAt (gOf X) A m H a kvs) : (a == sysModules) = false ∧ kvs.length ≤ sizeLine ∧ s.TypeIs (.ref a) "dict" ∧ ∀ b, Value.ref a = .ref b → ∃ ob, s.heap.get? b = some ob ∧ ob.dict = none := by
  rcases d with ⟨xs, h, t⟩ | ⟨xs, h, t⟩
  · obtain ⟨⟨h1, h2, vs, _, hd⟩, _⟩ := I.hok a _ h
    refine ⟨h1, by rw [t.length]; exact h2, hd.typeIs, fun b q => ?_⟩
    cases q
    obtain ⟨ob, _, _, k1, k2, _⟩ := hd
    exact ⟨ob, k1, k2.2.1⟩
  · obtain ⟨⟨h1, h2, vs, _, o, es, ep, k1, k2, _⟩, _⟩ := I.hok a _ h
    refine ⟨h1, by rw [t.length]; exact h2, ⟨o, k1, k2.1⟩, fun b q => ?_⟩
    cases q
    exact ⟨o, k1, k2.2.1⟩
theorem key_cases {k : W} (h : (keyO 8 k).isSome = true) : (∃ l, leafO k = some l) ∨ ∃ ws, k = .tup ws := by
  cases k with
  | tup ws => exact .inr ⟨ws, rfl⟩
  | vl _ => cases h
  | vd _ => cases h
  | ref _ => cases h
  | fn _ => cases h
  | _ => exact .inl ⟨_, rfl⟩
theorem dat_of (I : Inv X pins σ H s) {a : Addr} {kvs : List (W × W)} {k : W} {y : V} {u : Value} (d : DctAt (gOf X) A m H a kvs) (dk : Den (gOf X) A m H k y) (ry : RelV y u) (ok : okKey kvs k = true) : DAt X A m H s a kvs k u := by
  unfold okKey at ok
  rw [Bool.and_eq_true] at ok
  obtain ⟨ok1, ok2⟩ := ok
  rcases key_cases ok1 with ⟨l, hl⟩ | ⟨ws, rfl⟩
  · rcases d with ⟨xs, h, t⟩ | ⟨xs, h, t⟩
    · obtain ⟨⟨h1, h2, vs, kv, hd⟩, _⟩ := I.hok a _ h
      exact .L hl (leaf_is hl dk ry) t kv hd
    · obtain ⟨⟨h1, h2, vs, kv, o, es, ep, k1, k2, k3, k4, k5⟩, _⟩ := I.hok a _ h
      cases t with
      | nil =>
        cases kv
        exact .L hl (leaf_is hl dk ry) .nil .nil (dict_nilL ⟨o, es, ep, k1, k2, k3, k4, by simp, by simp⟩)
      | @cons k' w l' b v ks xs h' dk' d' t' =>
        rw [leaf_isLeaf hl] at ok2
        cases dk' with
        | tup _ _ => cases ok2
        | _ => cases h'
  · obtain ⟨l, hl⟩ := Option.isSome_iff_exists.mp ok1
    have dk0 := dk
    cases dk with
    | @tup _ b vs0 ht l0 =>
      cases ry
      have is_ : (nestedKind X.prog X.w).is s.heap l b := ⟨nested_is I 8 hl dk0 rfl, keyO_depth 8 hl⟩
      rcases d with ⟨xs, h, t⟩ | ⟨xs, h, t⟩
      · obtain ⟨⟨h1, h2, vs, kv, hd⟩, _⟩ := I.hok a _ h
        cases t with
        | nil =>
          cases kv
          exact .N hl rfl dk0 is_ .nil .nil (dictH_nil hd)
        | cons h' d' t' =>
          have e := leaf_isLeaf h'
          simp only [e] at ok2
          cases ok2
      · obtain ⟨⟨h1, h2, vs, kv, o, es, ep, k1, k2, k3, k4, k5⟩, _⟩ := I.hok a _ h
        exact .N hl rfl dk0 is_ t kv ⟨o, es, ep, k1, k2, k3, k4, denN_is I t kv, k5⟩
/-- what stands there, two ways told -/
theorem got_L {g : G} {kvs : List (W × W)} {k : W} {l : Leaf} {xs : List (Leaf × V)} {vs : List (Leaf × Value)} (hl : leafO k = some l) (t : DenK g A m H kvs xs) (kv : KV xs vs) : match kget kvs k with
    | none => valueAt vs l = none
    | some w => ∃ v u, valueAt vs l = some u ∧ RelV v u ∧ Den g A m H w v := by
  have h1 := t.get hl
  have h2 := kv.val l
  cases q : kget kvs k with
  | none =>
    cases q2 : valV xs l with
    | none =>
      rw [q2] at h2
      cases q3 : valueAt vs l with
      | none => rfl
      | some _ => rw [q3] at h2; exact h2.elim
    | some _ => rw [q, q2] at h1; exact h1.elim
  | some w =>
    cases q2 : valV xs l with
    | none => rw [q, q2] at h1; exact h1.elim
    | some v =>
      rw [q, q2] at h1
      rw [q2] at h2
      cases q3 : valueAt vs l with
      | none => rw [q3] at h2; exact h2.elim
      | some u => rw [q3] at h2; exact ⟨v, u, rfl, h2, h1⟩
theorem got_N {g : G} {kvs : List (W × W)} {k : W} {l : NestedKey} {xs : List (NestedKey × Addr × V)} {vs : List (NestedKey × Addr × Value)} (hl : keyO 8 k = some l) (t : DenN g A m H kvs xs) (kv : PN xs vs) : match kget kvs k with
    | none => atKey vs l = none
    | some w => ∃ v p, atKey vs l = some p ∧ RelV v p.2 ∧ Den g A m H w v := by
  have h1 := t.get hl
  have h2 := kv.val l
  cases q : kget kvs k with
  | none =>
    cases q2 : atV xs l with
    | none =>
      rw [q2] at h2
      cases q3 : atKey vs l with
      | none => rfl
      | some _ => rw [q3] at h2; exact h2.elim
    | some _ => rw [q, q2] at h1; exact h1.elim
  | some w =>
    cases q2 : atV xs l with
    | none => rw [q, q2] at h1; exact h1.elim
    | some v =>
      rw [q, q2] at h1
      rw [q2] at h2
      cases q3 : atKey vs l with
      | none => rw [q3] at h2; exact h2.elim
      | some p => rw [q3] at h2; exact ⟨v, p, rfl, h2, h1⟩
end
/-! ### in, not in: dicts, lists, tuples -/
def inAO (S : Sto) (x y : W) : Option W := match dctO S y with
  | some kvs => if okKey kvs x = true then some (.bl (kget kvs x).isSome) else none
  | none => inO S x y
def notInAO (S : Sto) (x y : W) : Option W := match dctO S y with
  | some kvs => if okKey kvs x = true then some (.bl (!(kget kvs x).isSome)) else none
  | none => notInO S x y
section
variable {X : Cx}
theorem room_nk {A : Around} (hu : A.units + 64 < cLine) : (nestedKind X.prog X.w).room A.in1 := by
  show A.units + 1 + 8 < cLine
  omega
theorem room_nk0 {A : Around} (hu : A.units + 64 < cLine) : (nestedKind X.prog X.w).room A := by
  show A.units + 8 < cLine
  omega
theorem o_inA (hu : X.A.units + 64 < cLine) : Op2 X (compareOp .In) inAO := by
  intro pins s σ H x y u v Q I rx ry ⟨B, m, S, wx, wy, w, r, dx, dy, e, q⟩
  unfold inAO at e
  split at e
  · rename_i kvs e1
    split at e
    · rename_i ok
      cases e
      obtain ⟨a, rfl, da⟩ := den_dct r dy e1
      cases ry
      obtain ⟨hs, _, _, _⟩ := dct_sys I da
      have fin : ∀ tk, EP X pins σ Q (.bool (kget kvs wx).isSome) { s with toks := tk } := fun tk => ⟨.bl _, H, I.tok tk, rfl, q H _ (Ext.refl _ _) r (.bl _)⟩
      cases dat_of I da dx rx ok with
      | @L l xs vs h1 h2 h3 h4 h5 =>
        refine wpAny_in_of h2 hs h5.mapOf ?_
        have g := got_L h1 h3 h4
        cases q1 : kget kvs wx with
        | none => simp only [q1] at g; rw [g]; have := fin (s.toks + 1); rw [q1] at this; exact this
        | some z => simp only [q1] at g; obtain ⟨_, _, g1, _, _⟩ := g; rw [g1]; have := fin (s.toks + 1); rw [q1] at this; exact this
      | @N l b xs vs h1 h2 h3 h4 h5 h6 h7 =>
        subst h2
        refine wpAny_in_heap (room_nk hu) h4 hs h7 ?_
        have g := got_N h1 h5 h6
        cases q1 : kget kvs wx with
        | none => simp only [q1] at g; rw [g]; have := fin (s.toks + (nestedKind X.prog X.w).draws l); rw [q1] at this; exact this
        | some z => simp only [q1] at g; obtain ⟨_, _, g1, _, _⟩ := g; rw [g1]; have := fin (s.toks + (nestedKind X.prog X.w).draws l); rw [q1] at this; exact this
    · cases e
  · exact o_in hu pins s σ H x y u v Q I rx ry ⟨B, m, S, wx, wy, w, r, dx, dy, e, q⟩
theorem o_notInA (hu : X.A.units + 64 < cLine) : Op2 X (compareOp .NotIn) notInAO := by
  intro pins s σ H x y u v Q I rx ry ⟨B, m, S, wx, wy, w, r, dx, dy, e, q⟩
  unfold notInAO at e
  split at e
  · rename_i kvs e1
    split at e
    · rename_i ok
      cases e
      obtain ⟨a, rfl, da⟩ := den_dct r dy e1
      cases ry
      obtain ⟨hs, _, _, _⟩ := dct_sys I da
      have fin : ∀ tk, EP X pins σ Q (.bool (!(kget kvs wx).isSome)) { s with toks := tk } := fun tk => ⟨.bl _, H, I.tok tk, rfl, q H _ (Ext.refl _ _) r (.bl _)⟩
      cases dat_of I da dx rx ok with
      | @L l xs vs h1 h2 h3 h4 h5 =>
        refine wpAny_notIn_of h2 hs h5.mapOf ?_
        have g := got_L h1 h3 h4
        cases q1 : kget kvs wx with
        | none => simp only [q1] at g; rw [g]; have := fin (s.toks + 1); rw [q1] at this; exact this
        | some z => simp only [q1] at g; obtain ⟨_, _, g1, _, _⟩ := g; rw [g1]; have := fin (s.toks + 1); rw [q1] at this; exact this
      | @N l b xs vs h1 h2 h3 h4 h5 h6 h7 =>
        subst h2
        refine wpAny_notIn_heap (room_nk hu) h4 hs h7 ?_
        have g := got_N h1 h5 h6
        cases q1 : kget kvs wx with
        | none => simp only [q1] at g; rw [g]; have := fin (s.toks + (nestedKind X.prog X.w).draws l); rw [q1] at this; exact this
        | some z => simp only [q1] at g; obtain ⟨_, _, g1, _, _⟩ := g; rw [g1]; have := fin (s.toks + (nestedKind X.prog X.w).draws l); rw [q1] at this; exact this
    · cases e
  · exact o_notIn hu pins s σ H x y u v Q I rx ry ⟨B, m, S, wx, wy, w, r, dx, dy, e, q⟩
/-! x[y]: dicts, lists, tuples -/
def ixAO (S : Sto) (x y : W) : Option W := match dctO S x with
  | some kvs => if okKey kvs y = true then kget kvs y else none
  | none => ixO S x y
theorem ix_A (hu : X.A.units + 64 < cLine) : IxR X (r2 (gOf X) ixAO) := by
  intro value slice pins s σ H x y u v Q I rx ry ⟨B, m, S, wx, wy, w, r, dx, dy, e, q⟩ hsl
  unfold ixAO at e
  split at e
  · rename_i kvs e1
    split at e
    · rename_i ok
      obtain ⟨a, rfl, da⟩ := den_dct r dx e1
      cases rx
      obtain ⟨hs, _, ty, _⟩ := dct_sys I da
      cases dat_of I da dy ry ok with
      | @L l xs vs h1 h2 h3 h4 h5 =>
        have g := got_L h1 h3 h4
        rw [e] at g
        obtain ⟨z, u', g1, g2, g3⟩ := g
        have fin : ∀ tk, EP X pins σ Q u' { s with toks := tk } := fun tk => ⟨z, H, I.tok tk, g2, q H _ (Ext.refl _ _) r g3⟩
        exact subscriptTail_builtinR (x := u') ty PySem.F.slot_dict_getitem.lookup (wpAny_getItem_of (Q := fun r s' => r = u' ∧ EP X pins σ Q r s') h2 h5.mapOf g1 ⟨rfl, fin _⟩) hsl
      | @N l b xs vs h1 h2 h3 h4 h5 h6 h7 =>
        subst h2
        have g := got_N h1 h5 h6
        rw [e] at g
        obtain ⟨z, p, g1, g2, g3⟩ := g
        have fin : ∀ tk, EP X pins σ Q p.2 { s with toks := tk } := fun tk => ⟨z, H, I.tok tk, g2, q H _ (Ext.refl _ _) r g3⟩
        exact subscriptTail_builtinR (x := p.2) ty PySem.F.slot_dict_getitem.lookup (wpAny_getItem_heap (Q := fun r s' => r = p.2 ∧ EP X pins σ Q r s') (room_nk hu) h4 h7 g1 ⟨rfl, fin _⟩) hsl
    · cases e
  · exact ix_any value slice pins s σ H x y u v Q I rx ry ⟨B, m, S, wx, wy, w, r, dx, dy, e, q⟩ hsl
/-! x[y] = v -/
theorem put_core {pins : List (Addr × Obj)} {σ : L2.St} {H : Hp} {s : Shared} {A m : List Addr} (hu : X.A.units + 64 < cLine) (I : Inv X pins σ H s) {a : Addr} {kvs : List (W × W)} {k w : W} {y z : V} {u v : Value} (da : DctAt (gOf X) A m H a kvs) (mu : Mut (H a)) (dk : Den (gOf X) A m H k y) (dv : Den (gOf X) A m H w z) (ry : RelV y u) (rv : RelV z v)
    (ok : okKey kvs k = true) (hz : kvs.length < 16777216) : ∃ ho, Mut (some ho) ∧ (∀ A', (Carry (gOf X) A m H A' m (upd H a ho)) → OAt (gOf X) A' m (upd H a ho) a (.dct (kset kvs k w))) ∧
      ∀ {E : Value → Shared → Prop} {Q : Unit → Shared → Prop}, (∀ s', Inv X pins σ (upd H a ho) s' → Q () s') → wpAny (model X.prog X.w) X.A (setItem (.ref a) u v) Q E s ∧ wpAny (model X.prog X.w) X.A (dictSet a u v) Q E s := by
  obtain ⟨hs, _, ty, _⟩ := dct_sys I da
  cases dat_of I da dk ry ok with
  | @L l xs vs h1 h2 h3 h4 h5 =>
    refine ⟨hoL (gOf X) a (putK xs l z), True.intro, fun A' c => .dctL upd_same ((h3.put h1 dv).carry c), fun {E Q} hQ => ?_⟩
    have l1 := h3.length
    have l2 := h4.length
    have l3 := length_putK xs l z
    have hsz : vs.length ≤ sizeLine := by rw [sizeLine_eq]; omega
    have fin : ∀ h' tk, h'.DictOf (leafKind X.prog X.w) a (stored vs l v) → Heap.SameBut a s.heap h' → Q () { s with heap := h', toks := tk } := fun h' tk dd' sb => hQ _ (by
      have he : ∃ q, h'.get? a = some q := let ⟨q, _, _, hq, _⟩ := dd'; ⟨q, hq⟩
      refine d_write I mu sb he ⟨⟨hs, by rw [sizeLine_eq]; omega, _, h4.put l rv, dd'⟩, he, fun g1 g2 ⟨a1, a2, vs', a3, a4⟩ kk => ⟨a1, a2, vs', a3, a4.at kk⟩⟩)
    exact ⟨wpAny_setItem_pairs (hsz := hsz) h2 h5 fun h' dd' sb => fin h' _ dd' sb, wpAny_dictSet_pairs (hsz := hsz) h2 h5 fun h' dd' sb => fin h' _ dd' sb⟩
  | @N l b xs vs h1 h2 h3 h4 h5 h6 h7 =>
    subst h2
    refine ⟨hoN (gOf X) a (putN xs l b z), True.intro, fun A' c => .dctN upd_same ((h5.put h1 h3 dv).carry c), fun {E Q} hQ => ?_⟩
    have l1 := h5.length
    have l2 := Paired.length h6
    have l3 := putN_length xs l b z
    have hsz : vs.length ≤ sizeLine := by rw [sizeLine_eq]; omega
    have fin : ∀ h' tk, h'.DictOfH (nestedKind X.prog X.w) a (storedH vs l b v) → Heap.SameBut a s.heap h' → Q () { s with heap := h', toks := tk } := fun h' tk dd' sb => hQ _ (by
      obtain ⟨o, es, ep, k1, k2, k3, k4, _, k5⟩ := dd'
      refine d_write I mu sb ⟨o, k1⟩ ⟨⟨hs, by rw [sizeLine_eq]; omega, _, h6.put l rv, o, es, ep, k1, k2, k3, k4, k5⟩, ⟨o, k1⟩, fun g1 g2 ⟨a1, a2, vs', a3, o', es', ep', j1, j⟩ kk => ⟨a1, a2, vs', a3, o', es', ep', kk _ j1, j⟩⟩)
    exact ⟨wpAny_setItem_heap (hsz := hsz) (room_nk hu) h4 h7 fun h' dd' sb => fin h' _ dd' sb, wpAny_dictSet_heap (hsz := hsz) (room_nk0 hu) h4 h7 fun h' dd' sb => fin h' _ dd' sb⟩
def setAO (S : Sto) (x y v : W) : Option Sto := match x with
  | .ref k => match S[k]? with
    | some (.dct kvs) => if okKey kvs y = true ∧ kvs.length < 16777216 then some (S.set k (.dct (kset kvs y v))) else none
    | _ => setW S x y v
  | _ => none
theorem set_A (hu : X.A.units + 64 < cLine) : SetO X setAO := fun pins s σ H o i v ov iv u Q I ro ri rv ⟨B, m, S, wo, wi, wv, S', r, d1, d2, d3, h, q⟩ => by
  unfold setAO at h
  split at h
  · rename_i k
    split at h
    · rename_i kvs q1
      split at h
      · rename_i hk
        cases h
        obtain ⟨a, rfl, hka, oa⟩ := den_ref r d1 q1
        cases ro
        obtain ⟨ho, mu, hA, run⟩ := put_core hu I oa.dct (r.mu a (List.mem_append_right _ (List.mem_of_getElem? hka))) d2 d3 ri rv hk.1 hk.2
        obtain ⟨e, r', c⟩ := r.store (o := .dct (kset kvs wi wv)) (ho := ho) hka mu fun c => hA _ c
        exact (run fun s' I' => ⟨_, I', q _ e r'⟩).1
      · cases h
    · exact set_lst pins s σ H o i v ov iv u Q I ro ri rv ⟨B, m, S, _, wi, wv, S', r, d1, d2, d3, h, q⟩
  · cases h
end
end Pm

namespace Pm
open PySem PySem.Spec PyProof.Rows L2 PySem.SeqAt

/-! ### dict displays -/
abbrev Pr := (Rho → M W) × (Rho → M W)
def prC (ρ : Rho) : List Pr → M (List (W × W))
  | [] => pure []
  | p :: r => do
    let k ← p.1 ρ
    let v ← p.2 ρ
    let t ← prC ρ r
    pure ((k, v) :: t)
def putAll : List (W × W) → List (W × W) → Option (List (W × W))
  | acc, [] => some acc
  | acc, (k, v) :: r => if okKey acc k = true then putAll (kset acc k v) r else none
def dictC (ps : List Pr) : Rho → M O := fun ρ => do
  let kvs ← prC ρ ps
  if kvs.length ≤ 100 then match putAll [] kvs with
    | some d => pure (.dct d)
    | none => M.fail
  else M.fail
abbrev DenP (g : G) (A m : List Addr) (H : Hp) : List (W × W) → List (V × V) → Prop := Paired fun p q => Den g A m H p.1 q.1 ∧ Den g A m H p.2 q.2
def trP (g : G) (Wx : WX) (ps : List Pr) : List (TE × TE) := ps.map fun p => (TM g Wx p.1, TM g Wx p.2)
theorem tp_to {g : G} {Wx : WX} {B : List Addr} {σ : L2.St} {β : Type} {Z : List Addr → Hp → R β → Prop} (z : Zok g Wx B σ Z) {ρ : Rho} : ∀ (ps : List Pr) {m : List Addr} {S : Sto} {H : Hp} {f : List (W × W) → M β} {Q : List (V × V) → Hp → Prop},
    Rep g B m S H → DenE g (B ++ m) m H ρ σ → Z m H ((prC ρ ps >>= f) S) →
    (∀ kvs S1 m1 H1 qs, Ext m H m1 H1 → Rep g B m1 S1 H1 → DenE g (B ++ m1) m1 H1 ρ σ → DenP g (B ++ m1) m1 H1 kvs qs → Z m1 H1 (f kvs S1) → Q qs H1) → tPairs (trP g Wx ps) σ H Q
  | [], m, S, H, f, Q, r, d, h, k => k [] S m H [] (Ext.refl _ _) r d .nil h
  | p :: ps, m, S, H, f, Q, r, d, h, k => by
    have h' : Z m H ((p.1 ρ >>= fun x => p.2 ρ >>= fun y => prC ρ ps >>= fun t => f ((x, y) :: t)) S) := by
      have e : (prC ρ (p :: ps) >>= f) = (p.1 ρ >>= fun x => p.2 ρ >>= fun y => prC ρ ps >>= fun t => f ((x, y) :: t)) := by
        show ((p.1 ρ >>= fun k => p.2 ρ >>= fun v => prC ρ ps >>= fun t => pure ((k, v) :: t)) >>= f) = _
        rw [M_assoc]
        refine congrArg _ (funext fun x => ?_)
        rw [M_assoc]
        refine congrArg _ (funext fun y => ?_)
        rw [M_assoc]
        rfl
      rw [← e]
      exact h
    refine TM.to z r d h' fun x S1 m1 H1 v e1 r1 d1 dv h1 c1 => TM.to z r1 d1 h1 fun y S2 m2 H2 u e2 r2' d2 du h2 c2 => ?_
    refine tp_to z ps r2' d2 h2 fun kvs S3 m3 H3 qs e3 r3 d3 dq h3 => ?_
    have c3 := r2'.carry e3
    exact k ((x, y) :: kvs) S3 m3 H3 ((v, u) :: qs) ((e1.trans e2).trans e3) r3 d3 (.cons ⟨(dv.carry c2).carry c3, du.carry c3⟩ dq) h3
section
variable {X : Cx} {Wx : WX} {pos : Pos}
theorem store_all {pins : List (Addr × Obj)} {σ : L2.St} (hu : X.A.units + 64 < cLine) {B m m0 : List Addr} {S : Sto} {H0 : Hp} {p : Addr} (h0 : H0 p = none) {E : Value → Shared → Prop} {Q : PUnit → Shared → Prop} : ∀ (kvs acc d : List (W × W)) (qs : List (V × V)) (ws : List (Value × Value)) (s : Shared) (H : Hp),
    Inv X pins σ H s → Rep (gOf X) (B ++ [p]) m S H → Ext m0 H0 m H → OAt (gOf X) (B ++ [p] ++ m) m H p (.dct acc) → DenP (gOf X) (B ++ [p] ++ m) m H kvs qs → VV qs ws → acc.length + kvs.length ≤ 100 → putAll acc kvs = some d →
    (∀ s' H', Inv X pins σ H' s' → Rep (gOf X) (B ++ [p]) m S H' → Ext m0 H0 m H' → OAt (gOf X) (B ++ [p] ++ m) m H' p (.dct d) → Q PUnit.unit s') → wpAny (model X.prog X.w) X.A (storeAll p ws) Q E s
  | [], acc, d, qs, ws, s, H, I, r, e, oa, dp, vv, hz, hp, hQ => by
    cases dp
    cases vv
    cases hp
    unfold storeAll
    rw [List.forIn_nil]
    exact wpAny_pure (hQ s H I r e oa)
  | (k, v) :: kvs, acc, d, _, _, s, H, I, r, e, oa, .cons dq dp, .cons rv vv, hz, hp, hQ => by
    unfold putAll at hp
    split at hp
    · rename_i ok
      obtain ⟨d1, d2⟩ := dq
      obtain ⟨r1, r2⟩ := rv
      rw [List.length_cons] at hz
      have hpB : p ∈ B ++ [p] ++ m := List.mem_append_left _ (List.mem_append_right _ (List.mem_singleton.mpr rfl))
      obtain ⟨ho, mu, hA, run⟩ := put_core hu I oa.dct (r.mu p hpB) d1 d2 r1 r2 ok (by omega)
      unfold storeAll
      rw [List.forIn_cons]
      obtain ⟨r', c⟩ := r.storeB hpB (fun hm => r.unB.2.2 (List.mem_append_right _ hm)) (o := ho) mu
      refine wpAny_bind (wpAny_bind (run fun s' I' => wpAny_pure ?_).2)
      have dp' : DenP (gOf X) (B ++ [p] ++ m) m (upd H p ho) kvs _ := Paired.mapP dp fun _ _ z => ⟨z.1.carry c, z.2.carry c⟩
      have hk : (kset acc k v).length ≤ acc.length + 1 := by
        unfold kset
        split
        · rw [List.length_map]; omega
        · rw [List.length_append, List.length_cons, List.length_nil]; omega
      exact store_all hu h0 kvs (kset acc k v) d _ _ s' _ I' r' (e.updB h0) (hA _ c) dp' vv (by omega) hp hQ
    · cases hp
theorem oat_new {P : Program} {w : World} {K : PySem.W.Frag} {mg : Str → Option Value} {H : Hp} (h : Heap) (hb : sysModules < h.objs.size) : ObjOk P w H (h.push { cls := .type "dict", data := .dict #[] }) h.objs.size (hoL ⟨P, w, K, mg⟩ h.objs.size []) :=
  ⟨⟨beq_eq_false_iff_ne.mpr (Ne.symm (Nat.ne_of_lt hb)), Nat.zero_le _, [], .nil, Heap.DictOf.new h⟩, ⟨_, Heap.get?_push_size _ rfl⟩, fun g1 g2 ⟨a1, a2, vs', a3, a4⟩ kk => ⟨a1, a2, vs', a3, a4.at kk⟩⟩
theorem mf_dict0 : MF X Wx (.Dict [] [] pos) (fun _ => pure (.dct [])) := ⟨fun pins s σ H Q I ⟨B, m, S, ρ, r, d, p⟩ =>
  wpAny_Dict_empty ⟨.ref s.heap.objs.size, _, I.laid (a := s.heap.objs.size) (o := hoL (gOf X) s.heap.objs.size []) (t' := s.toks) (fun _ _ q => Heap.get?_push_of_some _ q) (Nat.le_refl _) (oat_new s.heap I.big), rfl, by
    have hn := I.hok.fresh (Nat.le_refl s.heap.objs.size)
    obtain ⟨r1, c1⟩ := r.fresh (o := hoL (gOf X) s.heap.objs.size []) hn True.intro
    exact p m _ _ (r.laid hn).2.1 hn r1 (.dctL upd_same .nil)⟩⟩
theorem mf_dict {keys : List (Option Expr)} {values : List Expr} {ps : List Pr} (hu : X.A.units + 64 < cLine) (h : PPs X pos keys values (trP (gOf X) Wx ps)) (hall : keys.all (·.isSome) = true := by rfl) (hl : keys.length = values.length := by rfl) (h0 : keys ≠ [] := by exact List.cons_ne_nil _ _)
    (h15 : keys.length ≤ 15 := by decide) (hp : keys.length = ps.length := by rfl) : MF X Wx (.Dict keys values pos) (dictC ps) := by
  refine ⟨fun pins s σ H Q I ⟨B, m, S, ρ, r, d, p⟩ => ?_⟩
  have hn := I.hok.fresh (Nat.le_refl s.heap.objs.size)
  have I1 := I.laid (a := s.heap.objs.size) (o := hoL (gOf X) s.heap.objs.size []) (h' := s.heap.push { cls := .type "dict", data := .dict #[] }) (t' := s.toks) (fun _ _ q => Heap.get?_push_of_some _ q) (Nat.le_refl _) (oat_new s.heap I.big)
  obtain ⟨r1, c1⟩ := r.fresh (o := hoL (gOf X) s.heap.objs.size []) hn True.intro
  have x1 := (r.laid (o := hoL (gOf X) s.heap.objs.size []) hn).2.1
  refine wpAny_Dict_any hall hl h0 h15 (thn (h.run pins _ σ _ (fun qs H2 => ∃ m2 S2 kvs dd, Rep (gOf X) (B ++ [s.heap.objs.size]) m2 S2 H2 ∧ Ext m H m2 H2 ∧ OAt (gOf X) (B ++ [s.heap.objs.size] ++ m2) m2 H2 s.heap.objs.size (.dct []) ∧ DenP (gOf X) (B ++ [s.heap.objs.size] ++ m2) m2 H2 kvs qs ∧ kvs.length ≤ 100 ∧ putAll [] kvs = some dd ∧
      PostF (gOf X) Wx B σ Q m H (.ok (.dct dd) S2)) I1 ?_) fun ws s2 ⟨qs, H2, I2, rel, m2, S2, kvs, dd, r2, e2, oa, dp, hk, hd, pf⟩ => ?_)
  · have z : Zok (gOf X) Wx (B ++ [s.heap.objs.size]) σ (fun m' H' r' => Ext m H m' H' ∧ PostF (gOf X) Wx B σ Q m H r') :=
      ⟨fun h e => ⟨h.1.trans e, h.2⟩, fun h m' H' a e r' hC => h.2 m' H' a (h.1.trans e) r'.unB.1 hC, fun h => h.2⟩
    refine tp_to z ps r1 (d.carry c1) ⟨x1, p⟩ fun kvs S1 m1 H1 qs e1 r1' d1 dq ⟨ex, h1⟩ => ?_
    split at h1
    · rename_i hk
      cases q : putAll [] kvs with
      | none => rw [q] at h1; exact h1.elim
      | some dd =>
        rw [q] at h1
        refine ⟨m1, S1, kvs, dd, r1', ex, .dctL (xs := []) ?_ .nil, dq, hk, q, h1⟩
        exact e1.fr _ _ upd_same fun hm => r1.unB.2.2 (List.mem_append_right _ hm)
    · exact h1.elim
  · refine store_all hu hn kvs [] dd qs ws s2 H2 I2 r2 e2 oa dp rel (by rw [List.length_nil]; omega) hd fun s' H' I' r' e' oa' => ?_
    exact ⟨.ref s.heap.objs.size, H', I', rfl, pf _ _ _ e' hn r' oa'⟩
end

/-! ### sorted(set(xs)), xs a list of tuples of ints -/
def tupI : W → Option (List Int)
  | .tup ws => intsO ws
  | _ => none
def ddI : List (List Int) → List (List Int)
  | [] => []
  | k :: r => if (ddI r).contains k = true then ddI r else k :: ddI r
def encI (k : List Int) : PyData := .tuple (k.map .int)
def leI (a b : List Int) : Bool := !PySem.W.dataLt (encI b) (encI a)
def tupW (k : List Int) : W := .tup (k.map .int)
def sortSetO (S : Sto) : List W → Option O
  | [x] => match lstO S x with
    | some ws => match mapO tupI ws with
      | some ks => if ks.length < 64 ∧ (ks.all fun k => k.length == (ks.headD []).length) = true ∧ (ks.all fun k => !k.isEmpty) = true then some (.lst ((isort leI (ddI ks)).map tupW)) else none
      | none => none
    | none => none
  | _ => none
theorem mem_ddI {k : List Int} : ∀ {l : List (List Int)}, k ∈ ddI l ↔ k ∈ l
  | [] => by simp [ddI]
  | a :: r => by
    unfold ddI
    by_cases h : (ddI r).contains a = true
    · rw [if_pos h, mem_ddI (l := r), List.mem_cons]
      have ha : a ∈ r := mem_ddI.mp (by simpa using h)
      exact ⟨.inr, fun z => z.elim (fun e => e ▸ ha) id⟩
    · rw [if_neg h, List.mem_cons, List.mem_cons, mem_ddI (l := r)]
theorem nodup_ddI : ∀ l : List (List Int), (ddI l).Nodup
  | [] => List.nodup_nil
  | a :: r => by
    unfold ddI
    by_cases h : (ddI r).contains a = true
    · rw [if_pos h]; exact nodup_ddI r
    · rw [if_neg h]; exact List.nodup_cons.mpr ⟨by simpa using h, nodup_ddI r⟩
theorem eqvAll_ints : ∀ {a b : List Int}, PyData.eqvAll (a.map .int) (b.map .int) = true → a = b
  | [], [], _ => rfl
  | [], _ :: _, h => by simp [PyData.eqvAll] at h
  | _ :: _, [], h => by simp [PyData.eqvAll] at h
  | x :: a, y :: b, h => by
    simp [PyData.eqvAll, PyData.eqv] at h
    rw [h.1, eqvAll_ints h.2]
theorem toksAll_inj : ∀ {a b : List Int}, PySem.W.keyToksAll (a.map .int) = PySem.W.keyToksAll (b.map .int) → a = b
  | [], [], _ => rfl
  | [], _ :: _, h => by simp [PySem.W.keyToksAll] at h
  | _ :: _, [], h => by simp [PySem.W.keyToksAll] at h
  | x :: a, y :: b, h => by
    simp [PySem.W.keyToksAll, PySem.W.keyToks] at h
    rw [h.1, toksAll_inj h.2]
theorem leI_anti {a b : List Int} (h1 : leI a b = true) (h2 : leI b a = true) : a = b := by
  have h : PySem.W.keyToks (encI a) = PySem.W.keyToks (encI b) := PyProof.Rows.KeyOrd.kle_antisymm (O := PyProof.Rows.listOrd PyProof.Rows.itemOrd) (by
    unfold PyProof.Rows.KeyOrd.kle
    simpa [leI, PySem.W.dataLt] using h1) (by
    unfold PyProof.Rows.KeyOrd.kle
    simpa [leI, PySem.W.dataLt] using h2)
  exact toksAll_inj h
theorem leI_ord : PySem.W.TotalLe leI := PySem.W.sortLe_total (PyProof.Rows.listOrd PyProof.Rows.itemOrd) false fun k => PySem.W.keyToks (encI k)
theorem isort_perm {l l' : List (List Int)} (p : l.Perm l') : isort leI l = isort leI l' := by
  have tr := leI_ord.trans
  have tot : ∀ a b, (leI a b || leI b a) = true := fun a b => by rw [Bool.or_eq_true]; exact leI_ord.total a b
  rw [isort_eq tr tot, isort_eq tr tot]
  exact List.Perm.eq_of_pairwise (fun a b _ _ h1 h2 => leI_anti h1 h2) (List.pairwise_mergeSort tr tot l) (List.pairwise_mergeSort tr tot l') ((List.mergeSort_perm l leI).trans (p.trans (List.mergeSort_perm l' leI).symm))
theorem isort_of {l l' : List (List Int)} (p : l'.Perm l) (h : l'.Pairwise fun a b => leI a b = true) : l' = isort leI l := by
  have tr := leI_ord.trans
  have tot : ∀ a b, (leI a b || leI b a) = true := fun a b => by rw [Bool.or_eq_true]; exact leI_ord.total a b
  rw [isort_eq tr tot]
  exact List.Perm.eq_of_pairwise (fun a b _ _ h1 h2 => leI_anti h1 h2) h (List.pairwise_mergeSort tr tot l) (p.trans (List.mergeSort_perm l leI).symm)
theorem reads_tupI {P : Program} {w : World} {h : Heap} {k : List Int} {b : Addr} (x : IsT P w h k b) : Reads h (.ref b) (encI k) [] := by
  obtain ⟨o, items, n, ho, hc, hd, hi⟩ := x
  have e := ints_of_items hi
  have all : ∀ {us : List Value} {ks : List Int}, IntsAre us ks → ReadsAll h us (ks.map .int) [] := by
    intro us ks e
    induction e with
    | nil => exact .nil
    | cons k t _ ih => exact .cons (as := []) (bs := []) (.int _ _) ih
  exact .tuple ho hc hd (all e)
section
variable {P : Program} {w : World} {A : Around} {E : Value → Shared → Prop} {s : Shared}
theorem sorted_setD {a : Addr} {L : List (Addr × List Int)} {es : Array (Int × Value)} {ep : Nat} {t : SetTable} {Q : Value → Shared → Prop} (R : SetTR P w s.heap a L es ep t) (hh : A.handled = none) (hu : A.units + 64 < cLine) (hne : ∀ p ∈ L, p.2 ≠ [])
    (hQ : ∀ s' p (out : Array Value) (c : Nat) (L' : List (Addr × List Int)), (∀ b o, s.heap.get? b = some o → s'.heap.get? b = some o) → s'.gens = s.gens → s'.os = s.os → s.heap.objs.size ≤ p →
      s'.heap.get? p = some (seqObj "list" out c) → out.toList = L'.map (fun q => Value.ref q.1) → (∀ q ∈ L', q ∈ L) → L'.map (·.2) = isort leI (L.map (·.2)) → Q (.ref p) s') :
    wpAny (model P w) A (call (.builtin "sorted") [.ref a]) Q E s := by
  obtain ⟨o, ho, hex, hd⟩ := R.ob
  have hsz := R.size
  have hfew := R.few
  refine Calls.call_function_entry kind_sorted plain_sorted entry_sorted (args_sorted1 _) ?_
  unfold Builtin.«sorted»
  refine wpAny_bind (m := checkCount "sorted" 1 1 _) (wpAny_pure ?_)
  refine wpAny_bind (collect_set (A := A.in1) hh ⟨o, ho, hex.1, hd⟩ R.fits (by unfold scanBound; omega) R.tab.ris R.led fun s1 vs k1 hz g1 o1 pm => ?_)
  have hes : es.toList.map (·.2) = L.map fun q => Value.ref q.1 := by
    rw [R.rows]
    unfold rowsOf
    rw [List.map_map] <;> rfl
  rw [hes] at pm
  have ord : ∀ vs : List Value, (∀ v ∈ vs, ∃ q ∈ L, v = Value.ref q.1) → ∃ L1 : List (Addr × List Int), vs = L1.map (fun q => Value.ref q.1) ∧ ∀ q ∈ L1, q ∈ L := by
    intro vs
    induction vs with
    | nil => intro _; exact ⟨[], rfl, fun q hq => (by cases hq)⟩
    | cons v vs ih =>
      intro hv
      obtain ⟨q, hq, e⟩ := hv v List.mem_cons_self
      obtain ⟨L1, e1, hs⟩ := ih fun u hu => hv u (List.mem_cons_of_mem _ hu)
      refine ⟨q :: L1, by rw [List.map_cons, e, e1], fun r hr => ?_⟩
      rcases List.mem_cons.mp hr with z | z
      · rw [z]; exact hq
      · exact hs r z
  have one : ∀ q ∈ L, ∀ r ∈ L, q.1 = r.1 → q = r := fun q hq r hr e => by
    have a1 := R.tup q hq
    have a2 := R.tup r hr
    rw [e] at a1
    have e2 : q.2 = r.2 := a1.inj a2
    exact Prod.ext e e2
  have perm_of : ∀ L1 : List (Addr × List Int), (∀ q ∈ L1, q ∈ L) → (L1.map (fun q => Value.ref q.1)).Perm (L.map fun q => Value.ref q.1) → L1.Perm L := by
    intro L1 hs pm1
    have nL : L.Nodup := nodup_of_map R.nd
    have nref : (L.map fun q => Value.ref q.1).Nodup := by
      refine List.pairwise_map.mpr (List.Pairwise.imp_of_mem (fun {q r} hq hr hne e => ?_) nL)
      injection e with e
      exact hne (one q hq r hr e)
    have n1 : L1.Nodup := nodup_of_map (pm1.nodup_iff.mpr nref)
    refine (List.perm_ext_iff_of_nodup n1 nL).mpr fun q => ⟨hs q, fun hq => ?_⟩
    have hm : Value.ref q.1 ∈ L1.map (fun q => Value.ref q.1) := pm1.mem_iff.mpr (List.mem_map.mpr ⟨q, hq, rfl⟩)
    obtain ⟨r, hr, e⟩ := List.mem_map.mp hm
    injection e with e
    rw [← one r (hs r hr) q hq e]
    exact hr
  have hvl : vs.length < 64 := by rw [pm.length_eq, List.length_map]; exact hfew
  obtain ⟨L1, e1, hs1⟩ := ord vs fun v hv => by
    obtain ⟨q, hq, e⟩ := List.mem_map.mp (pm.mem_iff.mp hv)
    exact ⟨q, hq, e.symm⟩
  have p1 : L1.Perm L := perm_of L1 hs1 (by rw [← e1]; exact pm)
  refine wpAny_bind (wpAny_newList ?_ (by rw [sizeLine_eq]; omega))
  have hoL : (s1.heap.push (seqObj "list" vs.toArray 0)).get? s1.heap.objs.size = some (seqObj "list" vs.toArray 0) := Heap.get?_push_size _ rfl
  have tk : ∀ q ∈ L, IsT P w (s1.heap.push (seqObj "list" vs.toArray 0)) q.2 q.1 := fun q hq => isT_keep (R.tup q hq) fun b u e => Heap.get?_push_of_some _ (k1 b u e)
  have rd : ∀ q ∈ L, ∃ as, Reads (s1.heap.push (seqObj "list" vs.toArray 0)) (.ref q.1) (encI q.2) as ∧ s1.heap.objs.size ∉ as := fun q hq => ⟨[], reads_tupI (tk q hq), by simp⟩
  have ea : ∀ l : List (Addr × List Int), (∀ q ∈ l, q ∈ L) → PySem.W.EachIs (fun v q => v = Value.ref q.1 ∧ q ∈ L) (l.map fun q => Value.ref q.1) l := by
    intro l
    induction l with
    | nil => intro _; exact .nil
    | cons q l ih => intro h; exact .cons ⟨rfl, h q List.mem_cons_self⟩ (ih fun r hr => h r (List.mem_cons_of_mem _ hr))
  have er : ∀ l : List (Addr × List Int), (∀ q ∈ l, q ∈ L) → PySem.W.EachIs (fun v q => ∃ as, Reads (s1.heap.push (seqObj "list" vs.toArray 0)) v (encI q.2) as ∧ s1.heap.objs.size ∉ as) (l.map fun q => Value.ref q.1) l := by
    intro l
    induction l with
    | nil => intro _; exact .nil
    | cons q l ih => intro h; exact .cons (rd q (h q List.mem_cons_self)) (ih fun r hr => h r (List.mem_cons_of_mem _ hr))
  have eR := ea L1 hs1
  have eD := er L1 hs1
  rw [← e1] at eR eD
  have hl1 : L1.length < 64 := by rw [p1.length_eq]; exact hfew
  refine wpAny_bind (wpAny_holding (PySem.W.list_sort_data (s := { s1 with heap := s1.heap.push (seqObj "list" vs.toArray 0) }) (enc := fun q : Addr × List Int => encI q.2) hoL eR eD (PySem.W.AllAlike.of fun b b' => PySem.W.alike_ints b.2 b'.2)
    (.inl fun d hd => ?_) (by rw [sizeLine_eq]; omega) (fun b hb => ?_) fun out hlen eo => ?_))
  · obtain ⟨q, hq, rfl⟩ := List.mem_map.mp hd
    obtain ⟨q1, q2⟩ := q
    have := hne _ (hs1 _ hq)
    cases q2 with
    | nil => exact absurd rfl this
    | cons x r => exact ⟨_, _, rfl⟩
  · show A.in1.units + 1 + (encI b.2).depth < cLine
    have hd0 : (encI b.2).depth ≤ 1 := by
      show (PyData.tuple _).depth ≤ 1
      rw [PyData.depth, PySem.W.depth_ints]
      omega
    have : A.in1.units = A.units + 1 := rfl
    omega
  · obtain ⟨c, hc⟩ := sortedHeap_at (vs := vs) (out := out.toArray) hoL
    have hout : ∀ {o : List Value} {l : List (Addr × List Int)}, PySem.W.EachIs (fun v q => v = Value.ref q.1 ∧ q ∈ L) o l → o = l.map (fun q => Value.ref q.1) ∧ ∀ q ∈ l, q ∈ L := by
      intro o l e
      induction e with
      | nil => exact ⟨rfl, fun q hq => by cases hq⟩
      | cons h _ ih => exact ⟨by rw [List.map_cons, h.1, ih.1], fun q hq => by
          rcases List.mem_cons.mp hq with z | z
          · rw [z]; exact h.2
          · exact ih.2 q z⟩
    obtain ⟨ho1, ho2⟩ := hout eo
    have tr := leI_ord.trans
    have tot : ∀ a b, (leI a b || leI b a) = true := fun a b => by rw [Bool.or_eq_true]; exact leI_ord.total a b
    refine wpAny_pure ⟨_, rfl, hQ _ s1.heap.objs.size out.toArray c (L1.mergeSort fun a b => leI a.2 b.2) (fun b u e => ?_) g1 o1 hz hc ((rfl : out.toArray.toList = out).trans ho1) ho2 (isort_of ?_ ?_)⟩
    · have q := k1 b u e
      have hlt := Heap.lt_size q
      show (sortedHeap (s1.heap.push (seqObj "list" vs.toArray 0)) s1.heap.objs.size vs out.toArray).get? b = some u
      rw [sortedHeap_old (Nat.ne_of_lt hlt) (by rw [size_push']; exact Nat.lt_succ_of_lt hlt)]
      exact Heap.get?_push_of_some _ q
    · exact ((List.mergeSort_perm L1 _).trans p1).map _
    · exact List.pairwise_map.mpr (List.pairwise_mergeSort (le := fun a b : Addr × List Int => leI a.2 b.2) (fun a b c => tr a.2 b.2 c.2) (fun a b => tot a.2 b.2) L1)
end
section
variable {X : Cx} {Wx : WX} {e : Expr} {ce : Rho → M W}
theorem den_tupI {A m : List Addr} {H : Hp} {g : G} : ∀ {ws : List W} {ks : List (List Int)} {vs : List V}, mapO tupI ws = some ks → DenL g A m H ws vs → ∃ ps : List (Addr × List Int), vs = ps.map (fun p => V.ref p.1) ∧ ps.map (·.2) = ks ∧ ∀ p ∈ ps, SqT g.K H p.1 (p.2.map V.int)
  | [], ks, vs, h, l => by cases mapO_nil h; cases l; exact ⟨[], rfl, rfl, fun p hp => by cases hp⟩
  | w :: ws, ks, vs, h, l => by
    obtain ⟨k, r, rfl, h1, h2⟩ := mapO_cons h
    cases l with
    | cons d l =>
      obtain ⟨ps, rfl, rfl, hp⟩ := den_tupI h2 l
      cases w with
      | tup us =>
        cases d with
        | @tup _ a vs0 ht l0 =>
          have e := den_ints h1 l0
          subst e
          refine ⟨(a, k) :: ps, rfl, rfl, fun p hm => ?_⟩
          rcases List.mem_cons.mp hm with z | z
          · rw [z]; exact ht
          · exact hp p z
      | _ => cases h1
theorem tupW_den {A m : List Addr} {H : Hp} {g : G} {k : List Int} {a : Addr} (h : SqT g.K H a (k.map V.int)) : Den g A m H (tupW k) (.ref a) := by
  refine .tup h ?_
  clear h
  induction k with
  | nil => exact .nil
  | cons x k ih => exact .cons (.int x) ih
theorem c_sortSet {p1 p2 q1 q2 : Pos} (hc : X.calm = true) (hu : X.A.units + 64 < cLine) (hg1 : Gl X "sorted") (hm1 : X.mg "sorted" = none) (hg2 : Gl X "set") (hm2 : X.mg "set" = none) (he : ME X Wx e ce)
    (hb1 : bootBuiltins "sorted" = some (.builtin "sorted") := by rfl) (hb2 : bootBuiltins "set" = some (.type "set") := by rfl)
    (s1 : starEach [.Call (.Name "set" p2) [e] [] q2] X.env = (false, eval (.Call (.Name "set" p2) [e] [] q2) X.env) :: starEach [] X.env := by rfl) (s2 : starEach [e] X.env = (false, eval e X.env) :: starEach [] X.env := by rfl)
    (h1 : (backTo q1 (starEach ([] : List Expr) X.env)).any (·.1) = false := by rfl) (h2 : (backTo q2 (starEach ([] : List Expr) X.env)).any (·.1) = false := by rfl) :
    MF X Wx (.Call (.Name "sorted" p1) [.Call (.Name "set" p2) [e] [] q2] [] q1) (fun ρ => do let x ← ce ρ; opNF sortSetO [x]) := by
  have rule : CallR X (.builtin "sorted") (fun vs H Q => ∃ (a : Addr) (L : List (Addr × List Int)), vs = [V.ref a] ∧ H a = some (SetTO X.prog X.w a L) ∧ (∀ p ∈ L, SqT X.K H p.1 (p.2.map V.int)) ∧ (∀ p ∈ L, p.2 ≠ []) ∧
      ∀ (L' : List (Addr × List Int)) (p : Addr), (∀ q ∈ L', q ∈ L) → L'.map (·.2) = isort leI (L.map (·.2)) → (L.map (·.2)).Nodup → L.length < 64 → H p = none → Q (.ref p) (upd H p (.lst (L'.map fun q => V.ref q.1)))) := by
    intro pins s σ H vs us Q I r h
    obtain ⟨a, L, rfl, ha, hk, hne, q⟩ := h
    have R0 : SetT0 X.prog X.w s.heap a L := (I.hok a _ ha).1
    obtain ⟨es, ep, t, R⟩ := R0.full fun p hp => I.isT (hk p hp)
    rw [Vals.ref1 r]
    refine sorted_setD R (I.ok.hd hc) hu hne fun s' p out c L' k g o hp hg hout hs he' => ?_
    have hlen0 : L'.length = L.length := by
      have := congrArg List.length he'
      rw [List.length_map, isort_length, List.length_map] at this
      exact this
    have hlen : (L'.map fun q => V.ref q.1).length ≤ sizeLine := by rw [List.length_map, sizeLine_eq, hlen0]; have := R.few; omega
    have hn : H p = none := I.hok.fresh hp
    have hv : Vals (L'.map fun q => V.ref q.1) out.toList := by rw [hout]; exact vals_of_refs L'
    have J : Inv X pins σ (upd H p (.lst (L'.map fun q => V.ref q.1))) { s with heap := s'.heap, gens := s'.gens, drawn := s'.drawn, toks := s'.toks } :=
      I.call (ch := []) (Un.laid k hp hn) (I.hok.laid k hp ⟨hlen, out.toList, c, hv, hg⟩) (by rw [g]; exact I.bare) (fun _ z => nomatch z)
    have e : s' = { s with heap := s'.heap, gens := s'.gens, drawn := s'.drawn, toks := s'.toks } := by
      cases s'
      cases s
      cases o
      rfl
    rw [e]
    exact ⟨.ref p, _, J, rfl, q L' p hs he' R.nd R.few hn⟩
  refine (pe_callB rule hg1 hm1 hb1 (pa_cons (pe_callTy (cr_setOfT hc hu) hg2 hm2 hb2 (pa_cons he pa_nil s2) (by decide) (by decide) s2 h2) pa_nil s1) (by decide) (by decide) s1 h1).imp fun σ H Q ⟨B, m, S, ρ, r, d, p⟩ => ?_
  refine TM.to zPostF r d p fun x S1 m1 H1 v e1 r1 d1 dv p1 c1 => ?_
  obtain ⟨o, eo, po⟩ := post_opNF p1
  have eo' : (match lstO S1 x with
    | some ws => match mapO tupI ws with
      | some ks => if ks.length < 64 ∧ (ks.all fun k => k.length == (ks.headD []).length) = true ∧ (ks.all fun k => !k.isEmpty) = true then some (.lst ((isort leI (ddI ks)).map tupW)) else none
      | none => none
    | none => none : Option O) = some o := eo

  clear eo
  have eo := eo'
  split at eo
  · rename_i ws q1
    split at eo
    · rename_i ks q2
      split at eo
      · rename_i hz
        cases eo
        obtain ⟨a, vs, rfl, hl, l⟩ := den_lst r1 dv q1
        obtain ⟨ps, rfl, hps, hk⟩ := den_tupI q2 l
        have hlen : ps.length = ks.length := by rw [← hps, List.length_map]
        refine ⟨a, ps, rfl, hl, hk, by rw [hlen]; exact hz.1, fun a2 L ha2 hs1 hs2 => ?_⟩
        obtain ⟨r2', e2, c2, na2⟩ := r1.laid (o := SetTO X.prog X.w a2 L) ha2
        have hkL : ∀ p ∈ L, SqT X.K (upd H1 a2 (SetTO X.prog X.w a2 L)) p.1 (p.2.map V.int) := fun p hp => c2.tup (hk p (hs1 p hp))
        refine ⟨a2, L, rfl, upd_same, hkL, fun p hp he0 => ?_, fun L' p2 hs3 hL' hnd hfew hp2 => ?_⟩
        · have hm : p.2 ∈ ks := by rw [← hps]; exact List.mem_map.mpr ⟨p, hs1 p hp, rfl⟩
          have := List.all_eq_true.mp hz.2.2 _ hm
          rw [he0] at this
          cases this
        · have perm : (L.map (·.2)).Perm (ddI ks) := (List.perm_ext_iff_of_nodup hnd (nodup_ddI ks)).mpr fun k => by
            rw [mem_ddI]
            refine ⟨fun hm => ?_, fun hm => ?_⟩
            · obtain ⟨p, hp, rfl⟩ := List.mem_map.mp hm
              rw [← hps]
              exact List.mem_map.mpr ⟨p, hs1 p hp, rfl⟩
            · rw [← hps] at hm
              obtain ⟨p, hp, rfl⟩ := List.mem_map.mp hm
              exact hs2 p hp
          have dl : DenL (gOf X) (B ++ m1) m1 (upd H1 a2 (SetTO X.prog X.w a2 L)) ((isort leI (ddI ks)).map tupW) (L'.map fun q => V.ref q.1) := by
            rw [← isort_perm perm, ← hL', List.map_map]
            have : ∀ {l : List (Addr × List Int)}, (∀ q ∈ l, q ∈ L) → DenL (gOf X) (B ++ m1) m1 (upd H1 a2 (SetTO X.prog X.w a2 L)) (l.map (tupW ∘ fun x => x.2)) (l.map fun q => V.ref q.1) := by
              intro l
              induction l with
              | nil => intro _; exact .nil
              | cons q l ih => intro h; exact .cons (tupW_den (hkL q (h q List.mem_cons_self))) (ih fun r hr => h r (List.mem_cons_of_mem _ hr))
            exact this hs3
          obtain ⟨e3, r3, oa⟩ := r2'.newL hp2 dl
          have hp2' : H1 p2 = none := by
            cases q : H1 p2 with
            | none => rfl
            | some u =>
              rw [upd_ne (ne_of_none q ha2), q] at hp2
              cases hp2
          exact po _ p2 (e2.trans e3) hp2' r3 oa
      · cases eo
    · cases eo
  · cases eo
end
end Pm

namespace Pm
open PySem PySem.Spec PyProof.Rows L2 PySem.SeqAt

/-! ### + of ints, tuples, lists, as a value -/
def addVO (S : Sto) (x y : W) : Option W := match lstO S x, lstO S y with
  | some a, some b => if a.length + b.length ≤ 16777216 then some (.vl (a ++ b)) else none
  | _, _ => addO S x y
section
variable {X : Cx}
theorem o_addV : Op2 X (binaryOp .Add) addVO := by
  intro pins s σ H x y v u Q I rx ry ⟨B, m, S, wx, wy, w, r, dx, dy, e, q⟩
  unfold addVO at e
  split at e
  · rename_i a b e1 e2
    split at e
    · rename_i hz
      cases e
      obtain ⟨l, vs, rfl, hl, ll⟩ := den_lst r dx e1
      obtain ⟨l2, vs2, rfl, hl2, ll2⟩ := den_lst r dy e2
      refine op_catW pins s σ H _ _ v u Q I rx ry ⟨l, l2, vs, vs2, rfl, rfl, hl, hl2, by rw [← ll.length, ← ll2.length, sizeLine_eq]; exact hz, fun p hp => ?_⟩
      obtain ⟨r', e', c', np⟩ := r.laid (o := .lst (vs ++ vs2)) hp
      exact q _ _ e' r' (.vl np (.of upd_same) ((ll.append ll2).carry c'))
    · cases e
  · exact o_add pins s σ H x y v u Q I rx ry ⟨B, m, S, wx, wy, w, r, dx, dy, e, q⟩
end
/-! ### a slice of a list or of a tuple, as a value -/
def slV (x : W) (lo hi : Option Int) : M W := fun S => match lstO S x with
  | some ws => .ok (.vl (cutW ws lo hi)) S
  | none => slT x lo hi S
section
variable {X : Cx} {Wx : WX} {a : Expr} {ca : Rho → M W} {lo hi : Option Expr} {tl th : Rho → M (Option Int)} {pos p2 : Pos}
theorem me_slV (ha : ME X Wx a ca) (hl : MO X Wx lo tl) (hh : MO X Wx hi th) : ME X Wx (.Subscript a (.Slice lo hi none p2) pos) (fun ρ => do let x ← ca ρ; let l ← tl ρ; let h ← th ρ; slV x l h) :=
  (pe_slice (sl_tupA.or sl_list) ha hl hh).imp fun σ H Q ⟨B, m, S, ρ, r, d, p⟩ => TM.to zPost r d p fun x S1 m1 H1 v e1 r1 d1 dv p1 c1 => TMo.to zPost r1 d1 p1 fun l S2 m2 H2 e2 r2' d2 p2 c2 => TMo.to zPost r2' d2 p2 fun h S3 m3 H3 e3 r3 d3 p3 c3 => by
    have dv3 := (dv.carry c2).carry c3
    unfold slV at p3
    cases q : lstO S3 x with
    | some ws =>
      simp only [q] at p3
      obtain ⟨a', vs, rfl, hl', ll⟩ := den_lst r3 dv3 q
      refine .inr ⟨a', vs, rfl, hl', fun q hq => ?_⟩
      obtain ⟨r', e', c', np⟩ := r3.laid (o := .lst (cutV vs l h)) hq
      exact p3 _ _ e' r' _ (.vl np (.of upd_same) ((ll.cut l h).carry c'))
    | none =>
      simp only [q] at p3
      unfold slT at p3
      cases x with
      | tup ws =>
        cases dv3 with
        | @tup _ a' vs ht ll =>
          refine .inl ⟨a', vs, rfl, ht, fun hw => ?_, fun _ q hq => ?_⟩
          · have e : cutW ws l h = ws := by
              unfold cutW
              rw [ll.length, hw.1, hw.2, List.drop_zero, Nat.sub_zero, ← ll.length, List.take_length]
            have p4 := Post.ret (a := W.tup (cutW ws l h)) p3 r3
            rw [e] at p4
            exact p4 _ (.tup ht ll)
          · obtain ⟨r', e', c', _⟩ := r3.laid (o := .tup (cutV vs l h)) hq
            exact p3 _ _ e' r' _ (.tup (.of upd_same) ((ll.cut l h).carry c'))
      | _ => exact p3.elim
end
/-! ### len of a dict too -/
def lenAO (S : Sto) : List W → Option W
  | [x] => match dctO S x with
    | some kvs => if okKey kvs (.int 0) = true then some (.int kvs.length) else none
    | none => lenO S [x]
  | _ => none
section
variable {X : Cx}
theorem c_lenA (hu : X.A.units + 64 < cLine) : CallO X (.builtin "len") lenAO := by
  intro pins s σ H xs us Q I rx ⟨B, m, S, ws, w, r, d, e, q⟩
  unfold lenAO at e
  split at e
  · rename_i x
    split at e
    · rename_i kvs e1
      split at e
      · rename_i ok
        cases e
        obtain ⟨v, rfl, dv⟩ := d.one
        obtain ⟨a, rfl, da⟩ := den_dct r dv e1
        obtain ⟨u, rfl, ru⟩ := vals1 rx
        cases ru
        obtain ⟨hs, hz, _, _⟩ := dct_sys I da
        cases dat_of (A := B ++ m) (m := m) (y := .int 0) (u := .int 0 0) I da (.int 0) ⟨0, rfl⟩ ok with
        | @L l xs vs h1 h2 h3 h4 h5 =>
          have e2 : kvs.length = vs.length := h3.length.trans h4.length
          rw [sizeLine_eq] at hz
          refine call_len_dict hs h5 (by omega) ?_
          rw [← e2]
          exact ⟨.int kvs.length, H, I.tok _, ⟨_, rfl⟩, q H _ (Ext.refl _ _) r (.int _)⟩
        | @N l b xs vs h1 h2 => cases h2
      · cases e
    · exact c_len pins s σ H xs us Q I rx ⟨B, m, S, _, w, r, d, e, q⟩
  · cases e
end
theorem pa_list : PlainAttrs "list" := PySem.F.plainAttrs_list
theorem slot_append : Slot "list" "append" "list.append" := PySem.F.slot_list_append
theorem slot_extend : Slot "list" "extend" "list.extend" := PySem.F.slot_list_extend
theorem slot_insert : Slot "list" "insert" "list.insert" := PySem.F.slot_list_insert
theorem slot_index : Slot "list" "index" "list.index" := PySem.F.slot_list_index
theorem slot_pop : Slot "list" "pop" "list.pop" := PySem.F.slot_list_pop
theorem slot_reverse : Slot "list" "reverse" "list.reverse" := PySem.F.slot_list_reverse
theorem ty_append : typeOf (.builtin "list.append") = pure (.type "method_descriptor") := PySem.F.type_list_append
theorem ty_extend : typeOf (.builtin "list.extend") = pure (.type "method_descriptor") := PySem.F.type_list_extend
theorem ty_insert : typeOf (.builtin "list.insert") = pure (.type "method_descriptor") := PySem.F.type_list_insert
theorem ty_index : typeOf (.builtin "list.index") = pure (.type "method_descriptor") := PySem.F.type_list_index
theorem ty_pop : typeOf (.builtin "list.pop") = pure (.type "method_descriptor") := PySem.F.type_list_pop
theorem ty_reverse : typeOf (.builtin "list.reverse") = pure (.type "method_descriptor") := PySem.F.type_list_reverse
abbrev tupleAO := tupleO
theorem c_tupleA {X : Cx} (hu : X.A.units + 64 < cLine) : CallO X (.type "tuple") tupleAO := c_tuple
/-! ### the mirrors by name -/
abbrev cOp (o : Sto → W → W → Option W) (ca cb : Rho → M W) : Rho → M W := fun ρ => do let x ← ca ρ; let y ← cb ρ; op2 o x y
abbrev cUn (o : Sto → W → Option W) (ca : Rho → M W) : Rho → M W := fun ρ => do let x ← ca ρ; op1 o x
abbrev tCmp (o : Sto → W → W → Option W) (ca cb : Rho → M W) : Rho → M Bool := fun ρ => do let x ← ca ρ; let y ← cb ρ; let k ← op2 o x y; asB k
abbrev tVal (ca : Rho → M W) : Rho → M Bool := fun ρ => do let x ← ca ρ; asB x
abbrev tChain (o o' : Sto → W → W → Option W) (ca cb cc : Rho → M W) : Rho → M Bool := fun ρ => do let x ← chain o o' ca cb cc ρ; asB x
abbrev aNil : Rho → M (List W) := fun _ => pure []
abbrev aCons (ca : Rho → M W) (cl : Rho → M (List W)) : Rho → M (List W) := fun ρ => do let x ← ca ρ; let xs ← cl ρ; pure (x :: xs)
abbrev cB (o : Sto → List W → Option W) (cl : Rho → M (List W)) : Rho → M W := fun ρ => do let ws ← cl ρ; opN o ws
abbrev fB (o : Sto → List W → Option O) (cl : Rho → M (List W)) : Rho → M O := fun ρ => do let ws ← cl ρ; opNF o ws
abbrev cG (n : Nat) (f : List W → M W) (cl : Rho → M (List W)) : Rho → M W := fun ρ => do let ws ← cl ρ; callM n f ws
abbrev cP (n : Nat) (f : List W → M W) (cl : Rho → M (List W)) : Rho → M W := fun ρ => do let ws ← cl ρ; pcallM n f ws
abbrev fP (n : Nat) (f : List W → M W) (cl : Rho → M (List W)) : Rho → M O := fun ρ => do let ws ← cl ρ; pcallF n f ws
abbrev fOp (o : Sto → W → W → Option O) (ca cb : Rho → M W) : Rho → M O := fun ρ => do let x ← ca ρ; let y ← cb ρ; op2F o x y
abbrev fRep (cf : Rho → M O) (cb : Rho → M W) : Rho → M O := fun ρ => do let x ← cf ρ; let y ← cb ρ; repF x y
abbrev fSl (ca : Rho → M W) (tl th : Rho → M (Option Int)) : Rho → M O := fun ρ => do let x ← ca ρ; let l ← tl ρ; let h ← th ρ; slL x l h
abbrev cSl (ca : Rho → M W) (tl th : Rho → M (Option Int)) : Rho → M W := fun ρ => do let x ← ca ρ; let l ← tl ρ; let h ← th ρ; slV x l h
abbrev fRev (ca : Rho → M W) : Rho → M O := fun ρ => do let x ← ca ρ; revL x
abbrev cLm (o : MO_) (co : Rho → M W) (cl : Rho → M (List W)) : Rho → M W := fun ρ => do let x ← co ρ; let _ ← isL x; let xs ← cl ρ; opM o x xs
abbrev cLm0 (o : MO_) (co : Rho → M W) : Rho → M W := fun ρ => do let x ← co ρ; let _ ← isL x; opM o x []
abbrev cIsi (b : Ty) (ca : Rho → M W) : Rho → M W := fun ρ => do let x ← ca ρ; isiM b x
abbrev fSS (ca : Rho → M W) : Rho → M O := fun ρ => do let x ← ca ρ; opNF sortSetO [x]
abbrev iSq (ce : Rho → M W) : Rho → M Gen := fun ρ => do let w ← ce ρ; seqI w
abbrev iR1 (cl : Rho → M (List W)) : Rho → M Gen := fun ρ => do let ws ← cl ρ; rng1I ws
abbrev iR2 (cl : Rho → M (List W)) : Rho → M Gen := fun ρ => do let ws ← cl ρ; rng2I ws
abbrev iR3 (cl : Rho → M (List W)) : Rho → M Gen := fun ρ => do let ws ← cl ρ; rng3I ws
abbrev iEn (cl : Rho → M (List W)) : Rho → M Gen := fun ρ => do let ws ← cl ρ; enumI ws
abbrev iZp (cl : Rho → M (List W)) : Rho → M Gen := fun ρ => do let ws ← cl ρ; zipI ws
abbrev gTup (n : Nat) (g2 : List W → Rho → M Rho) : Gm := fun w ρ => match w with
  | .tup ws => if ws.length = n then g2 ws ρ else M.fail
  | _ => M.fail
abbrev gSub (t : Sto → W → W → W → Option Sto) (co ci : Rho → M W) : Gm := fun v ρ => do let x ← co ρ; let y ← ci ρ; let _ ← set3 t x y v; pure ρ
abbrev sEx (ce : Rho → M W) : Cm := fun ρ => do let _ ← ce ρ; pure (.nx, ρ)
abbrev sBk : Cm := fun ρ => pure (.bk, ρ)
abbrev sCt : Cm := fun ρ => pure (.ct, ρ)
abbrev sRetN : Cm := fun ρ => pure (.rt .non, ρ)
end Pm

namespace Pm
open PySem PySem.Spec PyProof.Rows L2 PySem.SeqAt

/-! ### the law's end -/
def spLaw (g : G) (f : List W → M W) : Sp := fun vs H Q _ => spM g 1 f vs H Q E0
theorem law_fn {P : Program} {w : World} {K : PySem.W.Frag} {mg : Str → Option Value} {base : Heap} {k : Nat} {fa : Addr} {fd : FuncData} {ps : List Str} {f : List W → M W} (F : FnOk P w K mg base (L2.CX P w) k fa fd ps (spM ⟨P, w, K, mg⟩ 1 f)) : FnOk P w K mg base CX0 k fa fd ps (spLaw ⟨P, w, K, mg⟩ f) :=
  ⟨fun vs H Q E h => F.len vs H Q E0 h, fun A outer s H args us vs Q E hr e0 hb r h => codeAny_mono (F.run A outer s H args us vs Q E0 hr e0 hb r h) fun r' s' hq => by
    cases r' with
    | error e =>
      obtain ⟨_, _, _, _, _, _, _, _, _, _, _, _, z⟩ := hq
      exact z.elim
    | ok fl => cases fl <;> exact hq⟩
theorem law_sp {g : G} {f : List W → M W} {H : Hp} {a : Addr} {ns : List Int} (hS : SqL g.K H a (ns.map V.int)) (h : ∃ S', f [.vl (ns.map .int)] [] = .ok (.bl true) S') : spLaw g f [.ref a] H (fun v _ => v = .bl true) fun _ _ _ => False := by
  obtain ⟨S', h⟩ := h
  have dints : ∀ ns : List Int, DenL g ([] ++ []) [] H (ns.map .int) (ns.map V.int) := fun ns => by
    induction ns with
    | nil => exact .nil
    | cons n ns ih => exact .cons (.int n) ih
  refine ⟨rfl, [], [], [], [.vl (ns.map .int)], Rep.none_, .cons ?_ .nil, ?_⟩
  · rcases hS with hS | hS
    · exact .vl (by simp) hS (dints ns)
    · exact .vlK (.inr hS) (dints ns)
  · rw [h]
    intro m' H' e r v d
    cases d
    rfl
end Pm

namespace Pm
open PySem

/-! ### running a mirror -/
def Ev {α : Type} (x : M α) (S : Sto) (Q : α → Sto → Prop) : Prop := ∃ a S', x S = .ok a S' ∧ Q a S'
theorem Ev.mono {α : Type} {x : M α} {S : Sto} {Q Q' : α → Sto → Prop} (h : Ev x S Q) (k : ∀ a S', Q a S' → Q' a S') : Ev x S Q' := let ⟨a, S', e, q⟩ := h; ⟨a, S', e, k a S' q⟩
theorem ev_bind {α β : Type} {x : M α} {f : α → M β} {S : Sto} {Q : β → Sto → Prop} : Ev (x >>= f) S Q ↔ Ev x S fun a S' => Ev (f a) S' Q := by
  constructor
  · rintro ⟨b, S', e, q⟩
    cases h : x S with
    | ok a S1 => rw [bind_ok h] at e; exact ⟨a, S1, h, b, S', e, q⟩
    | exc C S1 => rw [bind_exc h] at e; cases e
    | stuck => rw [bind_stuck h] at e; cases e
  · rintro ⟨a, S1, h, b, S', e, q⟩
    exact ⟨b, S', by rw [bind_ok h]; exact e, q⟩
theorem ev_pure {α : Type} {a : α} {S : Sto} {Q : α → Sto → Prop} : Ev (pure a) S Q ↔ Q a S := by
  constructor
  · rintro ⟨b, S', e, q⟩
    cases e
    exact q
  · exact fun q => ⟨a, S, rfl, q⟩
theorem ev_fail {α : Type} {S : Sto} {Q : α → Sto → Prop} : Ev (M.fail : M α) S Q ↔ False := ⟨fun ⟨_, _, e, _⟩ => (by cases e), False.elim⟩
theorem ev_of {α : Type} {x : M α} {S S' : Sto} {a : α} {Q : α → Sto → Prop} (h : x S = .ok a S') (q : Q a S') : Ev x S Q := ⟨a, S', h, q⟩
def Is {α : Type} (o : Option α) (Q : α → Prop) : Prop := ∃ a, o = some a ∧ Q a
theorem is_some {α : Type} {a : α} {Q : α → Prop} : Is (some a) Q ↔ Q a := ⟨fun ⟨b, e, q⟩ => by cases e; exact q, fun q => ⟨a, rfl, q⟩⟩
theorem is_none {α : Type} {Q : α → Prop} : Is none Q ↔ False := ⟨fun ⟨b, e, q⟩ => (by cases e), False.elim⟩
theorem is_if {α : Type} {c : Prop} [Decidable c] {a b : Option α} {Q : α → Prop} : Is (if c then a else b) Q ↔ if c then Is a Q else Is b Q := by by_cases h : c <;> simp [h]
theorem ev_op2 {o : Sto → W → W → Option W} {x y : W} {S : Sto} {Q : W → Sto → Prop} : Ev (op2 o x y) S Q ↔ Is (o S x y) fun w => Q w S := by
  unfold op2 Ev Is
  constructor
  · rintro ⟨a, S', e, q⟩
    cases h : o S x y with
    | none => simp [h] at e
    | some w => simp [h] at e; obtain ⟨rfl, rfl⟩ := e; exact ⟨w, rfl, q⟩
  · rintro ⟨w, e, q⟩
    exact ⟨w, S, by simp [e], q⟩
theorem ev_op1 {o : Sto → W → Option W} {x : W} {S : Sto} {Q : W → Sto → Prop} : Ev (op1 o x) S Q ↔ Is (o S x) fun w => Q w S := by
  unfold op1 Ev Is
  constructor
  · rintro ⟨a, S', e, q⟩
    cases h : o S x with
    | none => simp [h] at e
    | some w => simp [h] at e; obtain ⟨rfl, rfl⟩ := e; exact ⟨w, rfl, q⟩
  · rintro ⟨w, e, q⟩
    exact ⟨w, S, by simp [e], q⟩
theorem ev_opN {o : Sto → List W → Option W} {x : List W} {S : Sto} {Q : W → Sto → Prop} : Ev (opN o x) S Q ↔ Is (o S x) fun w => Q w S := by
  unfold opN Ev Is
  constructor
  · rintro ⟨a, S', e, q⟩
    cases h : o S x with
    | none => simp [h] at e
    | some w => simp [h] at e; obtain ⟨rfl, rfl⟩ := e; exact ⟨w, rfl, q⟩
  · rintro ⟨w, e, q⟩
    exact ⟨w, S, by simp [e], q⟩
theorem ev_opNF {o : Sto → List W → Option O} {x : List W} {S : Sto} {Q : O → Sto → Prop} : Ev (opNF o x) S Q ↔ Is (o S x) fun w => Q w S := by
  unfold opNF Ev Is
  constructor
  · rintro ⟨a, S', e, q⟩
    cases h : o S x with
    | none => simp [h] at e
    | some w => simp [h] at e; obtain ⟨rfl, rfl⟩ := e; exact ⟨w, rfl, q⟩
  · rintro ⟨w, e, q⟩
    exact ⟨w, S, by simp [e], q⟩
theorem ev_opM {o : MO_} {x : W} {xs : List W} {S : Sto} {Q : W → Sto → Prop} : Ev (opM o x xs) S Q ↔ Is (o S x xs) fun p => Q p.1 p.2 := by
  unfold opM Ev Is
  constructor
  · rintro ⟨a, S', e, q⟩
    cases h : o S x xs with
    | none => simp [h] at e
    | some w => simp [h] at e; obtain ⟨rfl, rfl⟩ := e; exact ⟨w, rfl, q⟩
  · rintro ⟨w, e, q⟩
    exact ⟨w.1, w.2, by simp [e], q⟩
theorem ev_set3 {t : Sto → W → W → W → Option Sto} {x y v : W} {S : Sto} {Q : Unit → Sto → Prop} : Ev (set3 t x y v) S Q ↔ Is (t S x y v) fun S' => Q () S' := by
  unfold set3 Ev Is
  constructor
  · rintro ⟨a, S', e, q⟩
    cases h : t S x y v with
    | none => simp [h] at e
    | some w => simp [h] at e; subst e; exact ⟨w, rfl, q⟩
  · rintro ⟨w, e, q⟩
    exact ⟨(), w, by simp [e], q⟩
theorem ev_isL {x : W} {S : Sto} {Q : Unit → Sto → Prop} : Ev (isL x) S Q ↔ (lstO S x).isSome = true ∧ Q () S := by
  unfold isL Ev
  constructor
  · rintro ⟨a, S', e, q⟩
    by_cases h : (lstO S x).isSome = true
    · simp [h] at e; subst e; exact ⟨h, q⟩
    · simp [h] at e
  · rintro ⟨h, q⟩
    exact ⟨(), S, by simp [h], q⟩
theorem ev_isi {b : Ty} {x : W} {S : Sto} {Q : W → Sto → Prop} : Ev (isiM b x) S Q ↔ Is (tyW S x) fun t => Q (.bl (isiT t b)) S := by
  unfold isiM Ev Is
  constructor
  · rintro ⟨a, S', e, q⟩
    cases h : tyW S x with
    | none => simp [h] at e
    | some w => simp [h] at e; obtain ⟨rfl, rfl⟩ := e; exact ⟨w, rfl, q⟩
  · rintro ⟨w, e, q⟩
    exact ⟨_, S, by simp [e], q⟩
theorem ev_asB {b : Bool} {S : Sto} {Q : Bool → Sto → Prop} : Ev (asB (.bl b)) S Q ↔ Q b S := ev_pure
theorem ev_ite {α : Type} {c : Prop} [Decidable c] {x y : M α} {S : Sto} {Q : α → Sto → Prop} : Ev (if c then x else y) S Q ↔ if c then Ev x S Q else Ev y S Q := by by_cases h : c <;> simp [h]
theorem ev_toR {c : Rho → M O} {ρ : Rho} {S : Sto} {Q : W → Sto → Prop} : Ev (toR c ρ) S Q ↔ Ev (c ρ) S fun o S' => Q (.ref S'.length) (S' ++ [o]) := by
  unfold toR Ev
  constructor
  · rintro ⟨a, S', e, q⟩
    cases h : c ρ S with
    | ok o S1 => simp [h] at e; obtain ⟨rfl, rfl⟩ := e; exact ⟨o, S1, rfl, q⟩
    | exc C S1 => simp [h] at e
    | stuck => simp [h] at e
  · rintro ⟨o, S1, h, q⟩
    exact ⟨.ref S1.length, S1 ++ [o], by simp [h], q⟩
/-- a list built, as a value -/
theorem ev_toV {c : Rho → M O} {ρ : Rho} {S : Sto} {Q : W → Sto → Prop} : Ev (toV c ρ) S Q ↔ Ev (c ρ) S fun o S' => match o with
    | .lst ws => Q (.vl ws) S'
    | .dct kvs => Q (.vd kvs) S'
    | _ => False := by
  unfold toV
  rw [ev_bind]
  constructor
  · rintro ⟨o, S', e, q⟩
    refine ⟨o, S', e, ?_⟩
    cases o <;> first | exact ev_pure.mp q | exact ev_fail.mp q
  · rintro ⟨o, S', e, q⟩
    refine ⟨o, S', e, ?_⟩
    cases o <;> first | exact ev_pure.mpr q | exact q.elim
theorem ev_fn {n k : Nat} {c : Cm} {ws : List W} {S : Sto} {Q : W → Sto → Prop} : Ev (fnM n k c ws) S Q ↔ Ev (c (ws.map some ++ List.replicate (k - n) none)) S fun p S' => match p.1 with
    | .nx => Q .non S'
    | .rt w => Q w S'
    | _ => False := by
  unfold fnM
  rw [ev_bind]
  constructor
  · rintro ⟨⟨fl, ρ⟩, S', e, q⟩
    refine ⟨_, S', e, ?_⟩
    cases fl <;> first | exact ev_pure.mp q | exact ev_fail.mp q
  · rintro ⟨⟨fl, ρ⟩, S', e, q⟩
    refine ⟨_, S', e, ?_⟩
    cases fl <;> first | exact ev_pure.mpr q | exact q.elim
theorem ev_seq {c1 c2 : Cm} {ρ : Rho} {S : Sto} {Q : Fl × Rho → Sto → Prop} : Ev (seqC c1 c2 ρ) S Q ↔ Ev (c1 ρ) S fun p S' => match p.1 with
    | .nx => Ev (c2 p.2) S' Q
    | f => Q (f, p.2) S' := by
  unfold seqC
  rw [ev_bind]
  constructor
  · rintro ⟨⟨fl, ρ⟩, S', e, q⟩
    refine ⟨_, S', e, ?_⟩
    cases fl <;> first | exact q | exact ev_pure.mp q
  · rintro ⟨⟨fl, ρ⟩, S', e, q⟩
    refine ⟨_, S', e, ?_⟩
    cases fl <;> first | exact q | exact ev_pure.mpr q
theorem ev_set {i : Nat} {ce : Rho → M W} {ρ : Rho} {S : Sto} {Q : Fl × Rho → Sto → Prop} : Ev (setC i ce ρ) S Q ↔ Ev (ce ρ) S fun w S' => Q (.nx, ρ.set i (some w)) S' := by
  unfold setC
  rw [ev_bind]
  simp only [ev_pure]
theorem ev_asg {gm : Gm} {ce : Rho → M W} {ρ : Rho} {S : Sto} {Q : Fl × Rho → Sto → Prop} : Ev (asgC ce gm ρ) S Q ↔ Ev (ce ρ) S fun w S' => Ev (gm w ρ) S' fun ρ' S'' => Q (.nx, ρ') S'' := by
  unfold asgC
  simp only [ev_bind, ev_pure]
theorem ev_ret {ce : Rho → M W} {ρ : Rho} {S : Sto} {Q : Fl × Rho → Sto → Prop} : Ev (cRet ce ρ) S Q ↔ Ev (ce ρ) S fun w S' => Q (.rt w, ρ) S' := by
  unfold cRet
  simp only [ev_bind, ev_pure]
theorem ev_ifS {t : Rho → M Bool} {c1 c2 : Cm} {ρ : Rho} {S : Sto} {Q : Fl × Rho → Sto → Prop} : Ev (cIfS t c1 c2 ρ) S Q ↔ Ev (t ρ) S fun b S' => if b = true then Ev (c1 ρ) S' Q else Ev (c2 ρ) S' Q := by
  unfold cIfS
  simp only [ev_bind, ev_ite]
theorem ev_nx {ρ : Rho} {S : Sto} {Q : Fl × Rho → Sto → Prop} : Ev (cNx ρ) S Q ↔ Q (.nx, ρ) S := ev_pure
theorem ev_and {t u : Rho → M Bool} {ρ : Rho} {S : Sto} {Q : Bool → Sto → Prop} : Ev (cAnd t u ρ) S Q ↔ Ev (t ρ) S fun b S' => if b = true then Ev (u ρ) S' Q else Q false S' := by
  unfold cAnd
  simp only [ev_bind, ev_ite, ev_pure]
theorem ev_or {t u : Rho → M Bool} {ρ : Rho} {S : Sto} {Q : Bool → Sto → Prop} : Ev (cOr t u ρ) S Q ↔ Ev (t ρ) S fun b S' => if b = true then Q true S' else Ev (u ρ) S' Q := by
  unfold cOr
  simp only [ev_bind, ev_ite, ev_pure]
theorem ev_not {t : Rho → M Bool} {ρ : Rho} {S : Sto} {Q : Bool → Sto → Prop} : Ev (cNot t ρ) S Q ↔ Ev (t ρ) S fun b S' => Q (!b) S' := by
  unfold cNot
  simp only [ev_bind, ev_pure]
theorem ev_vAnd {t u : Rho → M W} {ρ : Rho} {S : Sto} {Q : W → Sto → Prop} : Ev (vAnd t u ρ) S Q ↔ Ev (t ρ) S fun x S' => Ev (asB x) S' fun b S' => if b = true then Ev (u ρ) S' Q else Q (.bl false) S' := by
  unfold vAnd
  simp only [ev_bind, ev_ite, ev_pure]
theorem ev_vNot {t : Rho → M W} {ρ : Rho} {S : Sto} {Q : W → Sto → Prop} : Ev (vNot t ρ) S Q ↔ Ev (t ρ) S fun x S' => Ev (asB x) S' fun b S' => Q (.bl (!b)) S' := by
  unfold vNot
  simp only [ev_bind, ev_ite, ev_pure]
theorem ev_C {w : W} {ρ : Rho} {S : Sto} {Q : W → Sto → Prop} : Ev (cC w ρ) S Q ↔ Q w S := ev_pure
theorem ev_var {i : Nat} {ρ : Rho} {S : Sto} {Q : W → Sto → Prop} : Ev (cVar i ρ) S Q ↔ Is ρ[i]? fun o => Is o fun w => Q w S := by
  unfold cVar
  cases h : ρ[i]? with
  | none => simp only [is_none, ev_fail]
  | some o => cases o with
    | none => simp only [is_some, is_none, ev_fail]
    | some w => simp only [is_some, ev_pure]
theorem ev_name {i : Nat} {w : W} {ρ : Rho} {S : Sto} {Q : Rho → Sto → Prop} : Ev (gmName i w ρ) S Q ↔ Q (ρ.set i (some w)) S := ev_pure
theorem ev_gnil {ρ : Rho} {S : Sto} {Q : Rho → Sto → Prop} : Ev (gmsNil [] ρ) S Q ↔ Q ρ S := ev_pure
theorem ev_gcons {g1 : Gm} {g2 : List W → Rho → M Rho} {w : W} {r : List W} {ρ : Rho} {S : Sto} {Q : Rho → Sto → Prop} : Ev (gmsCons g1 g2 (w :: r) ρ) S Q ↔ Ev (g1 w ρ) S fun ρ1 S1 => Ev (g2 r ρ1) S1 Q := ev_bind
theorem ev_gTup {n : Nat} {g2 : List W → Rho → M Rho} {ws : List W} {ρ : Rho} {S : Sto} {Q : Rho → Sto → Prop} : Ev (gTup n g2 (.tup ws) ρ) S Q ↔ ws.length = n ∧ Ev (g2 ws ρ) S Q := by
  show Ev (if ws.length = n then g2 ws ρ else M.fail) S Q ↔ _
  rw [ev_ite]
  by_cases h : ws.length = n <;> simp [h, ev_fail]
theorem ev_tup {cl : Rho → M (List W)} {ρ : Rho} {S : Sto} {Q : W → Sto → Prop} : Ev (tupM cl ρ) S Q ↔ Ev (cl ρ) S fun ws S' => ws.length ≤ 16777216 ∧ Q (.tup ws) S' := by
  unfold tupM
  rw [ev_bind]
  refine ⟨fun h => h.mono fun a S' q => ?_, fun h => h.mono fun a S' q => ?_⟩
  · rw [ev_ite] at q
    by_cases h : a.length ≤ 16777216
    · rw [if_pos h] at q; exact ⟨h, ev_pure.mp q⟩
    · rw [if_neg h] at q; exact (ev_fail.mp q).elim
  · rw [if_pos q.1]; exact ev_pure.mpr q.2
theorem ev_lst {cl : Rho → M (List W)} {ρ : Rho} {S : Sto} {Q : O → Sto → Prop} : Ev (lstM cl ρ) S Q ↔ Ev (cl ρ) S fun ws S' => ws.length ≤ 16777216 ∧ Q (.lst ws) S' := by
  unfold lstM
  rw [ev_bind]
  refine ⟨fun h => h.mono fun a S' q => ?_, fun h => h.mono fun a S' q => ?_⟩
  · rw [ev_ite] at q
    by_cases h : a.length ≤ 16777216
    · rw [if_pos h] at q; exact ⟨h, ev_pure.mp q⟩
    · rw [if_neg h] at q; exact (ev_fail.mp q).elim
  · rw [if_pos q.1]; exact ev_pure.mpr q.2
theorem ev_par {i j : Nat} {cl : Rho → M (List W)} {ρ : Rho} {S : Sto} {Q : Fl × Rho → Sto → Prop} (h : Ev (cl ρ) S fun ws S' => ∃ a b, ws = [a, b] ∧ Q (.nx, (ρ.set i (some a)).set j (some b)) S') : Ev (parC i j cl ρ) S Q := by
  unfold parC
  rw [ev_bind]
  refine h.mono fun ws S' => ?_
  rintro ⟨a, b, rfl, q⟩
  exact ev_pure.mpr q
theorem ev_call {n : Nat} {f : List W → M W} {ws : List W} {S : Sto} {Q : W → Sto → Prop} : Ev (callM n f ws) S Q ↔ ws.length = n ∧ Ev (f ws) S Q := by
  unfold callM
  rw [ev_ite]
  by_cases h : ws.length = n <;> simp [h, ev_fail]
theorem ev_pcall {n : Nat} {f : List W → M W} {ws : List W} {S : Sto} {Q : W → Sto → Prop} (hn : ws.length = n) (hr : ws.all (rfree DEP) = true) (h : Ev (f ws) [] fun w S' => Is (frz S' DEP w) fun w' => Q w' S) : Ev (pcallM n f ws) S Q := by
  obtain ⟨w, S', e, w', e2, q⟩ := h
  refine ⟨w', S, ?_, q⟩
  unfold pcallM
  rw [if_pos hn, if_pos hr, e]
  simp only [e2]
theorem ev_pcallF {n : Nat} {f : List W → M W} {ws : List W} {S : Sto} {Q : O → Sto → Prop} (hn : ws.length = n) (hr : ws.all (rfree DEP) = true) (h : Ev (f ws) [] fun w S' => Is (impO S' w) fun w' => Q w' S) : Ev (pcallF n f ws) S Q := by
  obtain ⟨w, S', e, w', e2, q⟩ := h
  refine ⟨w', S, ?_, q⟩
  unfold pcallF
  rw [if_pos hn, if_pos hr, e]
  simp only [e2]
/-! loops -/
theorem ev_forC {ci : Rho → M Gen} {gm : Gm} {c : Cm} {ρ : Rho} {S : Sto} {Q : Fl × Rho → Sto → Prop} : Ev (forC ci gm c ρ) S Q ↔ Ev (ci ρ) S fun gen S' => Ev (forM gen gm c FUEL 0 ρ) S' Q := by
  unfold forC
  rw [ev_bind]
/-- n turns, then the end; each turn goes on -/
theorem ev_for {gen : Gen} {gm : Gm} {c : Cm} {Q : Fl × Rho → Sto → Prop} (P : Nat → Rho → Sto → Prop) (n : Nat)
    (turn : ∀ i ρ S, i < n → P i ρ S → ∃ w, gen i S = some (some w) ∧ Ev (gm w ρ) S fun ρ1 S1 => Ev (c ρ1) S1 fun p S2 => (p.1 = .nx ∨ p.1 = .ct) ∧ P (i + 1) p.2 S2)
    (fin : ∀ ρ S, P n ρ S → gen n S = some none ∧ Q (.nx, ρ) S) : ∀ (k i : Nat) (ρ : Rho) (S : Sto), i + k = n → ∀ f, k < f → P i ρ S → Ev (forM gen gm c f i ρ) S Q
  | 0, i, ρ, S, hi, f, hf, p => by
    obtain ⟨f, rfl⟩ := Nat.exists_eq_succ_of_ne_zero (Nat.ne_of_gt hf)
    have e : i = n := by omega
    subst e
    obtain ⟨e, q⟩ := fin ρ S p
    refine ⟨(.nx, ρ), S, ?_, q⟩
    unfold forM
    simp only [e]
  | k + 1, i, ρ, S, hi, f, hf, p => by
    obtain ⟨f, rfl⟩ := Nat.exists_eq_succ_of_ne_zero (Nat.ne_of_gt (Nat.lt_of_le_of_lt (Nat.zero_le _) hf))
    obtain ⟨w, e, ρ1, S1, e1, ⟨fl, ρ2⟩, S2, e2, h1, h2⟩ := turn i ρ S (by omega) p
    obtain ⟨a, S', e3, q⟩ := ev_for P n turn fin k (i + 1) ρ2 S2 (by omega) f (by omega) h2
    refine ⟨a, S', ?_, q⟩
    unfold forM
    simp only [e]
    rw [bind_ok e1, bind_ok e2]
    rcases h1 with h1 | h1
    · simp only at h1; subst h1; exact e3
    · simp only at h1; subst h1; exact e3
theorem fuel_big {n : Nat} (h : n < 1000000000000) : n < FUEL := Nat.lt_trans h (by decide)
theorem ev_for0 {gen : Gen} {gm : Gm} {c : Cm} {ρ : Rho} {S : Sto} {Q : Fl × Rho → Sto → Prop} (P : Nat → Rho → Sto → Prop) (n : Nat) (hn : n < 1000000000000) (h0 : P 0 ρ S)
    (turn : ∀ i ρ S, i < n → P i ρ S → ∃ w, gen i S = some (some w) ∧ Ev (gm w ρ) S fun ρ1 S1 => Ev (c ρ1) S1 fun p S2 => (p.1 = .nx ∨ p.1 = .ct) ∧ P (i + 1) p.2 S2)
    (fin : ∀ ρ S, P n ρ S → gen n S = some none ∧ Q (.nx, ρ) S) : Ev (forM gen gm c FUEL 0 ρ) S Q := ev_for P n turn fin n 0 ρ S (by omega) FUEL (fuel_big hn) h0
/-- a while with a measure -/
theorem ev_while {t : Rho → M Bool} {c : Cm} {Q : Fl × Rho → Sto → Prop} (P : Nat → Rho → Sto → Prop)
    (turn : ∀ k ρ S, P k ρ S → Ev (t ρ) S fun b S1 => if b = true then Ev (c ρ) S1 fun p S2 => (p.1 = .nx ∨ p.1 = .ct) ∧ ∃ k', k' < k ∧ P k' p.2 S2 else Q (.nx, ρ) S1) : ∀ (f k : Nat) (ρ : Rho) (S : Sto), k < f → P k ρ S → Ev (whileM t c f ρ) S Q
  | 0, k, ρ, S, hf, p => absurd hf (Nat.not_lt_zero _)
  | f + 1, k, ρ, S, hf, p => by
    obtain ⟨b, S1, e1, h⟩ := turn k ρ S p
    cases b with
    | false =>
      rw [if_neg Bool.false_ne_true] at h
      refine ⟨(.nx, ρ), S1, ?_, h⟩
      unfold whileM
      rw [bind_ok e1]
      rfl
    | true =>
      rw [if_pos rfl] at h
      obtain ⟨⟨fl, ρ2⟩, S2, e2, h1, k', hk, p'⟩ := h
      obtain ⟨a, S', e3, q⟩ := ev_while P turn f k' ρ2 S2 (by omega) p'
      refine ⟨a, S', ?_, q⟩
      unfold whileM
      rw [bind_ok e1, if_pos rfl, bind_ok e2]
      rcases h1 with h1 | h1
      · simp only at h1; subst h1; exact e3
      · simp only at h1; subst h1; exact e3
/-- a comprehension -/
theorem ev_lcC {ci : Rho → M Gen} {gm : Gm} {ct : Rho → M Bool} {ce : Rho → M W} {vs : List Nat} {ρ : Rho} {S : Sto} {Q : O → Sto → Prop} : Ev (lcC ci gm ct ce vs ρ) S Q ↔ Ev (ci ρ) S fun gen S' => Ev (lcM gen gm ct ce (wipeR ρ vs) FUEL 0 []) S' Q := by
  unfold lcC
  rw [ev_bind]
theorem ev_lc {gen : Gen} {gm : Gm} {ct : Rho → M Bool} {ce : Rho → M W} {ρ : Rho} {Q : O → Sto → Prop} (P : Nat → List W → Sto → Prop) (n : Nat) (hn : n < 16777216)
    (turn : ∀ i acc S, i < n → acc.length ≤ i → P i acc S → ∃ w, gen i S = some (some w) ∧ Ev (gm w ρ) S fun ρ1 S1 => Ev (ct ρ1) S1 fun b S2 => if b = true then Ev (ce ρ1) S2 fun y S3 => P (i + 1) (acc ++ [y]) S3 else P (i + 1) acc S2)
    (fin : ∀ acc S, P n acc S → gen n S = some none ∧ Q (.lst acc) S) : ∀ (k i : Nat) (acc : List W) (S : Sto), i + k = n → acc.length ≤ i → ∀ f, k < f → P i acc S → Ev (lcM gen gm ct ce ρ f i acc) S Q
  | 0, i, acc, S, hi, ha, f, hf, p => by
    obtain ⟨f, rfl⟩ := Nat.exists_eq_succ_of_ne_zero (Nat.ne_of_gt hf)
    have e : i = n := by omega
    subst e
    obtain ⟨e, q⟩ := fin acc S p
    refine ⟨.lst acc, S, ?_, q⟩
    unfold lcM
    simp only [e]
  | k + 1, i, acc, S, hi, ha, f, hf, p => by
    obtain ⟨f, rfl⟩ := Nat.exists_eq_succ_of_ne_zero (Nat.ne_of_gt (Nat.lt_of_le_of_lt (Nat.zero_le _) hf))
    obtain ⟨w, e, ρ1, S1, e1, b, S2, e2, h⟩ := turn i acc S (by omega) ha p
    cases b with
    | false =>
      rw [if_neg Bool.false_ne_true] at h
      obtain ⟨a, S', e3, q⟩ := ev_lc P n hn turn fin k (i + 1) acc S2 (by omega) (by omega) f (by omega) h
      refine ⟨a, S', ?_, q⟩
      unfold lcM
      simp only [e, e1, e2]
      exact e3
    | true =>
      rw [if_pos rfl] at h
      obtain ⟨y, S3, e4, h⟩ := h
      obtain ⟨a, S', e3, q⟩ := ev_lc P n hn turn fin k (i + 1) (acc ++ [y]) S3 (by omega) (by rw [List.length_append, List.length_singleton]; omega) f (by omega) h
      refine ⟨a, S', ?_, q⟩
      unfold lcM
      simp only [e, e1, e2, e4]
      rw [if_pos (by omega)]
      exact e3
theorem ev_lc0 {gen : Gen} {gm : Gm} {ct : Rho → M Bool} {ce : Rho → M W} {ρ : Rho} {S : Sto} {Q : O → Sto → Prop} (P : Nat → List W → Sto → Prop) (n : Nat) (hn : n < 16777216) (h0 : P 0 [] S)
    (turn : ∀ i acc S, i < n → acc.length ≤ i → P i acc S → ∃ w, gen i S = some (some w) ∧ Ev (gm w ρ) S fun ρ1 S1 => Ev (ct ρ1) S1 fun b S2 => if b = true then Ev (ce ρ1) S2 fun y S3 => P (i + 1) (acc ++ [y]) S3 else P (i + 1) acc S2)
    (fin : ∀ acc S, P n acc S → gen n S = some none ∧ Q (.lst acc) S) : Ev (lcM gen gm ct ce ρ FUEL 0 []) S Q := ev_lc P n hn turn fin n 0 [] S (by omega) (Nat.zero_le _) FUEL (fuel_big (by omega)) h0
end Pm
namespace Pm
open PySem
theorem addV_int {S : Sto} {a b : Int} : addVO S (.int a) (.int b) = some (.int (a + b)) := rfl
theorem sub_int {S : Sto} {a b : Int} : subO S (.int a) (.int b) = some (.int (a - b)) := rfl
theorem neg_int {S : Sto} {a : Int} : negO S (.int a) = some (.int (-a)) := rfl
theorem mul_int {S : Sto} {a b : Int} : mulO S (.int a) (.int b) = if mulOk a b = true then some (.int (a * b)) else none := rfl
theorem mod_int {S : Sto} {a b : Int} (h : b ≠ 0) : modO S (.int a) (.int b) = some (.int (a.fmod b)) := if_pos h
theorem gt_int {S : Sto} {a b : Int} : gtO S (.int a) (.int b) = some (.bl (decide (b < a))) := rfl
theorem lt_int {S : Sto} {a b : Int} : ltO S (.int a) (.int b) = some (.bl (decide (a < b))) := rfl
theorem le_int {S : Sto} {a b : Int} : leO S (.int a) (.int b) = some (.bl (decide (a ≤ b))) := rfl
theorem ge_int {S : Sto} {a b : Int} : geO S (.int a) (.int b) = some (.bl (decide (b ≤ a))) := rfl
theorem eq_int {S : Sto} {a b : Int} : eqO S (.int a) (.int b) = some (.bl (decide (a = b))) := by
  show some (W.bl (PyData.eqv (.int a) (.int b))) = _
  by_cases h : a = b <;> simp [PyData.eqv, h]
theorem ne_int {S : Sto} {a b : Int} : neO S (.int a) (.int b) = some (.bl (!decide (a = b))) := by
  show some (W.bl (!PyData.eqv (.int a) (.int b))) = _
  by_cases h : a = b <;> simp [PyData.eqv, h]
theorem mulOk_l {a b : Int} (h : a.natAbs < 18446744073709551616) : mulOk a b = true := by
  unfold mulOk
  simp [h]
theorem mulOk_r {a b : Int} (h : b.natAbs < 18446744073709551616) : mulOk a b = true := by
  unfold mulOk
  simp [h]
theorem get_set {S : Sto} {i : Nat} {o o' : O} (h : S[i]? = some o) : (S.set i o')[i]? = some o' := List.getElem?_set_self (List.getElem?_eq_some_iff.mp h).1
theorem ix_ref {S : Sto} {i : Nat} {ws : List W} {y : W} (h : S[i]? = some (.lst ws)) : ixAO S (.ref i) y = match y with
    | .int j => L2.atI ws j
    | _ => none := by
  unfold ixAO dctO ixO seqO
  simp only [h]
  cases y <;> rfl
theorem set_ref {S : Sto} {i : Nat} {ws : List W} {y v : W} (h : S[i]? = some (.lst ws)) : setAO S (.ref i) y v = match y with
    | .int j => match L2.ixN ws.length j with
      | some k => some (S.set i (.lst (ws.set k v)))
      | none => none
    | _ => none := by
  unfold setAO setW
  simp only [h]
  cases y <;> first | rfl | (simp only [h] <;> rfl)
theorem fdiv_int {S : Sto} {a b : Int} (h : b ≠ 0 ∧ b.natAbs.log2 < 9000) : fdivO S (.int a) (.int b) = some (.int (a.fdiv b)) := by
  unfold fdivO
  simp only
  rw [if_pos h]
theorem at3_0 {a b c : W} : L2.atI [a, b, c] 0 = some a := rfl
theorem at3_1 {a b c : W} : L2.atI [a, b, c] 1 = some b := rfl
theorem at3_2 {a b c : W} : L2.atI [a, b, c] 2 = some c := rfl
theorem ixN3_0 : L2.ixN 3 0 = some 0 := rfl
theorem ixN3_1 : L2.ixN 3 1 = some 1 := rfl
theorem ixN3_2 : L2.ixN 3 2 = some 2 := rfl
theorem fmod_lo {a b : Int} (h : 0 < b) : 0 ≤ a.fmod b := Int.fmod_nonneg_of_pos a h
theorem fmod_hi {a b : Int} (h : 0 < b) : a.fmod b < b := Int.fmod_lt_of_pos a h
theorem pow_ok {a : Int} (h0 : 0 ≤ a) (h : a < 2147483648) : (0 : Int) ≤ 5 ∧ ((a.natAbs.log2 + 1 : Nat) : Int) * 5 ≤ 134217728 := by
  have h1 : a.natAbs < 2 ^ 31 := by have : (2:Nat)^31 = 2147483648 := by decide
                                    omega
  have h2 : a.natAbs.log2 < 31 := by
    by_cases z : a.natAbs = 0
    · rw [z]; decide
    · exact (Nat.log2_lt z).mpr h1
  omega
theorem pow_int5 {S : Sto} {a : Int} (h0 : 0 ≤ a) (h : a < 2147483648) : powO S (.int a) (.int 5) = some (.int (a ^ (5 : Int).toNat)) := by
  have q := pow_ok h0 h
  unfold powO
  simp only
  rw [if_pos q]
end Pm
namespace Pm
open PySem
theorem ev_slV {ws : List W} {lo hi : Option Int} {S : Sto} {Q : W → Sto → Prop} : Ev (slV (.vl ws) lo hi) S Q ↔ Q (.vl (cutW ws lo hi)) S := ⟨fun ⟨a, S', e, q⟩ => by cases e; exact q, fun q => ⟨_, S, rfl, q⟩⟩
theorem ev_slT {ws : List W} {lo hi : Option Int} {S : Sto} {Q : W → Sto → Prop} : Ev (slV (.tup ws) lo hi) S Q ↔ Q (.tup (cutW ws lo hi)) S := ⟨fun ⟨a, S', e, q⟩ => by cases e; exact q, fun q => ⟨_, S, rfl, q⟩⟩
theorem ev_slL {ws : List W} {lo hi : Option Int} {S : Sto} {Q : O → Sto → Prop} : Ev (slL (.vl ws) lo hi) S Q ↔ Q (.lst (cutW ws lo hi)) S := ⟨fun ⟨a, S', e, q⟩ => by cases e; exact q, fun q => ⟨_, S, rfl, q⟩⟩
end Pm

namespace K73
open PySem PySem.Spec PyProof.Rows L2 Pm
def top (i : Nat) : Stmt := PySem.Challenge.pw_farwide_k73_wrapped_shells_told.main.body.getD i (.Pass ⟨0, 0, 0, 0⟩)
/-! _law_cells: 0=script 1=most 2=found 3=k -/
def b__law_cells : Cm := seqC (setC 2 (toR (fSl (cOp addVO (toV (fB listO (aCons (cSl (cVar 0) (poN) (poS (cVar 1))) (aNil)))) (toV (lstM (aCons (cC (.int 7)) (aNil))))) (poN) (poS (cB max2O (aCons (cC (.int 1)) (aCons (cB min2O (aCons (cVar 1) (aCons (cB lenAO (aCons (cVar 0) (aNil))) (aNil)))) (aNil)))))))) (seqC (forC (iR2 (aCons (cVar 1) (aCons (cB lenAO (aCons (cVar 0) (aNil))) (aNil)))) (gmName 3) (asgC (cOp addVO (cOp mulO (cOp ixAO (cVar 2) (cOp modO (cVar 3) (cVar 1))) (cC (.int 31))) (cOp ixAO (cVar 0) (cVar 3))) (gSub setAO (cVar 2) (cOp modO (cVar 3) (cVar 1))))) (cRet (cVar 2)))
def m__law_cells : List W → M W := fnM 2 4 b__law_cells
/-! _law_pool: 0=cell -/
def b__law_pool : Cm := seqC (setC 0 (cB absO (aCons (cVar 0) (aNil)))) (cRet (toR (lstM (aCons (cOp mulO (cVar 0) (cB intO (aCons (cOp geO (cVar 0) (cOp powO (cC (.int 10)) (cC (.int 18)))) (aNil)))) (aCons (cOp modO (cVar 0) (cC (.int 2147483629))) (aCons (cC (.int 0)) (aNil)))))))
def m__law_pool : List W → M W := fnM 1 1 b__law_pool
/-! _law_take: 0=pool 1=many 2=digit 3=one -/
def b__law_take : Cm := seqC (cIfS (tCmp gtO (cOp ixAO (cVar 0) (cC (.int 0))) (cC (.int 0))) (seqC (asgC (cB divmodO (aCons (cOp ixAO (cVar 0) (cC (.int 0))) (aCons (cVar 1) (aNil)))) (gTup 2 (gmsCons (gSub setAO (cVar 0) (cC (.int 0))) (gmsCons (gmName 2) (gmsNil))))) (cRet (cVar 2))) (cNx)) (seqC (asgC (cOp addVO (cOp ixAO (cVar 0) (cC (.int 2))) (cC (.int 1))) (gSub setAO (cVar 0) (cC (.int 2)))) (seqC (setC 3 (cOp modO (cOp addVO (cOp addVO (cOp ixAO (cVar 0) (cC (.int 1))) (cOp mulO (cC (.int 104729)) (cOp ixAO (cVar 0) (cC (.int 2))))) (cC (.int 11))) (cC (.int 2147483629)))) (seqC (asgC (cOp modO (cOp addVO (cOp mulO (cOp modO (cOp powO (cVar 3) (cC (.int 5))) (cC (.int 2147483647))) (cC (.int 69621))) (cOp mulO (cC (.int 7919)) (cOp ixAO (cVar 0) (cC (.int 2))))) (cC (.int 2147483587))) (gSub setAO (cVar 0) (cC (.int 1)))) (cRet (cOp modO (cOp fdivO (cOp ixAO (cVar 0) (cC (.int 1))) (cC (.int 64))) (cVar 1))))))
def m__law_take : List W → M W := fnM 2 4 b__law_take
/-! _law_sizes: 0=pool 1=way 2=m 3=n -/
def b__law_sizes : Cm := seqC (setC 1 (cG 2 m__law_take (aCons (cVar 0) (aCons (cC (.int 4)) (aNil))))) (seqC (setC 2 (cOp addVO (cC (.int 1)) (cG 2 m__law_take (aCons (cVar 0) (aCons (cC (.int 12)) (aNil)))))) (seqC (setC 3 (cOp addVO (cC (.int 1)) (cG 2 m__law_take (aCons (cVar 0) (aCons (cC (.int 12)) (aNil)))))) (cRet (cOp ixAO (toV (lstM (aCons (tupM (aCons (cVar 2) (aCons (cVar 3) (aNil)))) (aCons (tupM (aCons (cOp addVO (cC (.int 1)) (cOp modO (cVar 2) (cC (.int 5)))) (aCons (cOp addVO (cC (.int 1)) (cOp modO (cVar 3) (cC (.int 5)))) (aNil)))) (aCons (tupM (aCons (cC (.int 1)) (aCons (cVar 3) (aNil)))) (aCons (tupM (aCons (cVar 2) (aCons (cC (.int 1)) (aNil)))) (aNil))))))) (cVar 1)))))
def m__law_sizes : List W → M W := fnM 1 4 b__law_sizes
/-! _law_known: 0=square 1=found -/
def b__law_known : Cm := seqC (setC 0 (toV (lstM (aCons (tupM (aCons (cC (.int 0)) (aCons (cC (.int 0)) (aCons (cC (.int 0)) (aCons (cC (.int 1)) (aNil)))))) (aCons (tupM (aCons (cC (.int 0)) (aCons (cC (.int 0)) (aCons (cC (.int 1)) (aCons (cC (.int 0)) (aNil)))))) (aNil)))))) (seqC (setC 1 (toR (lstM (aCons (tupM (aCons (cC (.int 1)) (aCons (cVar 0) (aNil)))) (aCons (tupM (aCons (cC (.int 1)) (aCons (cOp addVO (cVar 0) (toV (lstM (aCons (tupM (aCons (cC (.int 0)) (aCons (cC (.int 0)) (aCons (cC (.int 1)) (aCons (cC (.int 1)) (aNil)))))) (aNil))))) (aNil)))) (aCons (tupM (aCons (cC (.int 1)) (aCons (cOp addVO (cVar 0) (toV (lstM (aCons (tupM (aCons (cC (.int 0)) (aCons (cC (.int 0)) (aCons (cC (.int 1)) (aCons (cC (.int 1)) (aNil)))))) (aCons (tupM (aCons (cC (.int 0)) (aCons (cC (.int 0)) (aCons (cC (.int 1)) (aCons (cUn negO (cC (.int 1))) (aNil)))))) (aNil)))))) (aNil)))) (aNil))))))) (seqC (sEx (cLm appO (cVar 1) (aCons (tupM (aCons (cC (.int 2)) (aCons (toV (lstM (aCons (tupM (aCons (cC (.int 0)) (aCons (cC (.int 1)) (aCons (cC (.int 0)) (aCons (cC (.int 0)) (aNil)))))) (aCons (tupM (aCons (cC (.int 0)) (aCons (cC (.int 1)) (aCons (cUn negO (cC (.int 1))) (aCons (cC (.int 0)) (aNil)))))) (aCons (tupM (aCons (cC (.int 0)) (aCons (cC (.int 1)) (aCons (cC (.int 0)) (aCons (cUn negO (cC (.int 1))) (aNil)))))) (aNil)))))) (aNil)))) (aNil)))) (seqC (sEx (cLm appO (cVar 1) (aCons (tupM (aCons (cC (.int 3)) (aCons (toV (lstM (aCons (tupM (aCons (cC (.int 0)) (aCons (cC (.int 1)) (aCons (cC (.int 0)) (aCons (cC (.int 0)) (aNil)))))) (aCons (tupM (aCons (cC (.int 0)) (aCons (cC (.int 2)) (aCons (cC (.int 0)) (aCons (cC (.int 0)) (aNil)))))) (aCons (tupM (aCons (cC (.int 1)) (aCons (cC (.int 2)) (aCons (cC (.int 0)) (aCons (cC (.int 0)) (aNil)))))) (aCons (tupM (aCons (cC (.int 0)) (aCons (cC (.int 1)) (aCons (cUn negO (cC (.int 1))) (aCons (cC (.int 0)) (aNil)))))) (aCons (tupM (aCons (cC (.int 0)) (aCons (cC (.int 2)) (aCons (cC (.int 0)) (aCons (cUn negO (cC (.int 1))) (aNil)))))) (aCons (tupM (aCons (cC (.int 1)) (aCons (cC (.int 2)) (aCons (cC (.int 1)) (aCons (cUn negO (cC (.int 1))) (aNil)))))) (aNil))))))))) (aNil)))) (aNil)))) (seqC (sEx (cLm appO (cVar 1) (aCons (tupM (aCons (cC (.int 4)) (aCons (toV (lstM (aCons (tupM (aCons (cC (.int 0)) (aCons (cC (.int 1)) (aCons (cC (.int 0)) (aCons (cC (.int 0)) (aNil)))))) (aCons (tupM (aCons (cC (.int 1)) (aCons (cC (.int 2)) (aCons (cC (.int 0)) (aCons (cC (.int 0)) (aNil)))))) (aCons (tupM (aCons (cC (.int 2)) (aCons (cC (.int 3)) (aCons (cC (.int 0)) (aCons (cC (.int 0)) (aNil)))))) (aCons (tupM (aCons (cC (.int 0)) (aCons (cC (.int 3)) (aCons (cC (.int 0)) (aCons (cC (.int 0)) (aNil)))))) (aCons (tupM (aCons (cC (.int 0)) (aCons (cC (.int 2)) (aCons (cUn negO (cC (.int 1))) (aCons (cC (.int 0)) (aNil)))))) (aCons (tupM (aCons (cC (.int 1)) (aCons (cC (.int 3)) (aCons (cC (.int 0)) (aCons (cUn negO (cC (.int 1))) (aNil)))))) (aNil))))))))) (aNil)))) (aNil)))) (seqC (sEx (cLm appO (cVar 1) (aCons (tupM (aCons (cC (.int 1)) (aCons (toV (lstM (aCons (tupM (aCons (cC (.int 0)) (aCons (cC (.int 0)) (aCons (cC (.int 1)) (aCons (cC (.int 1)) (aNil)))))) (aNil)))) (aNil)))) (aNil)))) (seqC (sEx (cLm appO (cVar 1) (aCons (tupM (aCons (cC (.int 1)) (aCons (toV (lstM (aCons (tupM (aCons (cC (.int 0)) (aCons (cC (.int 0)) (aCons (cC (.int 1)) (aCons (cC (.int 1)) (aNil)))))) (aCons (tupM (aCons (cC (.int 0)) (aCons (cC (.int 0)) (aCons (cC (.int 1)) (aCons (cUn negO (cC (.int 1))) (aNil)))))) (aNil))))) (aNil)))) (aNil)))) (seqC (sEx (cLm appO (cVar 1) (aCons (tupM (aCons (cC (.int 2)) (aCons (toV (lstM (aCons (tupM (aCons (cC (.int 0)) (aCons (cC (.int 1)) (aCons (cC (.int 0)) (aCons (cC (.int 0)) (aNil)))))) (aCons (tupM (aCons (cC (.int 0)) (aCons (cC (.int 0)) (aCons (cC (.int 1)) (aCons (cC (.int 1)) (aNil)))))) (aCons (tupM (aCons (cC (.int 1)) (aCons (cC (.int 1)) (aCons (cC (.int 1)) (aCons (cUn negO (cC (.int 1))) (aNil)))))) (aNil)))))) (aNil)))) (aNil)))) (seqC (sEx (cLm appO (cVar 1) (aCons (tupM (aCons (cC (.int 2)) (aCons (toV (lstM (aCons (tupM (aCons (cC (.int 0)) (aCons (cC (.int 1)) (aCons (cUn negO (cC (.int 1))) (aCons (cUn negO (cC (.int 1))) (aNil)))))) (aCons (tupM (aCons (cC (.int 0)) (aCons (cC (.int 1)) (aCons (cC (.int 0)) (aCons (cC (.int 1)) (aNil)))))) (aCons (tupM (aCons (cC (.int 0)) (aCons (cC (.int 1)) (aCons (cC (.int 1)) (aCons (cC (.int 0)) (aNil)))))) (aNil)))))) (aNil)))) (aNil)))) (seqC (sEx (cLm appO (cVar 1) (aCons (tupM (aCons (cC (.int 2)) (aCons (toV (lstM (aCons (tupM (aCons (cC (.int 0)) (aCons (cC (.int 1)) (aCons (cUn negO (cC (.int 1))) (aCons (cUn negO (cC (.int 1))) (aNil)))))) (aCons (tupM (aCons (cC (.int 0)) (aCons (cC (.int 1)) (aCons (cC (.int 1)) (aCons (cUn negO (cC (.int 1))) (aNil)))))) (aCons (tupM (aCons (cC (.int 0)) (aCons (cC (.int 1)) (aCons (cUn negO (cC (.int 1))) (aCons (cC (.int 1)) (aNil)))))) (aNil)))))) (aNil)))) (aNil)))) (seqC (sEx (cLm appO (cVar 1) (aCons (tupM (aCons (cC (.int 3)) (aCons (toV (lstM (aCons (tupM (aCons (cC (.int 0)) (aCons (cC (.int 1)) (aCons (cUn negO (cC (.int 1))) (aCons (cUn negO (cC (.int 1))) (aNil)))))) (aCons (tupM (aCons (cC (.int 0)) (aCons (cC (.int 1)) (aCons (cC (.int 1)) (aCons (cC (.int 0)) (aNil)))))) (aCons (tupM (aCons (cC (.int 0)) (aCons (cC (.int 2)) (aCons (cUn negO (cC (.int 1))) (aCons (cC (.int 1)) (aNil)))))) (aCons (tupM (aCons (cC (.int 0)) (aCons (cC (.int 2)) (aCons (cC (.int 0)) (aCons (cUn negO (cC (.int 1))) (aNil)))))) (aNil))))))) (aNil)))) (aNil)))) (seqC (sEx (cLm appO (cVar 1) (aCons (tupM (aCons (cC (.int 4)) (aCons (toV (lstM (aCons (tupM (aCons (cC (.int 0)) (aCons (cC (.int 1)) (aCons (cC (.int 1)) (aCons (cC (.int 0)) (aNil)))))) (aCons (tupM (aCons (cC (.int 0)) (aCons (cC (.int 2)) (aCons (cUn negO (cC (.int 1))) (aCons (cC (.int 0)) (aNil)))))) (aCons (tupM (aCons (cC (.int 0)) (aCons (cC (.int 3)) (aCons (cUn negO (cC (.int 1))) (aCons (cC (.int 1)) (aNil)))))) (aCons (tupM (aCons (cC (.int 0)) (aCons (cC (.int 3)) (aCons (cC (.int 0)) (aCons (cUn negO (cC (.int 1))) (aNil)))))) (aCons (tupM (aCons (cC (.int 1)) (aCons (cC (.int 2)) (aCons (cC (.int 1)) (aCons (cC (.int 1)) (aNil)))))) (aNil)))))))) (aNil)))) (aNil)))) (cRet (cVar 1)))))))))))))
def m__law_known : List W → M W := fnM 0 2 b__law_known
/-! _law_written: 0=tie 1=a 2=b 3=x 4=y -/
def b__law_written : Cm := seqC (asgC (cVar 0) (gTup 4 (gmsCons (gmName 1) (gmsCons (gmName 2) (gmsCons (gmName 3) (gmsCons (gmName 4) (gmsNil))))))) (seqC (cIfS (cOr (tCmp gtO (cVar 1) (cVar 2)) (cAnd (tCmp eqO (cVar 1) (cVar 2)) (tCmp ltO (tupM (aCons (cVar 3) (aCons (cVar 4) (aNil)))) (tupM (aCons (cC (.int 0)) (aCons (cC (.int 0)) (aNil))))))) (cRet (tupM (aCons (cVar 2) (aCons (cVar 1) (aCons (cOp subO (cC (.int 0)) (cVar 3)) (aCons (cOp subO (cC (.int 0)) (cVar 4)) (aNil))))))) (cNx)) (cRet (cVar 0)))
def m__law_written : List W → M W := fnM 1 5 b__law_written
/-! _law_grid: 0=pool 1=way 2=known 3=places 4=ties 5=turns 6=turn 7=a 8=b 9=x 10=tie 11=one -/
def b__law_grid : Cm := seqC (setC 1 (cG 2 m__law_take (aCons (cVar 0) (aCons (cC (.int 4)) (aNil))))) (seqC (setC 2 (fun _ => pcallM 0 m__law_known [])) (seqC (asgC (cOp ixAO (cVar 2) (cG 2 m__law_take (aCons (cVar 0) (aCons (cB lenAO (aCons (cVar 2) (aNil))) (aNil))))) (gTup 2 (gmsCons (gmName 3) (gmsCons (gmName 4) (gmsNil))))) (seqC (cIfS (tCmp gtO (cVar 1) (cC (.int 1))) (seqC (setC 3 (cOp addVO (cC (.int 1)) (cG 2 m__law_take (aCons (cVar 0) (aCons (cC (.int 4)) (aNil)))))) (setC 4 (toV (lstM (aNil))))) (cNx)) (seqC (setC 5 (cOp ixAO (toV (lstM (aCons (cC (.int 0)) (aCons (cOp addVO (cC (.int 1)) (cG 2 m__law_take (aCons (cVar 0) (aCons (cC (.int 2)) (aNil))))) (aCons (cOp addVO (cC (.int 2)) (cG 2 m__law_take (aCons (cVar 0) (aCons (cC (.int 5)) (aNil))))) (aCons (cG 2 m__law_take (aCons (cVar 0) (aCons (cC (.int 17)) (aNil)))) (aNil))))))) (cVar 1))) (seqC (forC (iR1 (aCons (cVar 5) (aNil))) (gmName 6) (seqC (setC 7 (cG 2 m__law_take (aCons (cVar 0) (aCons (cVar 3) (aNil))))) (seqC (setC 8 (cG 2 m__law_take (aCons (cVar 0) (aCons (cVar 3) (aNil))))) (seqC (setC 9 (cOp subO (cG 2 m__law_take (aCons (cVar 0) (aCons (cC (.int 3)) (aNil)))) (cC (.int 1)))) (seqC (setC 10 (tupM (aCons (cVar 7) (aCons (cVar 8) (aCons (cVar 9) (aCons (cOp subO (cG 2 m__law_take (aCons (cVar 0) (aCons (cC (.int 3)) (aNil)))) (cC (.int 1))) (aNil))))))) (cIfS (cAnd (tCmp inAO (cVar 10) (cVar 4)) (tCmp eqO (cVar 1) (cC (.int 1)))) (setC 4 (toV (lcC (iSq (cVar 4)) (gmName 11) (tCmp neO (cVar 11) (cVar 10)) (cVar 11) [11]))) (cIfS (cOr (tCmp neO (cVar 7) (cVar 8)) (tCmp neO (cSl (cVar 10) (poS (cC (.int 2))) (poN)) (tupM (aCons (cC (.int 0)) (aCons (cC (.int 0)) (aNil)))))) (setC 4 (cOp addVO (cVar 4) (toV (lstM (aCons (cP 1 m__law_written (aCons (cVar 10) (aNil))) (aNil)))))) (cNx)))))))) (cRet (tupM (aCons (cVar 3) (aCons (cB tupleAO (aCons (toV (fSS (cVar 4))) (aNil))) (aNil))))))))))
def m__law_grid : List W → M W := fnM 1 12 b__law_grid
/-! _law_steps: 0=grid 1=found 2=p 3=a 4=b 5=x 6=y -/
def b__law_steps : Cm := seqC (setC 1 (toV (lcC (iR1 (aCons (cOp ixAO (cVar 0) (cC (.int 0))) (aNil))) (gmName 2) (cYes) (toR (lstM (aNil))) [2]))) (seqC (forC (iSq (cOp ixAO (cVar 0) (cC (.int 1)))) (gTup 4 (gmsCons (gmName 3) (gmsCons (gmName 4) (gmsCons (gmName 5) (gmsCons (gmName 6) (gmsNil)))))) (seqC (sEx (cLm appO (cOp ixAO (cVar 1) (cVar 3)) (aCons (tupM (aCons (cVar 4) (aCons (cVar 5) (aCons (cVar 6) (aNil))))) (aNil)))) (sEx (cLm appO (cOp ixAO (cVar 1) (cVar 4)) (aCons (tupM (aCons (cVar 3) (aCons (cOp subO (cC (.int 0)) (cVar 5)) (aCons (cOp subO (cC (.int 0)) (cVar 6)) (aNil))))) (aNil)))))) (cRet (cVar 1)))
def m__law_steps : List W → M W := fnM 1 7 b__law_steps
/-! _law_shells: 0=grid 1=start 2=m 3=n 4=steps 5=far 6=ring 7=counts 8=further 9=p 10=u 11=v 12=q 13=x 14=y 15=other -/
def b__law_shells : Cm := seqC (setC 4 (cP 1 m__law_steps (aCons (cVar 0) (aNil)))) (seqC (setC 5 (toR (dictC [(tupM (aCons (cVar 1) (aCons (cC (.int 0)) (aCons (cC (.int 0)) (aNil)))), cC (.int 0))]))) (seqC (setC 6 (toV (lstM (aCons (tupM (aCons (cVar 1) (aCons (cC (.int 0)) (aCons (cC (.int 0)) (aNil))))) (aNil))))) (seqC (setC 7 (toR (lstM (aNil)))) (seqC (whileM (tCmp gtO (cB lenAO (aCons (cVar 6) (aNil))) (cC (.int 0))) (seqC (sEx (cLm appO (cVar 7) (aCons (cB lenAO (aCons (cVar 6) (aNil))) (aNil)))) (seqC (setC 8 (toR (lstM (aNil)))) (seqC (forC (iSq (cVar 6)) (gTup 3 (gmsCons (gmName 9) (gmsCons (gmName 10) (gmsCons (gmName 11) (gmsNil))))) (forC (iSq (cOp ixAO (cVar 4) (cVar 9))) (gTup 3 (gmsCons (gmName 12) (gmsCons (gmName 13) (gmsCons (gmName 14) (gmsNil))))) (seqC (setC 15 (tupM (aCons (cVar 12) (aCons (cOp modO (cOp addVO (cVar 10) (cVar 13)) (cVar 2)) (aCons (cOp modO (cOp addVO (cVar 11) (cVar 14)) (cVar 3)) (aNil)))))) (cIfS (tCmp notInAO (cVar 15) (cVar 5)) (seqC (asgC (cB lenAO (aCons (cVar 7) (aNil))) (gSub setAO (cVar 5) (cVar 15))) (sEx (cLm appO (cVar 8) (aCons (cVar 15) (aNil))))) (cNx))))) (setC 6 (cVar 8))))) FUEL) (cRet (cVar 7))))))
def m__law_shells : List W → M W := fnM 4 16 b__law_shells
/-! steps_from: 0=grid 1=p 2=found 3=a 4=b 5=x 6=y -/
def b_steps_from : Cm := seqC (setC 2 (toR (lstM (aNil)))) (seqC (forC (iSq (cOp ixAO (cVar 0) (cC (.int 1)))) (gTup 4 (gmsCons (gmName 3) (gmsCons (gmName 4) (gmsCons (gmName 5) (gmsCons (gmName 6) (gmsNil)))))) (seqC (cIfS (tCmp eqO (cVar 3) (cVar 1)) (sEx (cLm appO (cVar 2) (aCons (tupM (aCons (cVar 4) (aCons (cVar 5) (aCons (cVar 6) (aNil))))) (aNil)))) (cNx)) (cIfS (tCmp eqO (cVar 4) (cVar 1)) (sEx (cLm appO (cVar 2) (aCons (tupM (aCons (cVar 3) (aCons (cOp subO (cC (.int 0)) (cVar 5)) (aCons (cOp subO (cC (.int 0)) (cVar 6)) (aNil))))) (aNil)))) (cNx)))) (cRet (cVar 2)))
def m_steps_from : List W → M W := fnM 2 7 b_steps_from
/-! beside: 0=grid 1=place 2=p 3=x 4=y 5=q 6=u 7=v -/
def b_beside : Cm := seqC (asgC (cVar 1) (gTup 3 (gmsCons (gmName 2) (gmsCons (gmName 3) (gmsCons (gmName 4) (gmsNil)))))) (cRet (toV (lcC (iSq (cP 2 m_steps_from (aCons (cVar 0) (aCons (cVar 2) (aNil))))) (gTup 3 (gmsCons (gmName 5) (gmsCons (gmName 6) (gmsCons (gmName 7) (gmsNil))))) (cYes) (tupM (aCons (cVar 5) (aCons (cOp addVO (cVar 3) (cVar 6)) (aCons (cOp addVO (cVar 4) (cVar 7)) (aNil))))) [5, 6, 7])))
def m_beside : List W → M W := fnM 2 8 b_beside
/-! wrapped_beside: 0=grid 1=place 2=m 3=n 4=q 5=x 6=y -/
def b_wrapped_beside : Cm := cRet (toV (lcC (iSq (cP 2 m_beside (aCons (cVar 0) (aCons (cVar 1) (aNil))))) (gTup 3 (gmsCons (gmName 4) (gmsCons (gmName 5) (gmsCons (gmName 6) (gmsNil))))) (cYes) (tupM (aCons (cVar 4) (aCons (cOp modO (cVar 5) (cVar 2)) (aCons (cOp modO (cVar 6) (cVar 3)) (aNil))))) [4, 5, 6]))
def m_wrapped_beside : List W → M W := fnM 4 7 b_wrapped_beside
/-! wrapped_shells: 0=grid 1=start 2=m 3=n 4=met 5=ring 6=counts 7=further 8=place 9=other -/
def b_wrapped_shells : Cm := seqC (setC 4 (toR (dictC [(tupM (aCons (cVar 1) (aCons (cC (.int 0)) (aCons (cC (.int 0)) (aNil)))), cC (.bl true))]))) (seqC (setC 5 (toV (lstM (aCons (tupM (aCons (cVar 1) (aCons (cC (.int 0)) (aCons (cC (.int 0)) (aNil))))) (aNil))))) (seqC (setC 6 (toR (lstM (aNil)))) (seqC (whileM (tCmp gtO (cB lenAO (aCons (cVar 5) (aNil))) (cC (.int 0))) (seqC (sEx (cLm appO (cVar 6) (aCons (cB lenAO (aCons (cVar 5) (aNil))) (aNil)))) (seqC (setC 7 (toR (lstM (aNil)))) (seqC (forC (iSq (cVar 5)) (gmName 8) (forC (iSq (cP 4 m_wrapped_beside (aCons (cVar 0) (aCons (cVar 8) (aCons (cVar 2) (aCons (cVar 3) (aNil))))))) (gmName 9) (cIfS (tCmp notInAO (cVar 9) (cVar 4)) (seqC (asgC (cC (.bl true)) (gSub setAO (cVar 4) (cVar 9))) (sEx (cLm appO (cVar 7) (aCons (cVar 9) (aNil))))) (cNx)))) (setC 5 (cVar 7))))) FUEL) (cRet (cVar 6)))))
def m_wrapped_shells : List W → M W := fnM 4 10 b_wrapped_shells
/-! _law_whole: 0=found -/
def b__law_whole : Cm := cRet (vAnd (cIsi .int (cVar 0)) (vNot (cIsi .bl (cVar 0))))
def m__law_whole : List W → M W := fnM 1 1 b__law_whole
/-! law: 0=script 1=k 2=cell 3=pool 4=great 5=m 6=n 7=grid 8=start 9=due 10=turn 11=found 12=count -/
def b_law : Cm := seqC (forC (iEn (aCons (cP 2 m__law_cells (aCons (cVar 0) (aCons (cC (.int 6)) (aNil)))) (aNil))) (gTup 2 (gmsCons (gmName 1) (gmsCons (gmName 2) (gmsNil)))) (seqC (setC 3 (toR (fP 1 m__law_pool (aCons (cVar 2) (aNil))))) (seqC (setC 4 (cG 2 m__law_take (aCons (cVar 3) (aCons (cC (.int 3)) (aNil))))) (seqC (asgC (cG 1 m__law_sizes (aCons (cVar 3) (aNil))) (gTup 2 (gmsCons (gmName 5) (gmsCons (gmName 6) (gmsNil))))) (seqC (cIfS (cAnd (tCmp eqO (cVar 1) (cC (.int 0))) (tCmp eqO (cVar 4) (cC (.int 0)))) (asgC (tupM (aCons (cC (.int 12)) (aCons (cC (.int 12)) (aNil)))) (gTup 2 (gmsCons (gmName 5) (gmsCons (gmName 6) (gmsNil))))) (cNx)) (seqC (cIfS (tCmp gtO (cVar 1) (cC (.int 0))) (parC 5 6 (aCons (cOp addVO (cC (.int 1)) (cOp modO (cVar 5) (cC (.int 5)))) (aCons (cOp addVO (cC (.int 1)) (cOp modO (cVar 6) (cC (.int 5)))) (aNil)))) (cNx)) (seqC (setC 7 (cG 1 m__law_grid (aCons (cVar 3) (aNil)))) (forC (iR1 (aCons (cOp ixAO (cVar 7) (cC (.int 0))) (aNil))) (gmName 8) (seqC (setC 9 (cP 4 m__law_shells (aCons (cVar 7) (aCons (cVar 8) (aCons (cVar 5) (aCons (cVar 6) (aNil))))))) (forC (iR1 (aCons (cC (.int 2)) (aNil))) (gmName 10) (seqC (setC 11 (toR (fP 4 m_wrapped_shells (aCons (cVar 7) (aCons (cVar 8) (aCons (cVar 5) (aCons (cVar 6) (aNil)))))))) (seqC (cIfS (cOr (cNot (tVal (cIsi .lst (cVar 11)))) (cOr (tCmp neO (cVar 11) (cVar 9)) (cNot (tVal (cB allO (aCons (toV (lcC (iSq (cVar 11)) (gmName 12) (cYes) (cP 1 m__law_whole (aCons (cVar 12) (aNil))) [12])) (aNil))))))) (cRet (cC (.bl false))) (cNx)) (sEx (cLm appO (cVar 11) (aCons (cC (.int 0)) (aNil)))))))))))))))) (cRet (cC (.bl true)))
def m_law : List W → M W := fnM 1 13 b_law
section
variable {P : Program} {w : World} {K : PySem.W.Frag} {mg : Str → Option Value} {base : Heap} {fa : Addr} {fd : FuncData}
theorem sc__law_cells : FnScope ["script", "most", "found", "k"] ["script", "most"] (defScope (top 7)) := ⟨rfl, rfl, rfl, by decide +kernel, rfl, by decide +kernel, by decide +kernel⟩
theorem ok__law_cells (F : FunD K "_law_cells" "_law_cells" (defArgs (top 7)) (defBody (top 7)) (defScope (top 7)) [] [] fa fd) (gx : mg "_law_cells" = some (.ref fa)) (h_len : mg "len" = none) (h_list : mg "list" = none) (h_max : mg "max" = none) (h_min : mg "min" = none) (h_range : mg "range" = none) : Cal ⟨P, w, K, mg⟩ base 1 "_law_cells" 2 m__law_cells :=
  cal_of F gx sc__law_cells rfl (fun _ _ _ _ _ _ us hl => match us, hl with | [_, _], _ => rfl) fun cdv A outer s H E o po => ss_cons (s_set (i := 2) o.nd (mr (mf_slL (me_op o_addV (mv (mf_callT (c_list) rfl h_list rfl (ma_cons (me_slV (me_v 0) (mo_none) (mo_some (me_v 1))) (ma_nil)))) (mv (mf_lst (ma_cons (me_int) (ma_nil))))) (mo_none) (mo_some (me_callB (c_max2 o.calm) rfl h_max rfl (ma_cons (me_int) (ma_cons (me_callB (c_min2 o.calm) rfl h_min rfl (ma_cons (me_v 1) (ma_cons (me_callB (c_lenA o.hu) rfl h_len rfl (ma_cons (me_v 0) (ma_nil))) (ma_nil)))) (ma_nil)))))))) (ss_cons (s_for po o.calm (mi_range2 rfl h_range (ma_cons (me_v 1) (ma_cons (me_callB (c_lenA o.hu) rfl h_len rfl (ma_cons (me_v 0) (ma_nil))) (ma_nil)))) (mg_name (i := 3) o.nd) (ss_one (s_asg (me_op o_addV (me_op o_mul (me_ixR (ix_A o.hu) (me_v 2) (me_op o_mod (me_v 3) (me_v 1)) (fun _ _ => rfl)) (me_int)) (me_ixR (ix_A o.hu) (me_v 0) (me_v 3) (fun _ _ => rfl))) (mg_sub (me_v 2) (me_op o_mod (me_v 3) (me_v 1)) (set_A o.hu))))) (ss_one (s_ret (me_v 2))))
theorem sc__law_pool : FnScope ["cell"] ["cell"] (defScope (top 8)) := ⟨rfl, rfl, rfl, by decide +kernel, rfl, by decide +kernel, by decide +kernel⟩
theorem ok__law_pool (F : FunD K "_law_pool" "_law_pool" (defArgs (top 8)) (defBody (top 8)) (defScope (top 8)) [] [] fa fd) (gx : mg "_law_pool" = some (.ref fa)) (h_abs : mg "abs" = none) (h_int : mg "int" = none) : Cal ⟨P, w, K, mg⟩ base 1 "_law_pool" 1 m__law_pool :=
  cal_of F gx sc__law_pool rfl (fun _ _ _ _ _ _ us hl => match us, hl with | [_], _ => rfl) fun cdv A outer s H E o po => ss_cons (s_set (i := 0) o.nd (me_callB (c_abs) rfl h_abs rfl (ma_cons (me_v 0) (ma_nil)))) (ss_one (s_ret (mr (mf_lst (ma_cons (me_op o_mul (me_v 0) (me_callT (c_int) rfl h_int rfl (ma_cons (me_cmp (o_ge o.hu) (me_v 0) (me_op o_pow (me_int) (me_int))) (ma_nil)))) (ma_cons (me_op o_mod (me_v 0) (me_int)) (ma_cons (me_int) (ma_nil))))))))
theorem sc__law_take : FnScope ["pool", "many", "digit", "one"] ["pool", "many"] (defScope (top 9)) := ⟨rfl, rfl, rfl, by decide +kernel, rfl, by decide +kernel, by decide +kernel⟩
theorem ok__law_take (F : FunD K "_law_take" "_law_take" (defArgs (top 9)) (defBody (top 9)) (defScope (top 9)) [] [] fa fd) (gx : mg "_law_take" = some (.ref fa)) (h_divmod : mg "divmod" = none) : Cal ⟨P, w, K, mg⟩ base 1 "_law_take" 2 m__law_take :=
  cal_of F gx sc__law_take rfl (fun _ _ _ _ _ _ us hl => match us, hl with | [_, _], _ => rfl) fun cdv A outer s H E o po => ss_cons (s_if (mt_cmp (o_gt o.hu) (me_ixR (ix_A o.hu) (me_v 0) (me_int) (fun _ _ => rfl)) (me_int)) (ss_cons (s_asg (me_callB (c_divmod) rfl h_divmod rfl (ma_cons (me_ixR (ix_A o.hu) (me_v 0) (me_int) (fun _ _ => rfl)) (ma_cons (me_v 1) (ma_nil)))) (mg_tup (n := 2) o.calm (mgs_cons (mg_sub (me_v 0) (me_int) (set_A o.hu)) (mgs_cons (mg_name (i := 2) o.nd) (mgs_nil))))) (ss_one (s_ret (me_v 2)))) (ss_nil)) (ss_cons (s_asg (me_op o_addV (me_ixR (ix_A o.hu) (me_v 0) (me_int) (fun _ _ => rfl)) (me_int)) (mg_sub (me_v 0) (me_int) (set_A o.hu))) (ss_cons (s_set (i := 3) o.nd (me_op o_mod (me_op o_addV (me_op o_addV (me_ixR (ix_A o.hu) (me_v 0) (me_int) (fun _ _ => rfl)) (me_op o_mul (me_int) (me_ixR (ix_A o.hu) (me_v 0) (me_int) (fun _ _ => rfl)))) (me_int)) (me_int))) (ss_cons (s_asg (me_op o_mod (me_op o_addV (me_op o_mul (me_op o_mod (me_op o_pow (me_v 3) (me_int)) (me_int)) (me_int)) (me_op o_mul (me_int) (me_ixR (ix_A o.hu) (me_v 0) (me_int) (fun _ _ => rfl)))) (me_int)) (mg_sub (me_v 0) (me_int) (set_A o.hu))) (ss_one (s_ret (me_op o_mod (me_op o_fdiv (me_ixR (ix_A o.hu) (me_v 0) (me_int) (fun _ _ => rfl)) (me_int)) (me_v 1)))))))
theorem sc__law_sizes : FnScope ["pool", "way", "m", "n"] ["pool"] (defScope (top 14)) := ⟨rfl, rfl, rfl, by decide +kernel, rfl, by decide +kernel, by decide +kernel⟩
theorem ok__law_sizes (F : FunD K "_law_sizes" "_law_sizes" (defArgs (top 14)) (defBody (top 14)) (defScope (top 14)) [] [] fa fd) (gx : mg "_law_sizes" = some (.ref fa)) (c__law_take : Cal ⟨P, w, K, mg⟩ base 1 "_law_take" 2 m__law_take) : Cal ⟨P, w, K, mg⟩ base 2 "_law_sizes" 1 m__law_sizes :=
  cal_of F gx sc__law_sizes rfl (fun _ _ _ _ _ _ us hl => match us, hl with | [_], _ => rfl) fun cdv A outer s H E o po => ss_cons (s_set (i := 1) o.nd (me_call o c__law_take (by decide) rfl (ma_cons (me_v 0) (ma_cons (me_int) (ma_nil))))) (ss_cons (s_set (i := 2) o.nd (me_op o_addV (me_int) (me_call o c__law_take (by decide) rfl (ma_cons (me_v 0) (ma_cons (me_int) (ma_nil)))))) (ss_cons (s_set (i := 3) o.nd (me_op o_addV (me_int) (me_call o c__law_take (by decide) rfl (ma_cons (me_v 0) (ma_cons (me_int) (ma_nil)))))) (ss_one (s_ret (me_ixR (ix_A o.hu) (mv (mf_lst (ma_cons (me_tup (ma_cons (me_v 2) (ma_cons (me_v 3) (ma_nil)))) (ma_cons (me_tup (ma_cons (me_op o_addV (me_int) (me_op o_mod (me_v 2) (me_int))) (ma_cons (me_op o_addV (me_int) (me_op o_mod (me_v 3) (me_int))) (ma_nil)))) (ma_cons (me_tup (ma_cons (me_int) (ma_cons (me_v 3) (ma_nil)))) (ma_cons (me_tup (ma_cons (me_v 2) (ma_cons (me_int) (ma_nil)))) (ma_nil))))))) (me_v 1) (fun _ _ => rfl))))))
theorem sc__law_known : FnScope ["square", "found"] [] (defScope (top 11)) := ⟨rfl, rfl, rfl, by decide +kernel, rfl, by decide +kernel, by decide +kernel⟩
theorem ok__law_known (F : FunD K "_law_known" "_law_known" (defArgs (top 11)) (defBody (top 11)) (defScope (top 11)) [] [] fa fd) (gx : mg "_law_known" = some (.ref fa)) : Cal ⟨P, w, K, mg⟩ base 1 "_law_known" 0 m__law_known :=
  cal_of F gx sc__law_known rfl (fun _ _ _ _ _ _ us hl => match us, hl with | [], _ => rfl) fun cdv A outer s H E o po => ss_cons (s_set (i := 0) o.nd (mv (mf_lst (ma_cons (me_tup (ma_cons (me_int) (ma_cons (me_int) (ma_cons (me_int) (ma_cons (me_int) (ma_nil)))))) (ma_cons (me_tup (ma_cons (me_int) (ma_cons (me_int) (ma_cons (me_int) (ma_cons (me_int) (ma_nil)))))) (ma_nil)))))) (ss_cons (s_set (i := 1) o.nd (mr (mf_lst (ma_cons (me_tup (ma_cons (me_int) (ma_cons (me_v 0) (ma_nil)))) (ma_cons (me_tup (ma_cons (me_int) (ma_cons (me_op o_addV (me_v 0) (mv (mf_lst (ma_cons (me_tup (ma_cons (me_int) (ma_cons (me_int) (ma_cons (me_int) (ma_cons (me_int) (ma_nil)))))) (ma_nil))))) (ma_nil)))) (ma_cons (me_tup (ma_cons (me_int) (ma_cons (me_op o_addV (me_v 0) (mv (mf_lst (ma_cons (me_tup (ma_cons (me_int) (ma_cons (me_int) (ma_cons (me_int) (ma_cons (me_int) (ma_nil)))))) (ma_cons (me_tup (ma_cons (me_int) (ma_cons (me_int) (ma_cons (me_int) (ma_cons (me_un o_neg (me_int)) (ma_nil)))))) (ma_nil)))))) (ma_nil)))) (ma_nil))))))) (ss_cons (s_expr (me_lm pa_list slot_append ty_append m_append (me_v 1) (ma_cons (me_tup (ma_cons (me_int) (ma_cons (mv (mf_lst (ma_cons (me_tup (ma_cons (me_int) (ma_cons (me_int) (ma_cons (me_int) (ma_cons (me_int) (ma_nil)))))) (ma_cons (me_tup (ma_cons (me_int) (ma_cons (me_int) (ma_cons (me_un o_neg (me_int)) (ma_cons (me_int) (ma_nil)))))) (ma_cons (me_tup (ma_cons (me_int) (ma_cons (me_int) (ma_cons (me_int) (ma_cons (me_un o_neg (me_int)) (ma_nil)))))) (ma_nil)))))) (ma_nil)))) (ma_nil)))) (ss_cons (s_expr (me_lm pa_list slot_append ty_append m_append (me_v 1) (ma_cons (me_tup (ma_cons (me_int) (ma_cons (mv (mf_lst (ma_cons (me_tup (ma_cons (me_int) (ma_cons (me_int) (ma_cons (me_int) (ma_cons (me_int) (ma_nil)))))) (ma_cons (me_tup (ma_cons (me_int) (ma_cons (me_int) (ma_cons (me_int) (ma_cons (me_int) (ma_nil)))))) (ma_cons (me_tup (ma_cons (me_int) (ma_cons (me_int) (ma_cons (me_int) (ma_cons (me_int) (ma_nil)))))) (ma_cons (me_tup (ma_cons (me_int) (ma_cons (me_int) (ma_cons (me_un o_neg (me_int)) (ma_cons (me_int) (ma_nil)))))) (ma_cons (me_tup (ma_cons (me_int) (ma_cons (me_int) (ma_cons (me_int) (ma_cons (me_un o_neg (me_int)) (ma_nil)))))) (ma_cons (me_tup (ma_cons (me_int) (ma_cons (me_int) (ma_cons (me_int) (ma_cons (me_un o_neg (me_int)) (ma_nil)))))) (ma_nil))))))))) (ma_nil)))) (ma_nil)))) (ss_cons (s_expr (me_lm pa_list slot_append ty_append m_append (me_v 1) (ma_cons (me_tup (ma_cons (me_int) (ma_cons (mv (mf_lst (ma_cons (me_tup (ma_cons (me_int) (ma_cons (me_int) (ma_cons (me_int) (ma_cons (me_int) (ma_nil)))))) (ma_cons (me_tup (ma_cons (me_int) (ma_cons (me_int) (ma_cons (me_int) (ma_cons (me_int) (ma_nil)))))) (ma_cons (me_tup (ma_cons (me_int) (ma_cons (me_int) (ma_cons (me_int) (ma_cons (me_int) (ma_nil)))))) (ma_cons (me_tup (ma_cons (me_int) (ma_cons (me_int) (ma_cons (me_int) (ma_cons (me_int) (ma_nil)))))) (ma_cons (me_tup (ma_cons (me_int) (ma_cons (me_int) (ma_cons (me_un o_neg (me_int)) (ma_cons (me_int) (ma_nil)))))) (ma_cons (me_tup (ma_cons (me_int) (ma_cons (me_int) (ma_cons (me_int) (ma_cons (me_un o_neg (me_int)) (ma_nil)))))) (ma_nil))))))))) (ma_nil)))) (ma_nil)))) (ss_cons (s_expr (me_lm pa_list slot_append ty_append m_append (me_v 1) (ma_cons (me_tup (ma_cons (me_int) (ma_cons (mv (mf_lst (ma_cons (me_tup (ma_cons (me_int) (ma_cons (me_int) (ma_cons (me_int) (ma_cons (me_int) (ma_nil)))))) (ma_nil)))) (ma_nil)))) (ma_nil)))) (ss_cons (s_expr (me_lm pa_list slot_append ty_append m_append (me_v 1) (ma_cons (me_tup (ma_cons (me_int) (ma_cons (mv (mf_lst (ma_cons (me_tup (ma_cons (me_int) (ma_cons (me_int) (ma_cons (me_int) (ma_cons (me_int) (ma_nil)))))) (ma_cons (me_tup (ma_cons (me_int) (ma_cons (me_int) (ma_cons (me_int) (ma_cons (me_un o_neg (me_int)) (ma_nil)))))) (ma_nil))))) (ma_nil)))) (ma_nil)))) (ss_cons (s_expr (me_lm pa_list slot_append ty_append m_append (me_v 1) (ma_cons (me_tup (ma_cons (me_int) (ma_cons (mv (mf_lst (ma_cons (me_tup (ma_cons (me_int) (ma_cons (me_int) (ma_cons (me_int) (ma_cons (me_int) (ma_nil)))))) (ma_cons (me_tup (ma_cons (me_int) (ma_cons (me_int) (ma_cons (me_int) (ma_cons (me_int) (ma_nil)))))) (ma_cons (me_tup (ma_cons (me_int) (ma_cons (me_int) (ma_cons (me_int) (ma_cons (me_un o_neg (me_int)) (ma_nil)))))) (ma_nil)))))) (ma_nil)))) (ma_nil)))) (ss_cons (s_expr (me_lm pa_list slot_append ty_append m_append (me_v 1) (ma_cons (me_tup (ma_cons (me_int) (ma_cons (mv (mf_lst (ma_cons (me_tup (ma_cons (me_int) (ma_cons (me_int) (ma_cons (me_un o_neg (me_int)) (ma_cons (me_un o_neg (me_int)) (ma_nil)))))) (ma_cons (me_tup (ma_cons (me_int) (ma_cons (me_int) (ma_cons (me_int) (ma_cons (me_int) (ma_nil)))))) (ma_cons (me_tup (ma_cons (me_int) (ma_cons (me_int) (ma_cons (me_int) (ma_cons (me_int) (ma_nil)))))) (ma_nil)))))) (ma_nil)))) (ma_nil)))) (ss_cons (s_expr (me_lm pa_list slot_append ty_append m_append (me_v 1) (ma_cons (me_tup (ma_cons (me_int) (ma_cons (mv (mf_lst (ma_cons (me_tup (ma_cons (me_int) (ma_cons (me_int) (ma_cons (me_un o_neg (me_int)) (ma_cons (me_un o_neg (me_int)) (ma_nil)))))) (ma_cons (me_tup (ma_cons (me_int) (ma_cons (me_int) (ma_cons (me_int) (ma_cons (me_un o_neg (me_int)) (ma_nil)))))) (ma_cons (me_tup (ma_cons (me_int) (ma_cons (me_int) (ma_cons (me_un o_neg (me_int)) (ma_cons (me_int) (ma_nil)))))) (ma_nil)))))) (ma_nil)))) (ma_nil)))) (ss_cons (s_expr (me_lm pa_list slot_append ty_append m_append (me_v 1) (ma_cons (me_tup (ma_cons (me_int) (ma_cons (mv (mf_lst (ma_cons (me_tup (ma_cons (me_int) (ma_cons (me_int) (ma_cons (me_un o_neg (me_int)) (ma_cons (me_un o_neg (me_int)) (ma_nil)))))) (ma_cons (me_tup (ma_cons (me_int) (ma_cons (me_int) (ma_cons (me_int) (ma_cons (me_int) (ma_nil)))))) (ma_cons (me_tup (ma_cons (me_int) (ma_cons (me_int) (ma_cons (me_un o_neg (me_int)) (ma_cons (me_int) (ma_nil)))))) (ma_cons (me_tup (ma_cons (me_int) (ma_cons (me_int) (ma_cons (me_int) (ma_cons (me_un o_neg (me_int)) (ma_nil)))))) (ma_nil))))))) (ma_nil)))) (ma_nil)))) (ss_cons (s_expr (me_lm pa_list slot_append ty_append m_append (me_v 1) (ma_cons (me_tup (ma_cons (me_int) (ma_cons (mv (mf_lst (ma_cons (me_tup (ma_cons (me_int) (ma_cons (me_int) (ma_cons (me_int) (ma_cons (me_int) (ma_nil)))))) (ma_cons (me_tup (ma_cons (me_int) (ma_cons (me_int) (ma_cons (me_un o_neg (me_int)) (ma_cons (me_int) (ma_nil)))))) (ma_cons (me_tup (ma_cons (me_int) (ma_cons (me_int) (ma_cons (me_un o_neg (me_int)) (ma_cons (me_int) (ma_nil)))))) (ma_cons (me_tup (ma_cons (me_int) (ma_cons (me_int) (ma_cons (me_int) (ma_cons (me_un o_neg (me_int)) (ma_nil)))))) (ma_cons (me_tup (ma_cons (me_int) (ma_cons (me_int) (ma_cons (me_int) (ma_cons (me_int) (ma_nil)))))) (ma_nil)))))))) (ma_nil)))) (ma_nil)))) (ss_one (s_ret (me_v 1))))))))))))))
theorem sc__law_written : FnScope ["tie", "a", "b", "x", "y"] ["tie"] (defScope (top 10)) := ⟨rfl, rfl, rfl, by decide +kernel, rfl, by decide +kernel, by decide +kernel⟩
theorem ok__law_written (F : FunD K "_law_written" "_law_written" (defArgs (top 10)) (defBody (top 10)) (defScope (top 10)) [] [] fa fd) (gx : mg "_law_written" = some (.ref fa)) : Cal ⟨P, w, K, mg⟩ base 1 "_law_written" 1 m__law_written :=
  cal_of F gx sc__law_written rfl (fun _ _ _ _ _ _ us hl => match us, hl with | [_], _ => rfl) fun cdv A outer s H E o po => ss_cons (s_asg (me_v 0) (mg_tup (n := 4) o.calm (mgs_cons (mg_name (i := 1) o.nd) (mgs_cons (mg_name (i := 2) o.nd) (mgs_cons (mg_name (i := 3) o.nd) (mgs_cons (mg_name (i := 4) o.nd) (mgs_nil))))))) (ss_cons (s_if (MW.pt (mw_or (mt_cmp (o_gt o.hu) (me_v 1) (me_v 2)) (mw_or1 (MW.pt (mw_and (mt_cmp (o_eq o.hu) (me_v 1) (me_v 2)) (mw_and1 (mt_cmp (o_lt o.hu) (me_tup (ma_cons (me_v 3) (ma_cons (me_v 4) (ma_nil)))) (me_tup (ma_cons (me_int) (ma_cons (me_int) (ma_nil))))))))))) (ss_one (s_ret (me_tup (ma_cons (me_v 2) (ma_cons (me_v 1) (ma_cons (me_op o_sub (me_int) (me_v 3)) (ma_cons (me_op o_sub (me_int) (me_v 4)) (ma_nil)))))))) (ss_nil)) (ss_one (s_ret (me_v 0))))
theorem sc__law_grid : FnScope ["pool", "way", "known", "places", "ties", "turns", "turn", "a", "b", "x", "tie", "one"] ["pool"] (defScope (top 12)) := ⟨rfl, rfl, rfl, by decide +kernel, rfl, by decide +kernel, by decide +kernel⟩
theorem ok__law_grid (F : FunD K "_law_grid" "_law_grid" (defArgs (top 12)) (defBody (top 12)) (defScope (top 12)) [] [] fa fd) (gx : mg "_law_grid" = some (.ref fa)) (h_len : mg "len" = none) (h_range : mg "range" = none) (h_set : mg "set" = none) (h_sorted : mg "sorted" = none) (h_tuple : mg "tuple" = none) (c__law_take : Cal ⟨P, w, K, mg⟩ base 1 "_law_take" 2 m__law_take) (c__law_known : Cal ⟨P, w, K, mg⟩ base 1 "_law_known" 0 m__law_known) (c__law_written : Cal ⟨P, w, K, mg⟩ base 1 "_law_written" 1 m__law_written) : Cal ⟨P, w, K, mg⟩ base 2 "_law_grid" 1 m__law_grid :=
  cal_of F gx sc__law_grid rfl (fun _ _ _ _ _ _ us hl => match us, hl with | [_], _ => rfl) fun cdv A outer s H E o po => ss_cons (s_set (i := 1) o.nd (me_call o c__law_take (by decide) rfl (ma_cons (me_v 0) (ma_cons (me_int) (ma_nil))))) (ss_cons (s_set (i := 2) o.nd (me_pcall0 o c__law_known (by decide) rfl)) (ss_cons (s_asg (me_ixR (ix_A o.hu) (me_v 2) (me_call o c__law_take (by decide) rfl (ma_cons (me_v 0) (ma_cons (me_callB (c_lenA o.hu) rfl h_len rfl (ma_cons (me_v 2) (ma_nil))) (ma_nil)))) (fun _ _ => rfl)) (mg_tup (n := 2) o.calm (mgs_cons (mg_name (i := 3) o.nd) (mgs_cons (mg_name (i := 4) o.nd) (mgs_nil))))) (ss_cons (s_if (mt_cmp (o_gt o.hu) (me_v 1) (me_int)) (ss_cons (s_set (i := 3) o.nd (me_op o_addV (me_int) (me_call o c__law_take (by decide) rfl (ma_cons (me_v 0) (ma_cons (me_int) (ma_nil)))))) (ss_one (s_set (i := 4) o.nd (mv (mf_lst (ma_nil)))))) (ss_nil)) (ss_cons (s_set (i := 5) o.nd (me_ixR (ix_A o.hu) (mv (mf_lst (ma_cons (me_int) (ma_cons (me_op o_addV (me_int) (me_call o c__law_take (by decide) rfl (ma_cons (me_v 0) (ma_cons (me_int) (ma_nil))))) (ma_cons (me_op o_addV (me_int) (me_call o c__law_take (by decide) rfl (ma_cons (me_v 0) (ma_cons (me_int) (ma_nil))))) (ma_cons (me_call o c__law_take (by decide) rfl (ma_cons (me_v 0) (ma_cons (me_int) (ma_nil)))) (ma_nil))))))) (me_v 1) (fun _ _ => rfl))) (ss_cons (s_for po o.calm (mi_range1 rfl h_range (ma_cons (me_v 5) (ma_nil))) (mg_name (i := 6) o.nd) (ss_cons (s_set (i := 7) o.nd (me_call o c__law_take (by decide) rfl (ma_cons (me_v 0) (ma_cons (me_v 3) (ma_nil))))) (ss_cons (s_set (i := 8) o.nd (me_call o c__law_take (by decide) rfl (ma_cons (me_v 0) (ma_cons (me_v 3) (ma_nil))))) (ss_cons (s_set (i := 9) o.nd (me_op o_sub (me_call o c__law_take (by decide) rfl (ma_cons (me_v 0) (ma_cons (me_int) (ma_nil)))) (me_int))) (ss_cons (s_set (i := 10) o.nd (me_tup (ma_cons (me_v 7) (ma_cons (me_v 8) (ma_cons (me_v 9) (ma_cons (me_op o_sub (me_call o c__law_take (by decide) rfl (ma_cons (me_v 0) (ma_cons (me_int) (ma_nil)))) (me_int)) (ma_nil))))))) (ss_one (s_if (MW.pt (mw_and (mt_cmp (o_inA o.hu) (me_v 10) (me_v 4)) (mw_and1 (mt_cmp (o_eq o.hu) (me_v 1) (me_int))))) (ss_one (s_setLc (i := 4) o.calm o.nd (mi_seq (me_v 4)) (blkOk_by (own := [("one", 11)]) (show blkC ["pool", "way", "known", "places", "ties", "turns", "turn", "a", "b", "x", "tie", "one"] (defScope (top 12)) _ [("one", 11)] = true by decide +kernel)) TM.ofV (fun s0 H0 C0 cl0 fp0 => mg_name (i := 11) (o.blk s0 H0 _ _ fp0).nd) (fun s0 H0 C0 cl0 fp0 => pts_one (mt_cmp (o_ne (o.blk s0 H0 _ _ fp0).hu) (me_v 11) (me_v 10))) (fun s0 H0 C0 cl0 fp0 => me_v 11))) (ss_one (s_if (MW.pt (mw_or (mt_cmp (o_ne o.hu) (me_v 7) (me_v 8)) (mw_or1 (mt_cmp (o_ne o.hu) (me_slV (me_v 10) (mo_some (me_int)) (mo_none)) (me_tup (ma_cons (me_int) (ma_cons (me_int) (ma_nil)))))))) (ss_one (s_set (i := 4) o.nd (me_op o_addV (me_v 4) (mv (mf_lst (ma_cons (me_pcall o c__law_written (by decide) rfl (ma_cons (me_v 10) (ma_nil))) (ma_nil))))))) (ss_nil)))))))))) (ss_one (s_ret (me_tup (ma_cons (me_v 3) (ma_cons (me_callT (c_tupleA o.hu) rfl h_tuple rfl (ma_cons (mv (c_sortSet o.calm o.hu rfl h_sorted rfl h_set (me_v 4))) (ma_nil))) (ma_nil)))))))))))
theorem sc__law_steps : FnScope ["grid", "found", "p", "a", "b", "x", "y"] ["grid"] (defScope (top 13)) := ⟨rfl, rfl, rfl, by decide +kernel, rfl, by decide +kernel, by decide +kernel⟩
theorem ok__law_steps (F : FunD K "_law_steps" "_law_steps" (defArgs (top 13)) (defBody (top 13)) (defScope (top 13)) [] [] fa fd) (gx : mg "_law_steps" = some (.ref fa)) (h_range : mg "range" = none) : Cal ⟨P, w, K, mg⟩ base 1 "_law_steps" 1 m__law_steps :=
  cal_of F gx sc__law_steps rfl (fun _ _ _ _ _ _ us hl => match us, hl with | [_], _ => rfl) fun cdv A outer s H E o po => ss_cons (s_setLc (i := 1) o.calm o.nd (mi_range1 rfl h_range (ma_cons (me_ixR (ix_A o.hu) (me_v 0) (me_int) (fun _ _ => rfl)) (ma_nil))) (blkOk_by (own := [("p", 2)]) (show blkC ["grid", "found", "p", "a", "b", "x", "y"] (defScope (top 13)) _ [("p", 2)] = true by decide +kernel)) TM.ofV (fun s0 H0 C0 cl0 fp0 => mg_name (i := 2) (o.blk s0 H0 _ _ fp0).nd) (fun s0 H0 C0 cl0 fp0 => pts_yes) (fun s0 H0 C0 cl0 fp0 => mr (mf_lst (ma_nil)))) (ss_cons (s_for po o.calm (mi_seq (me_ixR (ix_A o.hu) (me_v 0) (me_int) (fun _ _ => rfl))) (mg_tup (n := 4) o.calm (mgs_cons (mg_name (i := 3) o.nd) (mgs_cons (mg_name (i := 4) o.nd) (mgs_cons (mg_name (i := 5) o.nd) (mgs_cons (mg_name (i := 6) o.nd) (mgs_nil)))))) (ss_cons (s_expr (me_lm pa_list slot_append ty_append m_append (me_ixR (ix_A o.hu) (me_v 1) (me_v 3) (fun _ _ => rfl)) (ma_cons (me_tup (ma_cons (me_v 4) (ma_cons (me_v 5) (ma_cons (me_v 6) (ma_nil))))) (ma_nil)))) (ss_one (s_expr (me_lm pa_list slot_append ty_append m_append (me_ixR (ix_A o.hu) (me_v 1) (me_v 4) (fun _ _ => rfl)) (ma_cons (me_tup (ma_cons (me_v 3) (ma_cons (me_op o_sub (me_int) (me_v 5)) (ma_cons (me_op o_sub (me_int) (me_v 6)) (ma_nil))))) (ma_nil))))))) (ss_one (s_ret (me_v 1))))
theorem sc__law_shells : FnScope ["grid", "start", "m", "n", "steps", "far", "ring", "counts", "further", "p", "u", "v", "q", "x", "y", "other"] ["grid", "start", "m", "n"] (defScope (top 15)) := ⟨rfl, rfl, rfl, by decide +kernel, rfl, by decide +kernel, by decide +kernel⟩
theorem ok__law_shells (F : FunD K "_law_shells" "_law_shells" (defArgs (top 15)) (defBody (top 15)) (defScope (top 15)) [] [] fa fd) (gx : mg "_law_shells" = some (.ref fa)) (h_len : mg "len" = none) (c__law_steps : Cal ⟨P, w, K, mg⟩ base 1 "_law_steps" 1 m__law_steps) : Cal ⟨P, w, K, mg⟩ base 2 "_law_shells" 4 m__law_shells :=
  cal_of F gx sc__law_shells rfl (fun _ _ _ _ _ _ us hl => match us, hl with | [_, _, _, _], _ => rfl) fun cdv A outer s H E o po => ss_cons (s_set (i := 4) o.nd (me_pcall o c__law_steps (by decide) rfl (ma_cons (me_v 0) (ma_nil)))) (ss_cons (s_set (i := 5) o.nd (mr (mf_dict o.hu (pps_cons (me_tup (ma_cons (me_v 1) (ma_cons (me_int) (ma_cons (me_int) (ma_nil))))) (me_int) (pps_nil))))) (ss_cons (s_set (i := 6) o.nd (mv (mf_lst (ma_cons (me_tup (ma_cons (me_v 1) (ma_cons (me_int) (ma_cons (me_int) (ma_nil))))) (ma_nil))))) (ss_cons (s_set (i := 7) o.nd (mr (mf_lst (ma_nil)))) (ss_cons (s_while po (mt_cmp (o_gt o.hu) (me_callB (c_lenA o.hu) rfl h_len rfl (ma_cons (me_v 6) (ma_nil))) (me_int)) (ss_cons (s_expr (me_lm pa_list slot_append ty_append m_append (me_v 7) (ma_cons (me_callB (c_lenA o.hu) rfl h_len rfl (ma_cons (me_v 6) (ma_nil))) (ma_nil)))) (ss_cons (s_set (i := 8) o.nd (mr (mf_lst (ma_nil)))) (ss_cons (s_for po o.calm (mi_seq (me_v 6)) (mg_tup (n := 3) o.calm (mgs_cons (mg_name (i := 9) o.nd) (mgs_cons (mg_name (i := 10) o.nd) (mgs_cons (mg_name (i := 11) o.nd) (mgs_nil))))) (ss_one (s_for po o.calm (mi_seq (me_ixR (ix_A o.hu) (me_v 4) (me_v 9) (fun _ _ => rfl))) (mg_tup (n := 3) o.calm (mgs_cons (mg_name (i := 12) o.nd) (mgs_cons (mg_name (i := 13) o.nd) (mgs_cons (mg_name (i := 14) o.nd) (mgs_nil))))) (ss_cons (s_set (i := 15) o.nd (me_tup (ma_cons (me_v 12) (ma_cons (me_op o_mod (me_op o_addV (me_v 10) (me_v 13)) (me_v 2)) (ma_cons (me_op o_mod (me_op o_addV (me_v 11) (me_v 14)) (me_v 3)) (ma_nil)))))) (ss_one (s_if (mt_cmp (o_notInA o.hu) (me_v 15) (me_v 5)) (ss_cons (s_asg (me_callB (c_lenA o.hu) rfl h_len rfl (ma_cons (me_v 7) (ma_nil))) (mg_sub (me_v 5) (me_v 15) (set_A o.hu))) (ss_one (s_expr (me_lm pa_list slot_append ty_append m_append (me_v 8) (ma_cons (me_v 15) (ma_nil)))))) (ss_nil))))))) (ss_one (s_set (i := 6) o.nd (me_v 8))))))) (ss_one (s_ret (me_v 7)))))))
theorem sc_steps_from : FnScope ["grid", "p", "found", "a", "b", "x", "y"] ["grid", "p"] (defScope (top 1)) := ⟨rfl, rfl, rfl, by decide +kernel, rfl, by decide +kernel, by decide +kernel⟩
theorem ok_steps_from (F : FunD K "steps_from" "steps_from" (defArgs (top 1)) (defBody (top 1)) (defScope (top 1)) [] [] fa fd) (gx : mg "steps_from" = some (.ref fa)) : Cal ⟨P, w, K, mg⟩ base 1 "steps_from" 2 m_steps_from :=
  cal_of F gx sc_steps_from rfl (fun _ _ _ _ _ _ us hl => match us, hl with | [_, _], _ => rfl) fun cdv A outer s H E o po => ss_cons (s_set (i := 2) o.nd (mr (mf_lst (ma_nil)))) (ss_cons (s_for po o.calm (mi_seq (me_ixR (ix_A o.hu) (me_v 0) (me_int) (fun _ _ => rfl))) (mg_tup (n := 4) o.calm (mgs_cons (mg_name (i := 3) o.nd) (mgs_cons (mg_name (i := 4) o.nd) (mgs_cons (mg_name (i := 5) o.nd) (mgs_cons (mg_name (i := 6) o.nd) (mgs_nil)))))) (ss_cons (s_if (mt_cmp (o_eq o.hu) (me_v 3) (me_v 1)) (ss_one (s_expr (me_lm pa_list slot_append ty_append m_append (me_v 2) (ma_cons (me_tup (ma_cons (me_v 4) (ma_cons (me_v 5) (ma_cons (me_v 6) (ma_nil))))) (ma_nil))))) (ss_nil)) (ss_one (s_if (mt_cmp (o_eq o.hu) (me_v 4) (me_v 1)) (ss_one (s_expr (me_lm pa_list slot_append ty_append m_append (me_v 2) (ma_cons (me_tup (ma_cons (me_v 3) (ma_cons (me_op o_sub (me_int) (me_v 5)) (ma_cons (me_op o_sub (me_int) (me_v 6)) (ma_nil))))) (ma_nil))))) (ss_nil))))) (ss_one (s_ret (me_v 2))))
theorem sc_beside : FnScope ["grid", "place", "p", "x", "y", "q", "u", "v"] ["grid", "place"] (defScope (top 2)) := ⟨rfl, rfl, rfl, by decide +kernel, rfl, by decide +kernel, by decide +kernel⟩
theorem ok_beside (F : FunD K "beside" "beside" (defArgs (top 2)) (defBody (top 2)) (defScope (top 2)) [] [] fa fd) (gx : mg "beside" = some (.ref fa)) (c_steps_from : Cal ⟨P, w, K, mg⟩ base 1 "steps_from" 2 m_steps_from) : Cal ⟨P, w, K, mg⟩ base 2 "beside" 2 m_beside :=
  cal_of F gx sc_beside rfl (fun _ _ _ _ _ _ us hl => match us, hl with | [_, _], _ => rfl) fun cdv A outer s H E o po => ss_cons (s_asg (me_v 1) (mg_tup (n := 3) o.calm (mgs_cons (mg_name (i := 2) o.nd) (mgs_cons (mg_name (i := 3) o.nd) (mgs_cons (mg_name (i := 4) o.nd) (mgs_nil)))))) (ss_one (s_ret (mv (mf_lc o.calm o.nd (mi_seq (me_pcall o c_steps_from (by decide) rfl (ma_cons (me_v 0) (ma_cons (me_v 2) (ma_nil))))) (blkOk_by (own := [("q", 5), ("u", 6), ("v", 7)]) (show blkC ["grid", "place", "p", "x", "y", "q", "u", "v"] (defScope (top 2)) _ [("q", 5), ("u", 6), ("v", 7)] = true by decide +kernel)) (fun s0 H0 C0 cl0 fp0 => mg_tup (n := 3) (o.blk s0 H0 _ _ fp0).calm (mgs_cons (mg_name (i := 5) (o.blk s0 H0 _ _ fp0).nd) (mgs_cons (mg_name (i := 6) (o.blk s0 H0 _ _ fp0).nd) (mgs_cons (mg_name (i := 7) (o.blk s0 H0 _ _ fp0).nd) (mgs_nil))))) (fun s0 H0 C0 cl0 fp0 => pts_yes) (fun s0 H0 C0 cl0 fp0 => me_tup (ma_cons (me_v 5) (ma_cons (me_op o_addV (me_v 3) (me_v 6)) (ma_cons (me_op o_addV (me_v 4) (me_v 7)) (ma_nil)))))))))
theorem sc_wrapped_beside : FnScope ["grid", "place", "m", "n", "q", "x", "y"] ["grid", "place", "m", "n"] (defScope (top 4)) := ⟨rfl, rfl, rfl, by decide +kernel, rfl, by decide +kernel, by decide +kernel⟩
theorem ok_wrapped_beside (F : FunD K "wrapped_beside" "wrapped_beside" (defArgs (top 4)) (defBody (top 4)) (defScope (top 4)) [] [] fa fd) (gx : mg "wrapped_beside" = some (.ref fa)) (c_beside : Cal ⟨P, w, K, mg⟩ base 2 "beside" 2 m_beside) : Cal ⟨P, w, K, mg⟩ base 3 "wrapped_beside" 4 m_wrapped_beside :=
  cal_of F gx sc_wrapped_beside rfl (fun _ _ _ _ _ _ us hl => match us, hl with | [_, _, _, _], _ => rfl) fun cdv A outer s H E o po => ss_one (s_ret (mv (mf_lc o.calm o.nd (mi_seq (me_pcall o c_beside (by decide) rfl (ma_cons (me_v 0) (ma_cons (me_v 1) (ma_nil))))) (blkOk_by (own := [("q", 4), ("x", 5), ("y", 6)]) (show blkC ["grid", "place", "m", "n", "q", "x", "y"] (defScope (top 4)) _ [("q", 4), ("x", 5), ("y", 6)] = true by decide +kernel)) (fun s0 H0 C0 cl0 fp0 => mg_tup (n := 3) (o.blk s0 H0 _ _ fp0).calm (mgs_cons (mg_name (i := 4) (o.blk s0 H0 _ _ fp0).nd) (mgs_cons (mg_name (i := 5) (o.blk s0 H0 _ _ fp0).nd) (mgs_cons (mg_name (i := 6) (o.blk s0 H0 _ _ fp0).nd) (mgs_nil))))) (fun s0 H0 C0 cl0 fp0 => pts_yes) (fun s0 H0 C0 cl0 fp0 => me_tup (ma_cons (me_v 4) (ma_cons (me_op o_mod (me_v 5) (me_v 2)) (ma_cons (me_op o_mod (me_v 6) (me_v 3)) (ma_nil))))))))
theorem sc_wrapped_shells : FnScope ["grid", "start", "m", "n", "met", "ring", "counts", "further", "place", "other"] ["grid", "start", "m", "n"] (defScope (top 5)) := ⟨rfl, rfl, rfl, by decide +kernel, rfl, by decide +kernel, by decide +kernel⟩
theorem ok_wrapped_shells (F : FunD K "wrapped_shells" "wrapped_shells" (defArgs (top 5)) (defBody (top 5)) (defScope (top 5)) [] [] fa fd) (gx : mg "wrapped_shells" = some (.ref fa)) (h_len : mg "len" = none) (c_wrapped_beside : Cal ⟨P, w, K, mg⟩ base 3 "wrapped_beside" 4 m_wrapped_beside) : Cal ⟨P, w, K, mg⟩ base 4 "wrapped_shells" 4 m_wrapped_shells :=
  cal_of F gx sc_wrapped_shells rfl (fun _ _ _ _ _ _ us hl => match us, hl with | [_, _, _, _], _ => rfl) fun cdv A outer s H E o po => ss_cons (s_set (i := 4) o.nd (mr (mf_dict o.hu (pps_cons (me_tup (ma_cons (me_v 1) (ma_cons (me_int) (ma_cons (me_int) (ma_nil))))) (me_bl) (pps_nil))))) (ss_cons (s_set (i := 5) o.nd (mv (mf_lst (ma_cons (me_tup (ma_cons (me_v 1) (ma_cons (me_int) (ma_cons (me_int) (ma_nil))))) (ma_nil))))) (ss_cons (s_set (i := 6) o.nd (mr (mf_lst (ma_nil)))) (ss_cons (s_while po (mt_cmp (o_gt o.hu) (me_callB (c_lenA o.hu) rfl h_len rfl (ma_cons (me_v 5) (ma_nil))) (me_int)) (ss_cons (s_expr (me_lm pa_list slot_append ty_append m_append (me_v 6) (ma_cons (me_callB (c_lenA o.hu) rfl h_len rfl (ma_cons (me_v 5) (ma_nil))) (ma_nil)))) (ss_cons (s_set (i := 7) o.nd (mr (mf_lst (ma_nil)))) (ss_cons (s_for po o.calm (mi_seq (me_v 5)) (mg_name (i := 8) o.nd) (ss_one (s_for po o.calm (mi_seq (me_pcall o c_wrapped_beside (by decide) rfl (ma_cons (me_v 0) (ma_cons (me_v 8) (ma_cons (me_v 2) (ma_cons (me_v 3) (ma_nil))))))) (mg_name (i := 9) o.nd) (ss_one (s_if (mt_cmp (o_notInA o.hu) (me_v 9) (me_v 4)) (ss_cons (s_asg (me_bl) (mg_sub (me_v 4) (me_v 9) (set_A o.hu))) (ss_one (s_expr (me_lm pa_list slot_append ty_append m_append (me_v 7) (ma_cons (me_v 9) (ma_nil)))))) (ss_nil)))))) (ss_one (s_set (i := 5) o.nd (me_v 7))))))) (ss_one (s_ret (me_v 6))))))
theorem sc__law_whole : FnScope ["found"] ["found"] (defScope (top 16)) := ⟨rfl, rfl, rfl, by decide +kernel, rfl, by decide +kernel, by decide +kernel⟩
theorem ok__law_whole (F : FunD K "_law_whole" "_law_whole" (defArgs (top 16)) (defBody (top 16)) (defScope (top 16)) [] [] fa fd) (gx : mg "_law_whole" = some (.ref fa)) (h_bool : mg "bool" = none) (h_int : mg "int" = none) (h_isinstance : mg "isinstance" = none) : Cal ⟨P, w, K, mg⟩ base 1 "_law_whole" 1 m__law_whole :=
  cal_of F gx sc__law_whole rfl (fun _ _ _ _ _ _ us hl => match us, hl with | [_], _ => rfl) fun cdv A outer s H E o po => ss_one (s_ret (me_and (me_isi .int (me_v 0) rfl h_isinstance rfl h_int rfl) (me_one (me_not (me_isi .bl (me_v 0) rfl h_isinstance rfl h_bool rfl)))))
theorem sc_law : FnScope ["script", "k", "cell", "pool", "great", "m", "n", "grid", "start", "due", "turn", "found", "count"] ["script"] (defScope (top 17)) := ⟨rfl, rfl, rfl, by decide +kernel, rfl, by decide +kernel, by decide +kernel⟩
theorem fn_law (F : FunD K "law" "law" (defArgs (top 17)) (defBody (top 17)) (defScope (top 17)) [] [] fa fd) (gx : mg "law" = some (.ref fa)) (h_all : mg "all" = none) (h_enumerate : mg "enumerate" = none) (h_isinstance : mg "isinstance" = none) (h_list : mg "list" = none) (h_range : mg "range" = none) (c__law_cells : Cal ⟨P, w, K, mg⟩ base 1 "_law_cells" 2 m__law_cells) (c__law_pool : Cal ⟨P, w, K, mg⟩ base 1 "_law_pool" 1 m__law_pool) (c__law_take : Cal ⟨P, w, K, mg⟩ base 1 "_law_take" 2 m__law_take) (c__law_sizes : Cal ⟨P, w, K, mg⟩ base 2 "_law_sizes" 1 m__law_sizes) (c__law_grid : Cal ⟨P, w, K, mg⟩ base 2 "_law_grid" 1 m__law_grid) (c__law_shells : Cal ⟨P, w, K, mg⟩ base 2 "_law_shells" 4 m__law_shells) (c_wrapped_shells : Cal ⟨P, w, K, mg⟩ base 4 "wrapped_shells" 4 m_wrapped_shells) (c__law_whole : Cal ⟨P, w, K, mg⟩ base 1 "_law_whole" 1 m__law_whole) : FnOk P w K mg base (L2.CX P w) 5 fa fd ["script"] (spM ⟨P, w, K, mg⟩ 1 m_law) :=
  fn_of_ F sc_law rfl fun cdv A outer s H E o po => ss_cons (s_for po o.calm (mi_enum rfl h_enumerate (ma_cons (me_pcall o c__law_cells (by decide) rfl (ma_cons (me_v 0) (ma_cons (me_int) (ma_nil)))) (ma_nil))) (mg_tup (n := 2) o.calm (mgs_cons (mg_name (i := 1) o.nd) (mgs_cons (mg_name (i := 2) o.nd) (mgs_nil)))) (ss_cons (s_set (i := 3) o.nd (mr (mf_pcall o c__law_pool (by decide) rfl (ma_cons (me_v 2) (ma_nil))))) (ss_cons (s_set (i := 4) o.nd (me_call o c__law_take (by decide) rfl (ma_cons (me_v 3) (ma_cons (me_int) (ma_nil))))) (ss_cons (s_asg (me_call o c__law_sizes (by decide) rfl (ma_cons (me_v 3) (ma_nil))) (mg_tup (n := 2) o.calm (mgs_cons (mg_name (i := 5) o.nd) (mgs_cons (mg_name (i := 6) o.nd) (mgs_nil))))) (ss_cons (s_if (MW.pt (mw_and (mt_cmp (o_eq o.hu) (me_v 1) (me_int)) (mw_and1 (mt_cmp (o_eq o.hu) (me_v 4) (me_int))))) (ss_one (s_asg (me_tup (ma_cons (me_int) (ma_cons (me_int) (ma_nil)))) (mg_tup (n := 2) o.calm (mgs_cons (mg_name (i := 5) o.nd) (mgs_cons (mg_name (i := 6) o.nd) (mgs_nil)))))) (ss_nil)) (ss_cons (s_if (mt_cmp (o_gt o.hu) (me_v 1) (me_int)) (ss_one (s_par (i := 5) (j := 6) o.calm o.nd (ma_cons (me_op o_addV (me_int) (me_op o_mod (me_v 5) (me_int))) (ma_cons (me_op o_addV (me_int) (me_op o_mod (me_v 6) (me_int))) (ma_nil))))) (ss_nil)) (ss_cons (s_set (i := 7) o.nd (me_call o c__law_grid (by decide) rfl (ma_cons (me_v 3) (ma_nil)))) (ss_one (s_for po o.calm (mi_range1 rfl h_range (ma_cons (me_ixR (ix_A o.hu) (me_v 7) (me_int) (fun _ _ => rfl)) (ma_nil))) (mg_name (i := 8) o.nd) (ss_cons (s_set (i := 9) o.nd (me_pcall o c__law_shells (by decide) rfl (ma_cons (me_v 7) (ma_cons (me_v 8) (ma_cons (me_v 5) (ma_cons (me_v 6) (ma_nil))))))) (ss_one (s_for po o.calm (mi_range1 rfl h_range (ma_cons (me_int) (ma_nil))) (mg_name (i := 10) o.nd) (ss_cons (s_set (i := 11) o.nd (mr (mf_pcall o c_wrapped_shells (by decide) rfl (ma_cons (me_v 7) (ma_cons (me_v 8) (ma_cons (me_v 5) (ma_cons (me_v 6) (ma_nil)))))))) (ss_cons (s_if (MW.pt (mw_or (mt_not (mt_val (me_isi .lst (me_v 11) rfl h_isinstance rfl h_list rfl))) (mw_or (mt_cmp (o_ne o.hu) (me_v 11) (me_v 9)) (mw_or1 (mt_not (mt_val (me_callB (c_all o.calm) rfl h_all rfl (ma_cons (mv (mf_lc o.calm o.nd (mi_seq (me_v 11)) (blkOk_by (own := [("count", 12)]) (show blkC ["script", "k", "cell", "pool", "great", "m", "n", "grid", "start", "due", "turn", "found", "count"] (defScope (top 17)) _ [("count", 12)] = true by decide +kernel)) (fun s0 H0 C0 cl0 fp0 => mg_name (i := 12) (o.blk s0 H0 _ _ fp0).nd) (fun s0 H0 C0 cl0 fp0 => pts_yes) (fun s0 H0 C0 cl0 fp0 => me_pcall (o.blk s0 H0 _ _ fp0) c__law_whole (by decide) rfl (ma_cons (me_v 12) (ma_nil))))) (ma_nil))))))))) (ss_one (s_ret (me_bl))) (ss_nil)) (ss_one (s_expr (me_lm pa_list slot_append ty_append m_append (me_v 11) (ma_cons (me_int) (ma_nil))))))))))))))))))) (ss_one (s_ret (me_bl)))
end

/-! the head -/
def dd__law_cells : He.DefD := ⟨("_law_cells", none), "_law_cells", "_law_cells", defArgs (top 7), defBody (top 7), defScope (top 7), [], []⟩
def dd__law_pool : He.DefD := ⟨("_law_pool", none), "_law_pool", "_law_pool", defArgs (top 8), defBody (top 8), defScope (top 8), [], []⟩
def dd__law_take : He.DefD := ⟨("_law_take", none), "_law_take", "_law_take", defArgs (top 9), defBody (top 9), defScope (top 9), [], []⟩
def dd__law_sizes : He.DefD := ⟨("_law_sizes", none), "_law_sizes", "_law_sizes", defArgs (top 14), defBody (top 14), defScope (top 14), [], []⟩
def dd__law_known : He.DefD := ⟨("_law_known", none), "_law_known", "_law_known", defArgs (top 11), defBody (top 11), defScope (top 11), [], []⟩
def dd__law_written : He.DefD := ⟨("_law_written", none), "_law_written", "_law_written", defArgs (top 10), defBody (top 10), defScope (top 10), [], []⟩
def dd__law_grid : He.DefD := ⟨("_law_grid", none), "_law_grid", "_law_grid", defArgs (top 12), defBody (top 12), defScope (top 12), [], []⟩
def dd__law_steps : He.DefD := ⟨("_law_steps", none), "_law_steps", "_law_steps", defArgs (top 13), defBody (top 13), defScope (top 13), [], []⟩
def dd__law_shells : He.DefD := ⟨("_law_shells", none), "_law_shells", "_law_shells", defArgs (top 15), defBody (top 15), defScope (top 15), [], []⟩
def dd_steps_from : He.DefD := ⟨("steps_from", none), "steps_from", "steps_from", defArgs (top 1), defBody (top 1), defScope (top 1), [], []⟩
def dd_beside : He.DefD := ⟨("beside", none), "beside", "beside", defArgs (top 2), defBody (top 2), defScope (top 2), [], []⟩
def dd_wrapped_beside : He.DefD := ⟨("wrapped_beside", none), "wrapped_beside", "wrapped_beside", defArgs (top 4), defBody (top 4), defScope (top 4), [], []⟩
def dd_wrapped_shells : He.DefD := ⟨("wrapped_shells", none), "wrapped_shells", "wrapped_shells", defArgs (top 5), defBody (top 5), defScope (top 5), [], []⟩
def dd__law_whole : He.DefD := ⟨("_law_whole", none), "_law_whole", "_law_whole", defArgs (top 16), defBody (top 16), defScope (top 16), [], []⟩
def dd_law : He.DefD := ⟨("law", none), "law", "law", defArgs (top 17), defBody (top 17), defScope (top 17), [], []⟩
def hfn : List He.DefD := [dd__law_cells, dd__law_pool, dd__law_take, dd__law_sizes, dd__law_known, dd__law_written, dd__law_grid, dd__law_steps, dd__law_shells, dd_steps_from, dd_beside, dd_wrapped_beside, dd_wrapped_shells, dd__law_whole, dd_law]
def hfa : List He.Fa := [.glo "_law_cells", .glo "_law_pool", .glo "_law_take", .glo "_law_sizes", .glo "_law_known", .glo "_law_written", .glo "_law_grid", .glo "_law_steps", .glo "_law_shells", .glo "steps_from", .glo "beside", .glo "wrapped_beside", .glo "wrapped_shells", .glo "_law_whole", .glo "law", .free "abs", .free "all", .free "bool", .free "divmod", .free "enumerate", .free "int", .free "isinstance", .free "len", .free "list", .free "max", .free "min", .free "range", .free "set", .free "sorted", .free "tuple"]
abbrev Rw : PySem.W.OpenRow := PySem.W.OpenLaw.row PySem.Challenge.rw_farwide_k73_wrapped_shells_told
abbrev hhk : PySem.W.Hook := He.hookD 17 hfa hfn
def hob (s : PySem.W.SharedT) : He.AlD := He.obsDG 17 hfa hfn (HandSHeadRun.getT s)
theorem hob_eq (s : PySem.W.SharedT) : hob s = hhk.obs s.abs := He.obsDG_eq (HandSHeadRun.getT_eq s)
def hnm0 : List PySem.Str := ["steps_from", "beside", "wrapped_beside", "wrapped_shells", "_law_cells", "_law_pool", "_law_take", "_law_written", "_law_known", "_law_grid", "_law_steps", "_law_sizes", "_law_shells", "_law_whole"]
def hnm : List PySem.Str := hnm0
theorem hrun (w : World) : HandSHeadRun.RunEq Rw (PySem.W.view Rw.prog [17]) hhk hob 1120 hnm w := by
  intro os
  kernel_rfl
theorem hfacts {P : Program} {w : World} {K : PySem.W.Frag} {h : Heap} {mg : Str → Option Value} {f : Addr} (KX : K.In h) (hG : h.Ns mainGlobals mg) (hfa_ : mg ("law" : Str) = some (.ref f)) (c : He.SaysD hfa hfn K) :
    ∃ fd : FuncData, (∀ (s : Shared) (v : Value), BindsTo s fd ⟨[v], []⟩ [("script", v)]) ∧ ∀ base : Heap, K.In base → base.Ns mainGlobals mg → FnOk P w K mg base CX0 5 f fd ["script"] (spLaw ⟨P, w, K, mg⟩ m_law) := by
  obtain ⟨fd__law_cells, F__law_cells⟩ := c.def_ 0 (d := dd__law_cells) rfl
  have g__law_cells := He.glo_ok KX hG (c.fact 0 (f := .glo "_law_cells") rfl)
  obtain ⟨fd__law_pool, F__law_pool⟩ := c.def_ 1 (d := dd__law_pool) rfl
  have g__law_pool := He.glo_ok KX hG (c.fact 1 (f := .glo "_law_pool") rfl)
  obtain ⟨fd__law_take, F__law_take⟩ := c.def_ 2 (d := dd__law_take) rfl
  have g__law_take := He.glo_ok KX hG (c.fact 2 (f := .glo "_law_take") rfl)
  obtain ⟨fd__law_sizes, F__law_sizes⟩ := c.def_ 3 (d := dd__law_sizes) rfl
  have g__law_sizes := He.glo_ok KX hG (c.fact 3 (f := .glo "_law_sizes") rfl)
  obtain ⟨fd__law_known, F__law_known⟩ := c.def_ 4 (d := dd__law_known) rfl
  have g__law_known := He.glo_ok KX hG (c.fact 4 (f := .glo "_law_known") rfl)
  obtain ⟨fd__law_written, F__law_written⟩ := c.def_ 5 (d := dd__law_written) rfl
  have g__law_written := He.glo_ok KX hG (c.fact 5 (f := .glo "_law_written") rfl)
  obtain ⟨fd__law_grid, F__law_grid⟩ := c.def_ 6 (d := dd__law_grid) rfl
  have g__law_grid := He.glo_ok KX hG (c.fact 6 (f := .glo "_law_grid") rfl)
  obtain ⟨fd__law_steps, F__law_steps⟩ := c.def_ 7 (d := dd__law_steps) rfl
  have g__law_steps := He.glo_ok KX hG (c.fact 7 (f := .glo "_law_steps") rfl)
  obtain ⟨fd__law_shells, F__law_shells⟩ := c.def_ 8 (d := dd__law_shells) rfl
  have g__law_shells := He.glo_ok KX hG (c.fact 8 (f := .glo "_law_shells") rfl)
  obtain ⟨fd_steps_from, F_steps_from⟩ := c.def_ 9 (d := dd_steps_from) rfl
  have g_steps_from := He.glo_ok KX hG (c.fact 9 (f := .glo "steps_from") rfl)
  obtain ⟨fd_beside, F_beside⟩ := c.def_ 10 (d := dd_beside) rfl
  have g_beside := He.glo_ok KX hG (c.fact 10 (f := .glo "beside") rfl)
  obtain ⟨fd_wrapped_beside, F_wrapped_beside⟩ := c.def_ 11 (d := dd_wrapped_beside) rfl
  have g_wrapped_beside := He.glo_ok KX hG (c.fact 11 (f := .glo "wrapped_beside") rfl)
  obtain ⟨fd_wrapped_shells, F_wrapped_shells⟩ := c.def_ 12 (d := dd_wrapped_shells) rfl
  have g_wrapped_shells := He.glo_ok KX hG (c.fact 12 (f := .glo "wrapped_shells") rfl)
  obtain ⟨fd__law_whole, F__law_whole⟩ := c.def_ 13 (d := dd__law_whole) rfl
  have g__law_whole := He.glo_ok KX hG (c.fact 13 (f := .glo "_law_whole") rfl)
  obtain ⟨fd_law, F_law⟩ := c.def_ 14 (d := dd_law) rfl
  have g_law := He.glo_ok KX hG (c.fact 14 (f := .glo "law") rfl)
  have h_abs : mg "abs" = none := He.free_ok KX hG (c.fact 15 (f := .free "abs") rfl)
  have h_all : mg "all" = none := He.free_ok KX hG (c.fact 16 (f := .free "all") rfl)
  have h_bool : mg "bool" = none := He.free_ok KX hG (c.fact 17 (f := .free "bool") rfl)
  have h_divmod : mg "divmod" = none := He.free_ok KX hG (c.fact 18 (f := .free "divmod") rfl)
  have h_enumerate : mg "enumerate" = none := He.free_ok KX hG (c.fact 19 (f := .free "enumerate") rfl)
  have h_int : mg "int" = none := He.free_ok KX hG (c.fact 20 (f := .free "int") rfl)
  have h_isinstance : mg "isinstance" = none := He.free_ok KX hG (c.fact 21 (f := .free "isinstance") rfl)
  have h_len : mg "len" = none := He.free_ok KX hG (c.fact 22 (f := .free "len") rfl)
  have h_list : mg "list" = none := He.free_ok KX hG (c.fact 23 (f := .free "list") rfl)
  have h_max : mg "max" = none := He.free_ok KX hG (c.fact 24 (f := .free "max") rfl)
  have h_min : mg "min" = none := He.free_ok KX hG (c.fact 25 (f := .free "min") rfl)
  have h_range : mg "range" = none := He.free_ok KX hG (c.fact 26 (f := .free "range") rfl)
  have h_set : mg "set" = none := He.free_ok KX hG (c.fact 27 (f := .free "set") rfl)
  have h_sorted : mg "sorted" = none := He.free_ok KX hG (c.fact 28 (f := .free "sorted") rfl)
  have h_tuple : mg "tuple" = none := He.free_ok KX hG (c.fact 29 (f := .free "tuple") rfl)
  have e := hfa_.symm.trans g_law
  cases e
  have b := FunD.bindsA (ps := ["script"]) F_law fun _ _ _ _ _ _ us hl => match us, hl with | [_], _ => rfl
  refine ⟨fd_law, fun s v => b s [v] rfl, fun base _ _ => ?_⟩
  have c__law_cells : Cal ⟨P, w, K, mg⟩ base 1 "_law_cells" 2 m__law_cells := ok__law_cells F__law_cells g__law_cells h_len h_list h_max h_min h_range
  have c__law_pool : Cal ⟨P, w, K, mg⟩ base 1 "_law_pool" 1 m__law_pool := ok__law_pool F__law_pool g__law_pool h_abs h_int
  have c__law_take : Cal ⟨P, w, K, mg⟩ base 1 "_law_take" 2 m__law_take := ok__law_take F__law_take g__law_take h_divmod
  have c__law_sizes : Cal ⟨P, w, K, mg⟩ base 2 "_law_sizes" 1 m__law_sizes := ok__law_sizes F__law_sizes g__law_sizes c__law_take
  have c__law_known : Cal ⟨P, w, K, mg⟩ base 1 "_law_known" 0 m__law_known := ok__law_known F__law_known g__law_known 
  have c__law_written : Cal ⟨P, w, K, mg⟩ base 1 "_law_written" 1 m__law_written := ok__law_written F__law_written g__law_written 
  have c__law_grid : Cal ⟨P, w, K, mg⟩ base 2 "_law_grid" 1 m__law_grid := ok__law_grid F__law_grid g__law_grid h_len h_range h_set h_sorted h_tuple c__law_take c__law_known c__law_written
  have c__law_steps : Cal ⟨P, w, K, mg⟩ base 1 "_law_steps" 1 m__law_steps := ok__law_steps F__law_steps g__law_steps h_range
  have c__law_shells : Cal ⟨P, w, K, mg⟩ base 2 "_law_shells" 4 m__law_shells := ok__law_shells F__law_shells g__law_shells h_len c__law_steps
  have c_steps_from : Cal ⟨P, w, K, mg⟩ base 1 "steps_from" 2 m_steps_from := ok_steps_from F_steps_from g_steps_from 
  have c_beside : Cal ⟨P, w, K, mg⟩ base 2 "beside" 2 m_beside := ok_beside F_beside g_beside c_steps_from
  have c_wrapped_beside : Cal ⟨P, w, K, mg⟩ base 3 "wrapped_beside" 4 m_wrapped_beside := ok_wrapped_beside F_wrapped_beside g_wrapped_beside c_beside
  have c_wrapped_shells : Cal ⟨P, w, K, mg⟩ base 4 "wrapped_shells" 4 m_wrapped_shells := ok_wrapped_shells F_wrapped_shells g_wrapped_shells h_len c_wrapped_beside
  have c__law_whole : Cal ⟨P, w, K, mg⟩ base 1 "_law_whole" 1 m__law_whole := ok__law_whole F__law_whole g__law_whole h_bool h_int h_isinstance
  exact law_fn (fn_law F_law g_law h_all h_enumerate h_isinstance h_list h_range c__law_cells c__law_pool c__law_take c__law_sizes c__law_grid c__law_shells c_wrapped_shells c__law_whole)

end K73
namespace K73
open PySem Pm
theorem take_spec {S : Sto} {i : Nat} {many a b c : Int} {Q : W → Sto → Prop} (hS : S[i]? = some (.lst [.int a, .int b, .int c])) (hm : 0 < many) (hm2 : many < 1073741824) (ha : 0 ≤ a)
    (k : ∀ r a' b' c', 0 ≤ r → r < many → 0 ≤ a' → Q (.int r) (S.set i (.lst [.int a', .int b', .int c']))) : Ev (m__law_take [.ref i, .int many]) S Q := by
  unfold m__law_take b__law_take
  rw [ev_fn]
  simp only [ev_bind, ev_pure, ev_op2, ev_op1, ev_opN, ev_opNF, ev_opM, ev_set3, ev_isL, ev_isi, ev_asB, ev_ite, ev_toR, ev_toV, ev_seq, ev_set, ev_asg, ev_ret, ev_ifS, ev_nx, ev_and, ev_or, ev_not, ev_vAnd, ev_vNot, ev_C, ev_var, ev_name, ev_gnil, ev_gcons, ev_gTup, ev_tup, ev_lst, ev_call, ev_forC, ev_lcC, Pm.is_some, Pm.is_none, Pm.is_if, List.set_cons_zero, List.set_cons_succ, List.getElem?_cons_zero, List.getElem?_cons_succ, tCmp, cOp, cUn, tVal, aNil, aCons, cB, fB, cG, cP, fP, fOp, cSl, fSl, poN, poS, ev_slV, ev_slT, ev_slL, cLm, cLm0, cIsi, fSS, iSq, iR1, iR2, iR3, iEn, iZp, gSub, sEx, Pm.addV_int, Pm.sub_int, Pm.mul_int, Pm.gt_int, Pm.eq_int, Pm.ne_int, Pm.lt_int, Pm.le_int, Pm.ge_int, Pm.neg_int, Bool.not_true, Bool.not_false, if_true, if_false, decide_eq_true_eq, Bool.false_eq_true, reduceIte, List.map_cons, List.map_nil, List.length_cons, List.length_nil, List.replicate_succ, List.replicate_zero, List.cons_append, List.nil_append, Nat.reduceAdd, Nat.reduceSub, Nat.reduceLeDiff, Nat.reduceMul, true_and, and_true, List.append_nil, ix_ref hS, at3_0]
  by_cases h : 0 < a
  · have hd : divmodO S [.int a, .int many] = some (.tup [.int (a / many), .int (a % many)]) := if_pos ⟨hm, by omega⟩
    simp only [ev_bind, ev_pure, ev_op2, ev_op1, ev_opN, ev_opNF, ev_opM, ev_set3, ev_isL, ev_isi, ev_asB, ev_ite, ev_toR, ev_toV, ev_seq, ev_set, ev_asg, ev_ret, ev_ifS, ev_nx, ev_and, ev_or, ev_not, ev_vAnd, ev_vNot, ev_C, ev_var, ev_name, ev_gnil, ev_gcons, ev_gTup, ev_tup, ev_lst, ev_call, ev_forC, ev_lcC, Pm.is_some, Pm.is_none, Pm.is_if, List.set_cons_zero, List.set_cons_succ, List.getElem?_cons_zero, List.getElem?_cons_succ, tCmp, cOp, cUn, tVal, aNil, aCons, cB, fB, cG, cP, fP, fOp, cSl, fSl, poN, poS, ev_slV, ev_slT, ev_slL, cLm, cLm0, cIsi, fSS, iSq, iR1, iR2, iR3, iEn, iZp, gSub, sEx, Pm.addV_int, Pm.sub_int, Pm.mul_int, Pm.gt_int, Pm.eq_int, Pm.ne_int, Pm.lt_int, Pm.le_int, Pm.ge_int, Pm.neg_int, Bool.not_true, Bool.not_false, if_true, if_false, decide_eq_true_eq, Bool.false_eq_true, reduceIte, List.map_cons, List.map_nil, List.length_cons, List.length_nil, List.replicate_succ, List.replicate_zero, List.cons_append, List.nil_append, Nat.reduceAdd, Nat.reduceSub, Nat.reduceLeDiff, Nat.reduceMul, true_and, and_true, List.append_nil, ix_ref hS, at3_0, h, decide_true, hd, set_ref hS, ixN3_0]
    exact k _ _ _ _ (Int.emod_nonneg a (by omega)) (Int.emod_lt_of_pos a hm) (Int.ediv_nonneg ha (by omega))
  · have h1 := fmod_lo (a := b + 104729 * (c + 1) + 11) (b := 2147483629) (by decide)
    have h2 := fmod_hi (a := b + 104729 * (c + 1) + 11) (b := 2147483629) (by decide)
    have h3 := fun S' => pow_int5 (S := S') h1 (Int.lt_trans h2 (by decide))
    have h4 := fun S' x => fdiv_int (S := S') (a := x) (b := 64) (by decide)
    simp only [ev_bind, ev_pure, ev_op2, ev_op1, ev_opN, ev_opNF, ev_opM, ev_set3, ev_isL, ev_isi, ev_asB, ev_ite, ev_toR, ev_toV, ev_seq, ev_set, ev_asg, ev_ret, ev_ifS, ev_nx, ev_and, ev_or, ev_not, ev_vAnd, ev_vNot, ev_C, ev_var, ev_name, ev_gnil, ev_gcons, ev_gTup, ev_tup, ev_lst, ev_call, ev_forC, ev_lcC, Pm.is_some, Pm.is_none, Pm.is_if, List.set_cons_zero, List.set_cons_succ, List.getElem?_cons_zero, List.getElem?_cons_succ, tCmp, cOp, cUn, tVal, aNil, aCons, cB, fB, cG, cP, fP, fOp, cSl, fSl, poN, poS, ev_slV, ev_slT, ev_slL, cLm, cLm0, cIsi, fSS, iSq, iR1, iR2, iR3, iEn, iZp, gSub, sEx, Pm.addV_int, Pm.sub_int, Pm.mul_int, Pm.gt_int, Pm.eq_int, Pm.ne_int, Pm.lt_int, Pm.le_int, Pm.ge_int, Pm.neg_int, Bool.not_true, Bool.not_false, if_true, if_false, decide_eq_true_eq, Bool.false_eq_true, reduceIte, List.map_cons, List.map_nil, List.length_cons, List.length_nil, List.replicate_succ, List.replicate_zero, List.cons_append, List.nil_append, Nat.reduceAdd, Nat.reduceSub, Nat.reduceLeDiff, Nat.reduceMul, true_and, and_true, List.append_nil, ix_ref hS, at3_0, h, decide_false, at3_1, at3_2, set_ref hS, ixN3_2, ixN3_1, ix_ref (get_set hS), set_ref (get_set hS), List.set_set, mulOk_l (a := 104729) (b := c + 1) (by decide), mulOk_l (a := 7919) (b := c + 1) (by decide),
      mod_int (b := 2147483629) (by decide), mod_int (b := 2147483647) (by decide), mod_int (b := 2147483587) (by decide), h3, h4, mulOk_r (b := 69621) (by decide), mod_int (b := many) (by omega)]
    exact k _ _ _ _ (fmod_lo hm) (fmod_hi hm) ha
/-- the pool at i -/
def Pool (S : Sto) (i : Nat) : Prop := ∃ a b c : Int, 0 ≤ a ∧ S[i]? = some (.lst [.int a, .int b, .int c])
/-- a digit drawn: the pool alone has changed -/
theorem take_ev {S : Sto} {i : Nat} {many : Int} {Q : W → Sto → Prop} (h : Pool S i) (hm : 0 < many) (hm2 : many < 1073741824)
    (k : ∀ r S', 0 ≤ r → r < many → Pool S' i → S'.length = S.length → (∀ j, j ≠ i → S'[j]? = S[j]?) → Q (.int r) S') : Ev (m__law_take [.ref i, .int many]) S Q := by
  obtain ⟨a, b, c, ha, hS⟩ := h
  exact take_spec hS hm hm2 ha fun r a' b' c' h1 h2 h3 => k r _ h1 h2 ⟨a', b', c', h3, get_set hS⟩ (List.length_set ..) fun j hj => List.getElem?_set_ne (Ne.symm hj)
theorem sizes_ev {S : Sto} {i : Nat} {Q : W → Sto → Prop} (h : Pool S i) (k : ∀ m n S', 1 ≤ m → m ≤ 12 → 1 ≤ n → n ≤ 12 → Pool S' i → S'.length = S.length → (∀ j, j ≠ i → S'[j]? = S[j]?) → Q (.tup [.int m, .int n]) S') : Ev (m__law_sizes [.ref i]) S Q := by
  unfold m__law_sizes b__law_sizes
  rw [ev_fn]
  simp only [ev_bind, ev_pure, ev_op2, ev_op1, ev_opN, ev_opNF, ev_opM, ev_set3, ev_isL, ev_isi, ev_asB, ev_ite, ev_toR, ev_toV, ev_seq, ev_set, ev_asg, ev_ret, ev_ifS, ev_nx, ev_and, ev_or, ev_not, ev_vAnd, ev_vNot, ev_C, ev_var, ev_name, ev_gnil, ev_gcons, ev_gTup, ev_tup, ev_lst, ev_call, ev_forC, ev_lcC, Pm.is_some, Pm.is_none, Pm.is_if, List.set_cons_zero, List.set_cons_succ, List.getElem?_cons_zero, List.getElem?_cons_succ, tCmp, cOp, cUn, tVal, aNil, aCons, cB, fB, cG, cP, fP, fOp, cSl, fSl, poN, poS, ev_slV, ev_slT, ev_slL, cLm, cLm0, cIsi, fSS, iSq, iR1, iR2, iR3, iEn, iZp, gSub, sEx, Pm.addV_int, Pm.sub_int, Pm.mul_int, Pm.gt_int, Pm.eq_int, Pm.ne_int, Pm.lt_int, Pm.le_int, Pm.ge_int, Pm.neg_int, Bool.not_true, Bool.not_false, if_true, if_false, decide_eq_true_eq, Bool.false_eq_true, reduceIte, List.map_cons, List.map_nil, List.length_cons, List.length_nil, List.replicate_succ, List.replicate_zero, List.cons_append, List.nil_append, Nat.reduceAdd, Nat.reduceSub, Nat.reduceLeDiff, Nat.reduceMul, true_and, and_true, List.append_nil]
  refine take_ev h (by decide) (by decide) fun way S1 a1 a2 p1 l1 o1 => ?_
  refine take_ev p1 (by decide) (by decide) fun m S2 b1 b2 p2 l2 o2 => ?_
  try simp only [ev_bind, ev_pure, ev_op2, ev_op1, ev_opN, ev_opNF, ev_opM, ev_set3, ev_isL, ev_isi, ev_asB, ev_ite, ev_toR, ev_toV, ev_seq, ev_set, ev_asg, ev_ret, ev_ifS, ev_nx, ev_and, ev_or, ev_not, ev_vAnd, ev_vNot, ev_C, ev_var, ev_name, ev_gnil, ev_gcons, ev_gTup, ev_tup, ev_lst, ev_call, ev_forC, ev_lcC, Pm.is_some, Pm.is_none, Pm.is_if, List.set_cons_zero, List.set_cons_succ, List.getElem?_cons_zero, List.getElem?_cons_succ, tCmp, cOp, cUn, tVal, aNil, aCons, cB, fB, cG, cP, fP, fOp, cSl, fSl, poN, poS, ev_slV, ev_slT, ev_slL, cLm, cLm0, cIsi, fSS, iSq, iR1, iR2, iR3, iEn, iZp, gSub, sEx, Pm.addV_int, Pm.sub_int, Pm.mul_int, Pm.gt_int, Pm.eq_int, Pm.ne_int, Pm.lt_int, Pm.le_int, Pm.ge_int, Pm.neg_int, Bool.not_true, Bool.not_false, if_true, if_false, decide_eq_true_eq, Bool.false_eq_true, reduceIte, List.map_cons, List.map_nil, List.length_cons, List.length_nil, List.replicate_succ, List.replicate_zero, List.cons_append, List.nil_append, Nat.reduceAdd, Nat.reduceSub, Nat.reduceLeDiff, Nat.reduceMul, true_and, and_true, List.append_nil]
  refine take_ev p2 (by decide) (by decide) fun n S3 c1 c2 p3 l3 o3 => ?_
  have fin : ∀ x y : Int, 1 ≤ x → x ≤ 12 → 1 ≤ y → y ≤ 12 → Q (.tup [.int x, .int y]) S3 := fun x y h1 h2 h3 h4 => k x y S3 h1 h2 h3 h4 p3 (by omega) fun j hj => by rw [o3 j hj, o2 j hj, o1 j hj]
  have m1 := fmod_lo (a := 1 + m) (b := 5) (by decide)
  have m2 := fmod_hi (a := 1 + m) (b := 5) (by decide)
  have n1 := fmod_lo (a := 1 + n) (b := 5) (by decide)
  have n2 := fmod_hi (a := 1 + n) (b := 5) (by decide)
  simp only [ev_bind, ev_pure, ev_op2, ev_op1, ev_opN, ev_opNF, ev_opM, ev_set3, ev_isL, ev_isi, ev_asB, ev_ite, ev_toR, ev_toV, ev_seq, ev_set, ev_asg, ev_ret, ev_ifS, ev_nx, ev_and, ev_or, ev_not, ev_vAnd, ev_vNot, ev_C, ev_var, ev_name, ev_gnil, ev_gcons, ev_gTup, ev_tup, ev_lst, ev_call, ev_forC, ev_lcC, Pm.is_some, Pm.is_none, Pm.is_if, List.set_cons_zero, List.set_cons_succ, List.getElem?_cons_zero, List.getElem?_cons_succ, tCmp, cOp, cUn, tVal, aNil, aCons, cB, fB, cG, cP, fP, fOp, cSl, fSl, poN, poS, ev_slV, ev_slT, ev_slL, cLm, cLm0, cIsi, fSS, iSq, iR1, iR2, iR3, iEn, iZp, gSub, sEx, Pm.addV_int, Pm.sub_int, Pm.mul_int, Pm.gt_int, Pm.eq_int, Pm.ne_int, Pm.lt_int, Pm.le_int, Pm.ge_int, Pm.neg_int, Bool.not_true, Bool.not_false, if_true, if_false, decide_eq_true_eq, Bool.false_eq_true, reduceIte, List.map_cons, List.map_nil, List.length_cons, List.length_nil, List.replicate_succ, List.replicate_zero, List.cons_append, List.nil_append, Nat.reduceAdd, Nat.reduceSub, Nat.reduceLeDiff, Nat.reduceMul, true_and, and_true, List.append_nil, mod_int (b := 5) (by decide)]
  have hw : way = 0 ∨ way = 1 ∨ way = 2 ∨ way = 3 := by omega
  rcases hw with rfl | rfl | rfl | rfl
  · exact ⟨_, rfl, fin _ _ (by omega) (by omega) (by omega) (by omega)⟩
  · exact ⟨_, rfl, fin _ _ (by omega) (by omega) (by omega) (by omega)⟩
  · exact ⟨_, rfl, fin _ _ (by omega) (by omega) (by omega) (by omega)⟩
  · exact ⟨_, rfl, fin _ _ (by omega) (by omega) (by omega) (by omega)⟩

/-! ### ties, places -/
abbrev T4 := Int × Int × Int × Int
abbrev T3 := Int × Int × Int
def w4 (t : T4) : W := .tup [.int t.1, .int t.2.1, .int t.2.2.1, .int t.2.2.2]
def w3 (t : T3) : W := .tup [.int t.1, .int t.2.1, .int t.2.2]
def gridW (places : Int) (ties : List T4) : W := .tup [.int places, .tup (ties.map w4)]
def one (p : Int) (t : T4) : List T3 := (if t.1 = p then [(t.2.1, t.2.2.1, t.2.2.2)] else []) ++ if t.2.1 = p then [(t.1, 0 - t.2.2.1, 0 - t.2.2.2)] else []
def stepsOf (ties : List T4) (p : Int) : List T3 := ties.flatMap (one p)
theorem stepsOf_take {ties : List T4} {p : Int} {i : Nat} {t : T4} (h : ties[i]? = some t) : stepsOf (ties.take (i + 1)) p = stepsOf (ties.take i) p ++ one p t := by
  unfold stepsOf
  rw [List.take_add_one, h, List.flatMap_append]
  simp
theorem one_len (p : Int) (t : T4) : (one p t).length ≤ 2 := by
  unfold one
  split <;> split <;> simp
theorem stepsOf_len (p : Int) : ∀ ties : List T4, (stepsOf ties p).length ≤ 2 * ties.length
  | [] => by simp [stepsOf]
  | t :: r => by
    have h1 := stepsOf_len p r
    have h2 := one_len p t
    unfold stepsOf at h1 ⊢
    rw [List.flatMap_cons, List.length_append, List.length_cons]
    omega
theorem seq_tup {ws : List W} {S : Sto} {Q : Gen → Sto → Prop} (h : Q (fun i _ => some ws[i]?) S) : Ev (seqI (.tup ws)) S Q := ⟨_, S, rfl, h⟩
theorem seq_vl {ws : List W} {S : Sto} {Q : Gen → Sto → Prop} (h : Q (fun i _ => some ws[i]?) S) : Ev (seqI (.vl ws)) S Q := ⟨_, S, rfl, h⟩
theorem app_ref {S : Sto} {k : Nat} {ws : List W} {y : W} (h : S[k]? = some (.lst ws)) (hl : ws.length < 16777216) : appO S (.ref k) [y] = some (.non, S.set k (.lst (ws ++ [y]))) := by
  unfold appO
  simp only [h]
  rw [if_pos hl]
theorem lst_ref {S : Sto} {k : Nat} {ws : List W} (h : S[k]? = some (.lst ws)) : lstO S (.ref k) = some ws := by
  unfold lstO
  simp only [h]
theorem steps_ev {places : Int} {ties : List T4} {p : Int} (hl : ties.length < 1000) : Ev (m_steps_from [gridW places ties, .int p]) [] fun w S' => w = .ref 0 ∧ S' = [.lst ((stepsOf ties p).map w3)] := by
  unfold m_steps_from b_steps_from
  rw [ev_fn]
  simp only [ev_bind, ev_pure, ev_op2, ev_op1, ev_opN, ev_opNF, ev_opM, ev_set3, ev_isL, ev_isi, ev_asB, ev_ite, ev_toR, ev_toV, ev_seq, ev_set, ev_asg, ev_ret, ev_ifS, ev_nx, ev_and, ev_or, ev_not, ev_vAnd, ev_vNot, ev_C, ev_var, ev_name, ev_gnil, ev_gcons, ev_gTup, ev_tup, ev_lst, ev_call, ev_forC, ev_lcC, Pm.is_some, Pm.is_none, Pm.is_if, List.set_cons_zero, List.set_cons_succ, List.getElem?_cons_zero, List.getElem?_cons_succ, tCmp, cOp, cUn, tVal, aNil, aCons, cB, fB, cG, cP, fP, fOp, cSl, fSl, poN, poS, ev_slV, ev_slT, ev_slL, cLm, cLm0, cIsi, fSS, iSq, iR1, iR2, iR3, iEn, iZp, gSub, sEx, Pm.addV_int, Pm.sub_int, Pm.mul_int, Pm.gt_int, Pm.eq_int, Pm.ne_int, Pm.lt_int, Pm.le_int, Pm.ge_int, Pm.neg_int, Bool.not_true, Bool.not_false, if_true, if_false, decide_eq_true_eq, Bool.false_eq_true, reduceIte, List.map_cons, List.map_nil, List.length_cons, List.length_nil, List.replicate_succ, List.replicate_zero, List.cons_append, List.nil_append, Nat.reduceAdd, Nat.reduceSub, Nat.reduceLeDiff, Nat.reduceMul, true_and, and_true, List.append_nil, gridW, show ∀ (S : Sto) (a b : W), ixAO S (.tup [a, b]) (.int 1) = some b from fun _ _ _ => rfl]
  refine seq_tup ?_
  refine ev_for0 (fun i ρ S => (∃ a b x y, ρ = [some (gridW places ties), some (.int p), some (.ref 0), a, b, x, y]) ∧ S = [.lst ((stepsOf (ties.take i) p).map w3)]) ties.length (by omega) ⟨⟨_, _, _, _, rfl⟩, by simp [stepsOf]⟩ ?_ ?_
  · rintro i ρ S hi ⟨⟨a0, b0, x0, y0, rfl⟩, rfl⟩
    rcases ht : ties[i] with ⟨a, b, x, y⟩
    have hg : ties[i]? = some (a, b, x, y) := by rw [List.getElem?_eq_getElem hi, ht]
    refine ⟨w4 (a, b, x, y), by rw [List.getElem?_map, hg]; rfl, ?_⟩
    have hlen := stepsOf_len p (ties.take i)
    rw [List.length_take] at hlen
    have ha := fun y => app_ref (S := [.lst ((stepsOf (ties.take i) p).map w3)]) (k := 0) (y := y) rfl (by rw [List.length_map]; omega)
    have hb := fun z y => app_ref (S := [.lst ((stepsOf (ties.take i) p).map w3 ++ [z])]) (k := 0) (y := y) rfl (by rw [List.length_append, List.length_map, List.length_singleton]; omega)
    unfold w4
    simp only [ev_bind, ev_pure, ev_op2, ev_op1, ev_opN, ev_opNF, ev_opM, ev_set3, ev_isL, ev_isi, ev_asB, ev_ite, ev_toR, ev_toV, ev_seq, ev_set, ev_asg, ev_ret, ev_ifS, ev_nx, ev_and, ev_or, ev_not, ev_vAnd, ev_vNot, ev_C, ev_var, ev_name, ev_gnil, ev_gcons, ev_gTup, ev_tup, ev_lst, ev_call, ev_forC, ev_lcC, Pm.is_some, Pm.is_none, Pm.is_if, List.set_cons_zero, List.set_cons_succ, List.getElem?_cons_zero, List.getElem?_cons_succ, tCmp, cOp, cUn, tVal, aNil, aCons, cB, fB, cG, cP, fP, fOp, cSl, fSl, poN, poS, ev_slV, ev_slT, ev_slL, cLm, cLm0, cIsi, fSS, iSq, iR1, iR2, iR3, iEn, iZp, gSub, sEx, Pm.addV_int, Pm.sub_int, Pm.mul_int, Pm.gt_int, Pm.eq_int, Pm.ne_int, Pm.lt_int, Pm.le_int, Pm.ge_int, Pm.neg_int, Bool.not_true, Bool.not_false, if_true, if_false, decide_eq_true_eq, Bool.false_eq_true, reduceIte, List.map_cons, List.map_nil, List.length_cons, List.length_nil, List.replicate_succ, List.replicate_zero, List.cons_append, List.nil_append, Nat.reduceAdd, Nat.reduceSub, Nat.reduceLeDiff, Nat.reduceMul, true_and, and_true, List.append_nil, ha, hb, lst_ref (S := [.lst ((stepsOf (ties.take i) p).map w3)]) (k := 0) rfl]
    rw [stepsOf_take hg]
    unfold one
    have fin : ∀ l, l = List.map w3 (stepsOf (List.take i ties) p ++ ((if a = p then [(b, x, y)] else []) ++ if b = p then [(a, 0 - x, 0 - y)] else [])) → (True ∨ Fl.nx = Fl.ct) ∧ (∃ a_1 b_1 x_1 y_1, [some (gridW places ties), some (W.int p), some (W.ref 0), some (W.int a), some (W.int b), some (W.int x), some (W.int y)] = [some (gridW places ties), some (W.int p), some (W.ref 0), a_1, b_1, x_1, y_1]) ∧ [O.lst l] = [O.lst (List.map w3 (stepsOf (List.take i ties) p ++ ((if a = p then [(b, x, y)] else []) ++ if b = p then [(a, 0 - x, 0 - y)] else [])))] :=
      fun l hl => ⟨.inl trivial, ⟨_, _, _, _, rfl⟩, by rw [hl]⟩
    by_cases h1 : a = p
    · rw [if_pos h1]
      refine ⟨rfl, ?_⟩
      by_cases h2 : b = p
      · rw [if_pos h2]
        exact ⟨rfl, fin _ (by simp [h1, h2, w3])⟩
      · rw [if_neg h2]
        exact fin _ (by simp [h1, h2, w3])
    · rw [if_neg h1]
      by_cases h2 : b = p
      · rw [if_pos h2]
        exact ⟨rfl, fin _ (by simp [h1, h2, w3])⟩
      · rw [if_neg h2]
        exact fin _ (by simp [h1, h2])
  · rintro ρ S ⟨⟨a0, b0, x0, y0, rfl⟩, rfl⟩
    refine ⟨by simp, ?_⟩
    simp only [ev_bind, ev_pure, ev_op2, ev_op1, ev_opN, ev_opNF, ev_opM, ev_set3, ev_isL, ev_isi, ev_asB, ev_ite, ev_toR, ev_toV, ev_seq, ev_set, ev_asg, ev_ret, ev_ifS, ev_nx, ev_and, ev_or, ev_not, ev_vAnd, ev_vNot, ev_C, ev_var, ev_name, ev_gnil, ev_gcons, ev_gTup, ev_tup, ev_lst, ev_call, ev_forC, ev_lcC, Pm.is_some, Pm.is_none, Pm.is_if, List.set_cons_zero, List.set_cons_succ, List.getElem?_cons_zero, List.getElem?_cons_succ, tCmp, cOp, cUn, tVal, aNil, aCons, cB, fB, cG, cP, fP, fOp, cSl, fSl, poN, poS, ev_slV, ev_slT, ev_slL, cLm, cLm0, cIsi, fSS, iSq, iR1, iR2, iR3, iEn, iZp, gSub, sEx, Pm.addV_int, Pm.sub_int, Pm.mul_int, Pm.gt_int, Pm.eq_int, Pm.ne_int, Pm.lt_int, Pm.le_int, Pm.ge_int, Pm.neg_int, Bool.not_true, Bool.not_false, if_true, if_false, decide_eq_true_eq, Bool.false_eq_true, reduceIte, List.map_cons, List.map_nil, List.length_cons, List.length_nil, List.replicate_succ, List.replicate_zero, List.cons_append, List.nil_append, Nat.reduceAdd, Nat.reduceSub, Nat.reduceLeDiff, Nat.reduceMul, true_and, and_true, List.append_nil, List.take_length]
/-! values without references -/
theorem mapO_id {α : Type} {f : α → Option α} : ∀ {l : List α}, (∀ x ∈ l, f x = some x) → mapO f l = some l
  | [], _ => rfl
  | x :: l, h => by
    unfold mapO
    rw [h x List.mem_cons_self, mapO_id fun y hy => h y (List.mem_cons_of_mem _ hy)]
theorem frz_pure (S : Sto) : ∀ (n : Nat) {w : W}, pureW n w = true → frz S n w = some w
  | 0, _, h => by cases h
  | n + 1, w, h => by
    unfold pureW at h
    unfold frz
    cases w with
    | tup ws =>
      simp only at h ⊢
      rw [mapO_id fun x hx => frz_pure S n (List.all_eq_true.mp h x hx)]
      rfl
    | vl _ => cases h
    | vd _ => cases h
    | ref _ => cases h
    | fn _ => cases h
    | _ => rfl
theorem frz_ref {S : Sto} {i : Nat} {ws : List W} (h : S[i]? = some (.lst ws)) (hp : ∀ w ∈ ws, pureW 19 w = true) : frz S DEP (.ref i) = some (.vl ws) := by
  show frz S (19 + 1) (.ref i) = _
  unfold frz
  simp only [h]
  rw [mapO_id fun x hx => frz_pure S 19 (hp x hx)]
  rfl
theorem rfree_pure : ∀ (n : Nat) {w : W}, pureW n w = true → rfree n w = true
  | 0, _, h => by cases h
  | n + 1, w, h => by
    unfold pureW at h
    unfold rfree
    cases w with
    | tup ws => exact List.all_eq_true.mpr fun x hx => rfree_pure n (List.all_eq_true.mp h x hx)
    | vl _ => cases h
    | vd _ => cases h
    | ref _ => cases h
    | fn _ => cases h
    | _ => rfl
theorem pure_int (n : Nat) (i : Int) : pureW (n + 1) (.int i) = true := rfl
theorem pure_w3 (n : Nat) (t : T3) : pureW (n + 2) (w3 t) = true := rfl
theorem pure_w4 (n : Nat) (t : T4) : pureW (n + 2) (w4 t) = true := rfl
theorem pure_grid (n : Nat) (places : Int) (ties : List T4) : pureW (n + 4) (gridW places ties) = true := by
  unfold gridW
  show ([W.int places, .tup (ties.map w4)].all (pureW (n + 3))) = true
  simp only [List.all_cons, List.all_nil, Bool.and_true, Bool.and_eq_true]
  refine ⟨rfl, ?_⟩
  show ((ties.map w4).all (pureW (n + 2))) = true
  rw [List.all_eq_true]
  intro x hx
  obtain ⟨t, _, rfl⟩ := List.mem_map.mp hx
  exact pure_w4 n t
theorem free_args {l : List W} (h : ∀ w ∈ l, pureW DEP w = true) : l.all (rfree DEP) = true := List.all_eq_true.mpr fun w hw => rfree_pure DEP (h w hw)
/-- the neighbours of a place, round about -/
def nbs (ties : List T4) (m n : Int) (t : T3) : List T3 := (stepsOf ties t.1).map fun s => (s.1, (t.2.1 + s.2.1).fmod m, (t.2.2 + s.2.2).fmod n)
theorem ev_lc_map {α : Type} {gm : Gm} {ct : Rho → M Bool} {ce : Rho → M W} {ρ : Rho} {S : Sto} {Q : O → Sto → Prop} {l : List α} {enc out : α → W} (hl : l.length < 16777216)
    (h : ∀ x ∈ l, Ev (gm (enc x) ρ) S fun ρ1 S1 => Ev (ct ρ1) S1 fun b S2 => b = true ∧ Ev (ce ρ1) S2 fun y S3 => y = out x ∧ S3 = S) (q : Q (.lst (l.map out)) S) : Ev (lcM (fun i _ => some (l.map enc)[i]?) gm ct ce ρ FUEL 0 []) S Q := by
  refine ev_lc0 (fun i acc S' => acc = (l.take i).map out ∧ S' = S) l.length hl ⟨rfl, rfl⟩ ?_ ?_
  · rintro i acc S' hi _ ⟨rfl, rfl⟩
    have hx : l[i]? = some l[i] := List.getElem?_eq_getElem hi
    refine ⟨enc l[i], by rw [List.getElem?_map, hx]; rfl, (h l[i] (List.getElem_mem hi)).mono fun ρ1 S1 h1 => h1.mono fun b S2 h2 => ?_⟩
    rw [if_pos h2.1]
    refine h2.2.mono fun y S3 h3 => ⟨?_, h3.2⟩
    rw [h3.1, List.take_add_one, hx, List.map_append]
    rfl
  · rintro acc S' ⟨rfl, rfl⟩
    refine ⟨by simp, ?_⟩
    rw [List.take_length]
    exact q
theorem beside_ev {places : Int} {ties : List T4} {t : T3} (hl : ties.length < 1000) : Ev (m_beside [gridW places ties, w3 t]) [] fun w S' => w = .vl ((stepsOf ties t.1).map fun s => w3 (s.1, t.2.1 + s.2.1, t.2.2 + s.2.2)) ∧ S' = [] := by
  unfold m_beside b_beside
  rw [ev_fn]
  unfold w3
  simp only [ev_bind, ev_pure, ev_op2, ev_op1, ev_opN, ev_opNF, ev_opM, ev_set3, ev_isL, ev_isi, ev_asB, ev_ite, ev_toR, ev_toV, ev_seq, ev_set, ev_asg, ev_ret, ev_ifS, ev_nx, ev_and, ev_or, ev_not, ev_vAnd, ev_vNot, ev_C, ev_var, ev_name, ev_gnil, ev_gcons, ev_gTup, ev_tup, ev_lst, ev_call, ev_forC, ev_lcC, Pm.is_some, Pm.is_none, Pm.is_if, List.set_cons_zero, List.set_cons_succ, List.getElem?_cons_zero, List.getElem?_cons_succ, tCmp, cOp, cUn, tVal, aNil, aCons, cB, fB, cG, cP, fP, fOp, cSl, fSl, poN, poS, ev_slV, ev_slT, ev_slL, cLm, cLm0, cIsi, fSS, iSq, iR1, iR2, iR3, iEn, iZp, gSub, sEx, Pm.addV_int, Pm.sub_int, Pm.mul_int, Pm.gt_int, Pm.eq_int, Pm.ne_int, Pm.lt_int, Pm.le_int, Pm.ge_int, Pm.neg_int, Bool.not_true, Bool.not_false, if_true, if_false, decide_eq_true_eq, Bool.false_eq_true, reduceIte, List.map_cons, List.map_nil, List.length_cons, List.length_nil, List.replicate_succ, List.replicate_zero, List.cons_append, List.nil_append, Nat.reduceAdd, Nat.reduceSub, Nat.reduceLeDiff, Nat.reduceMul, true_and, and_true, List.append_nil]
  have hlen := stepsOf_len t.1 ties
  refine ev_pcall rfl (free_args fun w hw => ?_) ?_
  · rcases List.mem_cons.mp hw with rfl | hw
    · exact pure_grid 16 places ties
    · rw [List.mem_singleton.mp hw]; rfl
  · refine (steps_ev hl).mono ?_
    rintro w S' ⟨rfl, rfl⟩
    rw [frz_ref (ws := (stepsOf ties t.1).map w3) rfl fun w hw => by
      obtain ⟨s, _, rfl⟩ := List.mem_map.mp hw
      exact pure_w3 17 s]
    simp only [ev_bind, ev_pure, ev_op2, ev_op1, ev_opN, ev_opNF, ev_opM, ev_set3, ev_isL, ev_isi, ev_asB, ev_ite, ev_toR, ev_toV, ev_seq, ev_set, ev_asg, ev_ret, ev_ifS, ev_nx, ev_and, ev_or, ev_not, ev_vAnd, ev_vNot, ev_C, ev_var, ev_name, ev_gnil, ev_gcons, ev_gTup, ev_tup, ev_lst, ev_call, ev_forC, ev_lcC, Pm.is_some, Pm.is_none, Pm.is_if, List.set_cons_zero, List.set_cons_succ, List.getElem?_cons_zero, List.getElem?_cons_succ, tCmp, cOp, cUn, tVal, aNil, aCons, cB, fB, cG, cP, fP, fOp, cSl, fSl, poN, poS, ev_slV, ev_slT, ev_slL, cLm, cLm0, cIsi, fSS, iSq, iR1, iR2, iR3, iEn, iZp, gSub, sEx, Pm.addV_int, Pm.sub_int, Pm.mul_int, Pm.gt_int, Pm.eq_int, Pm.ne_int, Pm.lt_int, Pm.le_int, Pm.ge_int, Pm.neg_int, Bool.not_true, Bool.not_false, if_true, if_false, decide_eq_true_eq, Bool.false_eq_true, reduceIte, List.map_cons, List.map_nil, List.length_cons, List.length_nil, List.replicate_succ, List.replicate_zero, List.cons_append, List.nil_append, Nat.reduceAdd, Nat.reduceSub, Nat.reduceLeDiff, Nat.reduceMul, true_and, and_true, List.append_nil]
    refine seq_vl ?_
    refine ev_lc_map (out := fun s => .tup [.int s.1, .int (t.2.1 + s.2.1), .int (t.2.2 + s.2.2)]) (by omega) (fun s hs => ?_) ⟨rfl, rfl⟩
    unfold w3
    simp only [ev_bind, ev_pure, ev_op2, ev_op1, ev_opN, ev_opNF, ev_opM, ev_set3, ev_isL, ev_isi, ev_asB, ev_ite, ev_toR, ev_toV, ev_seq, ev_set, ev_asg, ev_ret, ev_ifS, ev_nx, ev_and, ev_or, ev_not, ev_vAnd, ev_vNot, ev_C, ev_var, ev_name, ev_gnil, ev_gcons, ev_gTup, ev_tup, ev_lst, ev_call, ev_forC, ev_lcC, Pm.is_some, Pm.is_none, Pm.is_if, List.set_cons_zero, List.set_cons_succ, List.getElem?_cons_zero, List.getElem?_cons_succ, tCmp, cOp, cUn, tVal, aNil, aCons, cB, fB, cG, cP, fP, fOp, cSl, fSl, poN, poS, ev_slV, ev_slT, ev_slL, cLm, cLm0, cIsi, fSS, iSq, iR1, iR2, iR3, iEn, iZp, gSub, sEx, Pm.addV_int, Pm.sub_int, Pm.mul_int, Pm.gt_int, Pm.eq_int, Pm.ne_int, Pm.lt_int, Pm.le_int, Pm.ge_int, Pm.neg_int, Bool.not_true, Bool.not_false, if_true, if_false, decide_eq_true_eq, Bool.false_eq_true, reduceIte, List.map_cons, List.map_nil, List.length_cons, List.length_nil, List.replicate_succ, List.replicate_zero, List.cons_append, List.nil_append, Nat.reduceAdd, Nat.reduceSub, Nat.reduceLeDiff, Nat.reduceMul, true_and, and_true, List.append_nil, wipeR, cYes]
theorem wrapped_beside_ev {places : Int} {ties : List T4} {t : T3} {m n : Int} (hl : ties.length < 1000) (hm : 0 < m) (hn : 0 < n) : Ev (m_wrapped_beside [gridW places ties, w3 t, .int m, .int n]) [] fun w S' => w = .vl ((nbs ties m n t).map w3) ∧ S' = [] := by
  unfold m_wrapped_beside b_wrapped_beside
  rw [ev_fn]
  simp only [ev_bind, ev_pure, ev_op2, ev_op1, ev_opN, ev_opNF, ev_opM, ev_set3, ev_isL, ev_isi, ev_asB, ev_ite, ev_toR, ev_toV, ev_seq, ev_set, ev_asg, ev_ret, ev_ifS, ev_nx, ev_and, ev_or, ev_not, ev_vAnd, ev_vNot, ev_C, ev_var, ev_name, ev_gnil, ev_gcons, ev_gTup, ev_tup, ev_lst, ev_call, ev_forC, ev_lcC, Pm.is_some, Pm.is_none, Pm.is_if, List.set_cons_zero, List.set_cons_succ, List.getElem?_cons_zero, List.getElem?_cons_succ, tCmp, cOp, cUn, tVal, aNil, aCons, cB, fB, cG, cP, fP, fOp, cSl, fSl, poN, poS, ev_slV, ev_slT, ev_slL, cLm, cLm0, cIsi, fSS, iSq, iR1, iR2, iR3, iEn, iZp, gSub, sEx, Pm.addV_int, Pm.sub_int, Pm.mul_int, Pm.gt_int, Pm.eq_int, Pm.ne_int, Pm.lt_int, Pm.le_int, Pm.ge_int, Pm.neg_int, Bool.not_true, Bool.not_false, if_true, if_false, decide_eq_true_eq, Bool.false_eq_true, reduceIte, List.map_cons, List.map_nil, List.length_cons, List.length_nil, List.replicate_succ, List.replicate_zero, List.cons_append, List.nil_append, Nat.reduceAdd, Nat.reduceSub, Nat.reduceLeDiff, Nat.reduceMul, true_and, and_true, List.append_nil]
  have hlen := stepsOf_len t.1 ties
  refine ev_pcall rfl (free_args fun w hw => ?_) ?_
  · rcases List.mem_cons.mp hw with rfl | hw
    · exact pure_grid 16 places ties
    · rw [List.mem_singleton.mp hw]; rfl
  · refine (beside_ev hl).mono ?_
    rintro w S' ⟨rfl, rfl⟩
    have hf : frz [] DEP (.vl ((stepsOf ties t.1).map fun s => w3 (s.1, t.2.1 + s.2.1, t.2.2 + s.2.2))) = some (.vl ((stepsOf ties t.1).map fun s => w3 (s.1, t.2.1 + s.2.1, t.2.2 + s.2.2))) := by
      show ((mapO (frz [] 19) _).map W.vl) = _
      rw [mapO_id fun x hx => ?_]
      · rfl
      · obtain ⟨s, _, rfl⟩ := List.mem_map.mp hx
        exact frz_pure [] 19 (pure_w3 17 _)
    rw [hf]
    simp only [ev_bind, ev_pure, ev_op2, ev_op1, ev_opN, ev_opNF, ev_opM, ev_set3, ev_isL, ev_isi, ev_asB, ev_ite, ev_toR, ev_toV, ev_seq, ev_set, ev_asg, ev_ret, ev_ifS, ev_nx, ev_and, ev_or, ev_not, ev_vAnd, ev_vNot, ev_C, ev_var, ev_name, ev_gnil, ev_gcons, ev_gTup, ev_tup, ev_lst, ev_call, ev_forC, ev_lcC, Pm.is_some, Pm.is_none, Pm.is_if, List.set_cons_zero, List.set_cons_succ, List.getElem?_cons_zero, List.getElem?_cons_succ, tCmp, cOp, cUn, tVal, aNil, aCons, cB, fB, cG, cP, fP, fOp, cSl, fSl, poN, poS, ev_slV, ev_slT, ev_slL, cLm, cLm0, cIsi, fSS, iSq, iR1, iR2, iR3, iEn, iZp, gSub, sEx, Pm.addV_int, Pm.sub_int, Pm.mul_int, Pm.gt_int, Pm.eq_int, Pm.ne_int, Pm.lt_int, Pm.le_int, Pm.ge_int, Pm.neg_int, Bool.not_true, Bool.not_false, if_true, if_false, decide_eq_true_eq, Bool.false_eq_true, reduceIte, List.map_cons, List.map_nil, List.length_cons, List.length_nil, List.replicate_succ, List.replicate_zero, List.cons_append, List.nil_append, Nat.reduceAdd, Nat.reduceSub, Nat.reduceLeDiff, Nat.reduceMul, true_and, and_true, List.append_nil]
    refine seq_vl ?_
    refine ev_lc_map (l := stepsOf ties t.1) (enc := fun s => w3 (s.1, t.2.1 + s.2.1, t.2.2 + s.2.2)) (out := fun s => w3 (s.1, (t.2.1 + s.2.1).fmod m, (t.2.2 + s.2.2).fmod n)) (by omega) (fun s hs => ?_) ⟨?_, rfl⟩
    · unfold w3
      simp only [ev_bind, ev_pure, ev_op2, ev_op1, ev_opN, ev_opNF, ev_opM, ev_set3, ev_isL, ev_isi, ev_asB, ev_ite, ev_toR, ev_toV, ev_seq, ev_set, ev_asg, ev_ret, ev_ifS, ev_nx, ev_and, ev_or, ev_not, ev_vAnd, ev_vNot, ev_C, ev_var, ev_name, ev_gnil, ev_gcons, ev_gTup, ev_tup, ev_lst, ev_call, ev_forC, ev_lcC, Pm.is_some, Pm.is_none, Pm.is_if, List.set_cons_zero, List.set_cons_succ, List.getElem?_cons_zero, List.getElem?_cons_succ, tCmp, cOp, cUn, tVal, aNil, aCons, cB, fB, cG, cP, fP, fOp, cSl, fSl, poN, poS, ev_slV, ev_slT, ev_slL, cLm, cLm0, cIsi, fSS, iSq, iR1, iR2, iR3, iEn, iZp, gSub, sEx, Pm.addV_int, Pm.sub_int, Pm.mul_int, Pm.gt_int, Pm.eq_int, Pm.ne_int, Pm.lt_int, Pm.le_int, Pm.ge_int, Pm.neg_int, Bool.not_true, Bool.not_false, if_true, if_false, decide_eq_true_eq, Bool.false_eq_true, reduceIte, List.map_cons, List.map_nil, List.length_cons, List.length_nil, List.replicate_succ, List.replicate_zero, List.cons_append, List.nil_append, Nat.reduceAdd, Nat.reduceSub, Nat.reduceLeDiff, Nat.reduceMul, true_and, and_true, List.append_nil, wipeR, cYes, mod_int (b := m) (by omega), mod_int (b := n) (by omega)]
    · unfold nbs
      rw [List.map_map]
      rfl
/-! ### the shells -/
/-- a ring's turn: (the places met, the ring further on) -/
def meet (p : List T3 × List T3) (o : T3) : List T3 × List T3 := if o ∈ p.1 then p else (p.1 ++ [o], p.2 ++ [o])
def ringTurn (ties : List T4) (m n : Int) (met ring : List T3) : List T3 × List T3 := ring.foldl (fun p t => (nbs ties m n t).foldl meet p) (met, [])
/-- the counts -/
def shells (ties : List T4) (m n : Int) : Nat → List T3 → List T3 → List Nat
  | 0, _, _ => []
  | f + 1, met, ring => if ring.length = 0 then [] else ring.length :: shells ties m n f (ringTurn ties m n met ring).1 (ringTurn ties m n met ring).2
end K73

namespace K73
open PySem Pm
theorem w3_inj {a b : T3} (h : w3 a = w3 b) : a = b := by
  obtain ⟨a1, a2, a3⟩ := a
  obtain ⟨b1, b2, b3⟩ := b
  simp only [w3, W.tup.injEq, List.cons.injEq, W.int.injEq, and_true] at h
  obtain ⟨h1, h2, h3⟩ := h
  rw [h1, h2, h3]
def k3 (t : T3) : NestedKey := .tup [.num t.1, .num t.2.1, .num t.2.2]
theorem keyO_w3 (t : T3) : keyO 8 (w3 t) = some (k3 t) := rfl
theorem k3_inj {a b : T3} (h : k3 a = k3 b) : a = b := by
  obtain ⟨a1, a2, a3⟩ := a
  obtain ⟨b1, b2, b3⟩ := b
  simp only [k3, NestedKey.tup.injEq, List.cons.injEq, NestedKey.num.injEq, and_true] at h
  obtain ⟨h1, h2, h3⟩ := h
  rw [h1, h2, h3]
theorem keq_w3 (a b : T3) : keq (w3 a) (w3 b) = decide (a = b) := by
  rw [keq_of (keyO_w3 a) (keyO_w3 b)]
  by_cases h : a = b
  · rw [h, decide_eq_true rfl, decide_eq_true rfl]
  · rw [decide_eq_false h, decide_eq_false fun z => h (k3_inj z)]
theorem any_w3 {kvs : List (W × W)} {met : List T3} (h : kvs.map (·.1) = met.map w3) (t : T3) : (kvs.any fun p => keq p.1 (w3 t)) = decide (t ∈ met) := by
  have e : (kvs.any fun p => keq p.1 (w3 t)) = (kvs.map (·.1)).any fun w => keq w (w3 t) := by
    rw [List.any_map]; rfl
  rw [e, h, List.any_map]
  induction met generalizing kvs with
  | nil => simp
  | cons a met ih =>
    rw [List.any_cons]
    have : (List.any met ((fun w => keq w (w3 t)) ∘ w3)) = decide (t ∈ met) := by
      have := ih (kvs := met.map fun a => (w3 a, W.non)) (by rw [List.map_map]; rfl) (by rw [List.any_map, List.map_map, List.any_map]; rfl)
      exact this
    rw [this]
    show (keq (w3 a) (w3 t) || decide (t ∈ met)) = _
    rw [keq_w3]
    by_cases h : a = t
    · simp [h]
    · have h' : ¬ t = a := fun z => h z.symm
      simp [h, h', List.mem_cons]
theorem kget_w3 {kvs : List (W × W)} {met : List T3} (h : kvs.map (·.1) = met.map w3) (t : T3) : (kget kvs (w3 t)).isSome = decide (t ∈ met) := by
  rw [← any_w3 h t]
  unfold kget
  rw [Option.isSome_map, Bool.eq_iff_iff, List.find?_isSome, List.any_eq_true]
theorem okKey_w3 {kvs : List (W × W)} {met : List T3} (h : kvs.map (·.1) = met.map w3) (t : T3) : okKey kvs (w3 t) = true := by
  unfold okKey
  rw [keyO_w3]
  cases kvs with
  | nil => rfl
  | cons p kvs =>
    cases met with
    | nil => cases h
    | cons a met =>
      rw [List.map_cons, List.map_cons] at h
      injection h with h1 h2
      simp only [h1]
      rfl
theorem kset_w3 {kvs : List (W × W)} {met : List T3} (h : kvs.map (·.1) = met.map w3) {t : T3} (n : t ∉ met) (v : W) : kset kvs (w3 t) v = kvs ++ [(w3 t, v)] := by
  unfold kset
  rw [any_w3 h t, decide_eq_false n]
  rfl
/-- the store within a ring's turn: the dict at 0, the list further at k -/
structure St (S0 S : Sto) (k : Nat) (met fur : List T3) : Prop where
  d : ∃ kvs, S[0]? = some (.dct kvs) ∧ kvs.map (·.1) = met.map w3
  f : S[k]? = some (.lst (fur.map w3))
  o : ∀ j, j ≠ 0 → j ≠ k → S[j]? = S0[j]?
  l : S.length = S0.length
  k0 : 0 < k
theorem St.notin {S0 S : Sto} {k : Nat} {met fur : List T3} (h : St S0 S k met fur) (t : T3) : notInAO S (w3 t) (.ref 0) = some (.bl (!decide (t ∈ met))) := by
  obtain ⟨kvs, h1, h2⟩ := h.d
  have e : dctO S (.ref 0) = some kvs := by
    unfold dctO
    simp only [h1]
  unfold notInAO
  rw [e]
  simp only
  rw [if_pos (okKey_w3 h2 t), kget_w3 h2]
theorem St.put {S0 S : Sto} {k : Nat} {met fur : List T3} (h : St S0 S k met fur) {t : T3} (n : t ∉ met) (hz : met.length < 1000) (v : W) : ∃ S1, setAO S (.ref 0) (w3 t) v = some S1 ∧ St S0 S1 k (met ++ [t]) fur := by
  obtain ⟨kvs, h1, h2⟩ := h.d
  have hl : kvs.length = met.length := by have := congrArg List.length h2; simpa using this
  refine ⟨S.set 0 (.dct (kvs ++ [(w3 t, v)])), ?_, ⟨⟨_, get_set h1, by rw [List.map_append, h2, List.map_append]; rfl⟩, ?_, fun j j0 jk => ?_, by rw [List.length_set]; exact h.l, h.k0⟩⟩
  · unfold setAO
    simp only [h1]
    rw [if_pos ⟨okKey_w3 h2 t, by omega⟩, kset_w3 h2 n]
  · rw [List.getElem?_set_ne (Nat.ne_of_lt h.k0)]; exact h.f
  · rw [List.getElem?_set_ne (Ne.symm j0)]; exact h.o j j0 jk
theorem St.app {S0 S : Sto} {k : Nat} {met fur : List T3} (h : St S0 S k met fur) (t : T3) (hz : fur.length < 1000) : ∃ S1, appO S (.ref k) [w3 t] = some (.non, S1) ∧ St S0 S1 k met (fur ++ [t]) := by
  obtain ⟨kvs, h1, h2⟩ := h.d
  refine ⟨_, app_ref h.f (by rw [List.length_map]; omega), ⟨⟨kvs, by rw [List.getElem?_set_ne (Nat.ne_of_gt h.k0)]; exact h1, h2⟩, by rw [get_set h.f, List.map_append]; rfl, fun j j0 jk => ?_, by rw [List.length_set]; exact h.l, h.k0⟩⟩
  rw [List.getElem?_set_ne (Ne.symm jk)]; exact h.o j j0 jk
/-! ### the places are few -/
def InU (places m n : Int) (t : T3) : Prop := (0 ≤ t.1 ∧ t.1 < places) ∧ (0 ≤ t.2.1 ∧ t.2.1 < m) ∧ 0 ≤ t.2.2 ∧ t.2.2 < n
def Tie (places : Int) (t : T4) : Prop := (0 ≤ t.1 ∧ t.1 < places) ∧ 0 ≤ t.2.1 ∧ t.2.1 < places
def code (t : T3) : Nat := (t.1 * 144 + t.2.1 * 12 + t.2.2).toNat
theorem few {places m n : Int} (hp : places ≤ 4) (hm : m ≤ 12) (hn : n ≤ 12) {met : List T3} (nd : met.Nodup) (h : ∀ t ∈ met, InU places m n t) : met.length ≤ 576 := by
  have e : (met.map code).length ≤ (List.range 576).length := L2.nat_nodup_len _ _ ?_ ?_
  · rwa [List.length_map, List.length_range] at e
  · refine List.pairwise_map.mpr (List.Pairwise.imp_of_mem (fun {a b} ha hb hne z => hne ?_) nd)
    obtain ⟨⟨a1, a2⟩, ⟨a3, a4⟩, a5, a6⟩ := h a ha
    obtain ⟨⟨b1, b2⟩, ⟨b3, b4⟩, b5, b6⟩ := h b hb
    obtain ⟨x1, x2, x3⟩ := a
    obtain ⟨y1, y2, y3⟩ := b
    unfold code at z
    simp only at *
    have e1 : x1 = y1 := by omega
    have e2 : x2 = y2 := by omega
    have e3 : x3 = y3 := by omega
    rw [e1, e2, e3]
  · intro x hx
    obtain ⟨t, ht, rfl⟩ := List.mem_map.mp hx
    obtain ⟨⟨a1, a2⟩, ⟨a3, a4⟩, a5, a6⟩ := h t ht
    rw [List.mem_range]
    unfold code
    omega
theorem steps_in {places : Int} {ties : List T4} {p : Int} (h : ∀ t ∈ ties, Tie places t) : ∀ s ∈ stepsOf ties p, 0 ≤ s.1 ∧ s.1 < places := by
  intro s hs
  obtain ⟨t, ht, hs⟩ := List.mem_flatMap.mp hs
  obtain ⟨h1, h2⟩ := h t ht
  unfold one at hs
  rcases List.mem_append.mp hs with hs | hs
  · split at hs
    · rw [List.mem_singleton.mp hs]; exact h2
    · cases hs
  · split at hs
    · rw [List.mem_singleton.mp hs]; exact h1
    · cases hs
theorem nbs_in {places m n : Int} {ties : List T4} (h : ∀ t ∈ ties, Tie places t) (hm : 0 < m) (hn : 0 < n) (t : T3) : ∀ o ∈ nbs ties m n t, InU places m n o := by
  intro o ho
  obtain ⟨s, hs, rfl⟩ := List.mem_map.mp ho
  exact ⟨steps_in h s hs, ⟨fmod_lo hm, fmod_hi hm⟩, fmod_lo hn, fmod_hi hn⟩
/-- what holds of a ring's turn so far -/
structure Good (places m n : Int) (met0 : List T3) (p : List T3 × List T3) : Prop where
  nd : p.1.Nodup
  u : ∀ t ∈ p.1, InU places m n t
  e : p.1 = met0 ++ p.2
theorem Good.step {places m n : Int} {met0 : List T3} {p : List T3 × List T3} {o : T3} (g : Good places m n met0 p) (h : InU places m n o) : Good places m n met0 (meet p o) := by
  unfold K73.meet
  split
  · exact g
  · rename_i hn
    refine ⟨List.nodup_append.mpr ⟨g.nd, List.nodup_cons.mpr ⟨by simp, List.nodup_nil⟩, fun a ha b hb => ?_⟩, fun t ht => ?_, ?_⟩
    · rw [List.mem_singleton.mp hb]
      exact fun z => hn (z ▸ ha)
    · rcases List.mem_append.mp ht with z | z
      · exact g.u t z
      · rw [List.mem_singleton.mp z]; exact h
    · show p.1 ++ [o] = met0 ++ (p.2 ++ [o])
      rw [g.e, List.append_assoc]
theorem Good.fold {places m n : Int} {met0 : List T3} : ∀ (os : List T3) {p : List T3 × List T3}, Good places m n met0 p → (∀ o ∈ os, InU places m n o) → Good places m n met0 (os.foldl meet p)
  | [], _, g, _ => g
  | o :: os, _, g, h => Good.fold os (g.step (h o List.mem_cons_self)) fun x hx => h x (List.mem_cons_of_mem _ hx)
theorem foldl_take {α β : Type} (f : β → α → β) (b : β) {l : List α} {i : Nat} {x : α} (h : l[i]? = some x) : (l.take (i + 1)).foldl f b = f ((l.take i).foldl f b) x := by
  rw [List.take_add_one, h, List.foldl_append]
  rfl

/-! ### the turn of a ring: the code of the program -/
def inW : Cm := cIfS (tCmp notInAO (cVar 9) (cVar 4)) (seqC (asgC (cC (.bl true)) (gSub setAO (cVar 4) (cVar 9))) (sEx (cLm appO (cVar 7) (aCons (cVar 9) (aNil))))) (cNx)
def RoW (g : W) (start m n : Int) (ring : W) (k : Nat) (ρ : Rho) : Prop := ∃ a b, ρ = [some g, some (.int start), some (.int m), some (.int n), some (.ref 0), some ring, some (.ref 1), some (.ref k), a, b]
theorem inW_ev {g ring : W} {start m n : Int} {k : Nat} {S0 S : Sto} {met fur : List T3} {a : Option W} {o : T3} {Q : Fl × Rho → Sto → Prop} (h : St S0 S k met fur) (hz : met.length < 900) (hz2 : fur.length < 900)
    (q : ∀ S', St S0 S' k (meet (met, fur) o).1 (meet (met, fur) o).2 → Q (.nx, [some g, some (.int start), some (.int m), some (.int n), some (.ref 0), some ring, some (.ref 1), some (.ref k), a, some (w3 o)]) S') :
    Ev (inW [some g, some (.int start), some (.int m), some (.int n), some (.ref 0), some ring, some (.ref 1), some (.ref k), a, some (w3 o)]) S Q := by
  unfold inW
  simp only [ev_bind, ev_pure, ev_op2, ev_op1, ev_opN, ev_opNF, ev_opM, ev_set3, ev_isL, ev_isi, ev_asB, ev_ite, ev_toR, ev_toV, ev_seq, ev_set, ev_asg, ev_ret, ev_ifS, ev_nx, ev_and, ev_or, ev_not, ev_vAnd, ev_vNot, ev_C, ev_var, ev_name, ev_gnil, ev_gcons, ev_gTup, ev_tup, ev_lst, ev_call, ev_forC, ev_lcC, Pm.is_some, Pm.is_none, Pm.is_if, List.set_cons_zero, List.set_cons_succ, List.getElem?_cons_zero, List.getElem?_cons_succ, tCmp, cOp, cUn, tVal, aNil, aCons, cB, fB, cG, cP, fP, fOp, cSl, fSl, poN, poS, ev_slV, ev_slT, ev_slL, cLm, cLm0, cIsi, fSS, iSq, iR1, iR2, iR3, iEn, iZp, gSub, sEx, Pm.addV_int, Pm.sub_int, Pm.mul_int, Pm.gt_int, Pm.eq_int, Pm.ne_int, Pm.lt_int, Pm.le_int, Pm.ge_int, Pm.neg_int, Bool.not_true, Bool.not_false, if_true, if_false, decide_eq_true_eq, Bool.false_eq_true, reduceIte, List.map_cons, List.map_nil, List.length_cons, List.length_nil, List.replicate_succ, List.replicate_zero, List.cons_append, List.nil_append, Nat.reduceAdd, Nat.reduceSub, Nat.reduceLeDiff, Nat.reduceMul, true_and, and_true, List.append_nil, h.notin]
  by_cases ho : o ∈ met
  · have e : meet (met, fur) o = (met, fur) := if_pos ho
    rw [e] at q
    simp only [ho, decide_true, Bool.not_true, Bool.false_eq_true, if_false]
    exact q S h
  · have e : meet (met, fur) o = (met ++ [o], fur ++ [o]) := if_neg ho
    rw [e] at q
    simp only [ho, decide_false, Bool.not_false, if_true]
    obtain ⟨S1, e1, h1⟩ := h.put ho (by omega) (.bl true)
    obtain ⟨S2, e2, h2⟩ := h1.app o (by omega)
    simp only [ev_bind, ev_pure, ev_op2, ev_op1, ev_opN, ev_opNF, ev_opM, ev_set3, ev_isL, ev_isi, ev_asB, ev_ite, ev_toR, ev_toV, ev_seq, ev_set, ev_asg, ev_ret, ev_ifS, ev_nx, ev_and, ev_or, ev_not, ev_vAnd, ev_vNot, ev_C, ev_var, ev_name, ev_gnil, ev_gcons, ev_gTup, ev_tup, ev_lst, ev_call, ev_forC, ev_lcC, Pm.is_some, Pm.is_none, Pm.is_if, List.set_cons_zero, List.set_cons_succ, List.getElem?_cons_zero, List.getElem?_cons_succ, tCmp, cOp, cUn, tVal, aNil, aCons, cB, fB, cG, cP, fP, fOp, cSl, fSl, poN, poS, ev_slV, ev_slT, ev_slL, cLm, cLm0, cIsi, fSS, iSq, iR1, iR2, iR3, iEn, iZp, gSub, sEx, Pm.addV_int, Pm.sub_int, Pm.mul_int, Pm.gt_int, Pm.eq_int, Pm.ne_int, Pm.lt_int, Pm.le_int, Pm.ge_int, Pm.neg_int, Bool.not_true, Bool.not_false, if_true, if_false, decide_eq_true_eq, Bool.false_eq_true, reduceIte, List.map_cons, List.map_nil, List.length_cons, List.length_nil, List.replicate_succ, List.replicate_zero, List.cons_append, List.nil_append, Nat.reduceAdd, Nat.reduceSub, Nat.reduceLeDiff, Nat.reduceMul, true_and, and_true, List.append_nil, e1, e2, lst_ref h1.f]
    exact ⟨rfl, q S2 h2⟩
theorem all_w3 {l : List T3} : ∀ w ∈ l.map w3, pureW 19 w = true := fun w hw => by
  obtain ⟨s, _, rfl⟩ := List.mem_map.mp hw
  exact pure_w3 17 s
theorem frz_vl {S : Sto} {ws : List W} (h : ∀ w ∈ ws, pureW 19 w = true) : frz S DEP (.vl ws) = some (.vl ws) := by
  show ((mapO (frz S 19) ws).map W.vl) = _
  rw [mapO_id fun x hx => frz_pure S 19 (h x hx)]
  rfl
/-- the neighbours of one place -/
theorem midW_ev {places : Int} {ties : List T4} {ring : W} {start m n : Int} {k : Nat} {S0 S : Sto} {met0 : List T3} {p : List T3 × List T3} {b : Option W} {t : T3} {Q : Fl × Rho → Sto → Prop} (hl : ties.length < 400) (ht : ∀ t ∈ ties, Tie places t) (hp : places ≤ 4) (hm : 0 < m) (hm2 : m ≤ 12) (hn : 0 < n) (hn2 : n ≤ 12)
    (g : Good places m n met0 p) (h : St S0 S k p.1 p.2)
    (q : ∀ S' b, St S0 S' k ((nbs ties m n t).foldl meet p).1 ((nbs ties m n t).foldl meet p).2 → Q (.nx, [some (gridW places ties), some (.int start), some (.int m), some (.int n), some (.ref 0), some ring, some (.ref 1), some (.ref k), some (w3 t), b]) S') :
    Ev (forC (iSq (cP 4 m_wrapped_beside (aCons (cVar 0) (aCons (cVar 8) (aCons (cVar 2) (aCons (cVar 3) (aNil))))))) (gmName 9) inW [some (gridW places ties), some (.int start), some (.int m), some (.int n), some (.ref 0), some ring, some (.ref 1), some (.ref k), some (w3 t), b]) S Q := by
  simp only [ev_bind, ev_pure, ev_op2, ev_op1, ev_opN, ev_opNF, ev_opM, ev_set3, ev_isL, ev_isi, ev_asB, ev_ite, ev_toR, ev_toV, ev_seq, ev_set, ev_asg, ev_ret, ev_ifS, ev_nx, ev_and, ev_or, ev_not, ev_vAnd, ev_vNot, ev_C, ev_var, ev_name, ev_gnil, ev_gcons, ev_gTup, ev_tup, ev_lst, ev_call, ev_forC, ev_lcC, Pm.is_some, Pm.is_none, Pm.is_if, List.set_cons_zero, List.set_cons_succ, List.getElem?_cons_zero, List.getElem?_cons_succ, tCmp, cOp, cUn, tVal, aNil, aCons, cB, fB, cG, cP, fP, fOp, cSl, fSl, poN, poS, ev_slV, ev_slT, ev_slL, cLm, cLm0, cIsi, fSS, iSq, iR1, iR2, iR3, iEn, iZp, gSub, sEx, Pm.addV_int, Pm.sub_int, Pm.mul_int, Pm.gt_int, Pm.eq_int, Pm.ne_int, Pm.lt_int, Pm.le_int, Pm.ge_int, Pm.neg_int, Bool.not_true, Bool.not_false, if_true, if_false, decide_eq_true_eq, Bool.false_eq_true, reduceIte, List.map_cons, List.map_nil, List.length_cons, List.length_nil, List.replicate_succ, List.replicate_zero, List.cons_append, List.nil_append, Nat.reduceAdd, Nat.reduceSub, Nat.reduceLeDiff, Nat.reduceMul, true_and, and_true, List.append_nil]
  have hlen : (nbs ties m n t).length ≤ 800 := by
    unfold nbs
    rw [List.length_map]
    have := stepsOf_len t.1 ties
    omega
  refine ev_pcall rfl (free_args fun w hw => ?_) ?_
  · rcases List.mem_cons.mp hw with rfl | hw
    · exact pure_grid 16 places ties
    · rcases List.mem_cons.mp hw with rfl | hw
      · rfl
      · rcases List.mem_cons.mp hw with rfl | hw
        · rfl
        · rw [List.mem_singleton.mp hw]; rfl
  · refine (wrapped_beside_ev (by omega) hm hn).mono ?_
    rintro w S' ⟨rfl, rfl⟩
    rw [frz_vl all_w3]
    simp only [ev_bind, ev_pure, ev_op2, ev_op1, ev_opN, ev_opNF, ev_opM, ev_set3, ev_isL, ev_isi, ev_asB, ev_ite, ev_toR, ev_toV, ev_seq, ev_set, ev_asg, ev_ret, ev_ifS, ev_nx, ev_and, ev_or, ev_not, ev_vAnd, ev_vNot, ev_C, ev_var, ev_name, ev_gnil, ev_gcons, ev_gTup, ev_tup, ev_lst, ev_call, ev_forC, ev_lcC, Pm.is_some, Pm.is_none, Pm.is_if, List.set_cons_zero, List.set_cons_succ, List.getElem?_cons_zero, List.getElem?_cons_succ, tCmp, cOp, cUn, tVal, aNil, aCons, cB, fB, cG, cP, fP, fOp, cSl, fSl, poN, poS, ev_slV, ev_slT, ev_slL, cLm, cLm0, cIsi, fSS, iSq, iR1, iR2, iR3, iEn, iZp, gSub, sEx, Pm.addV_int, Pm.sub_int, Pm.mul_int, Pm.gt_int, Pm.eq_int, Pm.ne_int, Pm.lt_int, Pm.le_int, Pm.ge_int, Pm.neg_int, Bool.not_true, Bool.not_false, if_true, if_false, decide_eq_true_eq, Bool.false_eq_true, reduceIte, List.map_cons, List.map_nil, List.length_cons, List.length_nil, List.replicate_succ, List.replicate_zero, List.cons_append, List.nil_append, Nat.reduceAdd, Nat.reduceSub, Nat.reduceLeDiff, Nat.reduceMul, true_and, and_true, List.append_nil]
    refine seq_vl ?_
    refine ev_for0 (fun i ρ S => (∃ b, ρ = [some (gridW places ties), some (.int start), some (.int m), some (.int n), some (.ref 0), some ring, some (.ref 1), some (.ref k), some (w3 t), b]) ∧ St S0 S k (((nbs ties m n t).take i).foldl meet p).1 (((nbs ties m n t).take i).foldl meet p).2) (nbs ties m n t).length (by omega) ⟨⟨_, rfl⟩, h⟩ ?_ ?_
    · rintro i ρ S hi ⟨⟨b, rfl⟩, h⟩
      have hx : (nbs ties m n t)[i]? = some (nbs ties m n t)[i] := List.getElem?_eq_getElem hi
      have gi := Good.fold ((nbs ties m n t).take i) g fun o ho => nbs_in ht hm hn t o (List.mem_of_mem_take ho)
      have f1 := few hp hm2 hn2 gi.nd gi.u
      have f2 : (((nbs ties m n t).take i).foldl meet p).2.length ≤ 576 := by
        have := congrArg List.length gi.e
        rw [List.length_append] at this
        omega
      refine ⟨w3 (nbs ties m n t)[i], by rw [List.getElem?_map, hx]; rfl, ?_⟩
      simp only [ev_bind, ev_pure, ev_op2, ev_op1, ev_opN, ev_opNF, ev_opM, ev_set3, ev_isL, ev_isi, ev_asB, ev_ite, ev_toR, ev_toV, ev_seq, ev_set, ev_asg, ev_ret, ev_ifS, ev_nx, ev_and, ev_or, ev_not, ev_vAnd, ev_vNot, ev_C, ev_var, ev_name, ev_gnil, ev_gcons, ev_gTup, ev_tup, ev_lst, ev_call, ev_forC, ev_lcC, Pm.is_some, Pm.is_none, Pm.is_if, List.set_cons_zero, List.set_cons_succ, List.getElem?_cons_zero, List.getElem?_cons_succ, tCmp, cOp, cUn, tVal, aNil, aCons, cB, fB, cG, cP, fP, fOp, cSl, fSl, poN, poS, ev_slV, ev_slT, ev_slL, cLm, cLm0, cIsi, fSS, iSq, iR1, iR2, iR3, iEn, iZp, gSub, sEx, Pm.addV_int, Pm.sub_int, Pm.mul_int, Pm.gt_int, Pm.eq_int, Pm.ne_int, Pm.lt_int, Pm.le_int, Pm.ge_int, Pm.neg_int, Bool.not_true, Bool.not_false, if_true, if_false, decide_eq_true_eq, Bool.false_eq_true, reduceIte, List.map_cons, List.map_nil, List.length_cons, List.length_nil, List.replicate_succ, List.replicate_zero, List.cons_append, List.nil_append, Nat.reduceAdd, Nat.reduceSub, Nat.reduceLeDiff, Nat.reduceMul, true_and, and_true, List.append_nil]
      refine inW_ev h (by omega) (by omega) fun S' h' => ⟨.inl rfl, ⟨_, rfl⟩, ?_⟩
      rw [foldl_take meet p hx]
      exact h'
    · rintro ρ S ⟨⟨b, rfl⟩, h⟩
      refine ⟨by simp, ?_⟩
      rw [List.take_length] at h
      exact q S b h

/-- a ring's value -/
def RingAt (S : Sto) (w : W) (k : Nat) (ring : List T3) : Prop := w = .vl (ring.map w3) ∨ ∃ j, w = .ref j ∧ j ≠ 0 ∧ j ≠ k ∧ S[j]? = some (.lst (ring.map w3))
theorem ring_seq {S : Sto} {w : W} {k : Nat} {ring : List T3} {Q : Gen → Sto → Prop} (h : RingAt S w k ring) (q : ∀ gen, (∀ (i : Nat) S', RingAt S' w k ring → gen i S' = some ((ring.map w3)[i]?)) → Q gen S) : Ev (seqI w) S Q := by
  rcases h with rfl | ⟨j, rfl, j0, jk, h⟩
  · exact seq_vl (q _ fun i S' _ => rfl)
  · refine ⟨(fun i S => match S[j]? with
      | some (.lst ws) => some ws[i]?
      | _ => none), S, by unfold seqI; simp only [h] <;> rfl, q _ fun i S' h' => ?_⟩
    rcases h' with h' | ⟨j', e, _, _, h'⟩
    · cases h'
    · cases e
      simp only [h']
theorem RingAt.st {S0 S S' : Sto} {k : Nat} {met fur met' fur' : List T3} {w : W} {ring : List T3} (h : St S0 S k met fur) (h' : St S0 S' k met' fur') (r : RingAt S w k ring) : RingAt S' w k ring := by
  rcases r with rfl | ⟨j, rfl, j0, jk, r⟩
  · exact .inl rfl
  · exact .inr ⟨j, rfl, j0, jk, by rw [h'.o j j0 jk, ← h.o j j0 jk]; exact r⟩
theorem ring_len {S : Sto} {w : W} {k : Nat} {ring : List T3} (r : RingAt S w k ring) : lenAO S [w] = some (.int ring.length) := by
  rcases r with rfl | ⟨j, rfl, j0, jk, r⟩
  · show some (W.int ((ring.map w3).length : Nat)) = _
    rw [List.length_map]
  · unfold lenAO dctO
    simp only [r]
    unfold lenO seqO
    simp only [r, List.length_map]
def midW : Cm := forC (iSq (cP 4 m_wrapped_beside (aCons (cVar 0) (aCons (cVar 8) (aCons (cVar 2) (aCons (cVar 3) (aNil))))))) (gmName 9) inW
def outW : Cm := forC (iSq (cVar 5)) (gmName 8) midW
/-- one turn of the ring -/
theorem outW_ev {places : Int} {ties : List T4} {rw_ : W} {ring : List T3} {start m n : Int} {k : Nat} {S0 S : Sto} {met : List T3} {a b : Option W} {Q : Fl × Rho → Sto → Prop} (hl : ties.length < 400) (ht : ∀ t ∈ ties, Tie places t) (hp : places ≤ 4) (hm : 0 < m) (hm2 : m ≤ 12) (hn : 0 < n) (hn2 : n ≤ 12)
    (g : Good places m n met (met, [])) (h : St S0 S k met []) (r : RingAt S rw_ k ring) (hr : ring.length < 1000)
    (q : ∀ S' a b, St S0 S' k (ringTurn ties m n met ring).1 (ringTurn ties m n met ring).2 → Good places m n met (ringTurn ties m n met ring) → Q (.nx, [some (gridW places ties), some (.int start), some (.int m), some (.int n), some (.ref 0), some rw_, some (.ref 1), some (.ref k), a, b]) S') :
    Ev (outW [some (gridW places ties), some (.int start), some (.int m), some (.int n), some (.ref 0), some rw_, some (.ref 1), some (.ref k), a, b]) S Q := by
  unfold outW
  simp only [ev_bind, ev_pure, ev_op2, ev_op1, ev_opN, ev_opNF, ev_opM, ev_set3, ev_isL, ev_isi, ev_asB, ev_ite, ev_toR, ev_toV, ev_seq, ev_set, ev_asg, ev_ret, ev_ifS, ev_nx, ev_and, ev_or, ev_not, ev_vAnd, ev_vNot, ev_C, ev_var, ev_name, ev_gnil, ev_gcons, ev_gTup, ev_tup, ev_lst, ev_call, ev_forC, ev_lcC, Pm.is_some, Pm.is_none, Pm.is_if, List.set_cons_zero, List.set_cons_succ, List.getElem?_cons_zero, List.getElem?_cons_succ, tCmp, cOp, cUn, tVal, aNil, aCons, cB, fB, cG, cP, fP, fOp, cSl, fSl, poN, poS, ev_slV, ev_slT, ev_slL, cLm, cLm0, cIsi, fSS, iSq, iR1, iR2, iR3, iEn, iZp, gSub, sEx, Pm.addV_int, Pm.sub_int, Pm.mul_int, Pm.gt_int, Pm.eq_int, Pm.ne_int, Pm.lt_int, Pm.le_int, Pm.ge_int, Pm.neg_int, Bool.not_true, Bool.not_false, if_true, if_false, decide_eq_true_eq, Bool.false_eq_true, reduceIte, List.map_cons, List.map_nil, List.length_cons, List.length_nil, List.replicate_succ, List.replicate_zero, List.cons_append, List.nil_append, Nat.reduceAdd, Nat.reduceSub, Nat.reduceLeDiff, Nat.reduceMul, true_and, and_true, List.append_nil]
  refine ring_seq r fun gen hgen => ?_
  have gd : ∀ i, Good places m n met ((ring.take i).foldl (fun p t => (nbs ties m n t).foldl meet p) (met, [])) := by
    intro i
    have : ∀ (l : List T3) (p : List T3 × List T3), Good places m n met p → Good places m n met (l.foldl (fun p t => (nbs ties m n t).foldl meet p) p) := by
      intro l
      induction l with
      | nil => intro p g; exact g
      | cons t l ih => intro p g; exact ih _ (Good.fold _ g (nbs_in ht hm hn t))
    exact this _ _ g
  refine ev_for0 (fun i ρ S => (∃ a b, ρ = [some (gridW places ties), some (.int start), some (.int m), some (.int n), some (.ref 0), some rw_, some (.ref 1), some (.ref k), a, b]) ∧ RingAt S rw_ k ring ∧ St S0 S k ((ring.take i).foldl (fun p t => (nbs ties m n t).foldl meet p) (met, [])).1 ((ring.take i).foldl (fun p t => (nbs ties m n t).foldl meet p) (met, [])).2) ring.length (by omega) ⟨⟨_, _, rfl⟩, r, h⟩ ?_ ?_
  · rintro i ρ S hi ⟨⟨a, b, rfl⟩, r, h⟩
    have hx : ring[i]? = some ring[i] := List.getElem?_eq_getElem hi
    refine ⟨w3 ring[i], by rw [hgen i S r, List.getElem?_map, hx]; rfl, ?_⟩
    simp only [ev_bind, ev_pure, ev_op2, ev_op1, ev_opN, ev_opNF, ev_opM, ev_set3, ev_isL, ev_isi, ev_asB, ev_ite, ev_toR, ev_toV, ev_seq, ev_set, ev_asg, ev_ret, ev_ifS, ev_nx, ev_and, ev_or, ev_not, ev_vAnd, ev_vNot, ev_C, ev_var, ev_name, ev_gnil, ev_gcons, ev_gTup, ev_tup, ev_lst, ev_call, ev_forC, ev_lcC, Pm.is_some, Pm.is_none, Pm.is_if, List.set_cons_zero, List.set_cons_succ, List.getElem?_cons_zero, List.getElem?_cons_succ, tCmp, cOp, cUn, tVal, aNil, aCons, cB, fB, cG, cP, fP, fOp, cSl, fSl, poN, poS, ev_slV, ev_slT, ev_slL, cLm, cLm0, cIsi, fSS, iSq, iR1, iR2, iR3, iEn, iZp, gSub, sEx, Pm.addV_int, Pm.sub_int, Pm.mul_int, Pm.gt_int, Pm.eq_int, Pm.ne_int, Pm.lt_int, Pm.le_int, Pm.ge_int, Pm.neg_int, Bool.not_true, Bool.not_false, if_true, if_false, decide_eq_true_eq, Bool.false_eq_true, reduceIte, List.map_cons, List.map_nil, List.length_cons, List.length_nil, List.replicate_succ, List.replicate_zero, List.cons_append, List.nil_append, Nat.reduceAdd, Nat.reduceSub, Nat.reduceLeDiff, Nat.reduceMul, true_and, and_true, List.append_nil]
    refine midW_ev hl ht hp hm hm2 hn hn2 (gd i) h fun S' b h' => ⟨.inl rfl, ⟨_, _, rfl⟩, r.st h h', ?_⟩
    rw [foldl_take (fun p t => (nbs ties m n t).foldl meet p) (met, []) hx]
    exact h'
  · rintro ρ S ⟨⟨a, b, rfl⟩, r, h⟩
    refine ⟨by rw [hgen _ S r]; simp, ?_⟩
    have gl := gd ring.length
    rw [List.take_length] at h gl
    exact q S a b h gl
def loopW : Cm := seqC (sEx (cLm appO (cVar 6) (aCons (cB lenAO (aCons (cVar 5) (aNil))) (aNil)))) (seqC (setC 7 (toR (lstM (aNil)))) (seqC outW (setC 5 (cVar 7))))
/-- the counts from here -/
theorem shells_nil (ties : List T4) (m n : Int) (f : Nat) (met : List T3) : shells ties m n f met [] = [] := by
  cases f <;> rfl
def cntW (l : List Nat) : List W := List.map (fun c : Nat => W.int (c : Int)) l
theorem shells_succ (ties : List T4) (m n : Int) (f : Nat) (met ring : List T3) : shells ties m n (f + 1) met ring = if ring.length = 0 then [] else ring.length :: shells ties m n f (ringTurn ties m n met ring).1 (ringTurn ties m n met ring).2 := rfl
def Lp (places m n : Int) (ties : List T4) (T : List Nat) (k : Nat) (S : Sto) (rw_ : W) : Prop :=
  ∃ (met ring : List T3) (cnt : List Nat) (f : Nat) (kvs : List (W × W)), S[0]? = some (.dct kvs) ∧ kvs.map (·.1) = met.map w3 ∧ S[1]? = some (.lst (cntW cnt)) ∧ RingAt S rw_ 1 ring ∧ met.Nodup ∧ (∀ t ∈ met, InU places m n t) ∧ (∀ t ∈ ring, t ∈ met) ∧ ring.length ≤ met.length ∧
    cnt ++ shells ties m n f met ring = T ∧ k < f ∧ k = 2 * (600 - met.length) + (if ring.length = 0 then 0 else 1) ∧ cnt.length + (if ring.length = 0 then 0 else 1) ≤ met.length
theorem ev_dict1 {ck cv : Rho → M W} {ρ : Rho} {S : Sto} {Q : O → Sto → Prop} (h : Ev (ck ρ) S fun k S1 => Ev (cv ρ) S1 fun v S2 => okKey [] k = true ∧ Q (.dct [(k, v)]) S2) : Ev (dictC [(ck, cv)] ρ) S Q := by
  obtain ⟨k, S1, e1, v, S2, e2, h1, q⟩ := h
  refine ⟨.dct [(k, v)], S2, ?_, q⟩
  unfold dictC prC
  rw [bind_ok (show (ck ρ >>= fun k => cv ρ >>= fun v => prC ρ [] >>= fun t => pure ((k, v) :: t)) S = .ok [(k, v)] S2 by
    rw [bind_ok e1, bind_ok e2]
    rfl)]
  have e : putAll [] [(k, v)] = some [(k, v)] := by
    unfold putAll
    rw [if_pos h1]
    rfl
  simp only [List.length_cons, List.length_nil, e]
  rfl
/-- a turn of the loop, whatever the two differ in -/
theorem turn_next {places m n : Int} {ties : List T4} {T : List Nat} {met ring : List T3} {cnt : List Nat} {f : Nat} {p : List T3 × List T3} (hp : places ≤ 4) (hm2 : m ≤ 12) (hn2 : n ≤ 12) (hr : ring.length ≠ 0) (hT : cnt ++ shells ties m n f met ring = T) (hk : 2 * (600 - met.length) + 1 < f)
    (g : Good places m n met p) (e : ringTurn ties m n met ring = p) (hc : cnt.length + 1 ≤ met.length) :
    p.2.length ≤ p.1.length ∧ (cnt ++ [ring.length]) ++ shells ties m n (f - 1) p.1 p.2 = T ∧ 2 * (600 - p.1.length) + (if p.2.length = 0 then 0 else 1) < f - 1 ∧ 2 * (600 - p.1.length) + (if p.2.length = 0 then 0 else 1) < 2 * (600 - met.length) + 1 ∧ (cnt ++ [ring.length]).length + (if p.2.length = 0 then 0 else 1) ≤ p.1.length := by
  have hl : p.1.length = met.length + p.2.length := by rw [g.e, List.length_append]
  have h5 := few hp hm2 hn2 g.nd g.u
  refine ⟨by omega, ?_, ?_, ?_, ?_⟩
  · obtain ⟨f, rfl⟩ := Nat.exists_eq_succ_of_ne_zero (show f ≠ 0 by omega)
    rw [← hT, Nat.succ_eq_add_one, shells_succ ties m n f met ring, if_neg hr, e, List.append_assoc]
    rfl
  · split <;> omega
  · split <;> omega
  · rw [List.length_append, List.length_singleton]
    split <;> omega
theorem wrapped_ev {places : Int} {ties : List T4} {start m n : Int} (hl : ties.length < 400) (ht : ∀ t ∈ ties, Tie places t) (hp : places ≤ 4) (hs : 0 ≤ start ∧ start < places) (hm : 0 < m) (hm2 : m ≤ 12) (hn : 0 < n) (hn2 : n ≤ 12) :
    Ev (m_wrapped_shells [gridW places ties, .int start, .int m, .int n]) [] fun w S' => w = .ref 1 ∧ S'[1]? = some (.lst (cntW (shells ties m n 2000 [(start, 0, 0)] [(start, 0, 0)]))) := by
  unfold m_wrapped_shells b_wrapped_shells
  rw [ev_fn]
  simp only [ev_bind, ev_pure, ev_op2, ev_op1, ev_opN, ev_opNF, ev_opM, ev_set3, ev_isL, ev_isi, ev_asB, ev_ite, ev_toR, ev_toV, ev_seq, ev_set, ev_asg, ev_ret, ev_ifS, ev_nx, ev_and, ev_or, ev_not, ev_vAnd, ev_vNot, ev_C, ev_var, ev_name, ev_gnil, ev_gcons, ev_gTup, ev_tup, ev_lst, ev_call, ev_forC, ev_lcC, Pm.is_some, Pm.is_none, Pm.is_if, List.set_cons_zero, List.set_cons_succ, List.getElem?_cons_zero, List.getElem?_cons_succ, tCmp, cOp, cUn, tVal, aNil, aCons, cB, fB, cG, cP, fP, fOp, cSl, fSl, poN, poS, ev_slV, ev_slT, ev_slL, cLm, cLm0, cIsi, fSS, iSq, iR1, iR2, iR3, iEn, iZp, gSub, sEx, Pm.addV_int, Pm.sub_int, Pm.mul_int, Pm.gt_int, Pm.eq_int, Pm.ne_int, Pm.lt_int, Pm.le_int, Pm.ge_int, Pm.neg_int, Bool.not_true, Bool.not_false, if_true, if_false, decide_eq_true_eq, Bool.false_eq_true, reduceIte, List.map_cons, List.map_nil, List.length_cons, List.length_nil, List.replicate_succ, List.replicate_zero, List.cons_append, List.nil_append, Nat.reduceAdd, Nat.reduceSub, Nat.reduceLeDiff, Nat.reduceMul, true_and, and_true, List.append_nil]
  refine ev_dict1 ?_
  simp only [ev_bind, ev_pure, ev_op2, ev_op1, ev_opN, ev_opNF, ev_opM, ev_set3, ev_isL, ev_isi, ev_asB, ev_ite, ev_toR, ev_toV, ev_seq, ev_set, ev_asg, ev_ret, ev_ifS, ev_nx, ev_and, ev_or, ev_not, ev_vAnd, ev_vNot, ev_C, ev_var, ev_name, ev_gnil, ev_gcons, ev_gTup, ev_tup, ev_lst, ev_call, ev_forC, ev_lcC, Pm.is_some, Pm.is_none, Pm.is_if, List.set_cons_zero, List.set_cons_succ, List.getElem?_cons_zero, List.getElem?_cons_succ, tCmp, cOp, cUn, tVal, aNil, aCons, cB, fB, cG, cP, fP, fOp, cSl, fSl, poN, poS, ev_slV, ev_slT, ev_slL, cLm, cLm0, cIsi, fSS, iSq, iR1, iR2, iR3, iEn, iZp, gSub, sEx, Pm.addV_int, Pm.sub_int, Pm.mul_int, Pm.gt_int, Pm.eq_int, Pm.ne_int, Pm.lt_int, Pm.le_int, Pm.ge_int, Pm.neg_int, Bool.not_true, Bool.not_false, if_true, if_false, decide_eq_true_eq, Bool.false_eq_true, reduceIte, List.map_cons, List.map_nil, List.length_cons, List.length_nil, List.replicate_succ, List.replicate_zero, List.cons_append, List.nil_append, Nat.reduceAdd, Nat.reduceSub, Nat.reduceLeDiff, Nat.reduceMul, true_and, and_true, List.append_nil]
  refine ⟨rfl, ?_⟩
  refine ev_while (c := loopW) (fun k ρ S => ∃ rw_ a b d, ρ = [some (gridW places ties), some (.int start), some (.int m), some (.int n), some (.ref 0), some rw_, some (.ref 1), a, b, d] ∧ Lp places m n ties (shells ties m n 2000 [(start, 0, 0)] [(start, 0, 0)]) k S rw_) ?_ FUEL 1199 _ _ (fuel_big (by decide)) ⟨_, _, _, _, rfl, [(start, 0, 0)], [(start, 0, 0)], [], 2000, _, rfl, rfl, rfl, .inl rfl, by simp, ?_, fun t ht => ht, Nat.le_refl _, rfl, by decide, rfl, Nat.le_refl _⟩
  · rintro k ρ S ⟨rw_, a, b, d, rfl, met, ring, cnt, f, kvs, s0, hk0, s1, hr, nd, hu, hrm, hrl, hT, hkf, hk, hc⟩
    simp only [ev_bind, ev_pure, ev_op2, ev_op1, ev_opN, ev_opNF, ev_opM, ev_set3, ev_isL, ev_isi, ev_asB, ev_ite, ev_toR, ev_toV, ev_seq, ev_set, ev_asg, ev_ret, ev_ifS, ev_nx, ev_and, ev_or, ev_not, ev_vAnd, ev_vNot, ev_C, ev_var, ev_name, ev_gnil, ev_gcons, ev_gTup, ev_tup, ev_lst, ev_call, ev_forC, ev_lcC, Pm.is_some, Pm.is_none, Pm.is_if, List.set_cons_zero, List.set_cons_succ, List.getElem?_cons_zero, List.getElem?_cons_succ, tCmp, cOp, cUn, tVal, aNil, aCons, cB, fB, cG, cP, fP, fOp, cSl, fSl, poN, poS, ev_slV, ev_slT, ev_slL, cLm, cLm0, cIsi, fSS, iSq, iR1, iR2, iR3, iEn, iZp, gSub, sEx, Pm.addV_int, Pm.sub_int, Pm.mul_int, Pm.gt_int, Pm.eq_int, Pm.ne_int, Pm.lt_int, Pm.le_int, Pm.ge_int, Pm.neg_int, Bool.not_true, Bool.not_false, if_true, if_false, decide_eq_true_eq, Bool.false_eq_true, reduceIte, List.map_cons, List.map_nil, List.length_cons, List.length_nil, List.replicate_succ, List.replicate_zero, List.cons_append, List.nil_append, Nat.reduceAdd, Nat.reduceSub, Nat.reduceLeDiff, Nat.reduceMul, true_and, and_true, List.append_nil, ring_len hr]
    have h5 := few hp hm2 hn2 nd hu
    by_cases h0 : ring.length = 0
    · have e0 : ¬ (0 : Int) < (ring.length : Int) := by omega
      obtain rfl : ring = [] := List.length_eq_zero_iff.mp h0
      rw [shells_nil, List.append_nil] at hT
      subst hT
      simp only [ev_bind, ev_pure, ev_op2, ev_op1, ev_opN, ev_opNF, ev_opM, ev_set3, ev_isL, ev_isi, ev_asB, ev_ite, ev_toR, ev_toV, ev_seq, ev_set, ev_asg, ev_ret, ev_ifS, ev_nx, ev_and, ev_or, ev_not, ev_vAnd, ev_vNot, ev_C, ev_var, ev_name, ev_gnil, ev_gcons, ev_gTup, ev_tup, ev_lst, ev_call, ev_forC, ev_lcC, Pm.is_some, Pm.is_none, Pm.is_if, List.set_cons_zero, List.set_cons_succ, List.getElem?_cons_zero, List.getElem?_cons_succ, tCmp, cOp, cUn, tVal, aNil, aCons, cB, fB, cG, cP, fP, fOp, cSl, fSl, poN, poS, ev_slV, ev_slT, ev_slL, cLm, cLm0, cIsi, fSS, iSq, iR1, iR2, iR3, iEn, iZp, gSub, sEx, Pm.addV_int, Pm.sub_int, Pm.mul_int, Pm.gt_int, Pm.eq_int, Pm.ne_int, Pm.lt_int, Pm.le_int, Pm.ge_int, Pm.neg_int, Bool.not_true, Bool.not_false, if_true, if_false, decide_eq_true_eq, Bool.false_eq_true, reduceIte, List.map_cons, List.map_nil, List.length_cons, List.length_nil, List.replicate_succ, List.replicate_zero, List.cons_append, List.nil_append, Nat.reduceAdd, Nat.reduceSub, Nat.reduceLeDiff, Nat.reduceMul, true_and, and_true, List.append_nil, e0, decide_false]
      exact s1
    · have e0 : (0 : Int) < (ring.length : Int) := by omega
      rw [if_neg h0] at hk hc
      simp only [ev_bind, ev_pure, ev_op2, ev_op1, ev_opN, ev_opNF, ev_opM, ev_set3, ev_isL, ev_isi, ev_asB, ev_ite, ev_toR, ev_toV, ev_seq, ev_set, ev_asg, ev_ret, ev_ifS, ev_nx, ev_and, ev_or, ev_not, ev_vAnd, ev_vNot, ev_C, ev_var, ev_name, ev_gnil, ev_gcons, ev_gTup, ev_tup, ev_lst, ev_call, ev_forC, ev_lcC, Pm.is_some, Pm.is_none, Pm.is_if, List.set_cons_zero, List.set_cons_succ, List.getElem?_cons_zero, List.getElem?_cons_succ, tCmp, cOp, cUn, tVal, aNil, aCons, cB, fB, cG, cP, fP, fOp, cSl, fSl, poN, poS, ev_slV, ev_slT, ev_slL, cLm, cLm0, cIsi, fSS, iSq, iR1, iR2, iR3, iEn, iZp, gSub, sEx, Pm.addV_int, Pm.sub_int, Pm.mul_int, Pm.gt_int, Pm.eq_int, Pm.ne_int, Pm.lt_int, Pm.le_int, Pm.ge_int, Pm.neg_int, Bool.not_true, Bool.not_false, if_true, if_false, decide_eq_true_eq, Bool.false_eq_true, reduceIte, List.map_cons, List.map_nil, List.length_cons, List.length_nil, List.replicate_succ, List.replicate_zero, List.cons_append, List.nil_append, Nat.reduceAdd, Nat.reduceSub, Nat.reduceLeDiff, Nat.reduceMul, true_and, and_true, List.append_nil, e0, decide_true]
      unfold loopW
      simp only [ev_bind, ev_pure, ev_op2, ev_op1, ev_opN, ev_opNF, ev_opM, ev_set3, ev_isL, ev_isi, ev_asB, ev_ite, ev_toR, ev_toV, ev_seq, ev_set, ev_asg, ev_ret, ev_ifS, ev_nx, ev_and, ev_or, ev_not, ev_vAnd, ev_vNot, ev_C, ev_var, ev_name, ev_gnil, ev_gcons, ev_gTup, ev_tup, ev_lst, ev_call, ev_forC, ev_lcC, Pm.is_some, Pm.is_none, Pm.is_if, List.set_cons_zero, List.set_cons_succ, List.getElem?_cons_zero, List.getElem?_cons_succ, tCmp, cOp, cUn, tVal, aNil, aCons, cB, fB, cG, cP, fP, fOp, cSl, fSl, poN, poS, ev_slV, ev_slT, ev_slL, cLm, cLm0, cIsi, fSS, iSq, iR1, iR2, iR3, iEn, iZp, gSub, sEx, Pm.addV_int, Pm.sub_int, Pm.mul_int, Pm.gt_int, Pm.eq_int, Pm.ne_int, Pm.lt_int, Pm.le_int, Pm.ge_int, Pm.neg_int, Bool.not_true, Bool.not_false, if_true, if_false, decide_eq_true_eq, Bool.false_eq_true, reduceIte, List.map_cons, List.map_nil, List.length_cons, List.length_nil, List.replicate_succ, List.replicate_zero, List.cons_append, List.nil_append, Nat.reduceAdd, Nat.reduceSub, Nat.reduceLeDiff, Nat.reduceMul, true_and, and_true, List.append_nil, ring_len hr, lst_ref s1, app_ref s1 (show (cntW cnt).length < 16777216 by unfold cntW; rw [List.length_map]; omega)]
      refine ⟨rfl, ?_⟩
      have s0' : (S.set 1 (.lst (cntW cnt ++ [.int ring.length])))[0]? = some (.dct kvs) := by rw [List.getElem?_set_ne (by decide)]; exact s0
      have s1' := get_set (o' := .lst (cntW cnt ++ [.int ring.length])) s1
      generalize hS' : S.set 1 (.lst (cntW cnt ++ [.int ring.length])) = S' at s0' s1'
      have hr' : RingAt S' rw_ 1 ring := by
        rcases hr with rfl | ⟨j, rfl, j0, j1, hj⟩
        · exact .inl rfl
        · exact .inr ⟨j, rfl, j0, j1, by rw [← hS', List.getElem?_set_ne (Ne.symm j1)]; exact hj⟩
      have hlen : 1 < S'.length := (List.getElem?_eq_some_iff.mp s1').1
      have old : ∀ {j : Nat} {o : O}, S'[j]? = some o → (S' ++ [.lst []])[j]? = some o ∧ j ≠ S'.length := fun {j o} e => by
        have hj := (List.getElem?_eq_some_iff.mp e).1
        exact ⟨by rw [List.getElem?_append_left hj]; exact e, Nat.ne_of_lt hj⟩
      have st : St (S' ++ [.lst []]) (S' ++ [.lst []]) S'.length met [] := ⟨⟨kvs, (old s0').1, hk0⟩, by rw [List.getElem?_append_right (Nat.le_refl _), Nat.sub_self]; rfl, fun _ _ _ => rfl, rfl, by omega⟩
      have hr2 : RingAt (S' ++ [.lst []]) rw_ S'.length ring := by
        rcases hr' with rfl | ⟨j, rfl, j0, j1, hj⟩
        · exact .inl rfl
        · exact .inr ⟨j, rfl, j0, (old hj).2, (old hj).1⟩
      refine outW_ev hl ht hp hm hm2 hn hn2 ⟨nd, hu, by simp⟩ st hr2 (by omega) fun S2 a2 b2 st2 g2 => ?_
      simp only [ev_bind, ev_pure, ev_op2, ev_op1, ev_opN, ev_opNF, ev_opM, ev_set3, ev_isL, ev_isi, ev_asB, ev_ite, ev_toR, ev_toV, ev_seq, ev_set, ev_asg, ev_ret, ev_ifS, ev_nx, ev_and, ev_or, ev_not, ev_vAnd, ev_vNot, ev_C, ev_var, ev_name, ev_gnil, ev_gcons, ev_gTup, ev_tup, ev_lst, ev_call, ev_forC, ev_lcC, Pm.is_some, Pm.is_none, Pm.is_if, List.set_cons_zero, List.set_cons_succ, List.getElem?_cons_zero, List.getElem?_cons_succ, tCmp, cOp, cUn, tVal, aNil, aCons, cB, fB, cG, cP, fP, fOp, cSl, fSl, poN, poS, ev_slV, ev_slT, ev_slL, cLm, cLm0, cIsi, fSS, iSq, iR1, iR2, iR3, iEn, iZp, gSub, sEx, Pm.addV_int, Pm.sub_int, Pm.mul_int, Pm.gt_int, Pm.eq_int, Pm.ne_int, Pm.lt_int, Pm.le_int, Pm.ge_int, Pm.neg_int, Bool.not_true, Bool.not_false, if_true, if_false, decide_eq_true_eq, Bool.false_eq_true, reduceIte, List.map_cons, List.map_nil, List.length_cons, List.length_nil, List.replicate_succ, List.replicate_zero, List.cons_append, List.nil_append, Nat.reduceAdd, Nat.reduceSub, Nat.reduceLeDiff, Nat.reduceMul, true_and, and_true, List.append_nil]
      obtain ⟨n1, n2, n3, n4, n5⟩ := turn_next hp hm2 hn2 h0 hT (by omega) g2 rfl hc
      obtain ⟨kvs2, d1, d2⟩ := st2.d
      refine ⟨.inl trivial, _, by rw [hk]; exact n4, _, _, _, _, rfl, (ringTurn ties m n met ring).1, (ringTurn ties m n met ring).2, cnt ++ [ring.length], f - 1, kvs2, d1, d2, ?_, .inr ⟨S'.length, rfl, by omega, by omega, st2.f⟩, g2.nd, g2.u, fun t ht => by rw [g2.e]; exact List.mem_append_right _ ht, n1, n2, n3, rfl, n5⟩
      rw [st2.o 1 (by decide) (by omega), (old s1').1]
      unfold cntW
      rw [List.map_append]
      rfl
  · intro t ht
    rw [List.mem_singleton.mp ht]
    exact ⟨hs, ⟨Int.le_refl _, hm⟩, Int.le_refl _, hn⟩
end K73

namespace K73
open PySem Pm
theorem ev_rng1 {j : Int} {S : Sto} {Q : Gen → Sto → Prop} (h0 : -1000000 ≤ j) (h1 : j < 1000000) (q : Q (rngG 0 1 j.toNat) S) : Ev (rng1I [.int j]) S Q := by
  unfold rng1I
  simp only
  rw [if_pos (by unfold LIM; omega)]
  exact ev_pure.mpr q
theorem rngG_lt {lo : Int} {n i : Nat} {S : Sto} (h : i < n) : rngG lo 1 n i S = some (some (.int (lo + i))) := by
  unfold rngG
  rw [if_pos h, Int.mul_one]
theorem rngG_end {lo : Int} {n : Nat} {S : Sto} : rngG lo 1 n n S = some none := by
  unfold rngG
  rw [if_neg (Nat.lt_irrefl _)]
/-- lists at 0 .. P-1 -/
def stL (F : Nat → List T3) (P : Nat) : Sto := (List.range P).map fun p => .lst ((F p).map w3)
theorem stL_get {F : Nat → List T3} {P j : Nat} (h : j < P) : (stL F P)[j]? = some (.lst ((F j).map w3)) := by
  unfold stL
  rw [List.getElem?_map, List.getElem?_range h]
  rfl
theorem stL_set {F : Nat → List T3} {P j : Nat} (s : T3) : (stL F P).set j (.lst ((F j).map w3 ++ [w3 s])) = stL (fun p => if p = j then F p ++ [s] else F p) P := by
  refine List.ext_getElem? fun i => ?_
  by_cases hi : i < P
  · rw [stL_get hi]
    by_cases e : i = j
    · subst e
      rw [get_set (stL_get hi), if_pos rfl, List.map_append]
      rfl
    · rw [List.getElem?_set_ne (Ne.symm e), stL_get hi, if_neg e]
  · rw [List.getElem?_eq_none (by rw [List.length_set]; unfold stL; simp; omega), List.getElem?_eq_none (by unfold stL; simp; omega)]
theorem stL_congr {F F' : Nat → List T3} {P : Nat} (h : ∀ p, p < P → F p = F' p) : stL F P = stL F' P := by
  unfold stL
  refine List.map_congr_left fun p hp => ?_
  rw [h p (List.mem_range.mp hp)]
theorem atI_nat {ws : List W} {a : Int} {w : W} (h0 : 0 ≤ a) (h : ws[a.toNat]? = some w) (hl : ws.length < 1000000) : L2.atI ws a = some w := by
  have hi := (List.getElem?_eq_some_iff.mp h).1
  unfold L2.atI L2.ixN
  rw [if_pos h0, if_pos (by omega)]
  exact h
def stepsW (ties : List T4) (P : Nat) : List W := List.map (fun p : Nat => W.vl ((stepsOf ties (p : Int)).map w3)) (List.range P)
theorem law_steps_ev {places : Int} {ties : List T4} (hl : ties.length < 400) (ht : ∀ t ∈ ties, Tie places t) (hp0 : 0 ≤ places) (hp : places ≤ 4) : Ev (m__law_steps [gridW places ties]) [] fun w S' => frz S' DEP w = some (.vl (stepsW ties places.toNat)) := by
  unfold m__law_steps b__law_steps
  rw [ev_fn]
  simp only [ev_bind, ev_pure, ev_op2, ev_op1, ev_opN, ev_opNF, ev_opM, ev_set3, ev_isL, ev_isi, ev_asB, ev_ite, ev_toR, ev_toV, ev_seq, ev_set, ev_asg, ev_ret, ev_ifS, ev_nx, ev_and, ev_or, ev_not, ev_vAnd, ev_vNot, ev_C, ev_var, ev_name, ev_gnil, ev_gcons, ev_gTup, ev_tup, ev_lst, ev_call, ev_forC, ev_lcC, Pm.is_some, Pm.is_none, Pm.is_if, List.set_cons_zero, List.set_cons_succ, List.getElem?_cons_zero, List.getElem?_cons_succ, tCmp, cOp, cUn, tVal, aNil, aCons, cB, fB, cG, cP, fP, fOp, cSl, fSl, poN, poS, ev_slV, ev_slT, ev_slL, cLm, cLm0, cIsi, fSS, iSq, iR1, iR2, iR3, iEn, iZp, gSub, sEx, Pm.addV_int, Pm.sub_int, Pm.mul_int, Pm.gt_int, Pm.eq_int, Pm.ne_int, Pm.lt_int, Pm.le_int, Pm.ge_int, Pm.neg_int, Bool.not_true, Bool.not_false, if_true, if_false, decide_eq_true_eq, Bool.false_eq_true, reduceIte, List.map_cons, List.map_nil, List.length_cons, List.length_nil, List.replicate_succ, List.replicate_zero, List.cons_append, List.nil_append, Nat.reduceAdd, Nat.reduceSub, Nat.reduceLeDiff, Nat.reduceMul, true_and, and_true, List.append_nil, gridW, show ∀ (S : Sto) (a b : W), ixAO S (.tup [a, b]) (.int 1) = some b from fun _ _ _ => rfl, show ∀ (S : Sto) (a b : W), ixAO S (.tup [a, b]) (.int 0) = some a from fun _ _ _ => rfl]
  refine ev_rng1 (by omega) (by omega) ?_
  refine ev_lc0 (fun i acc S => acc = (List.range i).map W.ref ∧ S = stL (fun _ => []) i) places.toNat (by omega) ⟨rfl, rfl⟩ ?_ ?_
  · rintro i acc S hi _ ⟨rfl, rfl⟩
    refine ⟨_, rngG_lt hi, ?_⟩
    simp only [ev_bind, ev_pure, ev_op2, ev_op1, ev_opN, ev_opNF, ev_opM, ev_set3, ev_isL, ev_isi, ev_asB, ev_ite, ev_toR, ev_toV, ev_seq, ev_set, ev_asg, ev_ret, ev_ifS, ev_nx, ev_and, ev_or, ev_not, ev_vAnd, ev_vNot, ev_C, ev_var, ev_name, ev_gnil, ev_gcons, ev_gTup, ev_tup, ev_lst, ev_call, ev_forC, ev_lcC, Pm.is_some, Pm.is_none, Pm.is_if, List.set_cons_zero, List.set_cons_succ, List.getElem?_cons_zero, List.getElem?_cons_succ, tCmp, cOp, cUn, tVal, aNil, aCons, cB, fB, cG, cP, fP, fOp, cSl, fSl, poN, poS, ev_slV, ev_slT, ev_slL, cLm, cLm0, cIsi, fSS, iSq, iR1, iR2, iR3, iEn, iZp, gSub, sEx, Pm.addV_int, Pm.sub_int, Pm.mul_int, Pm.gt_int, Pm.eq_int, Pm.ne_int, Pm.lt_int, Pm.le_int, Pm.ge_int, Pm.neg_int, Bool.not_true, Bool.not_false, if_true, if_false, decide_eq_true_eq, Bool.false_eq_true, reduceIte, List.map_cons, List.map_nil, List.length_cons, List.length_nil, List.replicate_succ, List.replicate_zero, List.cons_append, List.nil_append, Nat.reduceAdd, Nat.reduceSub, Nat.reduceLeDiff, Nat.reduceMul, true_and, and_true, List.append_nil, wipeR, cYes]
    unfold stL
    rw [List.range_succ]
    simp
  · rintro acc S ⟨rfl, rfl⟩
    refine ⟨rngG_end, ?_⟩
    simp only [ev_bind, ev_pure, ev_op2, ev_op1, ev_opN, ev_opNF, ev_opM, ev_set3, ev_isL, ev_isi, ev_asB, ev_ite, ev_toR, ev_toV, ev_seq, ev_set, ev_asg, ev_ret, ev_ifS, ev_nx, ev_and, ev_or, ev_not, ev_vAnd, ev_vNot, ev_C, ev_var, ev_name, ev_gnil, ev_gcons, ev_gTup, ev_tup, ev_lst, ev_call, ev_forC, ev_lcC, Pm.is_some, Pm.is_none, Pm.is_if, List.set_cons_zero, List.set_cons_succ, List.getElem?_cons_zero, List.getElem?_cons_succ, tCmp, cOp, cUn, tVal, aNil, aCons, cB, fB, cG, cP, fP, fOp, cSl, fSl, poN, poS, ev_slV, ev_slT, ev_slL, cLm, cLm0, cIsi, fSS, iSq, iR1, iR2, iR3, iEn, iZp, gSub, sEx, Pm.addV_int, Pm.sub_int, Pm.mul_int, Pm.gt_int, Pm.eq_int, Pm.ne_int, Pm.lt_int, Pm.le_int, Pm.ge_int, Pm.neg_int, Bool.not_true, Bool.not_false, if_true, if_false, decide_eq_true_eq, Bool.false_eq_true, reduceIte, List.map_cons, List.map_nil, List.length_cons, List.length_nil, List.replicate_succ, List.replicate_zero, List.cons_append, List.nil_append, Nat.reduceAdd, Nat.reduceSub, Nat.reduceLeDiff, Nat.reduceMul, true_and, and_true, List.append_nil]
    refine seq_tup ?_
    refine ev_for0 (fun i ρ S => (∃ p a b x y, ρ = [some (gridW places ties), some (.vl ((List.range places.toNat).map W.ref)), p, a, b, x, y]) ∧ S = stL (fun p => stepsOf (ties.take i) p) places.toNat) ties.length (by omega) ⟨⟨_, _, _, _, _, rfl⟩, rfl⟩ ?_ ?_
    · rintro i ρ S hi ⟨⟨p0, a0, b0, x0, y0, rfl⟩, rfl⟩
      rcases hx : ties[i] with ⟨a, b, x, y⟩
      have hg : ties[i]? = some (a, b, x, y) := by rw [List.getElem?_eq_getElem hi, hx]
      obtain ⟨⟨ha0, ha1⟩, hb0, hb1⟩ := ht _ (List.mem_of_getElem? hg)
      simp only at ha0 ha1 hb0 hb1
      refine ⟨w4 (a, b, x, y), by rw [List.getElem?_map, hg]; rfl, ?_⟩
      have ix : ∀ (S : Sto) (j : Int), 0 ≤ j → j < places → ixAO S (.vl ((List.range places.toNat).map W.ref)) (.int j) = some (.ref j.toNat) := fun S j h0 h1 => by
        show L2.atI ((List.range places.toNat).map W.ref) j = _
        refine atI_nat h0 ?_ (by simp; omega)
        rw [List.getElem?_map, List.getElem?_range (by omega)]
        rfl
      have la : a.toNat < places.toNat := by omega
      have lb : b.toNat < places.toNat := by omega
      have small : ∀ p, (stepsOf (ties.take i) p).length ≤ 800 := fun p => by
        have := stepsOf_len p (ties.take i)
        rw [List.length_take] at this
        omega
      have g1 := stL_get (F := fun p => stepsOf (ties.take i) p) la
      have e1 := app_ref (y := w3 (b, x, y)) g1 (by rw [List.length_map]; have := small a.toNat; omega)
      rw [stL_set (F := fun p => stepsOf (ties.take i) p) (j := a.toNat) (b, x, y)] at e1
      have g2 := stL_get (F := fun p => if p = a.toNat then stepsOf (ties.take i) p ++ [(b, x, y)] else stepsOf (ties.take i) p) lb
      have e2 := app_ref (y := w3 (a, 0 - x, 0 - y)) g2 (by
        rw [List.length_map]
        have := small b.toNat
        split
        · rw [List.length_append, List.length_singleton]; omega
        · omega)
      rw [stL_set (F := fun p => if p = a.toNat then stepsOf (ties.take i) p ++ [(b, x, y)] else stepsOf (ties.take i) p) (j := b.toNat) (a, 0 - x, 0 - y)] at e2
      unfold w3 at e1 e2
      unfold w4
      simp only [ev_bind, ev_pure, ev_op2, ev_op1, ev_opN, ev_opNF, ev_opM, ev_set3, ev_isL, ev_isi, ev_asB, ev_ite, ev_toR, ev_toV, ev_seq, ev_set, ev_asg, ev_ret, ev_ifS, ev_nx, ev_and, ev_or, ev_not, ev_vAnd, ev_vNot, ev_C, ev_var, ev_name, ev_gnil, ev_gcons, ev_gTup, ev_tup, ev_lst, ev_call, ev_forC, ev_lcC, Pm.is_some, Pm.is_none, Pm.is_if, List.set_cons_zero, List.set_cons_succ, List.getElem?_cons_zero, List.getElem?_cons_succ, tCmp, cOp, cUn, tVal, aNil, aCons, cB, fB, cG, cP, fP, fOp, cSl, fSl, poN, poS, ev_slV, ev_slT, ev_slL, cLm, cLm0, cIsi, fSS, iSq, iR1, iR2, iR3, iEn, iZp, gSub, sEx, Pm.addV_int, Pm.sub_int, Pm.mul_int, Pm.gt_int, Pm.eq_int, Pm.ne_int, Pm.lt_int, Pm.le_int, Pm.ge_int, Pm.neg_int, Bool.not_true, Bool.not_false, if_true, if_false, decide_eq_true_eq, Bool.false_eq_true, reduceIte, List.map_cons, List.map_nil, List.length_cons, List.length_nil, List.replicate_succ, List.replicate_zero, List.cons_append, List.nil_append, Nat.reduceAdd, Nat.reduceSub, Nat.reduceLeDiff, Nat.reduceMul, true_and, and_true, List.append_nil, ix _ a ha0 ha1, ix _ b hb0 hb1, lst_ref g1, e1, lst_ref g2, e2]
      refine ⟨rfl, rfl, .inl trivial, ⟨_, _, _, _, _, rfl⟩, stL_congr fun p hp => ?_⟩
      rw [stepsOf_take hg]
      unfold one
      simp only
      by_cases h1 : p = a.toNat
      · have h1' : a = (p : Int) := by omega
        by_cases h2 : p = b.toNat
        · have h2' : b = (p : Int) := by omega
          rw [if_pos h2, if_pos h1, if_pos h1', if_pos h2', List.append_assoc]
        · have h2' : ¬ b = (p : Int) := by omega
          rw [if_neg h2, if_pos h1, if_pos h1', if_neg h2']
          rfl
      · have h1' : ¬ a = (p : Int) := by omega
        by_cases h2 : p = b.toNat
        · have h2' : b = (p : Int) := by omega
          rw [if_pos h2, if_neg h1, if_neg h1', if_pos h2']
          rfl
        · have h2' : ¬ b = (p : Int) := by omega
          rw [if_neg h2, if_neg h1, if_neg h1', if_neg h2', List.append_nil, List.append_nil]
    · rintro ρ S ⟨⟨p0, a0, b0, x0, y0, rfl⟩, rfl⟩
      refine ⟨by simp, ?_⟩
      simp only [ev_bind, ev_pure, ev_op2, ev_op1, ev_opN, ev_opNF, ev_opM, ev_set3, ev_isL, ev_isi, ev_asB, ev_ite, ev_toR, ev_toV, ev_seq, ev_set, ev_asg, ev_ret, ev_ifS, ev_nx, ev_and, ev_or, ev_not, ev_vAnd, ev_vNot, ev_C, ev_var, ev_name, ev_gnil, ev_gcons, ev_gTup, ev_tup, ev_lst, ev_call, ev_forC, ev_lcC, Pm.is_some, Pm.is_none, Pm.is_if, List.set_cons_zero, List.set_cons_succ, List.getElem?_cons_zero, List.getElem?_cons_succ, tCmp, cOp, cUn, tVal, aNil, aCons, cB, fB, cG, cP, fP, fOp, cSl, fSl, poN, poS, ev_slV, ev_slT, ev_slL, cLm, cLm0, cIsi, fSS, iSq, iR1, iR2, iR3, iEn, iZp, gSub, sEx, Pm.addV_int, Pm.sub_int, Pm.mul_int, Pm.gt_int, Pm.eq_int, Pm.ne_int, Pm.lt_int, Pm.le_int, Pm.ge_int, Pm.neg_int, Bool.not_true, Bool.not_false, if_true, if_false, decide_eq_true_eq, Bool.false_eq_true, reduceIte, List.map_cons, List.map_nil, List.length_cons, List.length_nil, List.replicate_succ, List.replicate_zero, List.cons_append, List.nil_append, Nat.reduceAdd, Nat.reduceSub, Nat.reduceLeDiff, Nat.reduceMul, true_and, and_true, List.append_nil, List.take_length]
      show ((mapO (frz (stL (fun p => stepsOf ties p) places.toNat) 19) ((List.range places.toNat).map W.ref)).map W.vl) = _
      have : ∀ l : List Nat, (∀ p ∈ l, p < places.toNat) → mapO (frz (stL (fun p => stepsOf ties p) places.toNat) 19) (l.map W.ref) = some (List.map (fun p : Nat => W.vl ((stepsOf ties (p : Int)).map w3)) l) := by
        intro l
        induction l with
        | nil => intro _; rfl
        | cons p l ih =>
          intro h
          have e : frz (stL (fun p => stepsOf ties p) places.toNat) 19 (.ref p) = some (.vl ((stepsOf ties (p : Int)).map w3)) := by
            unfold frz
            simp only [stL_get (F := fun p => stepsOf ties p) (h p List.mem_cons_self)]
            rw [mapO_id fun x hx => frz_pure _ 18 (by obtain ⟨s, _, rfl⟩ := List.mem_map.mp hx; exact pure_w3 16 s)]
            rfl
          rw [List.map_cons]
          unfold mapO
          rw [e, ih fun q hq => h q (List.mem_cons_of_mem _ hq)]
          rfl
      rw [this _ fun p hp => List.mem_range.mp hp]
      rfl
end K73

namespace K73
open PySem Pm
theorem St.len1 {S0 S : Sto} {k : Nat} {met fur : List T3} {ws : List W} (h : St S0 S k met fur) (h1 : S0[1]? = some (.lst ws)) (k1 : k ≠ 1) : lenAO S [.ref 1] = some (.int ws.length) := by
  have e : S[1]? = some (.lst ws) := by rw [h.o 1 (by decide) (Ne.symm k1)]; exact h1
  unfold lenAO dctO
  simp only [e]
  unfold lenO seqO
  simp only [e]
def inL : Cm := seqC (setC 15 (tupM (aCons (cVar 12) (aCons (cOp modO (cOp addVO (cVar 10) (cVar 13)) (cVar 2)) (aCons (cOp modO (cOp addVO (cVar 11) (cVar 14)) (cVar 3)) (aNil)))))) (cIfS (tCmp notInAO (cVar 15) (cVar 5)) (seqC (asgC (cB lenAO (aCons (cVar 7) (aNil))) (gSub setAO (cVar 5) (cVar 15))) (sEx (cLm appO (cVar 8) (aCons (cVar 15) (aNil))))) (cNx))
theorem inL_ev {g steps ring p u v q x y : W} {start m n : Int} {k : Nat} {S0 S : Sto} {met fur : List T3} {ws : List W} {e : Option W} {t s : T3} {Q : Fl × Rho → Sto → Prop} (h : St S0 S k met fur) (h1 : S0[1]? = some (.lst ws)) (k1 : k ≠ 1) (hz : met.length < 900) (hz2 : fur.length < 900) (hm : 0 < m) (hn : 0 < n)
    (q : ∀ S' e, St S0 S' k (meet (met, fur) (s.1, (t.2.1 + s.2.1).fmod m, (t.2.2 + s.2.2).fmod n)).1 (meet (met, fur) (s.1, (t.2.1 + s.2.1).fmod m, (t.2.2 + s.2.2).fmod n)).2 →
      Q (.nx, [some g, some (.int start), some (.int m), some (.int n), some steps, some (.ref 0), some ring, some (.ref 1), some (.ref k), some p, some (.int t.2.1), some (.int t.2.2), some (.int s.1), some (.int s.2.1), some (.int s.2.2), e]) S') :
    Ev (inL [some g, some (.int start), some (.int m), some (.int n), some steps, some (.ref 0), some ring, some (.ref 1), some (.ref k), some p, some (.int t.2.1), some (.int t.2.2), some (.int s.1), some (.int s.2.1), some (.int s.2.2), e]) S Q := by
  unfold inL
  have hno := h.notin (s.1, (t.2.1 + s.2.1).fmod m, (t.2.2 + s.2.2).fmod n)
  unfold w3 at hno
  simp only at hno
  simp only [ev_bind, ev_pure, ev_op2, ev_op1, ev_opN, ev_opNF, ev_opM, ev_set3, ev_isL, ev_isi, ev_asB, ev_ite, ev_toR, ev_toV, ev_seq, ev_set, ev_asg, ev_ret, ev_ifS, ev_nx, ev_and, ev_or, ev_not, ev_vAnd, ev_vNot, ev_C, ev_var, ev_name, ev_gnil, ev_gcons, ev_gTup, ev_tup, ev_lst, ev_call, ev_forC, ev_lcC, Pm.is_some, Pm.is_none, Pm.is_if, List.set_cons_zero, List.set_cons_succ, List.getElem?_cons_zero, List.getElem?_cons_succ, tCmp, cOp, cUn, tVal, aNil, aCons, cB, fB, cG, cP, fP, fOp, cSl, fSl, poN, poS, ev_slV, ev_slT, ev_slL, cLm, cLm0, cIsi, fSS, iSq, iR1, iR2, iR3, iEn, iZp, gSub, sEx, Pm.addV_int, Pm.sub_int, Pm.mul_int, Pm.gt_int, Pm.eq_int, Pm.ne_int, Pm.lt_int, Pm.le_int, Pm.ge_int, Pm.neg_int, Bool.not_true, Bool.not_false, if_true, if_false, decide_eq_true_eq, Bool.false_eq_true, reduceIte, List.map_cons, List.map_nil, List.length_cons, List.length_nil, List.replicate_succ, List.replicate_zero, List.cons_append, List.nil_append, Nat.reduceAdd, Nat.reduceSub, Nat.reduceLeDiff, Nat.reduceMul, true_and, and_true, List.append_nil, mod_int (b := m) (by omega), mod_int (b := n) (by omega), hno]
  by_cases ho : (s.1, (t.2.1 + s.2.1).fmod m, (t.2.2 + s.2.2).fmod n) ∈ met
  · have e : meet (met, fur) (s.1, (t.2.1 + s.2.1).fmod m, (t.2.2 + s.2.2).fmod n) = (met, fur) := if_pos ho
    rw [e] at q
    simp only [ho, decide_true, Bool.not_true, Bool.false_eq_true, if_false]
    exact q S _ h
  · have e : meet (met, fur) (s.1, (t.2.1 + s.2.1).fmod m, (t.2.2 + s.2.2).fmod n) = (met ++ [(s.1, (t.2.1 + s.2.1).fmod m, (t.2.2 + s.2.2).fmod n)], fur ++ [(s.1, (t.2.1 + s.2.1).fmod m, (t.2.2 + s.2.2).fmod n)]) := if_neg ho
    rw [e] at q
    simp only [ho, decide_false, Bool.not_false, if_true]
    obtain ⟨S1, e1, h1'⟩ := h.put ho (by omega) (.int ws.length)
    obtain ⟨S2, e2, h2⟩ := h1'.app (s.1, (t.2.1 + s.2.1).fmod m, (t.2.2 + s.2.2).fmod n) (by omega)
    unfold w3 at e1 e2
    simp only [ev_bind, ev_pure, ev_op2, ev_op1, ev_opN, ev_opNF, ev_opM, ev_set3, ev_isL, ev_isi, ev_asB, ev_ite, ev_toR, ev_toV, ev_seq, ev_set, ev_asg, ev_ret, ev_ifS, ev_nx, ev_and, ev_or, ev_not, ev_vAnd, ev_vNot, ev_C, ev_var, ev_name, ev_gnil, ev_gcons, ev_gTup, ev_tup, ev_lst, ev_call, ev_forC, ev_lcC, Pm.is_some, Pm.is_none, Pm.is_if, List.set_cons_zero, List.set_cons_succ, List.getElem?_cons_zero, List.getElem?_cons_succ, tCmp, cOp, cUn, tVal, aNil, aCons, cB, fB, cG, cP, fP, fOp, cSl, fSl, poN, poS, ev_slV, ev_slT, ev_slL, cLm, cLm0, cIsi, fSS, iSq, iR1, iR2, iR3, iEn, iZp, gSub, sEx, Pm.addV_int, Pm.sub_int, Pm.mul_int, Pm.gt_int, Pm.eq_int, Pm.ne_int, Pm.lt_int, Pm.le_int, Pm.ge_int, Pm.neg_int, Bool.not_true, Bool.not_false, if_true, if_false, decide_eq_true_eq, Bool.false_eq_true, reduceIte, List.map_cons, List.map_nil, List.length_cons, List.length_nil, List.replicate_succ, List.replicate_zero, List.cons_append, List.nil_append, Nat.reduceAdd, Nat.reduceSub, Nat.reduceLeDiff, Nat.reduceMul, true_and, and_true, List.append_nil, h.len1 h1 k1, e1, e2, lst_ref h1'.f]
    exact ⟨rfl, q S2 _ h2⟩
def midL : Cm := forC (iSq (cOp ixAO (cVar 4) (cVar 9))) (gTup 3 (gmsCons (gmName 12) (gmsCons (gmName 13) (gmsCons (gmName 14) (gmsNil))))) inL
theorem midL_ev {places : Int} {ties : List T4} {g ring : W} {start m n : Int} {k : Nat} {S0 S : Sto} {met0 : List T3} {p : List T3 × List T3} {ws : List W} {t : T3} {a b c d : Option W} {Q : Fl × Rho → Sto → Prop} (hl : ties.length < 400) (ht : ∀ t ∈ ties, Tie places t) (hp : places ≤ 4) (hm : 0 < m) (hm2 : m ≤ 12) (hn : 0 < n) (hn2 : n ≤ 12)
    (hI : InU places m n t) (gd : Good places m n met0 p) (h : St S0 S k p.1 p.2) (h1 : S0[1]? = some (.lst ws)) (k1 : k ≠ 1)
    (q : ∀ S' a b c d, St S0 S' k ((nbs ties m n t).foldl meet p).1 ((nbs ties m n t).foldl meet p).2 → Q (.nx, [some g, some (.int start), some (.int m), some (.int n), some (.vl (stepsW ties places.toNat)), some (.ref 0), some ring, some (.ref 1), some (.ref k), some (.int t.1), some (.int t.2.1), some (.int t.2.2), a, b, c, d]) S') :
    Ev (midL [some g, some (.int start), some (.int m), some (.int n), some (.vl (stepsW ties places.toNat)), some (.ref 0), some ring, some (.ref 1), some (.ref k), some (.int t.1), some (.int t.2.1), some (.int t.2.2), a, b, c, d]) S Q := by
  have ix : ixAO S (.vl (stepsW ties places.toNat)) (.int t.1) = some (.vl ((stepsOf ties t.1).map w3)) := by
    obtain ⟨⟨i1, i2⟩, _⟩ := hI
    show L2.atI (stepsW ties places.toNat) t.1 = _
    refine atI_nat i1 ?_ (by unfold stepsW; simp; omega)
    unfold stepsW
    rw [List.getElem?_map, List.getElem?_range (by omega)]
    simp only [Option.map_some, Option.some.injEq]
    have e : ((t.1.toNat : Nat) : Int) = t.1 := by omega
    rw [e]
  unfold midL
  simp only [ev_bind, ev_pure, ev_op2, ev_op1, ev_opN, ev_opNF, ev_opM, ev_set3, ev_isL, ev_isi, ev_asB, ev_ite, ev_toR, ev_toV, ev_seq, ev_set, ev_asg, ev_ret, ev_ifS, ev_nx, ev_and, ev_or, ev_not, ev_vAnd, ev_vNot, ev_C, ev_var, ev_name, ev_gnil, ev_gcons, ev_gTup, ev_tup, ev_lst, ev_call, ev_forC, ev_lcC, Pm.is_some, Pm.is_none, Pm.is_if, List.set_cons_zero, List.set_cons_succ, List.getElem?_cons_zero, List.getElem?_cons_succ, tCmp, cOp, cUn, tVal, aNil, aCons, cB, fB, cG, cP, fP, fOp, cSl, fSl, poN, poS, ev_slV, ev_slT, ev_slL, cLm, cLm0, cIsi, fSS, iSq, iR1, iR2, iR3, iEn, iZp, gSub, sEx, Pm.addV_int, Pm.sub_int, Pm.mul_int, Pm.gt_int, Pm.eq_int, Pm.ne_int, Pm.lt_int, Pm.le_int, Pm.ge_int, Pm.neg_int, Bool.not_true, Bool.not_false, if_true, if_false, decide_eq_true_eq, Bool.false_eq_true, reduceIte, List.map_cons, List.map_nil, List.length_cons, List.length_nil, List.replicate_succ, List.replicate_zero, List.cons_append, List.nil_append, Nat.reduceAdd, Nat.reduceSub, Nat.reduceLeDiff, Nat.reduceMul, true_and, and_true, List.append_nil, ix]
  refine seq_vl ?_
  have hlen := stepsOf_len t.1 ties
  have hnb : (nbs ties m n t).length = (stepsOf ties t.1).length := by unfold nbs; rw [List.length_map]
  refine ev_for0 (fun i ρ S => (∃ a b c d, ρ = [some g, some (.int start), some (.int m), some (.int n), some (.vl (stepsW ties places.toNat)), some (.ref 0), some ring, some (.ref 1), some (.ref k), some (.int t.1), some (.int t.2.1), some (.int t.2.2), a, b, c, d]) ∧ St S0 S k (((nbs ties m n t).take i).foldl meet p).1 (((nbs ties m n t).take i).foldl meet p).2) (stepsOf ties t.1).length (by omega) ⟨⟨_, _, _, _, rfl⟩, h⟩ ?_ ?_
  · rintro i ρ S hi ⟨⟨a, b, c, d, rfl⟩, h⟩
    have hx : (stepsOf ties t.1)[i]? = some (stepsOf ties t.1)[i] := List.getElem?_eq_getElem hi
    generalize hs : (stepsOf ties t.1)[i] = s at hx
    have hx2 : (nbs ties m n t)[i]? = some (s.1, (t.2.1 + s.2.1).fmod m, (t.2.2 + s.2.2).fmod n) := by
      unfold nbs
      rw [List.getElem?_map, hx]
      rfl
    have gi := Good.fold ((nbs ties m n t).take i) gd fun o ho => nbs_in ht hm hn t o (List.mem_of_mem_take ho)
    have f1 := few hp hm2 hn2 gi.nd gi.u
    have f2 : (((nbs ties m n t).take i).foldl meet p).2.length ≤ 576 := by
      have := congrArg List.length gi.e
      rw [List.length_append] at this
      omega
    refine ⟨w3 s, by rw [List.getElem?_map, hx]; rfl, ?_⟩
    unfold w3
    simp only [ev_bind, ev_pure, ev_op2, ev_op1, ev_opN, ev_opNF, ev_opM, ev_set3, ev_isL, ev_isi, ev_asB, ev_ite, ev_toR, ev_toV, ev_seq, ev_set, ev_asg, ev_ret, ev_ifS, ev_nx, ev_and, ev_or, ev_not, ev_vAnd, ev_vNot, ev_C, ev_var, ev_name, ev_gnil, ev_gcons, ev_gTup, ev_tup, ev_lst, ev_call, ev_forC, ev_lcC, Pm.is_some, Pm.is_none, Pm.is_if, List.set_cons_zero, List.set_cons_succ, List.getElem?_cons_zero, List.getElem?_cons_succ, tCmp, cOp, cUn, tVal, aNil, aCons, cB, fB, cG, cP, fP, fOp, cSl, fSl, poN, poS, ev_slV, ev_slT, ev_slL, cLm, cLm0, cIsi, fSS, iSq, iR1, iR2, iR3, iEn, iZp, gSub, sEx, Pm.addV_int, Pm.sub_int, Pm.mul_int, Pm.gt_int, Pm.eq_int, Pm.ne_int, Pm.lt_int, Pm.le_int, Pm.ge_int, Pm.neg_int, Bool.not_true, Bool.not_false, if_true, if_false, decide_eq_true_eq, Bool.false_eq_true, reduceIte, List.map_cons, List.map_nil, List.length_cons, List.length_nil, List.replicate_succ, List.replicate_zero, List.cons_append, List.nil_append, Nat.reduceAdd, Nat.reduceSub, Nat.reduceLeDiff, Nat.reduceMul, true_and, and_true, List.append_nil]
    refine inL_ev (t := t) (s := s) (p := .int t.1) (u := .non) (v := .non) (q := .non) (x := .non) (y := .non) h h1 k1 (by omega) (by omega) hm hn fun S' e h' => ⟨.inl rfl, ⟨_, _, _, _, rfl⟩, ?_⟩
    rw [foldl_take meet p hx2]
    exact h'
  · rintro ρ S ⟨⟨a, b, c, d, rfl⟩, h⟩
    refine ⟨by simp, ?_⟩
    rw [← hnb, List.take_length] at h
    exact q S a b c d h
def outL : Cm := forC (iSq (cVar 6)) (gTup 3 (gmsCons (gmName 9) (gmsCons (gmName 10) (gmsCons (gmName 11) (gmsNil))))) midL
theorem outL_ev {places : Int} {ties : List T4} {rw_ : W} {ring : List T3} {start m n : Int} {k : Nat} {S0 S : Sto} {met : List T3} {ws : List W} {a1 a2 a3 a b c d : Option W} {g : W} {Q : Fl × Rho → Sto → Prop} (hl : ties.length < 400) (ht : ∀ t ∈ ties, Tie places t) (hp : places ≤ 4) (hm : 0 < m) (hm2 : m ≤ 12) (hn : 0 < n) (hn2 : n ≤ 12)
    (gd0 : Good places m n met (met, [])) (h : St S0 S k met []) (r : RingAt S rw_ k ring) (hr : ring.length < 1000) (hU : ∀ t ∈ ring, InU places m n t) (h1 : S0[1]? = some (.lst ws)) (k1 : k ≠ 1)
    (q : ∀ S' a1 a2 a3 a b c d, St S0 S' k (ringTurn ties m n met ring).1 (ringTurn ties m n met ring).2 → Good places m n met (ringTurn ties m n met ring) → Q (.nx, [some g, some (.int start), some (.int m), some (.int n), some (.vl (stepsW ties places.toNat)), some (.ref 0), some rw_, some (.ref 1), some (.ref k), a1, a2, a3, a, b, c, d]) S') :
    Ev (outL [some g, some (.int start), some (.int m), some (.int n), some (.vl (stepsW ties places.toNat)), some (.ref 0), some rw_, some (.ref 1), some (.ref k), a1, a2, a3, a, b, c, d]) S Q := by
  unfold outL
  simp only [ev_bind, ev_pure, ev_op2, ev_op1, ev_opN, ev_opNF, ev_opM, ev_set3, ev_isL, ev_isi, ev_asB, ev_ite, ev_toR, ev_toV, ev_seq, ev_set, ev_asg, ev_ret, ev_ifS, ev_nx, ev_and, ev_or, ev_not, ev_vAnd, ev_vNot, ev_C, ev_var, ev_name, ev_gnil, ev_gcons, ev_gTup, ev_tup, ev_lst, ev_call, ev_forC, ev_lcC, Pm.is_some, Pm.is_none, Pm.is_if, List.set_cons_zero, List.set_cons_succ, List.getElem?_cons_zero, List.getElem?_cons_succ, tCmp, cOp, cUn, tVal, aNil, aCons, cB, fB, cG, cP, fP, fOp, cSl, fSl, poN, poS, ev_slV, ev_slT, ev_slL, cLm, cLm0, cIsi, fSS, iSq, iR1, iR2, iR3, iEn, iZp, gSub, sEx, Pm.addV_int, Pm.sub_int, Pm.mul_int, Pm.gt_int, Pm.eq_int, Pm.ne_int, Pm.lt_int, Pm.le_int, Pm.ge_int, Pm.neg_int, Bool.not_true, Bool.not_false, if_true, if_false, decide_eq_true_eq, Bool.false_eq_true, reduceIte, List.map_cons, List.map_nil, List.length_cons, List.length_nil, List.replicate_succ, List.replicate_zero, List.cons_append, List.nil_append, Nat.reduceAdd, Nat.reduceSub, Nat.reduceLeDiff, Nat.reduceMul, true_and, and_true, List.append_nil]
  refine ring_seq r fun gen hgen => ?_
  have gd : ∀ i, Good places m n met ((ring.take i).foldl (fun p t => (nbs ties m n t).foldl meet p) (met, [])) := by
    intro i
    have : ∀ (l : List T3) (p : List T3 × List T3), Good places m n met p → Good places m n met (l.foldl (fun p t => (nbs ties m n t).foldl meet p) p) := by
      intro l
      induction l with
      | nil => intro p g; exact g
      | cons t l ih => intro p g; exact ih _ (Good.fold _ g (nbs_in ht hm hn t))
    exact this _ _ gd0
  refine ev_for0 (fun i ρ S => (∃ a1 a2 a3 a b c d, ρ = [some g, some (.int start), some (.int m), some (.int n), some (.vl (stepsW ties places.toNat)), some (.ref 0), some rw_, some (.ref 1), some (.ref k), a1, a2, a3, a, b, c, d]) ∧ RingAt S rw_ k ring ∧ St S0 S k ((ring.take i).foldl (fun p t => (nbs ties m n t).foldl meet p) (met, [])).1 ((ring.take i).foldl (fun p t => (nbs ties m n t).foldl meet p) (met, [])).2) ring.length (by omega) ⟨⟨_, _, _, _, _, _, _, rfl⟩, r, h⟩ ?_ ?_
  · rintro i ρ S hi ⟨⟨a1, a2, a3, a, b, c, d, rfl⟩, r, h⟩
    have hx : ring[i]? = some ring[i] := List.getElem?_eq_getElem hi
    have hI := hU _ (List.mem_of_getElem? hx)
    generalize hti : ring[i] = t at hx hI
    refine ⟨w3 t, by rw [hgen i S r, List.getElem?_map, hx]; rfl, ?_⟩
    unfold w3
    simp only [ev_bind, ev_pure, ev_op2, ev_op1, ev_opN, ev_opNF, ev_opM, ev_set3, ev_isL, ev_isi, ev_asB, ev_ite, ev_toR, ev_toV, ev_seq, ev_set, ev_asg, ev_ret, ev_ifS, ev_nx, ev_and, ev_or, ev_not, ev_vAnd, ev_vNot, ev_C, ev_var, ev_name, ev_gnil, ev_gcons, ev_gTup, ev_tup, ev_lst, ev_call, ev_forC, ev_lcC, Pm.is_some, Pm.is_none, Pm.is_if, List.set_cons_zero, List.set_cons_succ, List.getElem?_cons_zero, List.getElem?_cons_succ, tCmp, cOp, cUn, tVal, aNil, aCons, cB, fB, cG, cP, fP, fOp, cSl, fSl, poN, poS, ev_slV, ev_slT, ev_slL, cLm, cLm0, cIsi, fSS, iSq, iR1, iR2, iR3, iEn, iZp, gSub, sEx, Pm.addV_int, Pm.sub_int, Pm.mul_int, Pm.gt_int, Pm.eq_int, Pm.ne_int, Pm.lt_int, Pm.le_int, Pm.ge_int, Pm.neg_int, Bool.not_true, Bool.not_false, if_true, if_false, decide_eq_true_eq, Bool.false_eq_true, reduceIte, List.map_cons, List.map_nil, List.length_cons, List.length_nil, List.replicate_succ, List.replicate_zero, List.cons_append, List.nil_append, Nat.reduceAdd, Nat.reduceSub, Nat.reduceLeDiff, Nat.reduceMul, true_and, and_true, List.append_nil]
    refine midL_ev (t := t) hl ht hp hm hm2 hn hn2 hI (gd i) h h1 k1 fun S' a b c d h' => ⟨.inl rfl, ⟨_, _, _, _, _, _, _, rfl⟩, r.st h h', ?_⟩
    rw [foldl_take (fun p t => (nbs ties m n t).foldl meet p) (met, []) hx]
    exact h'
  · rintro ρ S ⟨⟨a1, a2, a3, a, b, c, d, rfl⟩, r, h⟩
    refine ⟨by rw [hgen _ S r]; simp, ?_⟩
    have gl := gd ring.length
    rw [List.take_length] at h gl
    exact q S a1 a2 a3 a b c d h gl
def loopL : Cm := seqC (sEx (cLm appO (cVar 7) (aCons (cB lenAO (aCons (cVar 6) (aNil))) (aNil)))) (seqC (setC 8 (toR (lstM (aNil)))) (seqC outL (setC 6 (cVar 8))))
theorem law_shells_ev {places : Int} {ties : List T4} {start m n : Int} (hl : ties.length < 400) (ht : ∀ t ∈ ties, Tie places t) (hp : places ≤ 4) (hs : 0 ≤ start ∧ start < places) (hm : 0 < m) (hm2 : m ≤ 12) (hn : 0 < n) (hn2 : n ≤ 12) :
    Ev (m__law_shells [gridW places ties, .int start, .int m, .int n]) [] fun w S' => w = .ref 1 ∧ S'[1]? = some (.lst (cntW (shells ties m n 2000 [(start, 0, 0)] [(start, 0, 0)]))) := by
  unfold m__law_shells b__law_shells
  rw [ev_fn]
  simp only [ev_bind, ev_pure, ev_op2, ev_op1, ev_opN, ev_opNF, ev_opM, ev_set3, ev_isL, ev_isi, ev_asB, ev_ite, ev_toR, ev_toV, ev_seq, ev_set, ev_asg, ev_ret, ev_ifS, ev_nx, ev_and, ev_or, ev_not, ev_vAnd, ev_vNot, ev_C, ev_var, ev_name, ev_gnil, ev_gcons, ev_gTup, ev_tup, ev_lst, ev_call, ev_forC, ev_lcC, Pm.is_some, Pm.is_none, Pm.is_if, List.set_cons_zero, List.set_cons_succ, List.getElem?_cons_zero, List.getElem?_cons_succ, tCmp, cOp, cUn, tVal, aNil, aCons, cB, fB, cG, cP, fP, fOp, cSl, fSl, poN, poS, ev_slV, ev_slT, ev_slL, cLm, cLm0, cIsi, fSS, iSq, iR1, iR2, iR3, iEn, iZp, gSub, sEx, Pm.addV_int, Pm.sub_int, Pm.mul_int, Pm.gt_int, Pm.eq_int, Pm.ne_int, Pm.lt_int, Pm.le_int, Pm.ge_int, Pm.neg_int, Bool.not_true, Bool.not_false, if_true, if_false, decide_eq_true_eq, Bool.false_eq_true, reduceIte, List.map_cons, List.map_nil, List.length_cons, List.length_nil, List.replicate_succ, List.replicate_zero, List.cons_append, List.nil_append, Nat.reduceAdd, Nat.reduceSub, Nat.reduceLeDiff, Nat.reduceMul, true_and, and_true, List.append_nil]
  refine ev_pcall rfl (free_args fun w hw => by rw [List.mem_singleton.mp hw]; exact pure_grid 16 places ties) ?_
  refine (law_steps_ev hl ht (by omega) hp).mono ?_
  intro w S' hw
  rw [hw]
  simp only [ev_bind, ev_pure, ev_op2, ev_op1, ev_opN, ev_opNF, ev_opM, ev_set3, ev_isL, ev_isi, ev_asB, ev_ite, ev_toR, ev_toV, ev_seq, ev_set, ev_asg, ev_ret, ev_ifS, ev_nx, ev_and, ev_or, ev_not, ev_vAnd, ev_vNot, ev_C, ev_var, ev_name, ev_gnil, ev_gcons, ev_gTup, ev_tup, ev_lst, ev_call, ev_forC, ev_lcC, Pm.is_some, Pm.is_none, Pm.is_if, List.set_cons_zero, List.set_cons_succ, List.getElem?_cons_zero, List.getElem?_cons_succ, tCmp, cOp, cUn, tVal, aNil, aCons, cB, fB, cG, cP, fP, fOp, cSl, fSl, poN, poS, ev_slV, ev_slT, ev_slL, cLm, cLm0, cIsi, fSS, iSq, iR1, iR2, iR3, iEn, iZp, gSub, sEx, Pm.addV_int, Pm.sub_int, Pm.mul_int, Pm.gt_int, Pm.eq_int, Pm.ne_int, Pm.lt_int, Pm.le_int, Pm.ge_int, Pm.neg_int, Bool.not_true, Bool.not_false, if_true, if_false, decide_eq_true_eq, Bool.false_eq_true, reduceIte, List.map_cons, List.map_nil, List.length_cons, List.length_nil, List.replicate_succ, List.replicate_zero, List.cons_append, List.nil_append, Nat.reduceAdd, Nat.reduceSub, Nat.reduceLeDiff, Nat.reduceMul, true_and, and_true, List.append_nil]
  refine ev_dict1 ?_
  simp only [ev_bind, ev_pure, ev_op2, ev_op1, ev_opN, ev_opNF, ev_opM, ev_set3, ev_isL, ev_isi, ev_asB, ev_ite, ev_toR, ev_toV, ev_seq, ev_set, ev_asg, ev_ret, ev_ifS, ev_nx, ev_and, ev_or, ev_not, ev_vAnd, ev_vNot, ev_C, ev_var, ev_name, ev_gnil, ev_gcons, ev_gTup, ev_tup, ev_lst, ev_call, ev_forC, ev_lcC, Pm.is_some, Pm.is_none, Pm.is_if, List.set_cons_zero, List.set_cons_succ, List.getElem?_cons_zero, List.getElem?_cons_succ, tCmp, cOp, cUn, tVal, aNil, aCons, cB, fB, cG, cP, fP, fOp, cSl, fSl, poN, poS, ev_slV, ev_slT, ev_slL, cLm, cLm0, cIsi, fSS, iSq, iR1, iR2, iR3, iEn, iZp, gSub, sEx, Pm.addV_int, Pm.sub_int, Pm.mul_int, Pm.gt_int, Pm.eq_int, Pm.ne_int, Pm.lt_int, Pm.le_int, Pm.ge_int, Pm.neg_int, Bool.not_true, Bool.not_false, if_true, if_false, decide_eq_true_eq, Bool.false_eq_true, reduceIte, List.map_cons, List.map_nil, List.length_cons, List.length_nil, List.replicate_succ, List.replicate_zero, List.cons_append, List.nil_append, Nat.reduceAdd, Nat.reduceSub, Nat.reduceLeDiff, Nat.reduceMul, true_and, and_true, List.append_nil]
  refine ⟨rfl, ?_⟩
  refine ev_while (c := loopL) (fun k ρ S => ∃ rw_ b a1 a2 a3 a d e f, ρ = [some (gridW places ties), some (.int start), some (.int m), some (.int n), some (.vl (stepsW ties places.toNat)), some (.ref 0), some rw_, some (.ref 1), b, a1, a2, a3, a, d, e, f] ∧ Lp places m n ties (shells ties m n 2000 [(start, 0, 0)] [(start, 0, 0)]) k S rw_) ?_ FUEL 1199 _ _ (fuel_big (by decide)) ⟨_, _, _, _, _, _, _, _, _, rfl, ⟨[(start, 0, 0)], [(start, 0, 0)], [], 2000, _, rfl, rfl, rfl, .inl rfl, by simp, ?_, fun t ht => ht, Nat.le_refl _, rfl, by decide, rfl, Nat.le_refl _⟩⟩
  · rintro k ρ S ⟨rw_, b, a1, a2, a3, a, d, e, e', rfl, met, ring, cnt, f, kvs, s0, hk0, s1, hr, nd, hu, hrm, hrl, hT, hkf, hk, hc⟩
    simp only [ev_bind, ev_pure, ev_op2, ev_op1, ev_opN, ev_opNF, ev_opM, ev_set3, ev_isL, ev_isi, ev_asB, ev_ite, ev_toR, ev_toV, ev_seq, ev_set, ev_asg, ev_ret, ev_ifS, ev_nx, ev_and, ev_or, ev_not, ev_vAnd, ev_vNot, ev_C, ev_var, ev_name, ev_gnil, ev_gcons, ev_gTup, ev_tup, ev_lst, ev_call, ev_forC, ev_lcC, Pm.is_some, Pm.is_none, Pm.is_if, List.set_cons_zero, List.set_cons_succ, List.getElem?_cons_zero, List.getElem?_cons_succ, tCmp, cOp, cUn, tVal, aNil, aCons, cB, fB, cG, cP, fP, fOp, cSl, fSl, poN, poS, ev_slV, ev_slT, ev_slL, cLm, cLm0, cIsi, fSS, iSq, iR1, iR2, iR3, iEn, iZp, gSub, sEx, Pm.addV_int, Pm.sub_int, Pm.mul_int, Pm.gt_int, Pm.eq_int, Pm.ne_int, Pm.lt_int, Pm.le_int, Pm.ge_int, Pm.neg_int, Bool.not_true, Bool.not_false, if_true, if_false, decide_eq_true_eq, Bool.false_eq_true, reduceIte, List.map_cons, List.map_nil, List.length_cons, List.length_nil, List.replicate_succ, List.replicate_zero, List.cons_append, List.nil_append, Nat.reduceAdd, Nat.reduceSub, Nat.reduceLeDiff, Nat.reduceMul, true_and, and_true, List.append_nil, ring_len hr]
    have h5 := few hp hm2 hn2 nd hu
    by_cases h0 : ring.length = 0
    · have e0 : ¬ (0 : Int) < (ring.length : Int) := by omega
      obtain rfl : ring = [] := List.length_eq_zero_iff.mp h0
      rw [shells_nil, List.append_nil] at hT
      subst hT
      simp only [ev_bind, ev_pure, ev_op2, ev_op1, ev_opN, ev_opNF, ev_opM, ev_set3, ev_isL, ev_isi, ev_asB, ev_ite, ev_toR, ev_toV, ev_seq, ev_set, ev_asg, ev_ret, ev_ifS, ev_nx, ev_and, ev_or, ev_not, ev_vAnd, ev_vNot, ev_C, ev_var, ev_name, ev_gnil, ev_gcons, ev_gTup, ev_tup, ev_lst, ev_call, ev_forC, ev_lcC, Pm.is_some, Pm.is_none, Pm.is_if, List.set_cons_zero, List.set_cons_succ, List.getElem?_cons_zero, List.getElem?_cons_succ, tCmp, cOp, cUn, tVal, aNil, aCons, cB, fB, cG, cP, fP, fOp, cSl, fSl, poN, poS, ev_slV, ev_slT, ev_slL, cLm, cLm0, cIsi, fSS, iSq, iR1, iR2, iR3, iEn, iZp, gSub, sEx, Pm.addV_int, Pm.sub_int, Pm.mul_int, Pm.gt_int, Pm.eq_int, Pm.ne_int, Pm.lt_int, Pm.le_int, Pm.ge_int, Pm.neg_int, Bool.not_true, Bool.not_false, if_true, if_false, decide_eq_true_eq, Bool.false_eq_true, reduceIte, List.map_cons, List.map_nil, List.length_cons, List.length_nil, List.replicate_succ, List.replicate_zero, List.cons_append, List.nil_append, Nat.reduceAdd, Nat.reduceSub, Nat.reduceLeDiff, Nat.reduceMul, true_and, and_true, List.append_nil, e0, decide_false]
      exact s1
    · have e0 : (0 : Int) < (ring.length : Int) := by omega
      rw [if_neg h0] at hk hc
      simp only [ev_bind, ev_pure, ev_op2, ev_op1, ev_opN, ev_opNF, ev_opM, ev_set3, ev_isL, ev_isi, ev_asB, ev_ite, ev_toR, ev_toV, ev_seq, ev_set, ev_asg, ev_ret, ev_ifS, ev_nx, ev_and, ev_or, ev_not, ev_vAnd, ev_vNot, ev_C, ev_var, ev_name, ev_gnil, ev_gcons, ev_gTup, ev_tup, ev_lst, ev_call, ev_forC, ev_lcC, Pm.is_some, Pm.is_none, Pm.is_if, List.set_cons_zero, List.set_cons_succ, List.getElem?_cons_zero, List.getElem?_cons_succ, tCmp, cOp, cUn, tVal, aNil, aCons, cB, fB, cG, cP, fP, fOp, cSl, fSl, poN, poS, ev_slV, ev_slT, ev_slL, cLm, cLm0, cIsi, fSS, iSq, iR1, iR2, iR3, iEn, iZp, gSub, sEx, Pm.addV_int, Pm.sub_int, Pm.mul_int, Pm.gt_int, Pm.eq_int, Pm.ne_int, Pm.lt_int, Pm.le_int, Pm.ge_int, Pm.neg_int, Bool.not_true, Bool.not_false, if_true, if_false, decide_eq_true_eq, Bool.false_eq_true, reduceIte, List.map_cons, List.map_nil, List.length_cons, List.length_nil, List.replicate_succ, List.replicate_zero, List.cons_append, List.nil_append, Nat.reduceAdd, Nat.reduceSub, Nat.reduceLeDiff, Nat.reduceMul, true_and, and_true, List.append_nil, e0, decide_true]
      unfold loopL
      simp only [ev_bind, ev_pure, ev_op2, ev_op1, ev_opN, ev_opNF, ev_opM, ev_set3, ev_isL, ev_isi, ev_asB, ev_ite, ev_toR, ev_toV, ev_seq, ev_set, ev_asg, ev_ret, ev_ifS, ev_nx, ev_and, ev_or, ev_not, ev_vAnd, ev_vNot, ev_C, ev_var, ev_name, ev_gnil, ev_gcons, ev_gTup, ev_tup, ev_lst, ev_call, ev_forC, ev_lcC, Pm.is_some, Pm.is_none, Pm.is_if, List.set_cons_zero, List.set_cons_succ, List.getElem?_cons_zero, List.getElem?_cons_succ, tCmp, cOp, cUn, tVal, aNil, aCons, cB, fB, cG, cP, fP, fOp, cSl, fSl, poN, poS, ev_slV, ev_slT, ev_slL, cLm, cLm0, cIsi, fSS, iSq, iR1, iR2, iR3, iEn, iZp, gSub, sEx, Pm.addV_int, Pm.sub_int, Pm.mul_int, Pm.gt_int, Pm.eq_int, Pm.ne_int, Pm.lt_int, Pm.le_int, Pm.ge_int, Pm.neg_int, Bool.not_true, Bool.not_false, if_true, if_false, decide_eq_true_eq, Bool.false_eq_true, reduceIte, List.map_cons, List.map_nil, List.length_cons, List.length_nil, List.replicate_succ, List.replicate_zero, List.cons_append, List.nil_append, Nat.reduceAdd, Nat.reduceSub, Nat.reduceLeDiff, Nat.reduceMul, true_and, and_true, List.append_nil, ring_len hr, lst_ref s1, app_ref s1 (show (cntW cnt).length < 16777216 by unfold cntW; rw [List.length_map]; omega)]
      refine ⟨rfl, ?_⟩
      have s0' : (S.set 1 (.lst (cntW cnt ++ [.int ring.length])))[0]? = some (.dct kvs) := by rw [List.getElem?_set_ne (by decide)]; exact s0
      have s1' := get_set (o' := .lst (cntW cnt ++ [.int ring.length])) s1
      generalize hS' : S.set 1 (.lst (cntW cnt ++ [.int ring.length])) = S' at s0' s1'
      have hr' : RingAt S' rw_ 1 ring := by
        rcases hr with rfl | ⟨j, rfl, j0, j1, hj⟩
        · exact .inl rfl
        · exact .inr ⟨j, rfl, j0, j1, by rw [← hS', List.getElem?_set_ne (Ne.symm j1)]; exact hj⟩
      have hlen : 1 < S'.length := (List.getElem?_eq_some_iff.mp s1').1
      have old : ∀ {j : Nat} {o : O}, S'[j]? = some o → (S' ++ [.lst []])[j]? = some o ∧ j ≠ S'.length := fun {j o} e => by
        have hj := (List.getElem?_eq_some_iff.mp e).1
        exact ⟨by rw [List.getElem?_append_left hj]; exact e, Nat.ne_of_lt hj⟩
      have st : St (S' ++ [.lst []]) (S' ++ [.lst []]) S'.length met [] := ⟨⟨kvs, (old s0').1, hk0⟩, by rw [List.getElem?_append_right (Nat.le_refl _), Nat.sub_self]; rfl, fun _ _ _ => rfl, rfl, by omega⟩
      have hr2 : RingAt (S' ++ [.lst []]) rw_ S'.length ring := by
        rcases hr' with rfl | ⟨j, rfl, j0, j1, hj⟩
        · exact .inl rfl
        · exact .inr ⟨j, rfl, j0, (old hj).2, (old hj).1⟩
      refine outL_ev hl ht hp hm hm2 hn hn2 ⟨nd, hu, by simp⟩ st hr2 (by omega) (fun t h => hu t (hrm t h)) (old s1').1 (by omega) fun S2 _ _ _ _ _ _ _ st2 g2 => ?_
      simp only [ev_bind, ev_pure, ev_op2, ev_op1, ev_opN, ev_opNF, ev_opM, ev_set3, ev_isL, ev_isi, ev_asB, ev_ite, ev_toR, ev_toV, ev_seq, ev_set, ev_asg, ev_ret, ev_ifS, ev_nx, ev_and, ev_or, ev_not, ev_vAnd, ev_vNot, ev_C, ev_var, ev_name, ev_gnil, ev_gcons, ev_gTup, ev_tup, ev_lst, ev_call, ev_forC, ev_lcC, Pm.is_some, Pm.is_none, Pm.is_if, List.set_cons_zero, List.set_cons_succ, List.getElem?_cons_zero, List.getElem?_cons_succ, tCmp, cOp, cUn, tVal, aNil, aCons, cB, fB, cG, cP, fP, fOp, cSl, fSl, poN, poS, ev_slV, ev_slT, ev_slL, cLm, cLm0, cIsi, fSS, iSq, iR1, iR2, iR3, iEn, iZp, gSub, sEx, Pm.addV_int, Pm.sub_int, Pm.mul_int, Pm.gt_int, Pm.eq_int, Pm.ne_int, Pm.lt_int, Pm.le_int, Pm.ge_int, Pm.neg_int, Bool.not_true, Bool.not_false, if_true, if_false, decide_eq_true_eq, Bool.false_eq_true, reduceIte, List.map_cons, List.map_nil, List.length_cons, List.length_nil, List.replicate_succ, List.replicate_zero, List.cons_append, List.nil_append, Nat.reduceAdd, Nat.reduceSub, Nat.reduceLeDiff, Nat.reduceMul, true_and, and_true, List.append_nil]
      obtain ⟨n1, n2, n3, n4, n5⟩ := turn_next hp hm2 hn2 h0 hT (by omega) g2 rfl hc
      obtain ⟨kvs2, d1, d2⟩ := st2.d
      refine ⟨.inl trivial, _, by rw [hk]; exact n4, _, _, _, _, _, _, _, _, _, rfl, (ringTurn ties m n met ring).1, (ringTurn ties m n met ring).2, cnt ++ [ring.length], f - 1, kvs2, d1, d2, ?_, .inr ⟨S'.length, rfl, by omega, by omega, st2.f⟩, g2.nd, g2.u, fun t ht => by rw [g2.e]; exact List.mem_append_right _ ht, n1, n2, n3, rfl, n5⟩
      rw [st2.o 1 (by decide) (by omega), (old s1').1]
      unfold cntW
      rw [List.map_append]
      rfl
  · intro t ht
    rw [List.mem_singleton.mp ht]
    exact ⟨hs, ⟨Int.le_refl _, hm⟩, Int.le_refl _, hn⟩
end K73

namespace K73
open PySem Pm
def KNOWN : List (Int × List T4) := [(1, [(0, 0, 0, 1), (0, 0, 1, 0)]), (1, [(0, 0, 0, 1), (0, 0, 1, 0), (0, 0, 1, 1)]), (1, [(0, 0, 0, 1), (0, 0, 1, 0), (0, 0, 1, 1), (0, 0, 1, -1)]), (2, [(0, 1, 0, 0), (0, 1, -1, 0), (0, 1, 0, -1)]), (3, [(0, 1, 0, 0), (0, 2, 0, 0), (1, 2, 0, 0), (0, 1, -1, 0), (0, 2, 0, -1), (1, 2, 1, -1)]), (4, [(0, 1, 0, 0), (1, 2, 0, 0), (2, 3, 0, 0), (0, 3, 0, 0), (0, 2, -1, 0), (1, 3, 0, -1)]), (1, [(0, 0, 1, 1)]), (1, [(0, 0, 1, 1), (0, 0, 1, -1)]), (2, [(0, 1, 0, 0), (0, 0, 1, 1), (1, 1, 1, -1)]), (2, [(0, 1, -1, -1), (0, 1, 0, 1), (0, 1, 1, 0)]), (2, [(0, 1, -1, -1), (0, 1, 1, -1), (0, 1, -1, 1)]), (3, [(0, 1, -1, -1), (0, 1, 1, 0), (0, 2, -1, 1), (0, 2, 0, -1)]), (4, [(0, 1, 1, 0), (0, 2, -1, 0), (0, 3, -1, 1), (0, 3, 0, -1), (1, 2, 1, 1)])]
def kw (e : Int × List T4) : W := .tup [.int e.1, .vl (e.2.map w4)]
theorem known_ev (S : Sto) : pcallM 0 m__law_known [] S = .ok (.vl (KNOWN.map kw)) S := by kernel_rfl
theorem known_ok : ∀ e ∈ KNOWN, (1 ≤ e.1 ∧ e.1 ≤ 4) ∧ e.2.length ≤ 6 ∧ ∀ t ∈ e.2, Tie e.1 t := by
  unfold Tie
  decide
theorem pool_ev {cell : Int} : Ev (m__law_pool [.int cell]) [] fun w S' => w = .ref 0 ∧ ∃ a b : Int, 0 ≤ a ∧ S' = [.lst [.int a, .int b, .int 0]] := by
  unfold m__law_pool b__law_pool
  rw [ev_fn]
  have habs : ∀ S : Sto, absO S [.int cell] = some (.int (if cell < 0 then -cell else cell)) := fun _ => rfl
  generalize hc : (if cell < 0 then -cell else cell) = c at habs
  have hc0 : 0 ≤ c := by rw [← hc]; split <;> omega
  have hp : ∀ S : Sto, powO S (.int 10) (.int 18) = some (.int 1000000000000000000) := fun _ => rfl
  have hi : ∀ (S : Sto) (k : Bool), intO S [.bl k] = some (.int (if k then 1 else 0)) := fun _ _ => rfl
  simp only [ev_bind, ev_pure, ev_op2, ev_op1, ev_opN, ev_opNF, ev_opM, ev_set3, ev_isL, ev_isi, ev_asB, ev_ite, ev_toR, ev_toV, ev_seq, ev_set, ev_asg, ev_ret, ev_ifS, ev_nx, ev_and, ev_or, ev_not, ev_vAnd, ev_vNot, ev_C, ev_var, ev_name, ev_gnil, ev_gcons, ev_gTup, ev_tup, ev_lst, ev_call, ev_forC, ev_lcC, Pm.is_some, Pm.is_none, Pm.is_if, List.set_cons_zero, List.set_cons_succ, List.getElem?_cons_zero, List.getElem?_cons_succ, tCmp, cOp, cUn, tVal, aNil, aCons, cB, fB, cG, cP, fP, fOp, cSl, fSl, poN, poS, ev_slV, ev_slT, ev_slL, cLm, cLm0, cIsi, fSS, iSq, iR1, iR2, iR3, iEn, iZp, gSub, sEx, Pm.addV_int, Pm.sub_int, Pm.mul_int, Pm.gt_int, Pm.eq_int, Pm.ne_int, Pm.lt_int, Pm.le_int, Pm.ge_int, Pm.neg_int, Bool.not_true, Bool.not_false, if_true, if_false, decide_eq_true_eq, Bool.false_eq_true, reduceIte, List.map_cons, List.map_nil, List.length_cons, List.length_nil, List.replicate_succ, List.replicate_zero, List.cons_append, List.nil_append, Nat.reduceAdd, Nat.reduceSub, Nat.reduceLeDiff, Nat.reduceMul, true_and, and_true, List.append_nil, habs, hp, hi, mod_int (b := 2147483629) (by decide)]
  by_cases h : (1000000000000000000 : Int) ≤ c
  · simp only [ev_bind, ev_pure, ev_op2, ev_op1, ev_opN, ev_opNF, ev_opM, ev_set3, ev_isL, ev_isi, ev_asB, ev_ite, ev_toR, ev_toV, ev_seq, ev_set, ev_asg, ev_ret, ev_ifS, ev_nx, ev_and, ev_or, ev_not, ev_vAnd, ev_vNot, ev_C, ev_var, ev_name, ev_gnil, ev_gcons, ev_gTup, ev_tup, ev_lst, ev_call, ev_forC, ev_lcC, Pm.is_some, Pm.is_none, Pm.is_if, List.set_cons_zero, List.set_cons_succ, List.getElem?_cons_zero, List.getElem?_cons_succ, tCmp, cOp, cUn, tVal, aNil, aCons, cB, fB, cG, cP, fP, fOp, cSl, fSl, poN, poS, ev_slV, ev_slT, ev_slL, cLm, cLm0, cIsi, fSS, iSq, iR1, iR2, iR3, iEn, iZp, gSub, sEx, Pm.addV_int, Pm.sub_int, Pm.mul_int, Pm.gt_int, Pm.eq_int, Pm.ne_int, Pm.lt_int, Pm.le_int, Pm.ge_int, Pm.neg_int, Bool.not_true, Bool.not_false, if_true, if_false, decide_eq_true_eq, Bool.false_eq_true, reduceIte, List.map_cons, List.map_nil, List.length_cons, List.length_nil, List.replicate_succ, List.replicate_zero, List.cons_append, List.nil_append, Nat.reduceAdd, Nat.reduceSub, Nat.reduceLeDiff, Nat.reduceMul, true_and, and_true, List.append_nil, h, decide_true, mulOk_r (a := c) (b := 1) (by decide)]
    exact ⟨_, _, by omega, rfl⟩
  · simp only [ev_bind, ev_pure, ev_op2, ev_op1, ev_opN, ev_opNF, ev_opM, ev_set3, ev_isL, ev_isi, ev_asB, ev_ite, ev_toR, ev_toV, ev_seq, ev_set, ev_asg, ev_ret, ev_ifS, ev_nx, ev_and, ev_or, ev_not, ev_vAnd, ev_vNot, ev_C, ev_var, ev_name, ev_gnil, ev_gcons, ev_gTup, ev_tup, ev_lst, ev_call, ev_forC, ev_lcC, Pm.is_some, Pm.is_none, Pm.is_if, List.set_cons_zero, List.set_cons_succ, List.getElem?_cons_zero, List.getElem?_cons_succ, tCmp, cOp, cUn, tVal, aNil, aCons, cB, fB, cG, cP, fP, fOp, cSl, fSl, poN, poS, ev_slV, ev_slT, ev_slL, cLm, cLm0, cIsi, fSS, iSq, iR1, iR2, iR3, iEn, iZp, gSub, sEx, Pm.addV_int, Pm.sub_int, Pm.mul_int, Pm.gt_int, Pm.eq_int, Pm.ne_int, Pm.lt_int, Pm.le_int, Pm.ge_int, Pm.neg_int, Bool.not_true, Bool.not_false, if_true, if_false, decide_eq_true_eq, Bool.false_eq_true, reduceIte, List.map_cons, List.map_nil, List.length_cons, List.length_nil, List.replicate_succ, List.replicate_zero, List.cons_append, List.nil_append, Nat.reduceAdd, Nat.reduceSub, Nat.reduceLeDiff, Nat.reduceMul, true_and, and_true, List.append_nil, h, decide_false, mulOk_r (a := c) (b := 0) (by decide)]
    exact ⟨_, _, by omega, rfl⟩
/-! data of ties -/
def d4 (t : T4) : PyData := .tuple [.int t.1, .int t.2.1, .int t.2.2.1, .int t.2.2.2]
theorem dat_w4 (S : Sto) (t : T4) : datF S (w4 t) = some (d4 t) := rfl
theorem mapO_some {α β : Type} {f : α → Option β} {g : α → β} : ∀ {l : List α}, (∀ x ∈ l, f x = some (g x)) → mapO f l = some (l.map g)
  | [], _ => rfl
  | x :: l, h => by
    unfold mapO
    rw [h x List.mem_cons_self, mapO_some fun y hy => h y (List.mem_cons_of_mem _ hy)]
    rfl
theorem in_w4 (S : Sto) (t : T4) (ties : List T4) : ∃ b, inAO S (w4 t) (.vl (ties.map w4)) = some (.bl b) := by
  show ∃ b, inO S (w4 t) (.vl (ties.map w4)) = some (.bl b)
  unfold inO seqO
  have e : mapO (datF S) (ties.map w4) = some (ties.map d4) := by
    rw [mapO_some (f := datF S) (g := fun w => (datF S w).getD .none) fun w hw => by
      obtain ⟨s, _, rfl⟩ := List.mem_map.mp hw
      rfl, List.map_map]
    rfl
  simp only [dat_w4, e]
  exact ⟨_, rfl⟩
theorem ne_w4 (S : Sto) (a b : T4) : ∃ k, neO S (w4 a) (w4 b) = some (.bl k) := ⟨_, rfl⟩
theorem written_ev {places : Int} {t : T4} (h : Tie places t) : Ev (m__law_written [w4 t]) [] fun w S' => ∃ t', w = w4 t' ∧ Tie places t' := by
  obtain ⟨a, b, x, y⟩ := t
  obtain ⟨⟨h1, h2⟩, h3, h4⟩ := h
  unfold m__law_written b__law_written
  rw [ev_fn]
  unfold w4
  have hlt : ∃ k, ltO [] (.tup [.int x, .int y]) (.tup [.int 0, .int 0]) = some (.bl k) := ⟨_, rfl⟩
  obtain ⟨k, hlt⟩ := hlt
  simp only [ev_bind, ev_pure, ev_op2, ev_op1, ev_opN, ev_opNF, ev_opM, ev_set3, ev_isL, ev_isi, ev_asB, ev_ite, ev_toR, ev_toV, ev_seq, ev_set, ev_asg, ev_ret, ev_ifS, ev_nx, ev_and, ev_or, ev_not, ev_vAnd, ev_vNot, ev_C, ev_var, ev_name, ev_gnil, ev_gcons, ev_gTup, ev_tup, ev_lst, ev_call, ev_forC, ev_lcC, Pm.is_some, Pm.is_none, Pm.is_if, List.set_cons_zero, List.set_cons_succ, List.getElem?_cons_zero, List.getElem?_cons_succ, tCmp, cOp, cUn, tVal, aNil, aCons, cB, fB, cG, cP, fP, fOp, cSl, fSl, poN, poS, ev_slV, ev_slT, ev_slL, cLm, cLm0, cIsi, fSS, iSq, iR1, iR2, iR3, iEn, iZp, gSub, sEx, Pm.addV_int, Pm.sub_int, Pm.mul_int, Pm.gt_int, Pm.eq_int, Pm.ne_int, Pm.lt_int, Pm.le_int, Pm.ge_int, Pm.neg_int, Bool.not_true, Bool.not_false, if_true, if_false, decide_eq_true_eq, Bool.false_eq_true, reduceIte, List.map_cons, List.map_nil, List.length_cons, List.length_nil, List.replicate_succ, List.replicate_zero, List.cons_append, List.nil_append, Nat.reduceAdd, Nat.reduceSub, Nat.reduceLeDiff, Nat.reduceMul, true_and, and_true, List.append_nil, hlt]
  have r1 : ∃ t' : T4, W.tup [.int b, .int a, .int (0 - x), .int (0 - y)] = W.tup [.int t'.1, .int t'.2.1, .int t'.2.2.1, .int t'.2.2.2] ∧ Tie places t' := ⟨(b, a, 0 - x, 0 - y), rfl, ⟨h3, h4⟩, h1, h2⟩
  have r2 : ∃ t' : T4, W.tup [.int a, .int b, .int x, .int y] = W.tup [.int t'.1, .int t'.2.1, .int t'.2.2.1, .int t'.2.2.2] ∧ Tie places t' := ⟨(a, b, x, y), rfl, ⟨h1, h2⟩, h3, h4⟩
  by_cases c1 : b < a
  · simp only [ev_bind, ev_pure, ev_op2, ev_op1, ev_opN, ev_opNF, ev_opM, ev_set3, ev_isL, ev_isi, ev_asB, ev_ite, ev_toR, ev_toV, ev_seq, ev_set, ev_asg, ev_ret, ev_ifS, ev_nx, ev_and, ev_or, ev_not, ev_vAnd, ev_vNot, ev_C, ev_var, ev_name, ev_gnil, ev_gcons, ev_gTup, ev_tup, ev_lst, ev_call, ev_forC, ev_lcC, Pm.is_some, Pm.is_none, Pm.is_if, List.set_cons_zero, List.set_cons_succ, List.getElem?_cons_zero, List.getElem?_cons_succ, tCmp, cOp, cUn, tVal, aNil, aCons, cB, fB, cG, cP, fP, fOp, cSl, fSl, poN, poS, ev_slV, ev_slT, ev_slL, cLm, cLm0, cIsi, fSS, iSq, iR1, iR2, iR3, iEn, iZp, gSub, sEx, Pm.addV_int, Pm.sub_int, Pm.mul_int, Pm.gt_int, Pm.eq_int, Pm.ne_int, Pm.lt_int, Pm.le_int, Pm.ge_int, Pm.neg_int, Bool.not_true, Bool.not_false, if_true, if_false, decide_eq_true_eq, Bool.false_eq_true, reduceIte, List.map_cons, List.map_nil, List.length_cons, List.length_nil, List.replicate_succ, List.replicate_zero, List.cons_append, List.nil_append, Nat.reduceAdd, Nat.reduceSub, Nat.reduceLeDiff, Nat.reduceMul, true_and, and_true, List.append_nil, c1, decide_true]
    exact r1
  · by_cases c2 : a = b
    · subst c2
      simp only [ev_bind, ev_pure, ev_op2, ev_op1, ev_opN, ev_opNF, ev_opM, ev_set3, ev_isL, ev_isi, ev_asB, ev_ite, ev_toR, ev_toV, ev_seq, ev_set, ev_asg, ev_ret, ev_ifS, ev_nx, ev_and, ev_or, ev_not, ev_vAnd, ev_vNot, ev_C, ev_var, ev_name, ev_gnil, ev_gcons, ev_gTup, ev_tup, ev_lst, ev_call, ev_forC, ev_lcC, Pm.is_some, Pm.is_none, Pm.is_if, List.set_cons_zero, List.set_cons_succ, List.getElem?_cons_zero, List.getElem?_cons_succ, tCmp, cOp, cUn, tVal, aNil, aCons, cB, fB, cG, cP, fP, fOp, cSl, fSl, poN, poS, ev_slV, ev_slT, ev_slL, cLm, cLm0, cIsi, fSS, iSq, iR1, iR2, iR3, iEn, iZp, gSub, sEx, Pm.addV_int, Pm.sub_int, Pm.mul_int, Pm.gt_int, Pm.eq_int, Pm.ne_int, Pm.lt_int, Pm.le_int, Pm.ge_int, Pm.neg_int, Bool.not_true, Bool.not_false, if_true, if_false, decide_eq_true_eq, Bool.false_eq_true, reduceIte, List.map_cons, List.map_nil, List.length_cons, List.length_nil, List.replicate_succ, List.replicate_zero, List.cons_append, List.nil_append, Nat.reduceAdd, Nat.reduceSub, Nat.reduceLeDiff, Nat.reduceMul, true_and, and_true, List.append_nil, c1, decide_true, decide_false]
      repeat' split
      all_goals first | exact r1 | exact r2
    · simp only [ev_bind, ev_pure, ev_op2, ev_op1, ev_opN, ev_opNF, ev_opM, ev_set3, ev_isL, ev_isi, ev_asB, ev_ite, ev_toR, ev_toV, ev_seq, ev_set, ev_asg, ev_ret, ev_ifS, ev_nx, ev_and, ev_or, ev_not, ev_vAnd, ev_vNot, ev_C, ev_var, ev_name, ev_gnil, ev_gcons, ev_gTup, ev_tup, ev_lst, ev_call, ev_forC, ev_lcC, Pm.is_some, Pm.is_none, Pm.is_if, List.set_cons_zero, List.set_cons_succ, List.getElem?_cons_zero, List.getElem?_cons_succ, tCmp, cOp, cUn, tVal, aNil, aCons, cB, fB, cG, cP, fP, fOp, cSl, fSl, poN, poS, ev_slV, ev_slT, ev_slL, cLm, cLm0, cIsi, fSS, iSq, iR1, iR2, iR3, iEn, iZp, gSub, sEx, Pm.addV_int, Pm.sub_int, Pm.mul_int, Pm.gt_int, Pm.eq_int, Pm.ne_int, Pm.lt_int, Pm.le_int, Pm.ge_int, Pm.neg_int, Bool.not_true, Bool.not_false, if_true, if_false, decide_eq_true_eq, Bool.false_eq_true, reduceIte, List.map_cons, List.map_nil, List.length_cons, List.length_nil, List.replicate_succ, List.replicate_zero, List.cons_append, List.nil_append, Nat.reduceAdd, Nat.reduceSub, Nat.reduceLeDiff, Nat.reduceMul, true_and, and_true, List.append_nil, c1, c2, decide_true, decide_false]
      exact r2
/-! the sorted set -/
theorem tupI_w4 (t : T4) : tupI (w4 t) = some [t.1, t.2.1, t.2.2.1, t.2.2.2] := rfl
theorem mem_insW {α : Type} {le : α → α → Bool} {a x : α} : ∀ {l : List α}, x ∈ insW le a l → x = a ∨ x ∈ l
  | [], h => .inl (List.mem_singleton.mp h)
  | b :: r, h => by
    unfold insW at h
    split at h
    · exact List.mem_cons.mp h
    · rcases List.mem_cons.mp h with z | z
      · exact .inr (z ▸ List.mem_cons_self)
      · exact (mem_insW z).imp id (List.mem_cons_of_mem _)
theorem mem_isort {α : Type} {le : α → α → Bool} {x : α} : ∀ {l : List α}, x ∈ isort le l → x ∈ l
  | [], h => h
  | a :: r, h => by
    rcases mem_insW h with z | z
    · exact z ▸ List.mem_cons_self
    · exact List.mem_cons_of_mem _ (mem_isort z)
theorem ddI_len : ∀ l : List (List Int), (ddI l).length ≤ l.length
  | [] => Nat.le_refl _
  | a :: r => by
    unfold ddI
    have := ddI_len r
    split
    · rw [List.length_cons]; omega
    · rw [List.length_cons, List.length_cons]; omega
theorem sortSet_w4 {places : Int} (S : Sto) {ties : List T4} (hl : ties.length < 64) (ht : ∀ t ∈ ties, Tie places t) : ∃ ts : List T4, sortSetO S [.vl (ties.map w4)] = some (.lst (ts.map w4)) ∧ (∀ t ∈ ts, Tie places t) ∧ ts.length < 64 := by
  have e : mapO tupI (ties.map w4) = some (List.map (fun t : T4 => [t.1, t.2.1, t.2.2.1, t.2.2.2]) ties) := by
    rw [mapO_some (f := tupI) (g := fun w => (tupI w).getD []) fun w hw => by
      obtain ⟨s, _, rfl⟩ := List.mem_map.mp hw
      rfl, List.map_map]
    rfl
  generalize hks : List.map (fun t : T4 => [t.1, t.2.1, t.2.2.1, t.2.2.2]) ties = ks at e
  have hmem : ∀ k ∈ ks, ∃ t ∈ ties, k = [t.1, t.2.1, t.2.2.1, t.2.2.2] := fun k hk => by
    rw [← hks] at hk
    obtain ⟨t, h1, h2⟩ := List.mem_map.mp hk
    exact ⟨t, h1, h2.symm⟩
  have len4 : ∀ k ∈ ks, k.length = 4 := fun k hk => by
    obtain ⟨t, _, rfl⟩ := hmem k hk
    rfl
  have hc : ks.length < 64 ∧ (ks.all fun k => k.length == (ks.headD []).length) = true ∧ (ks.all fun k => !k.isEmpty) = true := by
    refine ⟨by rw [← hks, List.length_map]; exact hl, List.all_eq_true.mpr fun k hk => ?_, List.all_eq_true.mpr fun k hk => ?_⟩
    · cases ks with
      | nil => cases hk
      | cons k0 r =>
        rw [List.headD_cons, len4 k hk, len4 k0 List.mem_cons_self]
        rfl
    · obtain ⟨t, _, rfl⟩ := hmem k hk
      rfl
  have key : ∀ l : List (List Int), (∀ k ∈ l, k ∈ ks) → ∃ ts : List T4, l.map tupW = ts.map w4 ∧ (∀ t ∈ ts, Tie places t) ∧ ts.length = l.length := by
    intro l
    induction l with
    | nil => intro _; exact ⟨[], rfl, fun t h => (by cases h), rfl⟩
    | cons k l ih =>
      intro h
      obtain ⟨ts, h1, h2, h3⟩ := ih fun x hx => h x (List.mem_cons_of_mem _ hx)
      obtain ⟨t, g1, rfl⟩ := hmem k (h k List.mem_cons_self)
      refine ⟨t :: ts, by rw [List.map_cons, List.map_cons, h1]; rfl, fun x hx => ?_, by rw [List.length_cons, List.length_cons, h3]⟩
      rcases List.mem_cons.mp hx with z | z
      · rw [z]; exact ht t g1
      · exact h2 x z
  obtain ⟨ts, h1, h2, h3⟩ := key (isort leI (ddI ks)) fun k hk => mem_ddI.mp (mem_isort hk)
  refine ⟨ts, ?_, h2, ?_⟩
  · show (match mapO tupI (ties.map w4) with
      | some ks => if ks.length < 64 ∧ (ks.all fun k => k.length == (ks.headD []).length) = true ∧ (ks.all fun k => !k.isEmpty) = true then some (O.lst ((isort leI (ddI ks)).map tupW)) else none
      | none => none) = _
    rw [e]
    simp only
    rw [if_pos hc, h1]
  · rw [h3, isort_length]
    have := ddI_len ks
    omega
theorem add_w4 (S : Sto) (a b : List T4) (h : a.length + b.length < 1000) : addVO S (.vl (a.map w4)) (.vl (b.map w4)) = some (.vl ((a ++ b).map w4)) := by
  show (if (a.map w4).length + (b.map w4).length ≤ 16777216 then some (W.vl (a.map w4 ++ b.map w4)) else none) = _
  rw [if_pos (by rw [List.length_map, List.length_map]; omega), List.map_append]
def turnG : Cm := (seqC (setC 7 (cG 2 m__law_take (aCons (cVar 0) (aCons (cVar 3) (aNil))))) (seqC (setC 8 (cG 2 m__law_take (aCons (cVar 0) (aCons (cVar 3) (aNil))))) (seqC (setC 9 (cOp subO (cG 2 m__law_take (aCons (cVar 0) (aCons (cC (.int 3)) (aNil)))) (cC (.int 1)))) (seqC (setC 10 (tupM (aCons (cVar 7) (aCons (cVar 8) (aCons (cVar 9) (aCons (cOp subO (cG 2 m__law_take (aCons (cVar 0) (aCons (cC (.int 3)) (aNil)))) (cC (.int 1))) (aNil))))))) (cIfS (cAnd (tCmp inAO (cVar 10) (cVar 4)) (tCmp eqO (cVar 1) (cC (.int 1)))) (setC 4 (toV (lcC (iSq (cVar 4)) (gmName 11) (tCmp neO (cVar 11) (cVar 10)) (cVar 11) [11]))) (cIfS (cOr (tCmp neO (cVar 7) (cVar 8)) (tCmp neO (cSl (cVar 10) (poS (cC (.int 2))) (poN)) (tupM (aCons (cC (.int 0)) (aCons (cC (.int 0)) (aNil)))))) (setC 4 (cOp addVO (cVar 4) (toV (lstM (aCons (cP 1 m__law_written (aCons (cVar 10) (aNil))) (aNil)))))) (cNx)))))))
theorem turnG_ev {S : Sto} {i : Nat} {known turns u a b x tie on : Option W} {way places : Int} {ties : List T4} {Q : Fl × Rho → Sto → Prop} (hp : 1 ≤ places ∧ places ≤ 4) (h : Pool S i) (ht : ∀ t ∈ ties, Tie places t) (hl : ties.length < 60)
    (q : ∀ S' (ts : List T4) a b x tie on, Pool S' i → S'.length = S.length → (∀ j, j ≠ i → S'[j]? = S[j]?) → (∀ t ∈ ts, Tie places t) → ts.length ≤ ties.length + 1 → Q (.nx, [some (.ref i), some (.int way), known, some (.int places), some (.vl (ts.map w4)), turns, u, a, b, x, tie, on]) S') :
    Ev (turnG [some (.ref i), some (.int way), known, some (.int places), some (.vl (ties.map w4)), turns, u, a, b, x, tie, on]) S Q := by
  unfold turnG
  simp only [ev_bind, ev_pure, ev_op2, ev_op1, ev_opN, ev_opNF, ev_opM, ev_set3, ev_isL, ev_isi, ev_asB, ev_ite, ev_toR, ev_toV, ev_seq, ev_set, ev_asg, ev_ret, ev_ifS, ev_nx, ev_and, ev_or, ev_not, ev_vAnd, ev_vNot, ev_C, ev_var, ev_name, ev_gnil, ev_gcons, ev_gTup, ev_tup, ev_lst, ev_call, ev_forC, ev_lcC, Pm.is_some, Pm.is_none, Pm.is_if, List.set_cons_zero, List.set_cons_succ, List.getElem?_cons_zero, List.getElem?_cons_succ, tCmp, cOp, cUn, tVal, aNil, aCons, cB, fB, cG, cP, fP, fOp, cSl, fSl, poN, poS, ev_slV, ev_slT, ev_slL, cLm, cLm0, cIsi, fSS, iSq, iR1, iR2, iR3, iEn, iZp, gSub, sEx, Pm.addV_int, Pm.sub_int, Pm.mul_int, Pm.gt_int, Pm.eq_int, Pm.ne_int, Pm.lt_int, Pm.le_int, Pm.ge_int, Pm.neg_int, Bool.not_true, Bool.not_false, if_true, if_false, decide_eq_true_eq, Bool.false_eq_true, reduceIte, List.map_cons, List.map_nil, List.length_cons, List.length_nil, List.replicate_succ, List.replicate_zero, List.cons_append, List.nil_append, Nat.reduceAdd, Nat.reduceSub, Nat.reduceLeDiff, Nat.reduceMul, true_and, and_true, List.append_nil]
  refine take_ev h (by omega) (by omega) fun va S1 a1 a2 p1 l1 o1 => ?_
  try simp only [ev_bind, ev_pure, ev_op2, ev_op1, ev_opN, ev_opNF, ev_opM, ev_set3, ev_isL, ev_isi, ev_asB, ev_ite, ev_toR, ev_toV, ev_seq, ev_set, ev_asg, ev_ret, ev_ifS, ev_nx, ev_and, ev_or, ev_not, ev_vAnd, ev_vNot, ev_C, ev_var, ev_name, ev_gnil, ev_gcons, ev_gTup, ev_tup, ev_lst, ev_call, ev_forC, ev_lcC, Pm.is_some, Pm.is_none, Pm.is_if, List.set_cons_zero, List.set_cons_succ, List.getElem?_cons_zero, List.getElem?_cons_succ, tCmp, cOp, cUn, tVal, aNil, aCons, cB, fB, cG, cP, fP, fOp, cSl, fSl, poN, poS, ev_slV, ev_slT, ev_slL, cLm, cLm0, cIsi, fSS, iSq, iR1, iR2, iR3, iEn, iZp, gSub, sEx, Pm.addV_int, Pm.sub_int, Pm.mul_int, Pm.gt_int, Pm.eq_int, Pm.ne_int, Pm.lt_int, Pm.le_int, Pm.ge_int, Pm.neg_int, Bool.not_true, Bool.not_false, if_true, if_false, decide_eq_true_eq, Bool.false_eq_true, reduceIte, List.map_cons, List.map_nil, List.length_cons, List.length_nil, List.replicate_succ, List.replicate_zero, List.cons_append, List.nil_append, Nat.reduceAdd, Nat.reduceSub, Nat.reduceLeDiff, Nat.reduceMul, true_and, and_true, List.append_nil]
  refine take_ev p1 (by omega) (by omega) fun vb S2 b1 b2 p2 l2 o2 => ?_
  try simp only [ev_bind, ev_pure, ev_op2, ev_op1, ev_opN, ev_opNF, ev_opM, ev_set3, ev_isL, ev_isi, ev_asB, ev_ite, ev_toR, ev_toV, ev_seq, ev_set, ev_asg, ev_ret, ev_ifS, ev_nx, ev_and, ev_or, ev_not, ev_vAnd, ev_vNot, ev_C, ev_var, ev_name, ev_gnil, ev_gcons, ev_gTup, ev_tup, ev_lst, ev_call, ev_forC, ev_lcC, Pm.is_some, Pm.is_none, Pm.is_if, List.set_cons_zero, List.set_cons_succ, List.getElem?_cons_zero, List.getElem?_cons_succ, tCmp, cOp, cUn, tVal, aNil, aCons, cB, fB, cG, cP, fP, fOp, cSl, fSl, poN, poS, ev_slV, ev_slT, ev_slL, cLm, cLm0, cIsi, fSS, iSq, iR1, iR2, iR3, iEn, iZp, gSub, sEx, Pm.addV_int, Pm.sub_int, Pm.mul_int, Pm.gt_int, Pm.eq_int, Pm.ne_int, Pm.lt_int, Pm.le_int, Pm.ge_int, Pm.neg_int, Bool.not_true, Bool.not_false, if_true, if_false, decide_eq_true_eq, Bool.false_eq_true, reduceIte, List.map_cons, List.map_nil, List.length_cons, List.length_nil, List.replicate_succ, List.replicate_zero, List.cons_append, List.nil_append, Nat.reduceAdd, Nat.reduceSub, Nat.reduceLeDiff, Nat.reduceMul, true_and, and_true, List.append_nil]
  refine take_ev p2 (by decide) (by decide) fun vx S3 x1 x2 p3 l3 o3 => ?_
  try simp only [ev_bind, ev_pure, ev_op2, ev_op1, ev_opN, ev_opNF, ev_opM, ev_set3, ev_isL, ev_isi, ev_asB, ev_ite, ev_toR, ev_toV, ev_seq, ev_set, ev_asg, ev_ret, ev_ifS, ev_nx, ev_and, ev_or, ev_not, ev_vAnd, ev_vNot, ev_C, ev_var, ev_name, ev_gnil, ev_gcons, ev_gTup, ev_tup, ev_lst, ev_call, ev_forC, ev_lcC, Pm.is_some, Pm.is_none, Pm.is_if, List.set_cons_zero, List.set_cons_succ, List.getElem?_cons_zero, List.getElem?_cons_succ, tCmp, cOp, cUn, tVal, aNil, aCons, cB, fB, cG, cP, fP, fOp, cSl, fSl, poN, poS, ev_slV, ev_slT, ev_slL, cLm, cLm0, cIsi, fSS, iSq, iR1, iR2, iR3, iEn, iZp, gSub, sEx, Pm.addV_int, Pm.sub_int, Pm.mul_int, Pm.gt_int, Pm.eq_int, Pm.ne_int, Pm.lt_int, Pm.le_int, Pm.ge_int, Pm.neg_int, Bool.not_true, Bool.not_false, if_true, if_false, decide_eq_true_eq, Bool.false_eq_true, reduceIte, List.map_cons, List.map_nil, List.length_cons, List.length_nil, List.replicate_succ, List.replicate_zero, List.cons_append, List.nil_append, Nat.reduceAdd, Nat.reduceSub, Nat.reduceLeDiff, Nat.reduceMul, true_and, and_true, List.append_nil]
  refine take_ev p3 (by decide) (by decide) fun vy S4 y1 y2 p4 l4 o4 => ?_
  have hT : Tie places (va, vb, vx - 1, vy - 1) := ⟨⟨a1, a2⟩, b1, b2⟩
  obtain ⟨k, hk⟩ : ∃ k, inAO S4 (.tup [.int va, .int vb, .int (vx - 1), .int (vy - 1)]) (.vl (ties.map w4)) = some (.bl k) := in_w4 S4 (va, vb, vx - 1, vy - 1) ties
  have fin : ∀ (ts : List T4) a b x tie on, (∀ t ∈ ts, Tie places t) → ts.length ≤ ties.length + 1 → Q (.nx, [some (.ref i), some (.int way), known, some (.int places), some (.vl (ts.map w4)), turns, u, a, b, x, tie, on]) S4 := fun ts a b x tie on h1 h2 => q S4 ts a b x tie on p4 (by omega) (fun j hj => by rw [o4 j hj, o3 j hj, o2 j hj, o1 j hj]) h1 h2
  have other : Ev (cIfS (cOr (tCmp neO (cVar 7) (cVar 8)) (tCmp neO (cSl (cVar 10) (poS (cC (.int 2))) (poN)) (tupM (aCons (cC (.int 0)) (aCons (cC (.int 0)) (aNil)))))) (setC 4 (cOp addVO (cVar 4) (toV (lstM (aCons (cP 1 m__law_written (aCons (cVar 10) (aNil))) (aNil)))))) (cNx)
      [some (.ref i), some (.int way), known, some (.int places), some (.vl (ties.map w4)), turns, u, some (.int va), some (.int vb), some (.int (vx - 1)), some (.tup [.int va, .int vb, .int (vx - 1), .int (vy - 1)]), on]) S4 Q := by
    have app : Q (.nx, [some (.ref i), some (.int way), known, some (.int places), some (.vl (ties.map w4)), turns, u, some (.int va), some (.int vb), some (.int (vx - 1)), some (.tup [.int va, .int vb, .int (vx - 1), .int (vy - 1)]), on]) S4 := fin ties _ _ _ _ _ ht (by omega)
    have more : Ev (setC 4 (cOp addVO (cVar 4) (toV (lstM (aCons (cP 1 m__law_written (aCons (cVar 10) (aNil))) (aNil))))) [some (.ref i), some (.int way), known, some (.int places), some (.vl (ties.map w4)), turns, u, some (.int va), some (.int vb), some (.int (vx - 1)), some (.tup [.int va, .int vb, .int (vx - 1), .int (vy - 1)]), on]) S4 Q := by
      simp only [ev_bind, ev_pure, ev_op2, ev_op1, ev_opN, ev_opNF, ev_opM, ev_set3, ev_isL, ev_isi, ev_asB, ev_ite, ev_toR, ev_toV, ev_seq, ev_set, ev_asg, ev_ret, ev_ifS, ev_nx, ev_and, ev_or, ev_not, ev_vAnd, ev_vNot, ev_C, ev_var, ev_name, ev_gnil, ev_gcons, ev_gTup, ev_tup, ev_lst, ev_call, ev_forC, ev_lcC, Pm.is_some, Pm.is_none, Pm.is_if, List.set_cons_zero, List.set_cons_succ, List.getElem?_cons_zero, List.getElem?_cons_succ, tCmp, cOp, cUn, tVal, aNil, aCons, cB, fB, cG, cP, fP, fOp, cSl, fSl, poN, poS, ev_slV, ev_slT, ev_slL, cLm, cLm0, cIsi, fSS, iSq, iR1, iR2, iR3, iEn, iZp, gSub, sEx, Pm.addV_int, Pm.sub_int, Pm.mul_int, Pm.gt_int, Pm.eq_int, Pm.ne_int, Pm.lt_int, Pm.le_int, Pm.ge_int, Pm.neg_int, Bool.not_true, Bool.not_false, if_true, if_false, decide_eq_true_eq, Bool.false_eq_true, reduceIte, List.map_cons, List.map_nil, List.length_cons, List.length_nil, List.replicate_succ, List.replicate_zero, List.cons_append, List.nil_append, Nat.reduceAdd, Nat.reduceSub, Nat.reduceLeDiff, Nat.reduceMul, true_and, and_true, List.append_nil]
      refine ev_pcall rfl (free_args fun w hw => by rw [List.mem_singleton.mp hw]; exact pure_w4 18 (va, vb, vx - 1, vy - 1)) ?_
      refine (written_ev hT).mono ?_
      rintro w S' ⟨t', rfl, hT'⟩
      rw [frz_pure S' DEP (pure_w4 18 t')]
      have e := add_w4 S4 ties [t'] (by rw [List.length_singleton]; omega)
      rw [List.map_cons, List.map_nil] at e
      simp only [ev_bind, ev_pure, ev_op2, ev_op1, ev_opN, ev_opNF, ev_opM, ev_set3, ev_isL, ev_isi, ev_asB, ev_ite, ev_toR, ev_toV, ev_seq, ev_set, ev_asg, ev_ret, ev_ifS, ev_nx, ev_and, ev_or, ev_not, ev_vAnd, ev_vNot, ev_C, ev_var, ev_name, ev_gnil, ev_gcons, ev_gTup, ev_tup, ev_lst, ev_call, ev_forC, ev_lcC, Pm.is_some, Pm.is_none, Pm.is_if, List.set_cons_zero, List.set_cons_succ, List.getElem?_cons_zero, List.getElem?_cons_succ, tCmp, cOp, cUn, tVal, aNil, aCons, cB, fB, cG, cP, fP, fOp, cSl, fSl, poN, poS, ev_slV, ev_slT, ev_slL, cLm, cLm0, cIsi, fSS, iSq, iR1, iR2, iR3, iEn, iZp, gSub, sEx, Pm.addV_int, Pm.sub_int, Pm.mul_int, Pm.gt_int, Pm.eq_int, Pm.ne_int, Pm.lt_int, Pm.le_int, Pm.ge_int, Pm.neg_int, Bool.not_true, Bool.not_false, if_true, if_false, decide_eq_true_eq, Bool.false_eq_true, reduceIte, List.map_cons, List.map_nil, List.length_cons, List.length_nil, List.replicate_succ, List.replicate_zero, List.cons_append, List.nil_append, Nat.reduceAdd, Nat.reduceSub, Nat.reduceLeDiff, Nat.reduceMul, true_and, and_true, List.append_nil, e]
      refine fin (ties ++ [t']) _ _ _ _ _ (fun t h => ?_) (by rw [List.length_append, List.length_singleton]; omega)
      rcases List.mem_append.mp h with z | z
      · exact ht t z
      · rw [List.mem_singleton.mp z]; exact hT'
    have hcut : cutW [W.int va, .int vb, .int (vx - 1), .int (vy - 1)] (some 2) none = [.int (vx - 1), .int (vy - 1)] := rfl
    obtain ⟨k2, hk2⟩ : ∃ k2, neO S4 (.tup [.int (vx - 1), .int (vy - 1)]) (.tup [.int 0, .int 0]) = some (.bl k2) := ⟨_, rfl⟩
    simp only [ev_bind, ev_pure, ev_op2, ev_op1, ev_opN, ev_opNF, ev_opM, ev_set3, ev_isL, ev_isi, ev_asB, ev_ite, ev_toR, ev_toV, ev_seq, ev_set, ev_asg, ev_ret, ev_ifS, ev_nx, ev_and, ev_or, ev_not, ev_vAnd, ev_vNot, ev_C, ev_var, ev_name, ev_gnil, ev_gcons, ev_gTup, ev_tup, ev_lst, ev_call, ev_forC, ev_lcC, Pm.is_some, Pm.is_none, Pm.is_if, List.set_cons_zero, List.set_cons_succ, List.getElem?_cons_zero, List.getElem?_cons_succ, tCmp, cOp, cUn, tVal, aNil, aCons, cB, fB, cG, cP, fP, fOp, cSl, fSl, poN, poS, ev_slV, ev_slT, ev_slL, cLm, cLm0, cIsi, fSS, iSq, iR1, iR2, iR3, iEn, iZp, gSub, sEx, Pm.addV_int, Pm.sub_int, Pm.mul_int, Pm.gt_int, Pm.eq_int, Pm.ne_int, Pm.lt_int, Pm.le_int, Pm.ge_int, Pm.neg_int, Bool.not_true, Bool.not_false, if_true, if_false, decide_eq_true_eq, Bool.false_eq_true, reduceIte, List.map_cons, List.map_nil, List.length_cons, List.length_nil, List.replicate_succ, List.replicate_zero, List.cons_append, List.nil_append, Nat.reduceAdd, Nat.reduceSub, Nat.reduceLeDiff, Nat.reduceMul, true_and, and_true, List.append_nil] at more
    simp only [ev_bind, ev_pure, ev_op2, ev_op1, ev_opN, ev_opNF, ev_opM, ev_set3, ev_isL, ev_isi, ev_asB, ev_ite, ev_toR, ev_toV, ev_seq, ev_set, ev_asg, ev_ret, ev_ifS, ev_nx, ev_and, ev_or, ev_not, ev_vAnd, ev_vNot, ev_C, ev_var, ev_name, ev_gnil, ev_gcons, ev_gTup, ev_tup, ev_lst, ev_call, ev_forC, ev_lcC, Pm.is_some, Pm.is_none, Pm.is_if, List.set_cons_zero, List.set_cons_succ, List.getElem?_cons_zero, List.getElem?_cons_succ, tCmp, cOp, cUn, tVal, aNil, aCons, cB, fB, cG, cP, fP, fOp, cSl, fSl, poN, poS, ev_slV, ev_slT, ev_slL, cLm, cLm0, cIsi, fSS, iSq, iR1, iR2, iR3, iEn, iZp, gSub, sEx, Pm.addV_int, Pm.sub_int, Pm.mul_int, Pm.gt_int, Pm.eq_int, Pm.ne_int, Pm.lt_int, Pm.le_int, Pm.ge_int, Pm.neg_int, Bool.not_true, Bool.not_false, if_true, if_false, decide_eq_true_eq, Bool.false_eq_true, reduceIte, List.map_cons, List.map_nil, List.length_cons, List.length_nil, List.replicate_succ, List.replicate_zero, List.cons_append, List.nil_append, Nat.reduceAdd, Nat.reduceSub, Nat.reduceLeDiff, Nat.reduceMul, true_and, and_true, List.append_nil, hcut, hk2]
    by_cases c1 : va = vb
    · subst c1
      simp only [decide_true, Bool.not_true, Bool.false_eq_true, if_false]
      cases k2 with
      | true => exact more
      | false => exact app
    · simp only [c1, decide_false, Bool.not_false, if_true]
      exact more
  simp only [ev_bind, ev_pure, ev_op2, ev_op1, ev_opN, ev_opNF, ev_opM, ev_set3, ev_isL, ev_isi, ev_asB, ev_ite, ev_toR, ev_toV, ev_seq, ev_set, ev_asg, ev_ret, ev_ifS, ev_nx, ev_and, ev_or, ev_not, ev_vAnd, ev_vNot, ev_C, ev_var, ev_name, ev_gnil, ev_gcons, ev_gTup, ev_tup, ev_lst, ev_call, ev_forC, ev_lcC, Pm.is_some, Pm.is_none, Pm.is_if, List.set_cons_zero, List.set_cons_succ, List.getElem?_cons_zero, List.getElem?_cons_succ, tCmp, cOp, cUn, tVal, aNil, aCons, cB, fB, cG, cP, fP, fOp, cSl, fSl, poN, poS, ev_slV, ev_slT, ev_slL, cLm, cLm0, cIsi, fSS, iSq, iR1, iR2, iR3, iEn, iZp, gSub, sEx, Pm.addV_int, Pm.sub_int, Pm.mul_int, Pm.gt_int, Pm.eq_int, Pm.ne_int, Pm.lt_int, Pm.le_int, Pm.ge_int, Pm.neg_int, Bool.not_true, Bool.not_false, if_true, if_false, decide_eq_true_eq, Bool.false_eq_true, reduceIte, List.map_cons, List.map_nil, List.length_cons, List.length_nil, List.replicate_succ, List.replicate_zero, List.cons_append, List.nil_append, Nat.reduceAdd, Nat.reduceSub, Nat.reduceLeDiff, Nat.reduceMul, true_and, and_true, List.append_nil] at other
  simp only [ev_bind, ev_pure, ev_op2, ev_op1, ev_opN, ev_opNF, ev_opM, ev_set3, ev_isL, ev_isi, ev_asB, ev_ite, ev_toR, ev_toV, ev_seq, ev_set, ev_asg, ev_ret, ev_ifS, ev_nx, ev_and, ev_or, ev_not, ev_vAnd, ev_vNot, ev_C, ev_var, ev_name, ev_gnil, ev_gcons, ev_gTup, ev_tup, ev_lst, ev_call, ev_forC, ev_lcC, Pm.is_some, Pm.is_none, Pm.is_if, List.set_cons_zero, List.set_cons_succ, List.getElem?_cons_zero, List.getElem?_cons_succ, tCmp, cOp, cUn, tVal, aNil, aCons, cB, fB, cG, cP, fP, fOp, cSl, fSl, poN, poS, ev_slV, ev_slT, ev_slL, cLm, cLm0, cIsi, fSS, iSq, iR1, iR2, iR3, iEn, iZp, gSub, sEx, Pm.addV_int, Pm.sub_int, Pm.mul_int, Pm.gt_int, Pm.eq_int, Pm.ne_int, Pm.lt_int, Pm.le_int, Pm.ge_int, Pm.neg_int, Bool.not_true, Bool.not_false, if_true, if_false, decide_eq_true_eq, Bool.false_eq_true, reduceIte, List.map_cons, List.map_nil, List.length_cons, List.length_nil, List.replicate_succ, List.replicate_zero, List.cons_append, List.nil_append, Nat.reduceAdd, Nat.reduceSub, Nat.reduceLeDiff, Nat.reduceMul, true_and, and_true, List.append_nil, hk]
  cases k with
  | false => exact other
  | true =>
    by_cases hw : way = 1
    · simp only [hw, decide_true, if_true]
      try simp only [ev_bind, ev_pure, ev_op2, ev_op1, ev_opN, ev_opNF, ev_opM, ev_set3, ev_isL, ev_isi, ev_asB, ev_ite, ev_toR, ev_toV, ev_seq, ev_set, ev_asg, ev_ret, ev_ifS, ev_nx, ev_and, ev_or, ev_not, ev_vAnd, ev_vNot, ev_C, ev_var, ev_name, ev_gnil, ev_gcons, ev_gTup, ev_tup, ev_lst, ev_call, ev_forC, ev_lcC, Pm.is_some, Pm.is_none, Pm.is_if, List.set_cons_zero, List.set_cons_succ, List.getElem?_cons_zero, List.getElem?_cons_succ, tCmp, cOp, cUn, tVal, aNil, aCons, cB, fB, cG, cP, fP, fOp, cSl, fSl, poN, poS, ev_slV, ev_slT, ev_slL, cLm, cLm0, cIsi, fSS, iSq, iR1, iR2, iR3, iEn, iZp, gSub, sEx, Pm.addV_int, Pm.sub_int, Pm.mul_int, Pm.gt_int, Pm.eq_int, Pm.ne_int, Pm.lt_int, Pm.le_int, Pm.ge_int, Pm.neg_int, Bool.not_true, Bool.not_false, if_true, if_false, decide_eq_true_eq, Bool.false_eq_true, reduceIte, List.map_cons, List.map_nil, List.length_cons, List.length_nil, List.replicate_succ, List.replicate_zero, List.cons_append, List.nil_append, Nat.reduceAdd, Nat.reduceSub, Nat.reduceLeDiff, Nat.reduceMul, true_and, and_true, List.append_nil]
      refine seq_vl ?_
      refine ev_lc0 (fun n acc S' => S' = S4 ∧ ∃ ts : List T4, acc = ts.map w4 ∧ (∀ t ∈ ts, t ∈ ties) ∧ ts.length ≤ n) ties.length (by omega) ⟨rfl, [], rfl, fun t h => (by cases h), Nat.le_refl _⟩ ?_ ?_
      · rintro n acc S' hn _ ⟨rfl, ts, rfl, h1, h2⟩
        have hx : ties[n]? = some ties[n] := List.getElem?_eq_getElem hn
        refine ⟨w4 ties[n], by rw [List.getElem?_map, hx]; rfl, ?_⟩
        obtain ⟨k3, hk3⟩ : ∃ k3, neO S' (w4 ties[n]) (.tup [.int va, .int vb, .int (vx - 1), .int (vy - 1)]) = some (.bl k3) := ne_w4 S' ties[n] (va, vb, vx - 1, vy - 1)
        simp only [ev_bind, ev_pure, ev_op2, ev_op1, ev_opN, ev_opNF, ev_opM, ev_set3, ev_isL, ev_isi, ev_asB, ev_ite, ev_toR, ev_toV, ev_seq, ev_set, ev_asg, ev_ret, ev_ifS, ev_nx, ev_and, ev_or, ev_not, ev_vAnd, ev_vNot, ev_C, ev_var, ev_name, ev_gnil, ev_gcons, ev_gTup, ev_tup, ev_lst, ev_call, ev_forC, ev_lcC, Pm.is_some, Pm.is_none, Pm.is_if, List.set_cons_zero, List.set_cons_succ, List.getElem?_cons_zero, List.getElem?_cons_succ, tCmp, cOp, cUn, tVal, aNil, aCons, cB, fB, cG, cP, fP, fOp, cSl, fSl, poN, poS, ev_slV, ev_slT, ev_slL, cLm, cLm0, cIsi, fSS, iSq, iR1, iR2, iR3, iEn, iZp, gSub, sEx, Pm.addV_int, Pm.sub_int, Pm.mul_int, Pm.gt_int, Pm.eq_int, Pm.ne_int, Pm.lt_int, Pm.le_int, Pm.ge_int, Pm.neg_int, Bool.not_true, Bool.not_false, if_true, if_false, decide_eq_true_eq, Bool.false_eq_true, reduceIte, List.map_cons, List.map_nil, List.length_cons, List.length_nil, List.replicate_succ, List.replicate_zero, List.cons_append, List.nil_append, Nat.reduceAdd, Nat.reduceSub, Nat.reduceLeDiff, Nat.reduceMul, true_and, and_true, List.append_nil, wipeR, hk3]
        cases k3 with
        | true =>
          refine ⟨ts ++ [ties[n]], by rw [List.map_append]; rfl, fun t h => ?_, by rw [List.length_append, List.length_singleton]; omega⟩
          rcases List.mem_append.mp h with z | z
          · exact h1 t z
          · rw [List.mem_singleton.mp z]; exact List.getElem_mem hn
        | false => exact ⟨ts, rfl, h1, by omega⟩
      · rintro acc S' ⟨rfl, ts, rfl, h1, h2⟩
        refine ⟨by simp, ?_⟩
        rw [hw] at fin
        exact fin ts _ _ _ _ _ (fun t h => ht t (h1 t h)) (by omega)
    · simp only [hw, decide_false, Bool.false_eq_true, if_false]
      exact other
theorem len_vl {S : Sto} {ws : List W} : lenAO S [.vl ws] = some (.int ws.length) := rfl
theorem grid_ev {S : Sto} {i : Nat} {Q : W → Sto → Prop} (h : Pool S i) (q : ∀ S' places (ties : List T4), 1 ≤ places → places ≤ 4 → (∀ t ∈ ties, Tie places t) → ties.length < 64 → S'.length = S.length → (∀ j, j ≠ i → S'[j]? = S[j]?) → Q (gridW places ties) S') : Ev (m__law_grid [.ref i]) S Q := by
  unfold m__law_grid b__law_grid
  rw [ev_fn]
  simp only [ev_bind, ev_pure, ev_op2, ev_op1, ev_opN, ev_opNF, ev_opM, ev_set3, ev_isL, ev_isi, ev_asB, ev_ite, ev_toR, ev_toV, ev_seq, ev_set, ev_asg, ev_ret, ev_ifS, ev_nx, ev_and, ev_or, ev_not, ev_vAnd, ev_vNot, ev_C, ev_var, ev_name, ev_gnil, ev_gcons, ev_gTup, ev_tup, ev_lst, ev_call, ev_forC, ev_lcC, Pm.is_some, Pm.is_none, Pm.is_if, List.set_cons_zero, List.set_cons_succ, List.getElem?_cons_zero, List.getElem?_cons_succ, tCmp, cOp, cUn, tVal, aNil, aCons, cB, fB, cG, cP, fP, fOp, cSl, fSl, poN, poS, ev_slV, ev_slT, ev_slL, cLm, cLm0, cIsi, fSS, iSq, iR1, iR2, iR3, iEn, iZp, gSub, sEx, Pm.addV_int, Pm.sub_int, Pm.mul_int, Pm.gt_int, Pm.eq_int, Pm.ne_int, Pm.lt_int, Pm.le_int, Pm.ge_int, Pm.neg_int, Bool.not_true, Bool.not_false, if_true, if_false, decide_eq_true_eq, Bool.false_eq_true, reduceIte, List.map_cons, List.map_nil, List.length_cons, List.length_nil, List.replicate_succ, List.replicate_zero, List.cons_append, List.nil_append, Nat.reduceAdd, Nat.reduceSub, Nat.reduceLeDiff, Nat.reduceMul, true_and, and_true, List.append_nil]
  refine take_ev h (by decide) (by decide) fun way S1 a1 a2 p1 l1 o1 => ?_
  try simp only [ev_bind, ev_pure, ev_op2, ev_op1, ev_opN, ev_opNF, ev_opM, ev_set3, ev_isL, ev_isi, ev_asB, ev_ite, ev_toR, ev_toV, ev_seq, ev_set, ev_asg, ev_ret, ev_ifS, ev_nx, ev_and, ev_or, ev_not, ev_vAnd, ev_vNot, ev_C, ev_var, ev_name, ev_gnil, ev_gcons, ev_gTup, ev_tup, ev_lst, ev_call, ev_forC, ev_lcC, Pm.is_some, Pm.is_none, Pm.is_if, List.set_cons_zero, List.set_cons_succ, List.getElem?_cons_zero, List.getElem?_cons_succ, tCmp, cOp, cUn, tVal, aNil, aCons, cB, fB, cG, cP, fP, fOp, cSl, fSl, poN, poS, ev_slV, ev_slT, ev_slL, cLm, cLm0, cIsi, fSS, iSq, iR1, iR2, iR3, iEn, iZp, gSub, sEx, Pm.addV_int, Pm.sub_int, Pm.mul_int, Pm.gt_int, Pm.eq_int, Pm.ne_int, Pm.lt_int, Pm.le_int, Pm.ge_int, Pm.neg_int, Bool.not_true, Bool.not_false, if_true, if_false, decide_eq_true_eq, Bool.false_eq_true, reduceIte, List.map_cons, List.map_nil, List.length_cons, List.length_nil, List.replicate_succ, List.replicate_zero, List.cons_append, List.nil_append, Nat.reduceAdd, Nat.reduceSub, Nat.reduceLeDiff, Nat.reduceMul, true_and, and_true, List.append_nil]
  refine ev_of (known_ev S1) ?_
  simp only [ev_bind, ev_pure, ev_op2, ev_op1, ev_opN, ev_opNF, ev_opM, ev_set3, ev_isL, ev_isi, ev_asB, ev_ite, ev_toR, ev_toV, ev_seq, ev_set, ev_asg, ev_ret, ev_ifS, ev_nx, ev_and, ev_or, ev_not, ev_vAnd, ev_vNot, ev_C, ev_var, ev_name, ev_gnil, ev_gcons, ev_gTup, ev_tup, ev_lst, ev_call, ev_forC, ev_lcC, Pm.is_some, Pm.is_none, Pm.is_if, List.set_cons_zero, List.set_cons_succ, List.getElem?_cons_zero, List.getElem?_cons_succ, tCmp, cOp, cUn, tVal, aNil, aCons, cB, fB, cG, cP, fP, fOp, cSl, fSl, poN, poS, ev_slV, ev_slT, ev_slL, cLm, cLm0, cIsi, fSS, iSq, iR1, iR2, iR3, iEn, iZp, gSub, sEx, Pm.addV_int, Pm.sub_int, Pm.mul_int, Pm.gt_int, Pm.eq_int, Pm.ne_int, Pm.lt_int, Pm.le_int, Pm.ge_int, Pm.neg_int, Bool.not_true, Bool.not_false, if_true, if_false, decide_eq_true_eq, Bool.false_eq_true, reduceIte, List.map_cons, List.map_nil, List.length_cons, List.length_nil, List.replicate_succ, List.replicate_zero, List.cons_append, List.nil_append, Nat.reduceAdd, Nat.reduceSub, Nat.reduceLeDiff, Nat.reduceMul, true_and, and_true, List.append_nil, len_vl]
  have hk13 : (((KNOWN.map kw).length : Nat) : Int) = 13 := rfl
  rw [hk13]
  refine take_ev p1 (by decide) (by decide) fun r S2 b1 b2 p2 l2 o2 => ?_
  have hr : r.toNat < KNOWN.length := by show r.toNat < 13; omega
  have hx : KNOWN[r.toNat]? = some KNOWN[r.toNat] := List.getElem?_eq_getElem hr
  obtain ⟨⟨k1, k2⟩, k3, k4⟩ := known_ok _ (List.getElem_mem hr)
  generalize hek : KNOWN[r.toNat] = e at hx k1 k2 k3 k4
  have ix : ixAO S2 (.vl (KNOWN.map kw)) (.int r) = some (.tup [.int e.1, .vl (e.2.map w4)]) := by
    show L2.atI (KNOWN.map kw) r = _
    refine atI_nat b1 ?_ (by rw [List.length_map]; decide)
    rw [List.getElem?_map, hx]
    rfl
  simp only [ev_bind, ev_pure, ev_op2, ev_op1, ev_opN, ev_opNF, ev_opM, ev_set3, ev_isL, ev_isi, ev_asB, ev_ite, ev_toR, ev_toV, ev_seq, ev_set, ev_asg, ev_ret, ev_ifS, ev_nx, ev_and, ev_or, ev_not, ev_vAnd, ev_vNot, ev_C, ev_var, ev_name, ev_gnil, ev_gcons, ev_gTup, ev_tup, ev_lst, ev_call, ev_forC, ev_lcC, Pm.is_some, Pm.is_none, Pm.is_if, List.set_cons_zero, List.set_cons_succ, List.getElem?_cons_zero, List.getElem?_cons_succ, tCmp, cOp, cUn, tVal, aNil, aCons, cB, fB, cG, cP, fP, fOp, cSl, fSl, poN, poS, ev_slV, ev_slT, ev_slL, cLm, cLm0, cIsi, fSS, iSq, iR1, iR2, iR3, iEn, iZp, gSub, sEx, Pm.addV_int, Pm.sub_int, Pm.mul_int, Pm.gt_int, Pm.eq_int, Pm.ne_int, Pm.lt_int, Pm.le_int, Pm.ge_int, Pm.neg_int, Bool.not_true, Bool.not_false, if_true, if_false, decide_eq_true_eq, Bool.false_eq_true, reduceIte, List.map_cons, List.map_nil, List.length_cons, List.length_nil, List.replicate_succ, List.replicate_zero, List.cons_append, List.nil_append, Nat.reduceAdd, Nat.reduceSub, Nat.reduceLeDiff, Nat.reduceMul, true_and, and_true, List.append_nil, ix]
  -- the turns, whatever the way
  have rest : ∀ (S3 : Sto) (places : Int) (ties : List T4), 1 ≤ places → places ≤ 4 → (∀ t ∈ ties, Tie places t) → ties.length ≤ 6 → Pool S3 i → S3.length = S.length → (∀ j, j ≠ i → S3[j]? = S[j]?) →
      Ev (seqC (setC 5 (cOp ixAO (toV (lstM (aCons (cC (.int 0)) (aCons (cOp addVO (cC (.int 1)) (cG 2 m__law_take (aCons (cVar 0) (aCons (cC (.int 2)) (aNil))))) (aCons (cOp addVO (cC (.int 2)) (cG 2 m__law_take (aCons (cVar 0) (aCons (cC (.int 5)) (aNil))))) (aCons (cG 2 m__law_take (aCons (cVar 0) (aCons (cC (.int 17)) (aNil)))) (aNil))))))) (cVar 1)))
        (seqC (forC (iR1 (aCons (cVar 5) (aNil))) (gmName 6) turnG) (cRet (tupM (aCons (cVar 3) (aCons (cB tupleAO (aCons (toV (fSS (cVar 4))) (aNil))) (aNil))))))
        [some (.ref i), some (.int way), some (.vl (KNOWN.map kw)), some (.int places), some (.vl (ties.map w4)), none, none, none, none, none, none, none]) S3 fun p S' => match p.1 with
        | .nx => Q .non S'
        | .rt w => Q w S'
        | _ => False := by
    intro S3 places ties hp1 hp4 ht hl p3 l3 o3
    simp only [ev_bind, ev_pure, ev_op2, ev_op1, ev_opN, ev_opNF, ev_opM, ev_set3, ev_isL, ev_isi, ev_asB, ev_ite, ev_toR, ev_toV, ev_seq, ev_set, ev_asg, ev_ret, ev_ifS, ev_nx, ev_and, ev_or, ev_not, ev_vAnd, ev_vNot, ev_C, ev_var, ev_name, ev_gnil, ev_gcons, ev_gTup, ev_tup, ev_lst, ev_call, ev_forC, ev_lcC, Pm.is_some, Pm.is_none, Pm.is_if, List.set_cons_zero, List.set_cons_succ, List.getElem?_cons_zero, List.getElem?_cons_succ, tCmp, cOp, cUn, tVal, aNil, aCons, cB, fB, cG, cP, fP, fOp, cSl, fSl, poN, poS, ev_slV, ev_slT, ev_slL, cLm, cLm0, cIsi, fSS, iSq, iR1, iR2, iR3, iEn, iZp, gSub, sEx, Pm.addV_int, Pm.sub_int, Pm.mul_int, Pm.gt_int, Pm.eq_int, Pm.ne_int, Pm.lt_int, Pm.le_int, Pm.ge_int, Pm.neg_int, Bool.not_true, Bool.not_false, if_true, if_false, decide_eq_true_eq, Bool.false_eq_true, reduceIte, List.map_cons, List.map_nil, List.length_cons, List.length_nil, List.replicate_succ, List.replicate_zero, List.cons_append, List.nil_append, Nat.reduceAdd, Nat.reduceSub, Nat.reduceLeDiff, Nat.reduceMul, true_and, and_true, List.append_nil]
    refine take_ev p3 (by decide) (by decide) fun x S4 x1 x2 p4 l4 o4 => ?_
    try simp only [ev_bind, ev_pure, ev_op2, ev_op1, ev_opN, ev_opNF, ev_opM, ev_set3, ev_isL, ev_isi, ev_asB, ev_ite, ev_toR, ev_toV, ev_seq, ev_set, ev_asg, ev_ret, ev_ifS, ev_nx, ev_and, ev_or, ev_not, ev_vAnd, ev_vNot, ev_C, ev_var, ev_name, ev_gnil, ev_gcons, ev_gTup, ev_tup, ev_lst, ev_call, ev_forC, ev_lcC, Pm.is_some, Pm.is_none, Pm.is_if, List.set_cons_zero, List.set_cons_succ, List.getElem?_cons_zero, List.getElem?_cons_succ, tCmp, cOp, cUn, tVal, aNil, aCons, cB, fB, cG, cP, fP, fOp, cSl, fSl, poN, poS, ev_slV, ev_slT, ev_slL, cLm, cLm0, cIsi, fSS, iSq, iR1, iR2, iR3, iEn, iZp, gSub, sEx, Pm.addV_int, Pm.sub_int, Pm.mul_int, Pm.gt_int, Pm.eq_int, Pm.ne_int, Pm.lt_int, Pm.le_int, Pm.ge_int, Pm.neg_int, Bool.not_true, Bool.not_false, if_true, if_false, decide_eq_true_eq, Bool.false_eq_true, reduceIte, List.map_cons, List.map_nil, List.length_cons, List.length_nil, List.replicate_succ, List.replicate_zero, List.cons_append, List.nil_append, Nat.reduceAdd, Nat.reduceSub, Nat.reduceLeDiff, Nat.reduceMul, true_and, and_true, List.append_nil]
    refine take_ev p4 (by decide) (by decide) fun y S5 y1 y2 p5 l5 o5 => ?_
    try simp only [ev_bind, ev_pure, ev_op2, ev_op1, ev_opN, ev_opNF, ev_opM, ev_set3, ev_isL, ev_isi, ev_asB, ev_ite, ev_toR, ev_toV, ev_seq, ev_set, ev_asg, ev_ret, ev_ifS, ev_nx, ev_and, ev_or, ev_not, ev_vAnd, ev_vNot, ev_C, ev_var, ev_name, ev_gnil, ev_gcons, ev_gTup, ev_tup, ev_lst, ev_call, ev_forC, ev_lcC, Pm.is_some, Pm.is_none, Pm.is_if, List.set_cons_zero, List.set_cons_succ, List.getElem?_cons_zero, List.getElem?_cons_succ, tCmp, cOp, cUn, tVal, aNil, aCons, cB, fB, cG, cP, fP, fOp, cSl, fSl, poN, poS, ev_slV, ev_slT, ev_slL, cLm, cLm0, cIsi, fSS, iSq, iR1, iR2, iR3, iEn, iZp, gSub, sEx, Pm.addV_int, Pm.sub_int, Pm.mul_int, Pm.gt_int, Pm.eq_int, Pm.ne_int, Pm.lt_int, Pm.le_int, Pm.ge_int, Pm.neg_int, Bool.not_true, Bool.not_false, if_true, if_false, decide_eq_true_eq, Bool.false_eq_true, reduceIte, List.map_cons, List.map_nil, List.length_cons, List.length_nil, List.replicate_succ, List.replicate_zero, List.cons_append, List.nil_append, Nat.reduceAdd, Nat.reduceSub, Nat.reduceLeDiff, Nat.reduceMul, true_and, and_true, List.append_nil]
    refine take_ev p5 (by decide) (by decide) fun z S6 z1 z2 p6 l6 o6 => ?_
    have ht6 : ∃ n : Int, ixAO S6 (.vl [.int 0, .int (1 + x), .int (2 + y), .int z]) (.int way) = some (.int n) ∧ 0 ≤ n ∧ n ≤ 16 := by
      have hw : way = 0 ∨ way = 1 ∨ way = 2 ∨ way = 3 := by omega
      rcases hw with rfl | rfl | rfl | rfl
      · exact ⟨0, rfl, by omega, by omega⟩
      · exact ⟨1 + x, rfl, by omega, by omega⟩
      · exact ⟨2 + y, rfl, by omega, by omega⟩
      · exact ⟨z, rfl, by omega, by omega⟩
    obtain ⟨n, e6, n0, n1⟩ := ht6
    simp only [ev_bind, ev_pure, ev_op2, ev_op1, ev_opN, ev_opNF, ev_opM, ev_set3, ev_isL, ev_isi, ev_asB, ev_ite, ev_toR, ev_toV, ev_seq, ev_set, ev_asg, ev_ret, ev_ifS, ev_nx, ev_and, ev_or, ev_not, ev_vAnd, ev_vNot, ev_C, ev_var, ev_name, ev_gnil, ev_gcons, ev_gTup, ev_tup, ev_lst, ev_call, ev_forC, ev_lcC, Pm.is_some, Pm.is_none, Pm.is_if, List.set_cons_zero, List.set_cons_succ, List.getElem?_cons_zero, List.getElem?_cons_succ, tCmp, cOp, cUn, tVal, aNil, aCons, cB, fB, cG, cP, fP, fOp, cSl, fSl, poN, poS, ev_slV, ev_slT, ev_slL, cLm, cLm0, cIsi, fSS, iSq, iR1, iR2, iR3, iEn, iZp, gSub, sEx, Pm.addV_int, Pm.sub_int, Pm.mul_int, Pm.gt_int, Pm.eq_int, Pm.ne_int, Pm.lt_int, Pm.le_int, Pm.ge_int, Pm.neg_int, Bool.not_true, Bool.not_false, if_true, if_false, decide_eq_true_eq, Bool.false_eq_true, reduceIte, List.map_cons, List.map_nil, List.length_cons, List.length_nil, List.replicate_succ, List.replicate_zero, List.cons_append, List.nil_append, Nat.reduceAdd, Nat.reduceSub, Nat.reduceLeDiff, Nat.reduceMul, true_and, and_true, List.append_nil, e6]
    refine ev_rng1 (by omega) (by omega) ?_
    refine ev_for0 (fun k ρ S' => (∃ (ts : List T4) (u a b x tie on : Option W), ρ = [some (.ref i), some (.int way), some (.vl (KNOWN.map kw)), some (.int places), some (.vl (ts.map w4)), some (.int n), u, a, b, x, tie, on] ∧ (∀ t ∈ ts, Tie places t) ∧ ts.length ≤ 6 + k) ∧ Pool S' i ∧ S'.length = S.length ∧ ∀ j, j ≠ i → S'[j]? = S[j]?) n.toNat (by omega)
      ⟨⟨ties, _, _, _, _, _, _, rfl, ht, hl⟩, p6, by omega, fun j hj => by rw [o6 j hj, o5 j hj, o4 j hj, o3 j hj]⟩ ?_ ?_
    · rintro k ρ S' hk ⟨⟨ts, u, a, b, x, tie, on, rfl, h1, h2⟩, h3, h4, h5⟩
      refine ⟨_, rngG_lt hk, ?_⟩
      simp only [ev_bind, ev_pure, ev_op2, ev_op1, ev_opN, ev_opNF, ev_opM, ev_set3, ev_isL, ev_isi, ev_asB, ev_ite, ev_toR, ev_toV, ev_seq, ev_set, ev_asg, ev_ret, ev_ifS, ev_nx, ev_and, ev_or, ev_not, ev_vAnd, ev_vNot, ev_C, ev_var, ev_name, ev_gnil, ev_gcons, ev_gTup, ev_tup, ev_lst, ev_call, ev_forC, ev_lcC, Pm.is_some, Pm.is_none, Pm.is_if, List.set_cons_zero, List.set_cons_succ, List.getElem?_cons_zero, List.getElem?_cons_succ, tCmp, cOp, cUn, tVal, aNil, aCons, cB, fB, cG, cP, fP, fOp, cSl, fSl, poN, poS, ev_slV, ev_slT, ev_slL, cLm, cLm0, cIsi, fSS, iSq, iR1, iR2, iR3, iEn, iZp, gSub, sEx, Pm.addV_int, Pm.sub_int, Pm.mul_int, Pm.gt_int, Pm.eq_int, Pm.ne_int, Pm.lt_int, Pm.le_int, Pm.ge_int, Pm.neg_int, Bool.not_true, Bool.not_false, if_true, if_false, decide_eq_true_eq, Bool.false_eq_true, reduceIte, List.map_cons, List.map_nil, List.length_cons, List.length_nil, List.replicate_succ, List.replicate_zero, List.cons_append, List.nil_append, Nat.reduceAdd, Nat.reduceSub, Nat.reduceLeDiff, Nat.reduceMul, true_and, and_true, List.append_nil]
      refine turnG_ev ⟨hp1, hp4⟩ h3 h1 (by omega) fun S'' ts' a b x tie on g1 g2 g3 g4 g5 => ⟨.inl rfl, ⟨ts', _, _, _, _, _, _, rfl, g4, by omega⟩, g1, by omega, fun j hj => by rw [g3 j hj, h5 j hj]⟩
    · rintro ρ S' ⟨⟨ts, u, a, b, x, tie, on, rfl, h1, h2⟩, h3, h4, h5⟩
      refine ⟨rngG_end, ?_⟩
      obtain ⟨ts', s1, s2, s3⟩ := sortSet_w4 S' (ties := ts) (by omega) h1
      have tp : ∀ ws, tupleAO S' [.vl ws] = some (.tup ws) := fun _ => rfl
      simp only [ev_bind, ev_pure, ev_op2, ev_op1, ev_opN, ev_opNF, ev_opM, ev_set3, ev_isL, ev_isi, ev_asB, ev_ite, ev_toR, ev_toV, ev_seq, ev_set, ev_asg, ev_ret, ev_ifS, ev_nx, ev_and, ev_or, ev_not, ev_vAnd, ev_vNot, ev_C, ev_var, ev_name, ev_gnil, ev_gcons, ev_gTup, ev_tup, ev_lst, ev_call, ev_forC, ev_lcC, Pm.is_some, Pm.is_none, Pm.is_if, List.set_cons_zero, List.set_cons_succ, List.getElem?_cons_zero, List.getElem?_cons_succ, tCmp, cOp, cUn, tVal, aNil, aCons, cB, fB, cG, cP, fP, fOp, cSl, fSl, poN, poS, ev_slV, ev_slT, ev_slL, cLm, cLm0, cIsi, fSS, iSq, iR1, iR2, iR3, iEn, iZp, gSub, sEx, Pm.addV_int, Pm.sub_int, Pm.mul_int, Pm.gt_int, Pm.eq_int, Pm.ne_int, Pm.lt_int, Pm.le_int, Pm.ge_int, Pm.neg_int, Bool.not_true, Bool.not_false, if_true, if_false, decide_eq_true_eq, Bool.false_eq_true, reduceIte, List.map_cons, List.map_nil, List.length_cons, List.length_nil, List.replicate_succ, List.replicate_zero, List.cons_append, List.nil_append, Nat.reduceAdd, Nat.reduceSub, Nat.reduceLeDiff, Nat.reduceMul, true_and, and_true, List.append_nil, s1, tp]
      exact q S' places ts' hp1 hp4 s2 s3 h4 h5
  have o2' : ∀ j, j ≠ i → S2[j]? = S[j]? := fun j hj => by rw [o2 j hj, o1 j hj]
  by_cases hw : 1 < way
  · simp only [hw, decide_true, if_true]
    refine take_ev p2 (by decide) (by decide) fun v S3 v1 v2 p3 l3 o3 => ?_
    try simp only [ev_bind, ev_pure, ev_op2, ev_op1, ev_opN, ev_opNF, ev_opM, ev_set3, ev_isL, ev_isi, ev_asB, ev_ite, ev_toR, ev_toV, ev_seq, ev_set, ev_asg, ev_ret, ev_ifS, ev_nx, ev_and, ev_or, ev_not, ev_vAnd, ev_vNot, ev_C, ev_var, ev_name, ev_gnil, ev_gcons, ev_gTup, ev_tup, ev_lst, ev_call, ev_forC, ev_lcC, Pm.is_some, Pm.is_none, Pm.is_if, List.set_cons_zero, List.set_cons_succ, List.getElem?_cons_zero, List.getElem?_cons_succ, tCmp, cOp, cUn, tVal, aNil, aCons, cB, fB, cG, cP, fP, fOp, cSl, fSl, poN, poS, ev_slV, ev_slT, ev_slL, cLm, cLm0, cIsi, fSS, iSq, iR1, iR2, iR3, iEn, iZp, gSub, sEx, Pm.addV_int, Pm.sub_int, Pm.mul_int, Pm.gt_int, Pm.eq_int, Pm.ne_int, Pm.lt_int, Pm.le_int, Pm.ge_int, Pm.neg_int, Bool.not_true, Bool.not_false, if_true, if_false, decide_eq_true_eq, Bool.false_eq_true, reduceIte, List.map_cons, List.map_nil, List.length_cons, List.length_nil, List.replicate_succ, List.replicate_zero, List.cons_append, List.nil_append, Nat.reduceAdd, Nat.reduceSub, Nat.reduceLeDiff, Nat.reduceMul, true_and, and_true, List.append_nil]
    have := rest S3 (1 + v) [] (by omega) (by omega) (fun t h => (by cases h)) (by decide) p3 (by omega) fun j hj => by rw [o3 j hj, o2' j hj]
    simp only [ev_bind, ev_pure, ev_op2, ev_op1, ev_opN, ev_opNF, ev_opM, ev_set3, ev_isL, ev_isi, ev_asB, ev_ite, ev_toR, ev_toV, ev_seq, ev_set, ev_asg, ev_ret, ev_ifS, ev_nx, ev_and, ev_or, ev_not, ev_vAnd, ev_vNot, ev_C, ev_var, ev_name, ev_gnil, ev_gcons, ev_gTup, ev_tup, ev_lst, ev_call, ev_forC, ev_lcC, Pm.is_some, Pm.is_none, Pm.is_if, List.set_cons_zero, List.set_cons_succ, List.getElem?_cons_zero, List.getElem?_cons_succ, tCmp, cOp, cUn, tVal, aNil, aCons, cB, fB, cG, cP, fP, fOp, cSl, fSl, poN, poS, ev_slV, ev_slT, ev_slL, cLm, cLm0, cIsi, fSS, iSq, iR1, iR2, iR3, iEn, iZp, gSub, sEx, Pm.addV_int, Pm.sub_int, Pm.mul_int, Pm.gt_int, Pm.eq_int, Pm.ne_int, Pm.lt_int, Pm.le_int, Pm.ge_int, Pm.neg_int, Bool.not_true, Bool.not_false, if_true, if_false, decide_eq_true_eq, Bool.false_eq_true, reduceIte, List.map_cons, List.map_nil, List.length_cons, List.length_nil, List.replicate_succ, List.replicate_zero, List.cons_append, List.nil_append, Nat.reduceAdd, Nat.reduceSub, Nat.reduceLeDiff, Nat.reduceMul, true_and, and_true, List.append_nil] at this
    exact this
  · simp only [hw, decide_false, Bool.false_eq_true, if_false]
    have := rest S2 e.1 e.2 k1 k2 k4 k3 p2 (by omega) o2'
    simp only [ev_bind, ev_pure, ev_op2, ev_op1, ev_opN, ev_opNF, ev_opM, ev_set3, ev_isL, ev_isi, ev_asB, ev_ite, ev_toR, ev_toV, ev_seq, ev_set, ev_asg, ev_ret, ev_ifS, ev_nx, ev_and, ev_or, ev_not, ev_vAnd, ev_vNot, ev_C, ev_var, ev_name, ev_gnil, ev_gcons, ev_gTup, ev_tup, ev_lst, ev_call, ev_forC, ev_lcC, Pm.is_some, Pm.is_none, Pm.is_if, List.set_cons_zero, List.set_cons_succ, List.getElem?_cons_zero, List.getElem?_cons_succ, tCmp, cOp, cUn, tVal, aNil, aCons, cB, fB, cG, cP, fP, fOp, cSl, fSl, poN, poS, ev_slV, ev_slT, ev_slL, cLm, cLm0, cIsi, fSS, iSq, iR1, iR2, iR3, iEn, iZp, gSub, sEx, Pm.addV_int, Pm.sub_int, Pm.mul_int, Pm.gt_int, Pm.eq_int, Pm.ne_int, Pm.lt_int, Pm.le_int, Pm.ge_int, Pm.neg_int, Bool.not_true, Bool.not_false, if_true, if_false, decide_eq_true_eq, Bool.false_eq_true, reduceIte, List.map_cons, List.map_nil, List.length_cons, List.length_nil, List.replicate_succ, List.replicate_zero, List.cons_append, List.nil_append, Nat.reduceAdd, Nat.reduceSub, Nat.reduceLeDiff, Nat.reduceMul, true_and, and_true, List.append_nil] at this
    exact this
end K73

namespace K73
open PySem Pm
def iW (l : List Int) : List W := List.map (fun i : Int => W.int i) l
theorem iW_cut (l : List Int) (lo hi : Option Int) : ∃ l', cutW (iW l) lo hi = iW l' ∧ l' = (l.drop (HT.sIx l.length 0 lo)).take (HT.sIx l.length l.length hi - HT.sIx l.length 0 lo) := by
  refine ⟨_, ?_, rfl⟩
  unfold cutW iW
  rw [List.length_map, List.map_take, List.map_drop]
theorem sIx_pos {n d : Nat} {v : Int} (h : 0 ≤ v) : HT.sIx n d (some v) = min v.toNat n := by
  show (if v < 0 then (v + (n : Int)).toNat else min v.toNat n) = _
  rw [if_neg (by omega)]
theorem sIx_no {n d : Nat} : HT.sIx n d none = d := rfl
theorem ev_rng2 {i j : Int} {S : Sto} {Q : Gen → Sto → Prop} (h0 : -1000000 ≤ i) (h1 : i < 1000000) (h2 : -1000000 ≤ j) (h3 : j < 1000000) (q : Q (rngG i 1 (j - i).toNat) S) : Ev (rng2I [.int i, .int j]) S Q := by
  unfold rng2I
  simp only
  rw [if_pos (by unfold LIM; omega)]
  exact ev_pure.mpr q
theorem cells_ev {ns : List Int} (hl : ns.length ≤ 63) : Ev (m__law_cells [.vl (iW ns), .int 6]) [] fun w S' => ∃ cs : List Int, w = .ref 0 ∧ S' = [.lst (iW cs)] ∧ cs.length ≤ 6 := by
  unfold m__law_cells b__law_cells
  rw [ev_fn]
  obtain ⟨l1, c1, d1⟩ := iW_cut ns none (some 6)
  have hlst : ∀ S : Sto, listO S [.vl (iW l1)] = some (.lst (iW l1)) := fun _ => rfl
  have hl1 : l1.length ≤ 63 := by
    rw [d1, List.length_take, List.length_drop]
    omega
  have hadd : ∀ S : Sto, addVO S (.vl (iW l1)) (.vl [.int 7]) = some (.vl (iW (l1 ++ [7]))) := fun S => by
    show (if (iW l1).length + 1 ≤ 16777216 then some (W.vl (iW l1 ++ [.int 7])) else none) = _
    rw [if_pos (by unfold iW; rw [List.length_map]; omega)]
    unfold iW
    rw [List.map_append]
    rfl
  have hlen : ∀ S : Sto, lenAO S [.vl (iW ns)] = some (.int ns.length) := fun S => by
    show some (W.int ((iW ns).length : Nat)) = _
    unfold iW
    rw [List.length_map]
  have hmin : ∀ (S : Sto) (a b : Int), min2O S [.int a, .int b] = some (.int (if b < a then b else a)) := fun _ _ _ => rfl
  have hmax : ∀ (S : Sto) (a b : Int), max2O S [.int a, .int b] = some (.int (if b > a then b else a)) := fun _ _ _ => rfl
  obtain ⟨mn, hmn⟩ : ∃ mn, (if (ns.length : Int) < 6 then (ns.length : Int) else 6) = mn := ⟨_, rfl⟩
  obtain ⟨mx, hmx⟩ : ∃ mx, (if mn > 1 then mn else 1) = mx := ⟨_, rfl⟩
  have hmx1 : 1 ≤ mx := by rw [← hmx]; split <;> omega
  have hmx6 : mx ≤ 6 := by rw [← hmx, ← hmn]; split <;> (try split) <;> omega
  obtain ⟨l2, c2, d2⟩ := iW_cut (l1 ++ [7]) none (some mx)
  have hl2 : l2.length ≤ 6 := by
    rw [d2, List.length_take, sIx_pos (by omega), sIx_no]
    omega
  have hl26 : 6 ≤ ns.length → l2.length = 6 := fun h6 => by
    have e6 : mx = 6 := by
      rw [← hmx, ← hmn]
      split <;> (try split) <;> omega
    have e1 : l1.length = 6 := by
      rw [d1, List.length_take, List.length_drop, sIx_pos (by decide), sIx_no]
      have : (6 : Int).toNat = 6 := rfl
      omega
    rw [d2, List.length_take, List.length_drop, List.length_append, List.length_singleton, e1, sIx_pos (by omega), sIx_no, e6]
    rfl
  simp only [ev_bind, ev_pure, ev_op2, ev_op1, ev_opN, ev_opNF, ev_opM, ev_set3, ev_isL, ev_isi, ev_asB, ev_ite, ev_toR, ev_toV, ev_seq, ev_set, ev_asg, ev_ret, ev_ifS, ev_nx, ev_and, ev_or, ev_not, ev_vAnd, ev_vNot, ev_C, ev_var, ev_name, ev_gnil, ev_gcons, ev_gTup, ev_tup, ev_lst, ev_call, ev_forC, ev_lcC, Pm.is_some, Pm.is_none, Pm.is_if, List.set_cons_zero, List.set_cons_succ, List.getElem?_cons_zero, List.getElem?_cons_succ, tCmp, cOp, cUn, tVal, aNil, aCons, cB, fB, cG, cP, fP, fOp, cSl, fSl, poN, poS, ev_slV, ev_slT, ev_slL, cLm, cLm0, cIsi, fSS, iSq, iR1, iR2, iR3, iEn, iZp, gSub, sEx, Pm.addV_int, Pm.sub_int, Pm.mul_int, Pm.gt_int, Pm.eq_int, Pm.ne_int, Pm.lt_int, Pm.le_int, Pm.ge_int, Pm.neg_int, Bool.not_true, Bool.not_false, if_true, if_false, decide_eq_true_eq, Bool.false_eq_true, reduceIte, List.map_cons, List.map_nil, List.length_cons, List.length_nil, List.replicate_succ, List.replicate_zero, List.cons_append, List.nil_append, Nat.reduceAdd, Nat.reduceSub, Nat.reduceLeDiff, Nat.reduceMul, true_and, and_true, List.append_nil, c1, hlst, hadd, hlen, hmin, hmn, hmax, hmx, c2]
  refine ev_rng2 (by decide) (by decide) (by omega) (by omega) ?_
  refine ev_for0 (fun i ρ S => (∃ k, ρ = [some (.vl (iW ns)), some (.int 6), some (.ref 0), k]) ∧ ∃ cs : List Int, S = [.lst (iW cs)] ∧ cs.length = l2.length) ((ns.length : Int) - 6).toNat (by omega) ⟨⟨_, rfl⟩, l2, rfl, rfl⟩ ?_ ?_
  · rintro i ρ S hi ⟨⟨k, rfl⟩, cs, rfl, hcs⟩
    have h6 : 6 ≤ ns.length := by omega
    rw [hl26 h6] at hcs
    refine ⟨_, rngG_lt hi, ?_⟩
    generalize hj : (6 + (i : Int)) = j
    have j1 := fmod_lo (a := j) (b := 6) (by decide)
    have j2 := fmod_hi (a := j) (b := 6) (by decide)
    generalize hq : j.fmod 6 = q at j1 j2
    have hx : cs[q.toNat]? = some cs[q.toNat] := List.getElem?_eq_getElem (by omega)
    have hy : ns[j.toNat]? = some ns[j.toNat] := List.getElem?_eq_getElem (by omega)
    have ix1 : ixAO [.lst (iW cs)] (.ref 0) (.int q) = some (.int cs[q.toNat]) := by
      rw [ix_ref (ws := iW cs) rfl]
      refine atI_nat j1 ?_ (by unfold iW; rw [List.length_map]; omega)
      unfold iW
      rw [List.getElem?_map, hx]
      rfl
    have ix2 : ∀ S : Sto, ixAO S (.vl (iW ns)) (.int j) = some (.int ns[j.toNat]) := fun S => by
      show L2.atI (iW ns) j = _
      refine atI_nat (by omega) ?_ (by unfold iW; rw [List.length_map]; omega)
      unfold iW
      rw [List.getElem?_map, hy]
      rfl
    have st : ∀ v : Int, setAO [.lst (iW cs)] (.ref 0) (.int q) (.int v) = some [.lst (iW (cs.set q.toNat v))] := fun v => by
      rw [set_ref (ws := iW cs) rfl]
      have e : L2.ixN (iW cs).length q = some q.toNat := by
        unfold L2.ixN iW
        rw [if_pos j1, if_pos (by rw [List.length_map]; omega)]
      simp only [e]
      unfold iW
      rw [List.map_set]
      rfl
    simp only [ev_bind, ev_pure, ev_op2, ev_op1, ev_opN, ev_opNF, ev_opM, ev_set3, ev_isL, ev_isi, ev_asB, ev_ite, ev_toR, ev_toV, ev_seq, ev_set, ev_asg, ev_ret, ev_ifS, ev_nx, ev_and, ev_or, ev_not, ev_vAnd, ev_vNot, ev_C, ev_var, ev_name, ev_gnil, ev_gcons, ev_gTup, ev_tup, ev_lst, ev_call, ev_forC, ev_lcC, Pm.is_some, Pm.is_none, Pm.is_if, List.set_cons_zero, List.set_cons_succ, List.getElem?_cons_zero, List.getElem?_cons_succ, tCmp, cOp, cUn, tVal, aNil, aCons, cB, fB, cG, cP, fP, fOp, cSl, fSl, poN, poS, ev_slV, ev_slT, ev_slL, cLm, cLm0, cIsi, fSS, iSq, iR1, iR2, iR3, iEn, iZp, gSub, sEx, Pm.addV_int, Pm.sub_int, Pm.mul_int, Pm.gt_int, Pm.eq_int, Pm.ne_int, Pm.lt_int, Pm.le_int, Pm.ge_int, Pm.neg_int, Bool.not_true, Bool.not_false, if_true, if_false, decide_eq_true_eq, Bool.false_eq_true, reduceIte, List.map_cons, List.map_nil, List.length_cons, List.length_nil, List.replicate_succ, List.replicate_zero, List.cons_append, List.nil_append, Nat.reduceAdd, Nat.reduceSub, Nat.reduceLeDiff, Nat.reduceMul, true_and, and_true, List.append_nil, mod_int (b := 6) (by decide), hq, ix1, ix2, mulOk_r (b := 31) (by decide), st]
    exact ⟨.inl trivial, ⟨_, rfl⟩, _, rfl, by rw [List.length_set, hcs, hl26 h6]⟩
  · rintro ρ S ⟨⟨k, rfl⟩, cs, rfl, hcs⟩
    refine ⟨rngG_end, ?_⟩
    simp only [ev_bind, ev_pure, ev_op2, ev_op1, ev_opN, ev_opNF, ev_opM, ev_set3, ev_isL, ev_isi, ev_asB, ev_ite, ev_toR, ev_toV, ev_seq, ev_set, ev_asg, ev_ret, ev_ifS, ev_nx, ev_and, ev_or, ev_not, ev_vAnd, ev_vNot, ev_C, ev_var, ev_name, ev_gnil, ev_gcons, ev_gTup, ev_tup, ev_lst, ev_call, ev_forC, ev_lcC, Pm.is_some, Pm.is_none, Pm.is_if, List.set_cons_zero, List.set_cons_succ, List.getElem?_cons_zero, List.getElem?_cons_succ, tCmp, cOp, cUn, tVal, aNil, aCons, cB, fB, cG, cP, fP, fOp, cSl, fSl, poN, poS, ev_slV, ev_slT, ev_slL, cLm, cLm0, cIsi, fSS, iSq, iR1, iR2, iR3, iEn, iZp, gSub, sEx, Pm.addV_int, Pm.sub_int, Pm.mul_int, Pm.gt_int, Pm.eq_int, Pm.ne_int, Pm.lt_int, Pm.le_int, Pm.ge_int, Pm.neg_int, Bool.not_true, Bool.not_false, if_true, if_false, decide_eq_true_eq, Bool.false_eq_true, reduceIte, List.map_cons, List.map_nil, List.length_cons, List.length_nil, List.replicate_succ, List.replicate_zero, List.cons_append, List.nil_append, Nat.reduceAdd, Nat.reduceSub, Nat.reduceLeDiff, Nat.reduceMul, true_and, and_true, List.append_nil]
    exact ⟨cs, rfl, by omega⟩
theorem whole_ev {c : Int} : Ev (m__law_whole [.int c]) [] fun w S' => w = .bl true := by
  unfold m__law_whole b__law_whole
  rw [ev_fn]
  simp only [ev_bind, ev_pure, ev_op2, ev_op1, ev_opN, ev_opNF, ev_opM, ev_set3, ev_isL, ev_isi, ev_asB, ev_ite, ev_toR, ev_toV, ev_seq, ev_set, ev_asg, ev_ret, ev_ifS, ev_nx, ev_and, ev_or, ev_not, ev_vAnd, ev_vNot, ev_C, ev_var, ev_name, ev_gnil, ev_gcons, ev_gTup, ev_tup, ev_lst, ev_call, ev_forC, ev_lcC, Pm.is_some, Pm.is_none, Pm.is_if, List.set_cons_zero, List.set_cons_succ, List.getElem?_cons_zero, List.getElem?_cons_succ, tCmp, cOp, cUn, tVal, aNil, aCons, cB, fB, cG, cP, fP, fOp, cSl, fSl, poN, poS, ev_slV, ev_slT, ev_slL, cLm, cLm0, cIsi, fSS, iSq, iR1, iR2, iR3, iEn, iZp, gSub, sEx, Pm.addV_int, Pm.sub_int, Pm.mul_int, Pm.gt_int, Pm.eq_int, Pm.ne_int, Pm.lt_int, Pm.le_int, Pm.ge_int, Pm.neg_int, Bool.not_true, Bool.not_false, if_true, if_false, decide_eq_true_eq, Bool.false_eq_true, reduceIte, List.map_cons, List.map_nil, List.length_cons, List.length_nil, List.replicate_succ, List.replicate_zero, List.cons_append, List.nil_append, Nat.reduceAdd, Nat.reduceSub, Nat.reduceLeDiff, Nat.reduceMul, true_and, and_true, List.append_nil, tyW]
  rfl
theorem shells_len (ties : List T4) (m n : Int) : ∀ (f : Nat) (met ring : List T3), (shells ties m n f met ring).length ≤ f
  | 0, _, _ => Nat.le_refl _
  | f + 1, met, ring => by
    rw [shells_succ]
    split
    · exact Nat.zero_le _
    · rw [List.length_cons]
      have := shells_len ties m n f (ringTurn ties m n met ring).1 (ringTurn ties m n met ring).2
      omega
theorem all_cnt {T : List Nat} : ∀ w ∈ cntW T, pureW 19 w = true := fun w hw => by
  obtain ⟨c, _, rfl⟩ := List.mem_map.mp hw
  rfl
theorem imp_cnt {S : Sto} {T : List Nat} (h : S[1]? = some (.lst (cntW T))) : impO S (.ref 1) = some (.lst (cntW T)) := by
  unfold impO
  simp only [h]
  have e : ∀ x ∈ cntW T, frz (List.set S 1 O.gone) DEP x = some x := fun x hx => by
    obtain ⟨c, _, rfl⟩ := List.mem_map.mp hx
    rfl
  rw [mapO_id e]
  rfl
theorem eqv_self : ∀ T : List Nat, PyData.eqvAll (T.map fun c : Nat => PyData.int (c : Int)) (T.map fun c : Nat => PyData.int (c : Int)) = true
  | [] => rfl
  | c :: T => by
    rw [List.map_cons, PyData.eqvAll, eqv_self T]
    simp [PyData.eqv]
theorem dat_cnt (S : Sto) (n : Nat) (T : List Nat) : mapO (dat S (n + 1)) (cntW T) = some (T.map fun c : Nat => PyData.int (c : Int)) := by
  induction T with
  | nil => rfl
  | cons c T ih =>
    show mapO (dat S (n + 1)) (W.int (c : Int) :: cntW T) = _
    unfold mapO
    rw [ih]
    rfl
theorem ne_cnt {S : Sto} {k : Nat} {T : List Nat} (h : S[k]? = some (.lst (cntW T))) : neO S (.ref k) (.vl (cntW T)) = some (.bl false) := by
  have e1 : datF S (.ref k) = some (.list (T.map fun c : Nat => PyData.int (c : Int))) := by
    show dat S (19 + 1) (.ref k) = _
    unfold dat
    simp only [h]
    rw [dat_cnt S 18 T]
    rfl
  have e2 : datF S (.vl (cntW T)) = some (.list (T.map fun c : Nat => PyData.int (c : Int))) := by
    show dat S (19 + 1) (.vl (cntW T)) = _
    unfold dat
    simp only
    rw [dat_cnt S 18 T]
    rfl
  unfold neO
  rw [e1, e2]
  simp only [PyData.eqv, eqv_self, Bool.not_true]
theorem all_true {S : Sto} (n : Nat) : allO S [.vl (List.replicate n (.bl true))] = some (.bl true) := by
  show (match some (List.replicate n (W.bl true)) with
    | some ws => (blsO ws).map fun ns : List Bool => W.bl (ns.all id)
    | none => none) = _
  have : blsO (List.replicate n (W.bl true)) = some (List.replicate n true) := by
    induction n with
    | zero => rfl
    | succ n ih =>
      rw [List.replicate_succ, List.replicate_succ]
      unfold blsO at ih ⊢
      unfold mapO
      rw [ih]
  simp only [this]
  simp
theorem seq_ref {S : Sto} {k : Nat} {ws : List W} {Q : Gen → Sto → Prop} (h : S[k]? = some (.lst ws)) (q : ∀ gen : Gen, (∀ i, gen i S = some ws[i]?) → Q gen S) : Ev (seqI (.ref k)) S Q := by
  refine ⟨(fun i S => match S[k]? with
      | some (.lst ws) => some ws[i]?
      | _ => none), S, by unfold seqI; simp only [h] <;> rfl, q _ fun i => ?_⟩
  simp only [h]
def body4 : Cm := (seqC (setC 11 (toR (fP 4 m_wrapped_shells (aCons (cVar 7) (aCons (cVar 8) (aCons (cVar 5) (aCons (cVar 6) (aNil)))))))) (seqC (cIfS (cOr (cNot (tVal (cIsi .lst (cVar 11)))) (cOr (tCmp neO (cVar 11) (cVar 9)) (cNot (tVal (cB allO (aCons (toV (lcC (iSq (cVar 11)) (gmName 12) (cYes) (cP 1 m__law_whole (aCons (cVar 12) (aNil))) [12])) (aNil))))))) (cRet (cC (.bl false))) (cNx)) (sEx (cLm appO (cVar 11) (aCons (cC (.int 0)) (aNil))))))
theorem grid_args {places : Int} {ties : List T4} {a b c : Int} : ([gridW places ties, .int a, .int b, .int c] : List W).all (rfree DEP) = true := free_args fun w hw => by
  rcases List.mem_cons.mp hw with rfl | hw
  · exact pure_grid 16 places ties
  · rcases List.mem_cons.mp hw with rfl | hw
    · rfl
    · rcases List.mem_cons.mp hw with rfl | hw
      · rfl
      · rw [List.mem_singleton.mp hw]; rfl
theorem body4_ev {places : Int} {ties : List T4} {start m n : Int} {S : Sto} {x0 x1 x2 x3 x4 x10 x11 x12 : Option W} {Q : Fl × Rho → Sto → Prop} (hl : ties.length < 400) (ht : ∀ t ∈ ties, Tie places t) (hp : places ≤ 4) (hs : 0 ≤ start ∧ start < places) (hm : 0 < m) (hm2 : m ≤ 12) (hn : 0 < n) (hn2 : n ≤ 12)
    (q : ∀ S' x11 x12, Q (.nx, [x0, x1, x2, x3, x4, some (.int m), some (.int n), some (gridW places ties), some (.int start), some (.vl (cntW (shells ties m n 2000 [(start, 0, 0)] [(start, 0, 0)]))), x10, x11, x12]) S') :
    Ev (body4 [x0, x1, x2, x3, x4, some (.int m), some (.int n), some (gridW places ties), some (.int start), some (.vl (cntW (shells ties m n 2000 [(start, 0, 0)] [(start, 0, 0)]))), x10, x11, x12]) S Q := by
  unfold body4
  simp only [ev_bind, ev_pure, ev_op2, ev_op1, ev_opN, ev_opNF, ev_opM, ev_set3, ev_isL, ev_isi, ev_asB, ev_ite, ev_toR, ev_toV, ev_seq, ev_set, ev_asg, ev_ret, ev_ifS, ev_nx, ev_and, ev_or, ev_not, ev_vAnd, ev_vNot, ev_C, ev_var, ev_name, ev_gnil, ev_gcons, ev_gTup, ev_tup, ev_lst, ev_call, ev_forC, ev_lcC, Pm.is_some, Pm.is_none, Pm.is_if, List.set_cons_zero, List.set_cons_succ, List.getElem?_cons_zero, List.getElem?_cons_succ, tCmp, cOp, cUn, tVal, aNil, aCons, cB, fB, cG, cP, fP, fOp, cSl, fSl, poN, poS, ev_slV, ev_slT, ev_slL, cLm, cLm0, cIsi, fSS, iSq, iR1, iR2, iR3, iEn, iZp, gSub, sEx, Pm.addV_int, Pm.sub_int, Pm.mul_int, Pm.gt_int, Pm.eq_int, Pm.ne_int, Pm.lt_int, Pm.le_int, Pm.ge_int, Pm.neg_int, Bool.not_true, Bool.not_false, if_true, if_false, decide_eq_true_eq, Bool.false_eq_true, reduceIte, List.map_cons, List.map_nil, List.length_cons, List.length_nil, List.replicate_succ, List.replicate_zero, List.cons_append, List.nil_append, Nat.reduceAdd, Nat.reduceSub, Nat.reduceLeDiff, Nat.reduceMul, true_and, and_true, List.append_nil]
  refine ev_pcallF rfl grid_args ?_
  refine (wrapped_ev hl ht hp hs hm hm2 hn hn2).mono ?_
  rintro w S' ⟨rfl, h1⟩
  rw [imp_cnt h1]
  have hlen := shells_len ties m n 2000 [(start, 0, 0)] [(start, 0, 0)]
  generalize shells ties m n 2000 [(start, 0, 0)] [(start, 0, 0)] = T at *
  have hg : (S ++ [.lst (cntW T)])[S.length]? = some (.lst (cntW T)) := by
    rw [List.getElem?_append_right (Nat.le_refl _), Nat.sub_self]
    rfl
  have hty : tyW (S ++ [.lst (cntW T)]) (.ref S.length) = some .lst := by
    unfold tyW
    simp only [hg]
  have hi : isiT .lst .lst = true := rfl
  simp only [ev_bind, ev_pure, ev_op2, ev_op1, ev_opN, ev_opNF, ev_opM, ev_set3, ev_isL, ev_isi, ev_asB, ev_ite, ev_toR, ev_toV, ev_seq, ev_set, ev_asg, ev_ret, ev_ifS, ev_nx, ev_and, ev_or, ev_not, ev_vAnd, ev_vNot, ev_C, ev_var, ev_name, ev_gnil, ev_gcons, ev_gTup, ev_tup, ev_lst, ev_call, ev_forC, ev_lcC, Pm.is_some, Pm.is_none, Pm.is_if, List.set_cons_zero, List.set_cons_succ, List.getElem?_cons_zero, List.getElem?_cons_succ, tCmp, cOp, cUn, tVal, aNil, aCons, cB, fB, cG, cP, fP, fOp, cSl, fSl, poN, poS, ev_slV, ev_slT, ev_slL, cLm, cLm0, cIsi, fSS, iSq, iR1, iR2, iR3, iEn, iZp, gSub, sEx, Pm.addV_int, Pm.sub_int, Pm.mul_int, Pm.gt_int, Pm.eq_int, Pm.ne_int, Pm.lt_int, Pm.le_int, Pm.ge_int, Pm.neg_int, Bool.not_true, Bool.not_false, if_true, if_false, decide_eq_true_eq, Bool.false_eq_true, reduceIte, List.map_cons, List.map_nil, List.length_cons, List.length_nil, List.replicate_succ, List.replicate_zero, List.cons_append, List.nil_append, Nat.reduceAdd, Nat.reduceSub, Nat.reduceLeDiff, Nat.reduceMul, true_and, and_true, List.append_nil, hty, hi, ne_cnt hg, lst_ref hg, app_ref hg (show (cntW T).length < 16777216 by unfold cntW; rw [List.length_map]; omega)]
  refine seq_ref hg fun gen hgen => ?_
  refine ev_lc0 (fun i acc S' => acc = List.replicate i (.bl true) ∧ S' = S ++ [.lst (cntW T)]) T.length (by omega) ⟨rfl, rfl⟩ ?_ ?_
  · rintro i acc S' hi _ ⟨rfl, rfl⟩
    have hx : T[i]? = some T[i] := List.getElem?_eq_getElem hi
    refine ⟨.int (T[i] : Int), by rw [hgen]; unfold cntW; rw [List.getElem?_map, hx]; rfl, ?_⟩
    simp only [ev_bind, ev_pure, ev_op2, ev_op1, ev_opN, ev_opNF, ev_opM, ev_set3, ev_isL, ev_isi, ev_asB, ev_ite, ev_toR, ev_toV, ev_seq, ev_set, ev_asg, ev_ret, ev_ifS, ev_nx, ev_and, ev_or, ev_not, ev_vAnd, ev_vNot, ev_C, ev_var, ev_name, ev_gnil, ev_gcons, ev_gTup, ev_tup, ev_lst, ev_call, ev_forC, ev_lcC, Pm.is_some, Pm.is_none, Pm.is_if, List.set_cons_zero, List.set_cons_succ, List.getElem?_cons_zero, List.getElem?_cons_succ, tCmp, cOp, cUn, tVal, aNil, aCons, cB, fB, cG, cP, fP, fOp, cSl, fSl, poN, poS, ev_slV, ev_slT, ev_slL, cLm, cLm0, cIsi, fSS, iSq, iR1, iR2, iR3, iEn, iZp, gSub, sEx, Pm.addV_int, Pm.sub_int, Pm.mul_int, Pm.gt_int, Pm.eq_int, Pm.ne_int, Pm.lt_int, Pm.le_int, Pm.ge_int, Pm.neg_int, Bool.not_true, Bool.not_false, if_true, if_false, decide_eq_true_eq, Bool.false_eq_true, reduceIte, List.map_cons, List.map_nil, List.length_cons, List.length_nil, List.replicate_succ, List.replicate_zero, List.cons_append, List.nil_append, Nat.reduceAdd, Nat.reduceSub, Nat.reduceLeDiff, Nat.reduceMul, true_and, and_true, List.append_nil, wipeR, cYes]
    refine ev_pcall rfl rfl ?_
    refine whole_ev.mono ?_
    rintro w S' rfl
    rw [show frz S' DEP (.bl true) = some (.bl true) from rfl]
    simp only [ev_bind, ev_pure, ev_op2, ev_op1, ev_opN, ev_opNF, ev_opM, ev_set3, ev_isL, ev_isi, ev_asB, ev_ite, ev_toR, ev_toV, ev_seq, ev_set, ev_asg, ev_ret, ev_ifS, ev_nx, ev_and, ev_or, ev_not, ev_vAnd, ev_vNot, ev_C, ev_var, ev_name, ev_gnil, ev_gcons, ev_gTup, ev_tup, ev_lst, ev_call, ev_forC, ev_lcC, Pm.is_some, Pm.is_none, Pm.is_if, List.set_cons_zero, List.set_cons_succ, List.getElem?_cons_zero, List.getElem?_cons_succ, tCmp, cOp, cUn, tVal, aNil, aCons, cB, fB, cG, cP, fP, fOp, cSl, fSl, poN, poS, ev_slV, ev_slT, ev_slL, cLm, cLm0, cIsi, fSS, iSq, iR1, iR2, iR3, iEn, iZp, gSub, sEx, Pm.addV_int, Pm.sub_int, Pm.mul_int, Pm.gt_int, Pm.eq_int, Pm.ne_int, Pm.lt_int, Pm.le_int, Pm.ge_int, Pm.neg_int, Bool.not_true, Bool.not_false, if_true, if_false, decide_eq_true_eq, Bool.false_eq_true, reduceIte, List.map_cons, List.map_nil, List.length_cons, List.length_nil, List.replicate_succ, List.replicate_zero, List.cons_append, List.nil_append, Nat.reduceAdd, Nat.reduceSub, Nat.reduceLeDiff, Nat.reduceMul, true_and, and_true, List.append_nil]
    rw [← List.replicate_succ, List.replicate_succ']
  · rintro acc S' ⟨rfl, rfl⟩
    refine ⟨by rw [hgen]; unfold cntW; simp, ?_⟩
    simp only [ev_bind, ev_pure, ev_op2, ev_op1, ev_opN, ev_opNF, ev_opM, ev_set3, ev_isL, ev_isi, ev_asB, ev_ite, ev_toR, ev_toV, ev_seq, ev_set, ev_asg, ev_ret, ev_ifS, ev_nx, ev_and, ev_or, ev_not, ev_vAnd, ev_vNot, ev_C, ev_var, ev_name, ev_gnil, ev_gcons, ev_gTup, ev_tup, ev_lst, ev_call, ev_forC, ev_lcC, Pm.is_some, Pm.is_none, Pm.is_if, List.set_cons_zero, List.set_cons_succ, List.getElem?_cons_zero, List.getElem?_cons_succ, tCmp, cOp, cUn, tVal, aNil, aCons, cB, fB, cG, cP, fP, fOp, cSl, fSl, poN, poS, ev_slV, ev_slT, ev_slL, cLm, cLm0, cIsi, fSS, iSq, iR1, iR2, iR3, iEn, iZp, gSub, sEx, Pm.addV_int, Pm.sub_int, Pm.mul_int, Pm.gt_int, Pm.eq_int, Pm.ne_int, Pm.lt_int, Pm.le_int, Pm.ge_int, Pm.neg_int, Bool.not_true, Bool.not_false, if_true, if_false, decide_eq_true_eq, Bool.false_eq_true, reduceIte, List.map_cons, List.map_nil, List.length_cons, List.length_nil, List.replicate_succ, List.replicate_zero, List.cons_append, List.nil_append, Nat.reduceAdd, Nat.reduceSub, Nat.reduceLeDiff, Nat.reduceMul, true_and, and_true, List.append_nil, all_true, lst_ref hg, app_ref hg (show (cntW T).length < 16777216 by unfold cntW; rw [List.length_map]; omega)]
    exact ⟨rfl, q _ _ _⟩
def body3 : Cm := seqC (setC 9 (cP 4 m__law_shells (aCons (cVar 7) (aCons (cVar 8) (aCons (cVar 5) (aCons (cVar 6) (aNil))))))) (forC (iR1 (aCons (cC (.int 2)) (aNil))) (gmName 10) body4)
theorem body3_ev {places : Int} {ties : List T4} {start m n : Int} {S : Sto} {x0 x1 x2 x3 x4 x9 x10 x11 x12 : Option W} {Q : Fl × Rho → Sto → Prop} (hl : ties.length < 400) (ht : ∀ t ∈ ties, Tie places t) (hp : places ≤ 4) (hs : 0 ≤ start ∧ start < places) (hm : 0 < m) (hm2 : m ≤ 12) (hn : 0 < n) (hn2 : n ≤ 12)
    (q : ∀ S' x9 x10 x11 x12, Q (.nx, [x0, x1, x2, x3, x4, some (.int m), some (.int n), some (gridW places ties), some (.int start), x9, x10, x11, x12]) S') :
    Ev (body3 [x0, x1, x2, x3, x4, some (.int m), some (.int n), some (gridW places ties), some (.int start), x9, x10, x11, x12]) S Q := by
  unfold body3
  simp only [ev_bind, ev_pure, ev_op2, ev_op1, ev_opN, ev_opNF, ev_opM, ev_set3, ev_isL, ev_isi, ev_asB, ev_ite, ev_toR, ev_toV, ev_seq, ev_set, ev_asg, ev_ret, ev_ifS, ev_nx, ev_and, ev_or, ev_not, ev_vAnd, ev_vNot, ev_C, ev_var, ev_name, ev_gnil, ev_gcons, ev_gTup, ev_tup, ev_lst, ev_call, ev_forC, ev_lcC, Pm.is_some, Pm.is_none, Pm.is_if, List.set_cons_zero, List.set_cons_succ, List.getElem?_cons_zero, List.getElem?_cons_succ, tCmp, cOp, cUn, tVal, aNil, aCons, cB, fB, cG, cP, fP, fOp, cSl, fSl, poN, poS, ev_slV, ev_slT, ev_slL, cLm, cLm0, cIsi, fSS, iSq, iR1, iR2, iR3, iEn, iZp, gSub, sEx, Pm.addV_int, Pm.sub_int, Pm.mul_int, Pm.gt_int, Pm.eq_int, Pm.ne_int, Pm.lt_int, Pm.le_int, Pm.ge_int, Pm.neg_int, Bool.not_true, Bool.not_false, if_true, if_false, decide_eq_true_eq, Bool.false_eq_true, reduceIte, List.map_cons, List.map_nil, List.length_cons, List.length_nil, List.replicate_succ, List.replicate_zero, List.cons_append, List.nil_append, Nat.reduceAdd, Nat.reduceSub, Nat.reduceLeDiff, Nat.reduceMul, true_and, and_true, List.append_nil]
  refine ev_pcall rfl grid_args ?_
  refine (law_shells_ev hl ht hp hs hm hm2 hn hn2).mono ?_
  rintro w S' ⟨rfl, h1⟩
  rw [frz_ref h1 all_cnt]
  simp only [ev_bind, ev_pure, ev_op2, ev_op1, ev_opN, ev_opNF, ev_opM, ev_set3, ev_isL, ev_isi, ev_asB, ev_ite, ev_toR, ev_toV, ev_seq, ev_set, ev_asg, ev_ret, ev_ifS, ev_nx, ev_and, ev_or, ev_not, ev_vAnd, ev_vNot, ev_C, ev_var, ev_name, ev_gnil, ev_gcons, ev_gTup, ev_tup, ev_lst, ev_call, ev_forC, ev_lcC, Pm.is_some, Pm.is_none, Pm.is_if, List.set_cons_zero, List.set_cons_succ, List.getElem?_cons_zero, List.getElem?_cons_succ, tCmp, cOp, cUn, tVal, aNil, aCons, cB, fB, cG, cP, fP, fOp, cSl, fSl, poN, poS, ev_slV, ev_slT, ev_slL, cLm, cLm0, cIsi, fSS, iSq, iR1, iR2, iR3, iEn, iZp, gSub, sEx, Pm.addV_int, Pm.sub_int, Pm.mul_int, Pm.gt_int, Pm.eq_int, Pm.ne_int, Pm.lt_int, Pm.le_int, Pm.ge_int, Pm.neg_int, Bool.not_true, Bool.not_false, if_true, if_false, decide_eq_true_eq, Bool.false_eq_true, reduceIte, List.map_cons, List.map_nil, List.length_cons, List.length_nil, List.replicate_succ, List.replicate_zero, List.cons_append, List.nil_append, Nat.reduceAdd, Nat.reduceSub, Nat.reduceLeDiff, Nat.reduceMul, true_and, and_true, List.append_nil]
  refine ev_rng1 (by decide) (by decide) ?_
  refine ev_for0 (fun i ρ S' => ∃ x10 x11 x12, ρ = [x0, x1, x2, x3, x4, some (.int m), some (.int n), some (gridW places ties), some (.int start), some (.vl (cntW (shells ties m n 2000 [(start, 0, 0)] [(start, 0, 0)]))), x10, x11, x12]) 2 (by decide) ⟨_, _, _, rfl⟩ ?_ ?_
  · rintro i ρ S' hi ⟨x10, x11, x12, rfl⟩
    refine ⟨_, rngG_lt hi, ?_⟩
    simp only [ev_bind, ev_pure, ev_op2, ev_op1, ev_opN, ev_opNF, ev_opM, ev_set3, ev_isL, ev_isi, ev_asB, ev_ite, ev_toR, ev_toV, ev_seq, ev_set, ev_asg, ev_ret, ev_ifS, ev_nx, ev_and, ev_or, ev_not, ev_vAnd, ev_vNot, ev_C, ev_var, ev_name, ev_gnil, ev_gcons, ev_gTup, ev_tup, ev_lst, ev_call, ev_forC, ev_lcC, Pm.is_some, Pm.is_none, Pm.is_if, List.set_cons_zero, List.set_cons_succ, List.getElem?_cons_zero, List.getElem?_cons_succ, tCmp, cOp, cUn, tVal, aNil, aCons, cB, fB, cG, cP, fP, fOp, cSl, fSl, poN, poS, ev_slV, ev_slT, ev_slL, cLm, cLm0, cIsi, fSS, iSq, iR1, iR2, iR3, iEn, iZp, gSub, sEx, Pm.addV_int, Pm.sub_int, Pm.mul_int, Pm.gt_int, Pm.eq_int, Pm.ne_int, Pm.lt_int, Pm.le_int, Pm.ge_int, Pm.neg_int, Bool.not_true, Bool.not_false, if_true, if_false, decide_eq_true_eq, Bool.false_eq_true, reduceIte, List.map_cons, List.map_nil, List.length_cons, List.length_nil, List.replicate_succ, List.replicate_zero, List.cons_append, List.nil_append, Nat.reduceAdd, Nat.reduceSub, Nat.reduceLeDiff, Nat.reduceMul, true_and, and_true, List.append_nil]
    exact body4_ev hl ht hp hs hm hm2 hn hn2 fun S' x11 x12 => ⟨.inl rfl, _, _, _, rfl⟩
  · rintro ρ S' ⟨x10, x11, x12, rfl⟩
    exact ⟨rngG_end, q _ _ _ _ _⟩
def body2 : Cm := seqC (setC 7 (cG 1 m__law_grid (aCons (cVar 3) (aNil)))) (forC (iR1 (aCons (cOp ixAO (cVar 7) (cC (.int 0))) (aNil))) (gmName 8) body3)
theorem body2_ev {k : Nat} {m n : Int} {S : Sto} {x0 x1 x2 x4 x7 x8 x9 x10 x11 x12 : Option W} {Q : Fl × Rho → Sto → Prop} (h : Pool S k) (hm : 0 < m) (hm2 : m ≤ 12) (hn : 0 < n) (hn2 : n ≤ 12)
    (q : ∀ S' x7 x8 x9 x10 x11 x12, Q (.nx, [x0, x1, x2, some (.ref k), x4, some (.int m), some (.int n), x7, x8, x9, x10, x11, x12]) S') :
    Ev (body2 [x0, x1, x2, some (.ref k), x4, some (.int m), some (.int n), x7, x8, x9, x10, x11, x12]) S Q := by
  unfold body2
  simp only [ev_bind, ev_pure, ev_op2, ev_op1, ev_opN, ev_opNF, ev_opM, ev_set3, ev_isL, ev_isi, ev_asB, ev_ite, ev_toR, ev_toV, ev_seq, ev_set, ev_asg, ev_ret, ev_ifS, ev_nx, ev_and, ev_or, ev_not, ev_vAnd, ev_vNot, ev_C, ev_var, ev_name, ev_gnil, ev_gcons, ev_gTup, ev_tup, ev_lst, ev_call, ev_forC, ev_lcC, Pm.is_some, Pm.is_none, Pm.is_if, List.set_cons_zero, List.set_cons_succ, List.getElem?_cons_zero, List.getElem?_cons_succ, tCmp, cOp, cUn, tVal, aNil, aCons, cB, fB, cG, cP, fP, fOp, cSl, fSl, poN, poS, ev_slV, ev_slT, ev_slL, cLm, cLm0, cIsi, fSS, iSq, iR1, iR2, iR3, iEn, iZp, gSub, sEx, Pm.addV_int, Pm.sub_int, Pm.mul_int, Pm.gt_int, Pm.eq_int, Pm.ne_int, Pm.lt_int, Pm.le_int, Pm.ge_int, Pm.neg_int, Bool.not_true, Bool.not_false, if_true, if_false, decide_eq_true_eq, Bool.false_eq_true, reduceIte, List.map_cons, List.map_nil, List.length_cons, List.length_nil, List.replicate_succ, List.replicate_zero, List.cons_append, List.nil_append, Nat.reduceAdd, Nat.reduceSub, Nat.reduceLeDiff, Nat.reduceMul, true_and, and_true, List.append_nil]
  refine grid_ev h fun S1 places ties p1 p2 ht hl _ _ => ?_
  simp only [ev_bind, ev_pure, ev_op2, ev_op1, ev_opN, ev_opNF, ev_opM, ev_set3, ev_isL, ev_isi, ev_asB, ev_ite, ev_toR, ev_toV, ev_seq, ev_set, ev_asg, ev_ret, ev_ifS, ev_nx, ev_and, ev_or, ev_not, ev_vAnd, ev_vNot, ev_C, ev_var, ev_name, ev_gnil, ev_gcons, ev_gTup, ev_tup, ev_lst, ev_call, ev_forC, ev_lcC, Pm.is_some, Pm.is_none, Pm.is_if, List.set_cons_zero, List.set_cons_succ, List.getElem?_cons_zero, List.getElem?_cons_succ, tCmp, cOp, cUn, tVal, aNil, aCons, cB, fB, cG, cP, fP, fOp, cSl, fSl, poN, poS, ev_slV, ev_slT, ev_slL, cLm, cLm0, cIsi, fSS, iSq, iR1, iR2, iR3, iEn, iZp, gSub, sEx, Pm.addV_int, Pm.sub_int, Pm.mul_int, Pm.gt_int, Pm.eq_int, Pm.ne_int, Pm.lt_int, Pm.le_int, Pm.ge_int, Pm.neg_int, Bool.not_true, Bool.not_false, if_true, if_false, decide_eq_true_eq, Bool.false_eq_true, reduceIte, List.map_cons, List.map_nil, List.length_cons, List.length_nil, List.replicate_succ, List.replicate_zero, List.cons_append, List.nil_append, Nat.reduceAdd, Nat.reduceSub, Nat.reduceLeDiff, Nat.reduceMul, true_and, and_true, List.append_nil, show ∀ S : Sto, ixAO S (gridW places ties) (.int 0) = some (.int places) from fun _ => rfl]
  refine ev_rng1 (by omega) (by omega) ?_
  refine ev_for0 (fun i ρ S' => ∃ x8 x9 x10 x11 x12, ρ = [x0, x1, x2, some (.ref k), x4, some (.int m), some (.int n), some (gridW places ties), x8, x9, x10, x11, x12]) places.toNat (by omega) ⟨_, _, _, _, _, rfl⟩ ?_ ?_
  · rintro i ρ S' hi ⟨x8, x9, x10, x11, x12, rfl⟩
    refine ⟨_, rngG_lt hi, ?_⟩
    simp only [ev_bind, ev_pure, ev_op2, ev_op1, ev_opN, ev_opNF, ev_opM, ev_set3, ev_isL, ev_isi, ev_asB, ev_ite, ev_toR, ev_toV, ev_seq, ev_set, ev_asg, ev_ret, ev_ifS, ev_nx, ev_and, ev_or, ev_not, ev_vAnd, ev_vNot, ev_C, ev_var, ev_name, ev_gnil, ev_gcons, ev_gTup, ev_tup, ev_lst, ev_call, ev_forC, ev_lcC, Pm.is_some, Pm.is_none, Pm.is_if, List.set_cons_zero, List.set_cons_succ, List.getElem?_cons_zero, List.getElem?_cons_succ, tCmp, cOp, cUn, tVal, aNil, aCons, cB, fB, cG, cP, fP, fOp, cSl, fSl, poN, poS, ev_slV, ev_slT, ev_slL, cLm, cLm0, cIsi, fSS, iSq, iR1, iR2, iR3, iEn, iZp, gSub, sEx, Pm.addV_int, Pm.sub_int, Pm.mul_int, Pm.gt_int, Pm.eq_int, Pm.ne_int, Pm.lt_int, Pm.le_int, Pm.ge_int, Pm.neg_int, Bool.not_true, Bool.not_false, if_true, if_false, decide_eq_true_eq, Bool.false_eq_true, reduceIte, List.map_cons, List.map_nil, List.length_cons, List.length_nil, List.replicate_succ, List.replicate_zero, List.cons_append, List.nil_append, Nat.reduceAdd, Nat.reduceSub, Nat.reduceLeDiff, Nat.reduceMul, true_and, and_true, List.append_nil]
    exact body3_ev (by omega) ht p2 ⟨by omega, by omega⟩ hm hm2 hn hn2 fun S' x9 x10 x11 x12 => ⟨.inl rfl, _, _, _, _, _, rfl⟩
  · rintro ρ S' ⟨x8, x9, x10, x11, x12, rfl⟩
    exact ⟨rngG_end, q _ _ _ _ _ _ _⟩
def body1 : Cm := (seqC (setC 3 (toR (fP 1 m__law_pool (aCons (cVar 2) (aNil))))) (seqC (setC 4 (cG 2 m__law_take (aCons (cVar 3) (aCons (cC (.int 3)) (aNil))))) (seqC (asgC (cG 1 m__law_sizes (aCons (cVar 3) (aNil))) (gTup 2 (gmsCons (gmName 5) (gmsCons (gmName 6) (gmsNil))))) (seqC (cIfS (cAnd (tCmp eqO (cVar 1) (cC (.int 0))) (tCmp eqO (cVar 4) (cC (.int 0)))) (asgC (tupM (aCons (cC (.int 12)) (aCons (cC (.int 12)) (aNil)))) (gTup 2 (gmsCons (gmName 5) (gmsCons (gmName 6) (gmsNil))))) (cNx)) (seqC (cIfS (tCmp gtO (cVar 1) (cC (.int 0))) (parC 5 6 (aCons (cOp addVO (cC (.int 1)) (cOp modO (cVar 5) (cC (.int 5)))) (aCons (cOp addVO (cC (.int 1)) (cOp modO (cVar 6) (cC (.int 5)))) (aNil)))) (cNx)) body2)))))
theorem body1_ev {i : Nat} {cell : Int} {S : Sto} {x0 x3 x4 x5 x6 x7 x8 x9 x10 x11 x12 : Option W} {Q : Fl × Rho → Sto → Prop} (q : ∀ S' x1 x2 x3 x4 x5 x6 x7 x8 x9 x10 x11 x12, Q (.nx, [x0, x1, x2, x3, x4, x5, x6, x7, x8, x9, x10, x11, x12]) S') :
    Ev (body1 [x0, some (.int i), some (.int cell), x3, x4, x5, x6, x7, x8, x9, x10, x11, x12]) S Q := by
  unfold body1
  simp only [ev_bind, ev_pure, ev_op2, ev_op1, ev_opN, ev_opNF, ev_opM, ev_set3, ev_isL, ev_isi, ev_asB, ev_ite, ev_toR, ev_toV, ev_seq, ev_set, ev_asg, ev_ret, ev_ifS, ev_nx, ev_and, ev_or, ev_not, ev_vAnd, ev_vNot, ev_C, ev_var, ev_name, ev_gnil, ev_gcons, ev_gTup, ev_tup, ev_lst, ev_call, ev_forC, ev_lcC, Pm.is_some, Pm.is_none, Pm.is_if, List.set_cons_zero, List.set_cons_succ, List.getElem?_cons_zero, List.getElem?_cons_succ, tCmp, cOp, cUn, tVal, aNil, aCons, cB, fB, cG, cP, fP, fOp, cSl, fSl, poN, poS, ev_slV, ev_slT, ev_slL, cLm, cLm0, cIsi, fSS, iSq, iR1, iR2, iR3, iEn, iZp, gSub, sEx, Pm.addV_int, Pm.sub_int, Pm.mul_int, Pm.gt_int, Pm.eq_int, Pm.ne_int, Pm.lt_int, Pm.le_int, Pm.ge_int, Pm.neg_int, Bool.not_true, Bool.not_false, if_true, if_false, decide_eq_true_eq, Bool.false_eq_true, reduceIte, List.map_cons, List.map_nil, List.length_cons, List.length_nil, List.replicate_succ, List.replicate_zero, List.cons_append, List.nil_append, Nat.reduceAdd, Nat.reduceSub, Nat.reduceLeDiff, Nat.reduceMul, true_and, and_true, List.append_nil]
  refine ev_pcallF rfl rfl ?_
  refine pool_ev.mono ?_
  rintro w S' ⟨rfl, a, b, ha, rfl⟩
  rw [show impO [.lst [.int a, .int b, .int 0]] (.ref 0) = some (.lst [.int a, .int b, .int 0]) from rfl]
  simp only [ev_bind, ev_pure, ev_op2, ev_op1, ev_opN, ev_opNF, ev_opM, ev_set3, ev_isL, ev_isi, ev_asB, ev_ite, ev_toR, ev_toV, ev_seq, ev_set, ev_asg, ev_ret, ev_ifS, ev_nx, ev_and, ev_or, ev_not, ev_vAnd, ev_vNot, ev_C, ev_var, ev_name, ev_gnil, ev_gcons, ev_gTup, ev_tup, ev_lst, ev_call, ev_forC, ev_lcC, Pm.is_some, Pm.is_none, Pm.is_if, List.set_cons_zero, List.set_cons_succ, List.getElem?_cons_zero, List.getElem?_cons_succ, tCmp, cOp, cUn, tVal, aNil, aCons, cB, fB, cG, cP, fP, fOp, cSl, fSl, poN, poS, ev_slV, ev_slT, ev_slL, cLm, cLm0, cIsi, fSS, iSq, iR1, iR2, iR3, iEn, iZp, gSub, sEx, Pm.addV_int, Pm.sub_int, Pm.mul_int, Pm.gt_int, Pm.eq_int, Pm.ne_int, Pm.lt_int, Pm.le_int, Pm.ge_int, Pm.neg_int, Bool.not_true, Bool.not_false, if_true, if_false, decide_eq_true_eq, Bool.false_eq_true, reduceIte, List.map_cons, List.map_nil, List.length_cons, List.length_nil, List.replicate_succ, List.replicate_zero, List.cons_append, List.nil_append, Nat.reduceAdd, Nat.reduceSub, Nat.reduceLeDiff, Nat.reduceMul, true_and, and_true, List.append_nil]
  have hp : Pool (S ++ [.lst [.int a, .int b, .int 0]]) S.length := ⟨a, b, 0, ha, by rw [List.getElem?_append_right (Nat.le_refl _), Nat.sub_self]; rfl⟩
  refine take_ev hp (by decide) (by decide) fun great S1 _ _ p1 _ _ => ?_
  try simp only [ev_bind, ev_pure, ev_op2, ev_op1, ev_opN, ev_opNF, ev_opM, ev_set3, ev_isL, ev_isi, ev_asB, ev_ite, ev_toR, ev_toV, ev_seq, ev_set, ev_asg, ev_ret, ev_ifS, ev_nx, ev_and, ev_or, ev_not, ev_vAnd, ev_vNot, ev_C, ev_var, ev_name, ev_gnil, ev_gcons, ev_gTup, ev_tup, ev_lst, ev_call, ev_forC, ev_lcC, Pm.is_some, Pm.is_none, Pm.is_if, List.set_cons_zero, List.set_cons_succ, List.getElem?_cons_zero, List.getElem?_cons_succ, tCmp, cOp, cUn, tVal, aNil, aCons, cB, fB, cG, cP, fP, fOp, cSl, fSl, poN, poS, ev_slV, ev_slT, ev_slL, cLm, cLm0, cIsi, fSS, iSq, iR1, iR2, iR3, iEn, iZp, gSub, sEx, Pm.addV_int, Pm.sub_int, Pm.mul_int, Pm.gt_int, Pm.eq_int, Pm.ne_int, Pm.lt_int, Pm.le_int, Pm.ge_int, Pm.neg_int, Bool.not_true, Bool.not_false, if_true, if_false, decide_eq_true_eq, Bool.false_eq_true, reduceIte, List.map_cons, List.map_nil, List.length_cons, List.length_nil, List.replicate_succ, List.replicate_zero, List.cons_append, List.nil_append, Nat.reduceAdd, Nat.reduceSub, Nat.reduceLeDiff, Nat.reduceMul, true_and, and_true, List.append_nil]
  refine sizes_ev p1 fun m n S2 m1 m2 n1 n2 p2 _ _ => ?_
  simp only [ev_bind, ev_pure, ev_op2, ev_op1, ev_opN, ev_opNF, ev_opM, ev_set3, ev_isL, ev_isi, ev_asB, ev_ite, ev_toR, ev_toV, ev_seq, ev_set, ev_asg, ev_ret, ev_ifS, ev_nx, ev_and, ev_or, ev_not, ev_vAnd, ev_vNot, ev_C, ev_var, ev_name, ev_gnil, ev_gcons, ev_gTup, ev_tup, ev_lst, ev_call, ev_forC, ev_lcC, Pm.is_some, Pm.is_none, Pm.is_if, List.set_cons_zero, List.set_cons_succ, List.getElem?_cons_zero, List.getElem?_cons_succ, tCmp, cOp, cUn, tVal, aNil, aCons, cB, fB, cG, cP, fP, fOp, cSl, fSl, poN, poS, ev_slV, ev_slT, ev_slL, cLm, cLm0, cIsi, fSS, iSq, iR1, iR2, iR3, iEn, iZp, gSub, sEx, Pm.addV_int, Pm.sub_int, Pm.mul_int, Pm.gt_int, Pm.eq_int, Pm.ne_int, Pm.lt_int, Pm.le_int, Pm.ge_int, Pm.neg_int, Bool.not_true, Bool.not_false, if_true, if_false, decide_eq_true_eq, Bool.false_eq_true, reduceIte, List.map_cons, List.map_nil, List.length_cons, List.length_nil, List.replicate_succ, List.replicate_zero, List.cons_append, List.nil_append, Nat.reduceAdd, Nat.reduceSub, Nat.reduceLeDiff, Nat.reduceMul, true_and, and_true, List.append_nil]
  have rest : ∀ (m n : Int), 1 ≤ m → m ≤ 12 → 1 ≤ n → n ≤ 12 → Ev (seqC (cIfS (tCmp gtO (cVar 1) (cC (.int 0))) (parC 5 6 (aCons (cOp addVO (cC (.int 1)) (cOp modO (cVar 5) (cC (.int 5)))) (aCons (cOp addVO (cC (.int 1)) (cOp modO (cVar 6) (cC (.int 5)))) (aNil)))) (cNx)) body2 [x0, some (.int i), some (.int cell), some (.ref S.length), some (.int great), some (.int m), some (.int n), x7, x8, x9, x10, x11, x12]) S2 Q := by
    intro m n m1 m2 n1 n2
    simp only [ev_bind, ev_pure, ev_op2, ev_op1, ev_opN, ev_opNF, ev_opM, ev_set3, ev_isL, ev_isi, ev_asB, ev_ite, ev_toR, ev_toV, ev_seq, ev_set, ev_asg, ev_ret, ev_ifS, ev_nx, ev_and, ev_or, ev_not, ev_vAnd, ev_vNot, ev_C, ev_var, ev_name, ev_gnil, ev_gcons, ev_gTup, ev_tup, ev_lst, ev_call, ev_forC, ev_lcC, Pm.is_some, Pm.is_none, Pm.is_if, List.set_cons_zero, List.set_cons_succ, List.getElem?_cons_zero, List.getElem?_cons_succ, tCmp, cOp, cUn, tVal, aNil, aCons, cB, fB, cG, cP, fP, fOp, cSl, fSl, poN, poS, ev_slV, ev_slT, ev_slL, cLm, cLm0, cIsi, fSS, iSq, iR1, iR2, iR3, iEn, iZp, gSub, sEx, Pm.addV_int, Pm.sub_int, Pm.mul_int, Pm.gt_int, Pm.eq_int, Pm.ne_int, Pm.lt_int, Pm.le_int, Pm.ge_int, Pm.neg_int, Bool.not_true, Bool.not_false, if_true, if_false, decide_eq_true_eq, Bool.false_eq_true, reduceIte, List.map_cons, List.map_nil, List.length_cons, List.length_nil, List.replicate_succ, List.replicate_zero, List.cons_append, List.nil_append, Nat.reduceAdd, Nat.reduceSub, Nat.reduceLeDiff, Nat.reduceMul, true_and, and_true, List.append_nil]
    by_cases hi : (0 : Int) < (i : Int)
    · simp only [hi, decide_true, if_true]
      refine ev_par ?_
      have a1 := fmod_lo (a := m) (b := 5) (by decide)
      have a2 := fmod_hi (a := m) (b := 5) (by decide)
      have b1 := fmod_lo (a := n) (b := 5) (by decide)
      have b2 := fmod_hi (a := n) (b := 5) (by decide)
      simp only [ev_bind, ev_pure, ev_op2, ev_op1, ev_opN, ev_opNF, ev_opM, ev_set3, ev_isL, ev_isi, ev_asB, ev_ite, ev_toR, ev_toV, ev_seq, ev_set, ev_asg, ev_ret, ev_ifS, ev_nx, ev_and, ev_or, ev_not, ev_vAnd, ev_vNot, ev_C, ev_var, ev_name, ev_gnil, ev_gcons, ev_gTup, ev_tup, ev_lst, ev_call, ev_forC, ev_lcC, Pm.is_some, Pm.is_none, Pm.is_if, List.set_cons_zero, List.set_cons_succ, List.getElem?_cons_zero, List.getElem?_cons_succ, tCmp, cOp, cUn, tVal, aNil, aCons, cB, fB, cG, cP, fP, fOp, cSl, fSl, poN, poS, ev_slV, ev_slT, ev_slL, cLm, cLm0, cIsi, fSS, iSq, iR1, iR2, iR3, iEn, iZp, gSub, sEx, Pm.addV_int, Pm.sub_int, Pm.mul_int, Pm.gt_int, Pm.eq_int, Pm.ne_int, Pm.lt_int, Pm.le_int, Pm.ge_int, Pm.neg_int, Bool.not_true, Bool.not_false, if_true, if_false, decide_eq_true_eq, Bool.false_eq_true, reduceIte, List.map_cons, List.map_nil, List.length_cons, List.length_nil, List.replicate_succ, List.replicate_zero, List.cons_append, List.nil_append, Nat.reduceAdd, Nat.reduceSub, Nat.reduceLeDiff, Nat.reduceMul, true_and, and_true, List.append_nil, mod_int (b := 5) (by decide)]
      refine ⟨_, _, rfl, ?_⟩
      exact body2_ev p2 (by omega) (by omega) (by omega) (by omega) fun S' x7 x8 x9 x10 x11 x12 => q _ _ _ _ _ _ _ _ _ _ _ _ _
    · simp only [hi, decide_false, Bool.false_eq_true, if_false]
      exact body2_ev p2 (by omega) (by omega) (by omega) (by omega) fun S' x7 x8 x9 x10 x11 x12 => q _ _ _ _ _ _ _ _ _ _ _ _ _
  have r1 := rest 12 12 (by decide) (by decide) (by decide) (by decide)
  have r2 := rest m n m1 m2 n1 n2
  simp only [ev_bind, ev_pure, ev_op2, ev_op1, ev_opN, ev_opNF, ev_opM, ev_set3, ev_isL, ev_isi, ev_asB, ev_ite, ev_toR, ev_toV, ev_seq, ev_set, ev_asg, ev_ret, ev_ifS, ev_nx, ev_and, ev_or, ev_not, ev_vAnd, ev_vNot, ev_C, ev_var, ev_name, ev_gnil, ev_gcons, ev_gTup, ev_tup, ev_lst, ev_call, ev_forC, ev_lcC, Pm.is_some, Pm.is_none, Pm.is_if, List.set_cons_zero, List.set_cons_succ, List.getElem?_cons_zero, List.getElem?_cons_succ, tCmp, cOp, cUn, tVal, aNil, aCons, cB, fB, cG, cP, fP, fOp, cSl, fSl, poN, poS, ev_slV, ev_slT, ev_slL, cLm, cLm0, cIsi, fSS, iSq, iR1, iR2, iR3, iEn, iZp, gSub, sEx, Pm.addV_int, Pm.sub_int, Pm.mul_int, Pm.gt_int, Pm.eq_int, Pm.ne_int, Pm.lt_int, Pm.le_int, Pm.ge_int, Pm.neg_int, Bool.not_true, Bool.not_false, if_true, if_false, decide_eq_true_eq, Bool.false_eq_true, reduceIte, List.map_cons, List.map_nil, List.length_cons, List.length_nil, List.replicate_succ, List.replicate_zero, List.cons_append, List.nil_append, Nat.reduceAdd, Nat.reduceSub, Nat.reduceLeDiff, Nat.reduceMul, true_and, and_true, List.append_nil] at r1 r2
  by_cases c1 : (i : Int) = 0
  · by_cases c2 : great = 0
    · simp only [c1, c2, decide_true, if_true] at r1 ⊢
      exact r1
    · simp only [c1, c2, decide_true, decide_false, Bool.false_eq_true, if_true, if_false] at r2 ⊢
      exact r2
  · simp only [c1, decide_false, Bool.false_eq_true, if_false] at r2 ⊢
    exact r2
theorem plain (ns : List Int) (hl : ns.length ≤ 63) : ∃ S', m_law [.vl (ns.map .int)] [] = .ok (.bl true) S' := by
  have h : Ev (m_law [.vl (iW ns)]) [] fun w S' => w = .bl true := by
    unfold m_law b_law
    rw [ev_fn]
    simp only [ev_bind, ev_pure, ev_op2, ev_op1, ev_opN, ev_opNF, ev_opM, ev_set3, ev_isL, ev_isi, ev_asB, ev_ite, ev_toR, ev_toV, ev_seq, ev_set, ev_asg, ev_ret, ev_ifS, ev_nx, ev_and, ev_or, ev_not, ev_vAnd, ev_vNot, ev_C, ev_var, ev_name, ev_gnil, ev_gcons, ev_gTup, ev_tup, ev_lst, ev_call, ev_forC, ev_lcC, Pm.is_some, Pm.is_none, Pm.is_if, List.set_cons_zero, List.set_cons_succ, List.getElem?_cons_zero, List.getElem?_cons_succ, tCmp, cOp, cUn, tVal, aNil, aCons, cB, fB, cG, cP, fP, fOp, cSl, fSl, poN, poS, ev_slV, ev_slT, ev_slL, cLm, cLm0, cIsi, fSS, iSq, iR1, iR2, iR3, iEn, iZp, gSub, sEx, Pm.addV_int, Pm.sub_int, Pm.mul_int, Pm.gt_int, Pm.eq_int, Pm.ne_int, Pm.lt_int, Pm.le_int, Pm.ge_int, Pm.neg_int, Bool.not_true, Bool.not_false, if_true, if_false, decide_eq_true_eq, Bool.false_eq_true, reduceIte, List.map_cons, List.map_nil, List.length_cons, List.length_nil, List.replicate_succ, List.replicate_zero, List.cons_append, List.nil_append, Nat.reduceAdd, Nat.reduceSub, Nat.reduceLeDiff, Nat.reduceMul, true_and, and_true, List.append_nil]
    refine ev_pcall rfl ?_ ?_
    · have e : ∀ l : List Int, (iW l).all (rfree 19) = true := fun l => List.all_eq_true.mpr fun w hw => by
        obtain ⟨c, _, rfl⟩ := List.mem_map.mp hw
        rfl
      show ((iW ns).all (rfree 19) && true) = true
      rw [e]
      rfl
    · refine (cells_ev hl).mono ?_
      rintro w S' ⟨cs, rfl, rfl, hc⟩
      rw [frz_ref (ws := iW cs) rfl fun w hw => by
        obtain ⟨c, _, rfl⟩ := List.mem_map.mp hw
        rfl]
      try simp only [ev_bind, ev_pure, ev_op2, ev_op1, ev_opN, ev_opNF, ev_opM, ev_set3, ev_isL, ev_isi, ev_asB, ev_ite, ev_toR, ev_toV, ev_seq, ev_set, ev_asg, ev_ret, ev_ifS, ev_nx, ev_and, ev_or, ev_not, ev_vAnd, ev_vNot, ev_C, ev_var, ev_name, ev_gnil, ev_gcons, ev_gTup, ev_tup, ev_lst, ev_call, ev_forC, ev_lcC, Pm.is_some, Pm.is_none, Pm.is_if, List.set_cons_zero, List.set_cons_succ, List.getElem?_cons_zero, List.getElem?_cons_succ, tCmp, cOp, cUn, tVal, aNil, aCons, cB, fB, cG, cP, fP, fOp, cSl, fSl, poN, poS, ev_slV, ev_slT, ev_slL, cLm, cLm0, cIsi, fSS, iSq, iR1, iR2, iR3, iEn, iZp, gSub, sEx, Pm.addV_int, Pm.sub_int, Pm.mul_int, Pm.gt_int, Pm.eq_int, Pm.ne_int, Pm.lt_int, Pm.le_int, Pm.ge_int, Pm.neg_int, Bool.not_true, Bool.not_false, if_true, if_false, decide_eq_true_eq, Bool.false_eq_true, reduceIte, List.map_cons, List.map_nil, List.length_cons, List.length_nil, List.replicate_succ, List.replicate_zero, List.cons_append, List.nil_append, Nat.reduceAdd, Nat.reduceSub, Nat.reduceLeDiff, Nat.reduceMul, true_and, and_true, List.append_nil]
      refine ev_of (x := enumI [.vl (iW cs)]) rfl ?_
      refine ev_for0 (c := body1) (fun i ρ S' => ∃ x0 x1 x2 x3 x4 x5 x6 x7 x8 x9 x10 x11 x12, ρ = [x0, x1, x2, x3, x4, x5, x6, x7, x8, x9, x10, x11, x12]) cs.length (by omega) ⟨_, _, _, _, _, _, _, _, _, _, _, _, _, rfl⟩ ?_ ?_
      · rintro i ρ S' hi ⟨x0, x1, x2, x3, x4, x5, x6, x7, x8, x9, x10, x11, x12, rfl⟩
        have hx : cs[i]? = some cs[i] := List.getElem?_eq_getElem hi
        refine ⟨.tup [.int i, .int cs[i]], ?_, ?_⟩
        · show some (((iW cs)[i]?).map fun x => W.tup [.int i, x]) = _
          unfold iW
          rw [List.getElem?_map, hx]
          rfl
        · simp only [ev_bind, ev_pure, ev_op2, ev_op1, ev_opN, ev_opNF, ev_opM, ev_set3, ev_isL, ev_isi, ev_asB, ev_ite, ev_toR, ev_toV, ev_seq, ev_set, ev_asg, ev_ret, ev_ifS, ev_nx, ev_and, ev_or, ev_not, ev_vAnd, ev_vNot, ev_C, ev_var, ev_name, ev_gnil, ev_gcons, ev_gTup, ev_tup, ev_lst, ev_call, ev_forC, ev_lcC, Pm.is_some, Pm.is_none, Pm.is_if, List.set_cons_zero, List.set_cons_succ, List.getElem?_cons_zero, List.getElem?_cons_succ, tCmp, cOp, cUn, tVal, aNil, aCons, cB, fB, cG, cP, fP, fOp, cSl, fSl, poN, poS, ev_slV, ev_slT, ev_slL, cLm, cLm0, cIsi, fSS, iSq, iR1, iR2, iR3, iEn, iZp, gSub, sEx, Pm.addV_int, Pm.sub_int, Pm.mul_int, Pm.gt_int, Pm.eq_int, Pm.ne_int, Pm.lt_int, Pm.le_int, Pm.ge_int, Pm.neg_int, Bool.not_true, Bool.not_false, if_true, if_false, decide_eq_true_eq, Bool.false_eq_true, reduceIte, List.map_cons, List.map_nil, List.length_cons, List.length_nil, List.replicate_succ, List.replicate_zero, List.cons_append, List.nil_append, Nat.reduceAdd, Nat.reduceSub, Nat.reduceLeDiff, Nat.reduceMul, true_and, and_true, List.append_nil]
          exact body1_ev fun S' x1 x2 x3 x4 x5 x6 x7 x8 x9 x10 x11 x12 => ⟨.inl rfl, _, _, _, _, _, _, _, _, _, _, _, _, _, rfl⟩
      · rintro ρ S' ⟨x0, x1, x2, x3, x4, x5, x6, x7, x8, x9, x10, x11, x12, rfl⟩
        refine ⟨?_, ?_⟩
        · show some (((iW cs)[cs.length]?).map fun x => W.tup [.int cs.length, x]) = _
          unfold iW
          simp
        · simp only [ev_bind, ev_pure, ev_op2, ev_op1, ev_opN, ev_opNF, ev_opM, ev_set3, ev_isL, ev_isi, ev_asB, ev_ite, ev_toR, ev_toV, ev_seq, ev_set, ev_asg, ev_ret, ev_ifS, ev_nx, ev_and, ev_or, ev_not, ev_vAnd, ev_vNot, ev_C, ev_var, ev_name, ev_gnil, ev_gcons, ev_gTup, ev_tup, ev_lst, ev_call, ev_forC, ev_lcC, Pm.is_some, Pm.is_none, Pm.is_if, List.set_cons_zero, List.set_cons_succ, List.getElem?_cons_zero, List.getElem?_cons_succ, tCmp, cOp, cUn, tVal, aNil, aCons, cB, fB, cG, cP, fP, fOp, cSl, fSl, poN, poS, ev_slV, ev_slT, ev_slL, cLm, cLm0, cIsi, fSS, iSq, iR1, iR2, iR3, iEn, iZp, gSub, sEx, Pm.addV_int, Pm.sub_int, Pm.mul_int, Pm.gt_int, Pm.eq_int, Pm.ne_int, Pm.lt_int, Pm.le_int, Pm.ge_int, Pm.neg_int, Bool.not_true, Bool.not_false, if_true, if_false, decide_eq_true_eq, Bool.false_eq_true, reduceIte, List.map_cons, List.map_nil, List.length_cons, List.length_nil, List.replicate_succ, List.replicate_zero, List.cons_append, List.nil_append, Nat.reduceAdd, Nat.reduceSub, Nat.reduceLeDiff, Nat.reduceMul, true_and, and_true, List.append_nil]
  obtain ⟨w, S', e, rfl⟩ := h
  exact ⟨S', e⟩
end K73

open PySem PySem.W PySem.Calls PyProof.Rows
theorem PySem.Challenge.cw_farwide_k73_wrapped_shells_told_holds : PySem.Challenge.rw_farwide_k73_wrapped_shells_told.Holds := by
  w_on; o_law
  refine HandSHeadRun.head_any (r := OpenLaw.row PySem.Challenge.rw_farwide_k73_wrapped_shells_told) (q := (view (OpenLaw.row PySem.Challenge.rw_farwide_k73_wrapped_shells_told).prog [17])) (H := K73.hhk) (ob := K73.hob) (M := 1120) (loose := K73.hnm) (d := HandSHeadRun.topDef (OpenLaw.row PySem.Challenge.rw_farwide_k73_wrapped_shells_told).prog 17) (kwd := []) K73.hob_eq
    (by kernel_rfl) (fun s => by kernel_rfl) K73.hrun (by kernel_rfl) (by kernel_rfl) (by kernel_rfl) (by rfl) (by first | assumption | decide +kernel) (by decide +kernel) ⟨rfl, rfl, rfl, rfl, rfl, by decide +kernel⟩ ?hw ?hc
  case hw => w_witness2
  case hc =>
    refine L2.walk_ofE (l := PySem.Challenge.rw_farwide_k73_wrapped_shells_told) (n := 63) (k := 5) (x := "script") (CX := L2.CX0) rfl (by decide) (by kernel_rfl) ⟨rfl, by decide, by decide⟩ ?F (fun _ _ _ _ z => z)
    intro w mg fa h Y G hmg0
    obtain ⟨K, KX, c⟩ := Y
    have hmg : mg ("law" : PySem.Str) = some (.ref fa) := by
      have e : (HandSHeadRun.topDef (OpenLaw.row PySem.Challenge.rw_farwide_k73_wrapped_shells_told).prog 17).name = ("law" : PySem.Str) := by kernel_rfl
      rw [← e]
      exact hmg0
    obtain ⟨fd, hb, hF⟩ := K73.hfacts (P := (PySem.Challenge.rw_farwide_k73_wrapped_shells_told).prog) (w := w) KX G hmg c
    exact ⟨K, fd, Pm.spLaw ⟨(PySem.Challenge.rw_farwide_k73_wrapped_shells_told).prog, w, K, mg⟩ K73.m_law, KX, hb, fun H a ns hl _ hS => Pm.law_sp hS (K73.plain ns hl), hF⟩
